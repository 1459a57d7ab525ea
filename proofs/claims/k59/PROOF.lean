import PyProof.Rows.All
import HandS.Call
import HandS.Comp
import HandS.Conv
import HandS.Deep
import HandS.Defaults
import HandS.Dict
import HandS.Exc
import HandS.ExcField
import HandS.ExcInit
import HandS.ExcIs
import HandS.Flow
import HandS.ForMost
import HandS.Head0
import HandS.Head1
import HandS.Head2
import HandS.HeadEnd
import HandS.HeadHook1
import HandS.HeadHook2
import HandS.HeadHook4
import HandS.HeadWalk
import HandS.IsInst
import HandS.Iter
import HandS.Lambda
import HandS.Nested
import HandS.RaiseMore
import HandS.SetFor
import HandS.Style
import HandS.TupAny
import HandS.Wide
import HandS.WideBits
import KE.IntBitsLaws
import KE.KExcIs
import KE.KExcSuper
import KE.KNest
import KE.KStateDown
import KE.SortData
import OpenK.AllK
import PyProof.Rows.RuleB_pow
import Wide.All
import Wide.FinOn
import PySem.Challenge.RW_truthpays_k59_whole_lots_and_worths
set_option Elab.async false
set_option linter.all false
set_option maxRecDepth 100000
set_option maxHeartbeats 0
/-! TQF: things held fast over a call, and let go: a frame's cells. -/
namespace TQ
open PySem L2 PyProof.Rows
def celU : HO := .ext fun _ => True
def plus (H : Hp) (F : List (Addr × Obj)) : Hp := fun b => match F.lookup b with
  | some o => some (.frz o celU)
  | none => H b
def minus (H : Hp) (F : List (Addr × Obj)) : Hp := fun b => match F.lookup b with
  | some _ => none
  | none => H b
section
variable {H H' : Hp} {F : List (Addr × Obj)} {b : Addr} {o : Obj} {u : HO}
theorem plus_in (h : F.lookup b = some o) : plus H F b = some (.frz o celU) := by unfold plus; rw [h]
theorem plus_out (h : F.lookup b = none) : plus H F b = H b := by unfold plus; rw [h]
theorem minus_in (h : F.lookup b = some o) : minus H F b = none := by unfold minus; rw [h]
theorem minus_out (h : F.lookup b = none) : minus H F b = H b := by unfold minus; rw [h]
theorem lk_cases (F : List (Addr × Obj)) (b : Addr) : (∃ o, F.lookup b = some o) ∨ F.lookup b = none := by
  cases h : F.lookup b with
  | none => exact .inr rfl
  | some o => exact .inl ⟨o, rfl⟩
/-- what is not held -/
theorem plus_none (h : plus H F b = none) : F.lookup b = none ∧ H b = none := by
  rcases lk_cases F b with ⟨o, e⟩ | e
  · rw [plus_in e] at h; cases h
  · rw [plus_out e] at h; exact ⟨e, h⟩
theorem minus_some (h : minus H F b = some u) : F.lookup b = none ∧ H b = some u := by
  rcases lk_cases F b with ⟨o, e⟩ | e
  · rw [minus_in e] at h; cases h
  · rw [minus_out e] at h; exact ⟨e, h⟩
variable {P : Program} {w : World} {h B : Heap} {fs : List Addr}
theorem cel_ok (e : h.get? b = some o) : ObjOk P w H h b (.frz o celU) := ⟨e, ⟨True.intro, ⟨o, e⟩, fun _ _ _ _ => True.intro⟩⟩
/-- F stands in h, H tells nothing of it -/
structure Cels (F : List (Addr × Obj)) (H : Hp) (h : Heap) : Prop where
  at_ : ∀ b o, F.lookup b = some o → h.get? b = some o
  no : ∀ b o, F.lookup b = some o → H b = none
theorem plus_ok (c : Cels F H h) (x : HOk P w H h) : HOk P w (plus H F) h := fun b u e => by
  rcases lk_cases F b with ⟨o, eb⟩ | eb
  · rw [plus_in eb] at e
    cases e
    exact cel_ok (c.at_ b o eb)
  · rw [plus_out eb] at e
    exact (x b u e).stay (fun _ _ _ q => q) (fun d q => by rw [plus_out (by rcases lk_cases F d with ⟨o, z⟩ | z; · rw [c.no d o z] at q; cases q
                                                                            · exact z)]; exact q) (fun d xs q => by rw [plus_out (by rcases lk_cases F d with ⟨o, z⟩ | z; · rw [c.no d o z] at q; cases q
                                                                                                                                     · exact z)]; exact q)
/-- F is held in H' -/
def Held (F : List (Addr × Obj)) (H : Hp) : Prop := ∀ b o, F.lookup b = some o → H b = some (.frz o celU)
theorem plus_held : Held F (plus H F) := fun b o e => plus_in e
theorem frz_at (x : HOk P w H h) (e : H b = some (.frz o celU)) : h.get? b = some o := (show ObjOk P w H h b (.frz o celU) from x b _ e).1
theorem minus_ok (k : Held F H) (x : HOk P w H h) : HOk P w (minus H F) h := fun b u e => by
  obtain ⟨_, e⟩ := minus_some e
  exact (x b u e).stay (fun _ _ _ q => q) (fun d q => by rw [minus_out (by rcases lk_cases F d with ⟨o, z⟩ | z; · rw [k d o z] at q; cases q
                                                                           · exact z)]; exact q) (fun d xs q => by rw [minus_out (by rcases lk_cases F d with ⟨o, z⟩ | z; · rw [k d o z] at q; cases q
                                                                                                                                     · exact z)]; exact q)
theorem un_held (un : Un fs [] H H' h B) (k : Held F H) : Held F H' := fun b o e => un.frzs b o celU (k b o e)
/-- a call with F held: it was none that changed F -/
theorem un_minus (c : Cels F H h) (un : Un fs [] (plus H F) H' h B) (hok : HOk P w H' B) : Un fs [] H (minus H' F) h B := by
  have hh : Held F H' := un_held un plus_held
  have out : ∀ {b : Addr} {u : HO}, H b = some u → F.lookup b = none := fun {b u} e => by
    rcases lk_cases F b with ⟨o, z⟩ | z
    · rw [c.no b o z] at e; cases e
    · exact z
  refine ⟨fun b o e n hf hx => ?_, fun b o e n hf hx => ?_, fun b o e n hx => ?_, un.there, fun b xs e => ?_, fun b o u e => ?_, fun b ps e => ?_⟩
  · rcases lk_cases F b with ⟨o', z⟩ | z
    · have q := c.at_ b o' z
      rw [e] at q; cases q
      exact frz_at hok (hh b o z)
    · exact un.keep b o e (by rw [plus_out z]; exact n) hf hx
  · rcases lk_cases F b with ⟨o', z⟩ | z
    · have q := c.at_ b o' z
      rw [e] at q; cases q
      exact ⟨o.slots, frz_at hok (hh b o z)⟩
    · exact un.slot b o e (by rw [plus_out z]; exact n) hf hx
  · rcases lk_cases F b with ⟨o', z⟩ | z
    · exact minus_in z
    · rw [minus_out z]
      exact un.free b o e (by rw [plus_out z]; exact n) hx
  · have z := out e
    rw [minus_out z]
    exact un.tups b xs (by rw [plus_out z]; exact e)
  · have z := out e
    rw [minus_out z]
    exact un.frzs b o u (by rw [plus_out z]; exact e)
  · have z := out e
    obtain ⟨more, q⟩ := un.tbls b ps (by rw [plus_out z]; exact e)
    exact ⟨more, by rw [minus_out z]; exact q⟩
/-- a call with F let go: it kept F, too -/
theorem un_plus (k : Held F H) (hok0 : HOk P w H h) (hfs : ∀ b o, F.lookup b = some o → b ∉ fs) (un : Un fs [] (minus H F) H' h B) : Un fs [] H (plus H' F) h B ∧ Cels F H' B := by
  have cl : Cels F H' B := ⟨fun b o e => un.keep b o (frz_at hok0 (k b o e)) (minus_in e) (hfs b o e) (by simp), fun b o e => un.free b o (frz_at hok0 (k b o e)) (minus_in e) (by simp)⟩
  have out : ∀ {b : Addr}, H b = none → F.lookup b = none := fun {b} e => by
    rcases lk_cases F b with ⟨o, z⟩ | z
    · rw [k b o z] at e; cases e
    · exact z
  refine ⟨⟨fun b o e n hf hx => ?_, fun b o e n hf hx => ?_, fun b o e n hx => ?_, un.there, fun b xs e => ?_, fun b o u e => ?_, fun b ps e => ?_⟩, cl⟩
  · exact un.keep b o e (by rw [minus_out (out n)]; exact n) hf hx
  · exact un.slot b o e (by rw [minus_out (out n)]; exact n) hf hx
  · rw [plus_out (out n)]
    exact un.free b o e (by rw [minus_out (out n)]; exact n) hx
  · rcases lk_cases F b with ⟨o', z⟩ | z
    · rw [k b o' z] at e; cases e
    · rw [plus_out z]
      exact un.tups b xs (by rw [minus_out z]; exact e)
  · rcases lk_cases F b with ⟨o', z⟩ | z
    · rw [k b o' z] at e; cases e
      exact plus_in z
    · rw [plus_out z]
      exact un.frzs b o u (by rw [minus_out z]; exact e)
  · rcases lk_cases F b with ⟨o', z⟩ | z
    · rw [k b o' z] at e; cases e
    · obtain ⟨more, q⟩ := un.tbls b ps (by rw [minus_out z]; exact e)
      exact ⟨more, by rw [plus_out z]; exact q⟩
end
/-! ### the ends of a call -/
section
variable {H : Hp} {F : List (Addr × Obj)} {P : Program} {w : World} {outer : List Env} {s s' : Shared} {Q Q' : VK} {E E' : XK} {u : Value}
theorem ce_minus (c : Cels F H s.heap) (h : CE outer P w (plus H F) s Q u s') (k : ∀ v H', Held F H' → Q v H' → Q' v (minus H' F)) : CE outer P w H s Q' u s' := by
  obtain ⟨v, H', h1, h2, un, hok, r, q⟩ := h
  have hh : Held F H' := un_held un plus_held
  exact ⟨v, minus H' F, h1, h2, un_minus c un hok, minus_ok hh hok, r, k v H' hh q⟩
theorem ce_plus (kh : Held F H) (hok0 : HOk P w H s.heap) (hfs : ∀ b o, F.lookup b = some o → b ∉ frs outer) (h : CE outer P w (minus H F) s Q u s') (k : ∀ v H', (∀ b o, F.lookup b = some o → H' b = none) → Q v H' → Q' v (plus H' F)) : CE outer P w H s Q' u s' := by
  obtain ⟨v, H', h1, h2, un, hok, r, q⟩ := h
  obtain ⟨un', cl⟩ := un_plus kh hok0 hfs un
  exact ⟨v, plus H' F, h1, h2, un', plus_ok cl hok, r, k v H' cl.no q⟩
theorem cx_minus (c : Cels F H s.heap) (hfs : ∀ b o, F.lookup b = some o → b ∉ frs outer) (h : L2.CX P w outer (plus H F) s E u s') (k : ∀ cls d H', Held F H' → E cls d H' → E' cls d (minus H' F)) : L2.CX P w outer H s E' u s' := by
  obtain ⟨a, B, H', cls, d, e, fl, hok, ub, na, os, ag, q⟩ := h
  have hh : Held F H' := fun b o e => ub.frzs b o celU (plus_in e)
  have out : ∀ {b : Addr} {u : HO}, H b = some u → F.lookup b = none := fun {b u} e => by
    rcases lk_cases F b with ⟨o, z⟩ | z
    · rw [c.no b o z] at e; cases e
    · exact z
  refine ⟨a, B, minus H' F, cls, d, e, fl, minus_ok hh hok, ⟨fun b o e n hf => ?_, ub.slot, fun b o e n => ?_, ub.there, fun b xs e => ?_, fun b o u e => ?_, fun b ps e => ?_⟩, ?_, os, ag, k cls d H' hh q⟩
  · rcases lk_cases F b with ⟨o', z⟩ | z
    · have q := c.at_ b o' z
      rw [e] at q; cases q
      exact frz_at hok (hh b o z)
    · exact ub.keep b o e (by rw [plus_out z]; exact n) hf
  · rcases lk_cases F b with ⟨o', z⟩ | z
    · exact minus_in z
    · rw [minus_out z]
      exact ub.free b o e (by rw [plus_out z]; exact n)
  · have z := out e
    rw [minus_out z]
    exact ub.tups b xs (by rw [plus_out z]; exact e)
  · have z := out e
    rw [minus_out z]
    exact ub.frzs b o u (by rw [plus_out z]; exact e)
  · have z := out e
    obtain ⟨more, q⟩ := ub.tbls b ps (by rw [plus_out z]; exact e)
    exact ⟨more, by rw [minus_out z]; exact q⟩
  · rcases lk_cases F a with ⟨o', z⟩ | z
    · exact minus_in z
    · rw [minus_out z]; exact na
theorem cx_plus (kh : Held F H) (hok0 : HOk P w H s.heap) (hfs : ∀ b o, F.lookup b = some o → b ∉ frs outer) (h : L2.CX P w outer (minus H F) s E u s') (k : ∀ cls d H', (∀ b o, F.lookup b = some o → H' b = none) → E cls d H' → E' cls d (plus H' F)) : L2.CX P w outer H s E' u s' := by
  obtain ⟨a, B, H', cls, d, e, fl, hok, ub, na, os, ag, q⟩ := h
  have cl : Cels F H' B := ⟨fun b o e => ub.keep b o (frz_at hok0 (kh b o e)) (minus_in e) (hfs b o e), fun b o e => ub.free b o (frz_at hok0 (kh b o e)) (minus_in e)⟩
  have out : ∀ {b : Addr}, H b = none → F.lookup b = none := fun {b} e => by
    rcases lk_cases F b with ⟨o, z⟩ | z
    · rw [kh b o z] at e; cases e
    · exact z
  refine ⟨a, B, plus H' F, cls, d, e, fl, plus_ok cl hok, ⟨fun b o e n hf => ?_, ub.slot, fun b o e n => ?_, ub.there, fun b xs e => ?_, fun b o u e => ?_, fun b ps e => ?_⟩, ?_, os, ag, k cls d H' cl.no q⟩
  · exact ub.keep b o e (by rw [minus_out (out n)]; exact n) hf
  · rw [plus_out (out n)]
    exact ub.free b o e (by rw [minus_out (out n)]; exact n)
  · rcases lk_cases F b with ⟨o', z⟩ | z
    · rw [kh b o' z] at e; cases e
    · rw [plus_out z]
      exact ub.tups b xs (by rw [minus_out z]; exact e)
  · rcases lk_cases F b with ⟨o', z⟩ | z
    · rw [kh b o' z] at e; cases e
      exact plus_in z
    · rw [plus_out z]
      exact ub.frzs b o u (by rw [minus_out z]; exact e)
  · rcases lk_cases F b with ⟨o', z⟩ | z
    · rw [kh b o' z] at e; cases e
    · obtain ⟨more, q⟩ := ub.tbls b ps (by rw [minus_out z]; exact e)
      exact ⟨more, by rw [plus_out z]; exact q⟩
  · rw [plus_out]
    · exact na
    · rcases lk_cases F a with ⟨o', z⟩ | z
      · have q := cl.at_ a o' z
        rw [fl.2.1] at q; cases q
      · exact z
end
end TQ
/-! TQ1: own syntax without positions; values, the store of lists; the evaluator. -/
namespace TQ
open PySem L2
abbrev D := PyData
/-- a value; lists stand in the store -/
inductive Val where
  | non
  | bl (b : Bool)
  | int (i : Int)
  | str (x : Str)
  | tup (xs : List Val)
  | ref (n : Nat)
  | edc
  | exc (c : Str) (d : Val)
  | fn (x : Str)
  | scr (xs : List Val)
  | clo (k : Nat) (rs : List Nat)
  | dead
  | cmark
abbrev Sto := List (List Val)
abbrev Tau := List (Option Val)
inductive R (α : Type) where
  | ok (a : α) (S : Sto)
  | exc (c : Str) (d : Val) (S : Sto)
  | bad
abbrev E (α : Type) := Sto → R α
def E.bind {α β : Type} (m : E α) (f : α → E β) : E β := fun S => match m S with
  | .ok a S' => f a S'
  | .exc c d S' => .exc c d S'
  | .bad => .bad
def E.pure {α : Type} (a : α) : E α := fun S => .ok a S
def E.bad {α : Type} : E α := fun _ => .bad
def getO {α : Type} (o : Option α) : E α := fun S => match o with
  | some a => .ok a S
  | none => .bad
def ifE {α : Type} (b : Bool) (m : E α) : E α := if b then m else E.bad
inductive Op2 where
  | add | sub | mul | fdiv | mod | pow
  deriving DecidableEq
inductive Cm where
  | eq | ne | lt | le | gt | ge | isN | notN | inn | nin
  deriving DecidableEq
inductive Pat where
  | nm (i : Nat)
  | tup (ps : List Pat)
inductive Cst where
  | non | bl (b : Bool) | int (i : Int) | str (x : Str)
inductive SrcK where
  | seq | rng | enm | zip | zips
  deriving DecidableEq
inductive Ex where
  | cst (c : Cst)
  | var (i : Nat)
  | glb (x : Str)
  | bin (o : Op2) (a b : Ex)
  | neg (a : Ex)
  | nt (a : Ex)
  | and (a b : Ex)
  | or (a b : Ex)
  | ife (c a b : Ex)
  | cmp (o : Cm) (a b : Ex)
  | chn (o1 o2 : Cm) (a b c : Ex)
  | lst (es : List Ex)
  | tup (es : List Ex)
  | edc
  | call (f : Str) (es : List Ex)
  | callK (f : Str) (as bs : List Ex) (q : List Nat)
  | cval (f : Ex) (es : List Ex)
  | bif (f : Str) (es : List Ex)
  | isi (a : Ex) (ts : List Str)
  | mth (m : Str) (o : Ex) (es : List Ex)
  | fld (a : Ex) (f : Str)
  | ix (a i : Ex)
  | sl (a : Ex) (lo hi : Option Ex)
  | lam (k : Nat) (js : List Nat)
  | rgl (tp : Bool) (es : List Ex)
  | rev (a : Ex)
  | lc (p : Pat) (k : SrcK) (ss : List Ex) (ifs : List Ex) (e : Ex)
inductive Fl where
  | nx | bk | ct
  | rt (v : Val)
inductive Sm where
  | asg (p : Pat) (e : Ex)
  | par (i j : Nat) (a b : Ex)
  | par3 (i j l : Nat) (a b c : Ex)
  | aug (i : Nat) (o : Op2) (e : Ex)
  | setI (o j e : Ex)
  | ex (e : Ex)
  | ret (e : Ex)
  | retN
  | ife (c : Ex) (a b : List Sm)
  | fr (p : Pat) (k : SrcK) (ss : List Ex) (b : List Sm)
  | whl (fuel : Tau → Sto → Nat) (c : Ex) (b : List Sm)
  | rse (c : Str) (e : Ex)
  | tryc (e : Ex) (c : Str) (i j : Nat)
  | pass | brk | cnt
/-! ### data -/
def lineOk (n : Nat) : Bool := decide (n ≤ sizeLine)
def mapO {α β : Type} (f : α → Option β) : List α → Option (List β)
  | [] => some []
  | x :: xs => match f x, mapO f xs with
    | some y, some ys => some (y :: ys)
    | _, _ => none
/-- what a cell holds -/
def cellV (S : Sto) (n : Nat) : Option Val := match S[n]? with
  | some [.cmark, .dead] => none
  | some [.cmark, x] => some x
  | _ => none
/-- the data that a value is, as the store stands -/
def deepV : Nat → Sto → Val → Option D
  | 0, _, _ => none
  | _ + 1, _, .non => some .none
  | _ + 1, _, .bl b => some (.bool b)
  | _ + 1, _, .int i => some (.int i)
  | _ + 1, _, .str x => some (.str x)
  | n + 1, S, .tup xs => (mapO (deepV n S) xs).map .tuple
  | n + 1, S, .scr xs => (mapO (deepV n S) xs).map .list
  | n + 1, S, .ref k => match S[k]? with
    | some xs => (mapO (deepV n S) xs).map .list
    | none => none
  | _ + 1, _, .edc => some (.dict [])
  | _ + 1, _, _ => none
def dp (S : Sto) (v : Val) : Option D := deepV 64 S v
/-- the items of a list -/
def itemsOf (S : Sto) : Val → Option (List Val)
  | .ref n => S[n]?
  | .scr xs => some xs
  | _ => none
def seqOf (S : Sto) : Val → Option (List Val)
  | .ref n => S[n]?
  | .scr xs => some xs
  | .tup xs => some xs
  | _ => none
def alloc (xs : List Val) : E Val := fun S => if lineOk xs.length then .ok (.ref S.length) (S ++ [xs]) else .bad
def mkTup (xs : List Val) : E Val := fun S => if lineOk xs.length then .ok (.tup xs) S else .bad
def oki (i : Int) : E Val := E.pure (.int i)
def okb (b : Bool) : E Val := E.pure (.bl b)
def mulOk (i j : Int) : Bool := decide (i.natAbs.log2 + j.natAbs.log2 < 1000000)
def divOk (j : Int) : Bool := decide (0 < j ∧ j.natAbs.log2 < 9000)
def powOk (i j : Int) : Bool := decide (0 ≤ j ∧ (Builtin.Int.intBits i : Int) * j ≤ 2 ^ 27)
def in63 (k : Int) : Bool := decide (-(2 ^ 63) ≤ k ∧ k < 2 ^ 63)
def in62 (i : Int) : Bool := decide (-(2 ^ 62) ≤ i ∧ i < 2 ^ 62)
def opAdd (a b : Val) : E Val := fun S => match a, b with
  | .int i, .int j => oki (i + j) S
  | .str x, .str y => if lineOk (x.length + y.length) then .ok (.str (x ++ y)) S else .bad
  | .tup xs, .tup ys => if xs.length = 0 ∨ ys.length = 0 then .bad else mkTup (xs ++ ys) S
  | .ref n, .ref k => (match S[n]?, S[k]? with
    | some xs, some ys => alloc (xs ++ ys) S
    | _, _ => .bad)
  | _, _ => .bad
def opMul (a b : Val) : E Val := fun S => match a, b with
  | .int i, .int j => if mulOk i j then oki (i * j) S else .bad
  | .ref n, .int k => (match S[n]? with
    | some xs => if in63 k && lineOk (xs.length * k.toNat) then alloc (List.replicate k.toNat xs).flatten S else .bad
    | none => .bad)
  | _, _ => .bad
def opInt (o : Op2) (i j : Int) : E Val := match o with
  | .sub => oki (i - j)
  | .fdiv => if divOk j then oki (i / j) else E.bad
  | .mod => if decide (0 < j) then oki (i % j) else E.bad
  | .pow => if powOk i j then oki (i ^ j.toNat) else E.bad
  | _ => E.bad
def op2 (o : Op2) (a b : Val) : E Val := match o with
  | .add => opAdd a b
  | .mul => opMul a b
  | o => match a, b with
    | .int i, .int j => opInt o i j
    | _, _ => E.bad
def eqS (S : Sto) (a b : Val) : Option Bool := match dp S a, dp S b with
  | some d, some e => if SeqAt.shaped d && SeqAt.shaped e then some (PyData.eqv d e) else none
  | _, _ => none
def cmpI (o : Cm) (i j : Int) : Bool := match o with
  | .lt => decide (i < j) | .le => decide (i ≤ j) | .gt => decide (j < i) | .ge => decide (j ≤ i)
  | _ => false
def inS (S : Sto) (a b : Val) : Option Bool := match a, b with
  | .str x, .str y => some (!(Builtin.Str.occurrences y x 0 y.length 1).isEmpty)
  | a, b => match dp S a, dp S b with
    | some d, some (.list es) => if SeqAt.shaped d && SeqAt.shaped (.list es) then some (es.any fun z => PyData.eqv z d) else none
    | _, _ => none
def isNoneV : Val → Bool
  | .non => true
  | _ => false
def cmpS (o : Cm) (S : Sto) (a b : Val) : Option Bool := match o with
  | .eq => eqS S a b
  | .ne => (eqS S a b).map not
  | .inn => inS S a b
  | .nin => (inS S a b).map not
  | .isN => match b with | .non => some (isNoneV a) | _ => none
  | .notN => match b with | .non => some (!isNoneV a) | _ => none
  | o => match a, b with
    | .int i, .int j => some (cmpI o i j)
    | _, _ => none
def cmp2 (o : Cm) (a b : Val) : E Bool := fun S => getO (cmpS o S a b) S
def truthS (S : Sto) : Val → Option Bool
  | .non => some false
  | .bl b => some b
  | .int i => some (i != 0)
  | .str x => if lineOk x.length then some (x.length != 0) else none
  | .ref n => (S[n]?).map fun xs => xs.length != 0
  | _ => none
def truthE (v : Val) : E Bool := fun S => getO (truthS S v) S
def boolE (v : Val) : E Bool := match v with
  | .bl b => E.pure b
  | _ => E.bad
def negE (v : Val) : E Val := match v with
  | .int i => oki (-i)
  | _ => E.bad
def intsV : List Val → Option (List Int)
  | [] => some []
  | .int i :: r => (intsV r).map (i :: ·)
  | _ :: _ => none
def boolsV : List Val → Option (List Bool)
  | [] => some []
  | .bl i :: r => (boolsV r).map (i :: ·)
  | _ :: _ => none
def ixE (a i : Val) : E Val := fun S => match i with
  | .int k => (match seqOf S a with
    | some xs => getO (L2.atI xs k) S
    | none => (match a with
      | .str x => if lineOk x.length then (match L2.atI x.cps.toList k with | some c => .ok (.str ⟨#[c]⟩) S | none => .bad) else .bad
      | _ => .bad))
  | _ => .bad
def cutL {α : Type} (xs : List α) (lo hi : Option Int) : List α := (xs.drop (HT.sIx xs.length 0 lo)).take (HT.sIx xs.length xs.length hi - HT.sIx xs.length 0 lo)
def partE : Option Val → Option (Option Int)
  | none => some none
  | some (.int i) => some (some i)
  | some _ => none
def slE (a : Val) (lo hi : Option Int) : E Val := fun S => match itemsOf S a with
  | some xs => alloc (cutL xs lo hi) S
  | none => (match a with
    | .tup xs => if HT.sIx xs.length 0 lo = 0 ∧ HT.sIx xs.length xs.length hi = xs.length then .bad else .ok (.tup (cutL xs lo hi)) S
    | _ => .bad)
def intO (v : Val) : E (Option Int) := match v with
  | .int i => E.pure (some i)
  | _ => E.bad
/-! ### built-in functions -/
def lenS (S : Sto) : Val → Option Nat
  | .tup xs => some xs.length
  | .str x => if lineOk x.length then some x.length else none
  | v => (itemsOf S v).map List.length
def biLen (vs : List Val) : E Val := fun S => match vs with
  | [v] => (match lenS S v with | some n => oki n S | none => .bad)
  | _ => .bad
def biAbs (vs : List Val) : E Val := match vs with
  | [.int i] => oki (if i < 0 then -i else i)
  | _ => E.bad
def biInt (vs : List Val) : E Val := match vs with
  | [.int i] => oki i
  | [.bl b] => oki (if b then 1 else 0)
  | _ => E.bad
/-- the greatest, the least -/
def gtL (is : List Int) (i : Int) : Int := is.foldl (fun a b => if b > a then b else a) i
def lsL (is : List Int) (i : Int) : Int := is.foldl (fun a b => if b < a then b else a) i
def biMax (vs : List Val) : E Val := match vs with
  | [.int i, .int j] => oki (if j > i then j else i)
  | [v] => fun S => (match (itemsOf S v).bind intsV with | some (i :: is) => oki (gtL is i) S | _ => .bad)
  | _ => E.bad
def biMin (vs : List Val) : E Val := match vs with
  | [.int i, .int j] => oki (if j < i then j else i)
  | [v] => fun S => (match (itemsOf S v).bind intsV with | some (i :: is) => oki (lsL is i) S | _ => .bad)
  | _ => E.bad
def biSum (vs : List Val) : E Val := fun S => match vs with
  | [v] => (match (itemsOf S v).bind intsV with | some is => oki is.sum S | none => .bad)
  | _ => .bad
def biAll (vs : List Val) : E Val := fun S => match vs with
  | [v] => (match (itemsOf S v).bind boolsV with | some is => okb (is.all id) S | none => .bad)
  | _ => .bad
def biAny (vs : List Val) : E Val := fun S => match vs with
  | [v] => (match (itemsOf S v).bind boolsV with | some is => okb (is.any id) S | none => .bad)
  | _ => .bad
def biList (vs : List Val) : E Val := fun S => match vs with
  | [v] => (match seqOf S v with | some xs => alloc xs S | none => .bad)
  | _ => .bad
def biTuple (vs : List Val) : E Val := fun S => match vs with
  | [.tup xs] => .ok (.tup xs) S
  | [v] => (match itemsOf S v with | some xs => mkTup xs S | none => .bad)
  | _ => .bad
def isEmpD : D → Bool
  | .dict [] => true
  | _ => false
def biRepr (vs : List Val) : E Val := fun S => match vs with
  | [v] => (match dp S v with
    | some d => if d.showable && lineOk d.shown.length && decide (d.depth ≤ 60) && (!d.hasDict || isEmpD d) then .ok (.str d.shown) S else .bad
    | none => .bad)
  | _ => .bad
def tupNE : D → Bool
  | .tuple (_ :: _) => true
  | _ => false
def notNT : D → Bool
  | .none => false
  | .tuple _ => false
  | _ => true
def sortOk (ds : List D) : Bool := (ds.all fun d => ds.all fun e => PySem.W.alike d e) && (ds.all tupNE || ds.all notNT) && ds.all fun d => !d.hasDict && decide (d.depth ≤ 60)
def sortV (xs : List Val) (ds : List D) : List Val := ((xs.zip ds).mergeSort (PySem.W.dataLe false Prod.snd)).map Prod.fst
def biSorted (vs : List Val) : E Val := fun S => match vs with
  | [v] => (match itemsOf S v with
    | some xs => (match mapO (dp S) xs with
      | some ds => if sortOk ds then alloc (sortV xs ds) S else .bad
      | none => .bad)
    | none => .bad)
  | _ => .bad
def biE (f : Str) (vs : List Val) : E Val :=
  if f = "len" then biLen vs
  else if f = "abs" then biAbs vs
  else if f = "int" then biInt vs
  else if f = "max" then biMax vs
  else if f = "min" then biMin vs
  else if f = "sum" then biSum vs
  else if f = "all" then biAll vs
  else if f = "any" then biAny vs
  else if f = "list" then biList vs
  else if f = "tuple" then biTuple vs
  else if f = "repr" then biRepr vs
  else if f = "sorted" then biSorted vs
  else E.bad
/-- list(range(..)), tuple(range(..)) -/
def rgI (a b : Int) : List Val := (List.range (b - a).toNat).map fun i => Val.int (a + (i : Nat))
def rgE2 (tp : Bool) (a b : Int) : E Val := if in62 a && in62 b && decide ((b - a).toNat ≤ 2 ^ 24) then (if tp then fun S => .ok (.tup (rgI a b)) S else fun S => .ok (.ref S.length) (S ++ [rgI a b])) else E.bad
def rgE (tp : Bool) (vs : List Val) : E Val := match vs with
  | [.int n] => rgE2 tp 0 n
  | [.int a, .int b] => rgE2 tp a b
  | _ => E.bad
def revE (v : Val) : E Val := fun S => match itemsOf S v with
  | some xs => alloc xs.reverse S
  | none => .bad
/-! ### methods that change, items set -/
def mAppend (o : Val) (vs : List Val) : E Val := fun S => match o, vs with
  | .ref n, [v] => (match S[n]? with
    | some xs => if xs.length < sizeLine then .ok .non (S.set n (xs ++ [v])) else .bad
    | none => .bad)
  | _, _ => .bad
def mPop (o : Val) (vs : List Val) : E Val := fun S => match o, vs with
  | .ref n, [] => (match S[n]? with
    | some xs => (match xs[xs.length - 1]? with
      | some v => .ok v (S.set n xs.dropLast)
      | none => .bad)
    | none => .bad)
  | _, _ => .bad
def mPopAt (o : Val) (vs : List Val) : E Val := fun S => match o, vs with
  | .ref n, [.int k] => (match S[n]? with
    | some xs => if k < 0 ∨ lineOk xs.length = false then .bad else (match xs[k.toNat]? with
      | some v => .ok v (S.set n (xs.eraseIdx k.toNat))
      | none => .bad)
    | none => .bad)
  | _, _ => .bad
/-- l.index(x), l.count(k) -/
def firstD (d : D) : List D → Option Nat
  | [] => none
  | z :: r => if PyData.eqv z d then some 0 else (firstD d r).map (· + 1)
def mIndex (o : Val) (vs : List Val) : E Val := fun S => match vs with
  | [x] => (match dp S o, dp S x with
    | some (.list ds), some d => if SeqAt.shaped (.list ds) && SeqAt.shaped d then (match firstD d ds with
      | some j => oki j S
      | none => .bad) else .bad
    | _, _ => .bad)
  | _ => .bad
def mCount (o : Val) (vs : List Val) : E Val := fun S => match vs with
  | [.int k] => (match (itemsOf S o).bind intsV with
    | some is => oki (is.count k : Nat) S
    | none => .bad)
  | _ => .bad
/-- the receiver's type -/
def ckM (m : Str) (x : Val) : E Unit := if m = "append" ∨ m = "pop" ∨ m = "popat" ∨ m = "index" ∨ m = "count" then (match x with | .ref _ => E.pure () | _ => E.bad) else if m = "bit_length" then (match x with | .int _ => E.pure () | _ => E.bad) else E.bad
def mBits (o : Val) (vs : List Val) : E Val := match o, vs with
  | .int i, [] => oki (Builtin.Int.intBits i : Nat)
  | _, _ => E.bad
def mthE (m : Str) (o : Val) (vs : List Val) : E Val :=
  if m = "append" then mAppend o vs else if m = "pop" then mPop o vs else if m = "popat" then mPopAt o vs else if m = "bit_length" then mBits o vs else if m = "index" then mIndex o vs else if m = "count" then mCount o vs else E.bad
def setE (o j v : Val) : E Unit := fun S => match o, j with
  | .ref n, .int k => (match S[n]? with
    | some xs => (match L2.ixN xs.length k with
      | some i => .ok () (S.set n (xs.set i v))
      | none => .bad)
    | none => .bad)
  | _, _ => .bad
/-! ### classes -/
def typV : Val → Option Str
  | .non => some "NoneType" | .bl _ => some "bool" | .int _ => some "int" | .str _ => some "str" | .ref _ => some "list" | .scr _ => some "list" | .tup _ => some "tuple" | .edc => some "dict"
  | _ => none
/-- one of the plain types -/
def isiT (t : Str) (T : Str) : Bool := decide (t = T) || (decide (t = "bool") && decide (T = "int"))
def plainT (T : Str) : Bool := decide (T = "int") || decide (T = "bool") || decide (T = "str") || decide (T = "list") || decide (T = "tuple")
/-- the defs, the lambdas (the cells' places, what they hold, the arguments), the module's constants, the classes; the frame's slots that have a cell, with the cell's place in the store -/
structure Pr where
  fn : Str → List Val → E Val
  lam : Nat → List Nat → List Val → List Val → E Val
  cs : Str → Option Val
  isE : Str → Str → Option Bool
  own : List (Nat × Nat)
  blk : Bool
/-- the frame's cells, as its slots stand -/
def sync : List (Nat × Nat) → Tau → Sto → Sto
  | [], _, S => S
  | (i, n) :: r, τ, S => (sync r τ S).set n [.cmark, ((τ[i]?).getD none).getD .dead]
def isiV (P : Pr) (v : Val) (T : Str) : Option Bool := match v with
  | .exc c _ => P.isE c T
  | v => match typV v with
    | some t => if plainT T then some (isiT t T) else P.isE t T
    | none => none
def isiAny (P : Pr) (v : Val) : List Str → Option Bool
  | [] => some false
  | T :: r => match isiV P v T with
    | some true => some true
    | some false => isiAny P v r
    | none => none
def isiE (P : Pr) (v : Val) (Ts : List Str) : E Val := fun S => match isiAny P v Ts with
  | some b => .ok (.bl b) S
  | none => .bad
/-! ### what is walked -/
inductive Src where
  | lst (v : Val)
  | tup (xs : List Val)
  | rng (lo : Int) (n : Nat)
  | enm (v : Val)
  | zip (s : Bool) (v w : Val)
/-- how many items; none: it may not be walked -/
def Src.len (S : Sto) : Src → Option Nat
  | .lst v => (itemsOf S v).map List.length
  | .tup xs => some xs.length
  | .rng _ n => some n
  | .enm v => (itemsOf S v).map List.length
  | .zip s v w => match itemsOf S v, itemsOf S w with
    | some xs, some ys => if s then (if xs.length = ys.length then some xs.length else none) else some (min xs.length ys.length)
    | _, _ => none
def Src.get (S : Sto) (i : Nat) : Src → Option Val
  | .lst v => (itemsOf S v).bind fun xs => xs[i]?
  | .tup xs => xs[i]?
  | .rng lo _ => some (.int (lo + (i : Int)))
  | .enm v => ((itemsOf S v).bind fun xs => xs[i]?).map fun x => .tup [.int (i : Int), x]
  | .zip _ v w => match (itemsOf S v).bind fun xs => xs[i]?, (itemsOf S w).bind fun ys => ys[i]? with
    | some x, some y => some (.tup [x, y])
    | _, _ => none
def mkSeq : List Val → Option Src
  | [.tup xs] => some (.tup xs)
  | [v] => some (.lst v)
  | _ => none
def mkRng : List Val → Option Src
  | [.int n] => if in62 n then some (.rng 0 n.toNat) else none
  | [.int a, .int b] => if in62 a && in62 b then some (.rng a (b - a).toNat) else none
  | _ => none
def mkEnm : List Val → Option Src
  | [v] => some (.enm v)
  | _ => none
def mkZip (s : Bool) : List Val → Option Src
  | [v, w] => some (.zip s v w)
  | _ => none
def mkSrc (k : SrcK) (vs : List Val) : Option Src := match k with
  | .seq => mkSeq vs
  | .rng => mkRng vs
  | .enm => mkEnm vs
  | .zip => mkZip false vs
  | .zips => mkZip true vs
mutual
def Pat.slots : Pat → List Nat
  | .nm i => [i]
  | .tup ps => Pat.slotsL ps
def Pat.slotsL : List Pat → List Nat
  | [] => []
  | p :: ps => p.slots ++ Pat.slotsL ps
end
def wipeT : List Nat → Tau → Tau
  | [], τ => τ
  | i :: r, τ => (wipeT r τ).set i none
mutual
def bindP : Pat → Val → Tau → Option Tau
  | .nm i, v, τ => if i < τ.length then some (τ.set i (some v)) else none
  | .tup ps, v, τ => match v with
    | .tup vs => bindPs ps vs τ
    | _ => none
def bindPs : List Pat → List Val → Tau → Option Tau
  | [], [], τ => some τ
  | p :: ps, v :: vs, τ => match bindP p v τ with
    | some τ' => bindPs ps vs τ'
    | none => none
  | _, _, _ => none
end
def consO {α : Type} : Option α → List α → List α
  | some x, r => x :: r
  | none, r => r
/-- the items i, .. of a source, each with the step -/
def compE (c : Src) (n : Nat) (step : Val → E (Option Val)) : Nat → E (List Val)
  | 0 => fun S => if c.len S = some n then .ok [] S else .bad
  | k + 1 => fun S => if c.len S = some n then (match c.get S (n - (k + 1)) with
    | some v => ((step v).bind fun o => (compE c n step k).bind fun r => E.pure (consO o r)) S
    | none => .bad) else .bad
def quietE {α : Type} (m : E α) : E α := fun S => match m S with
  | .exc _ _ _ => .bad
  | r => r
/-- a walk over a source -/
def srcE {α : Type} (ms : E (List Val)) (k : SrcK) (go : Src → Nat → E α) : E α := ms.bind fun vs => (getO (mkSrc k vs)).bind fun c => fun S => match c.len S with
  | some n => go c n S
  | none => .bad
def lcE (ms : E (List Val)) (k : SrcK) (step : Val → E (Option Val)) : E Val := srcE ms k fun c n => (quietE (compE c n step n)).bind alloc
def dflt (m : E Val) : E Val × E Bool := (m, m.bind truthE)
def both (m : E Bool) : E Val × E Bool := (m.bind fun k => E.pure (.bl k), m)
def two (ma mb : E Val) (f : Val → Val → E Val) : E Val := ma.bind fun x => mb.bind fun y => f x y
def cmpE (o : Cm) (ma mb : E Val) : E Bool := ma.bind fun x => mb.bind fun y => cmp2 o x y
def chnE (o1 o2 : Cm) (ma mb mc : E Val) : E Bool := ma.bind fun x => mb.bind fun y => (cmp2 o1 x y).bind fun k => if k then mc.bind fun z => cmp2 o2 y z else E.pure false
def fldE (v : Val) (f : Str) : E Val := match v with
  | .exc _ d => if f = "value" then E.pure d else E.bad
  | _ => E.bad
/-! closures about the cells at ns are lost -/
mutual
def hide (ns : List Nat) : Val → Val
  | .clo k rs => if rs.any (fun r => decide (r ∈ ns)) then .dead else .clo k rs
  | .tup xs => .tup (hideL ns xs)
  | .scr xs => .scr (hideL ns xs)
  | .exc c d => .exc c (hide ns d)
  | v => v
def hideL (ns : List Nat) : List Val → List Val
  | [] => []
  | x :: xs => hide ns x :: hideL ns xs
end
def buryN : List Nat → Sto → Sto
  | [], S => S
  | n :: r, S => (buryN r S).set n [.cmark, .dead]
def bury (own : List (Nat × Nat)) (S : Sto) : Sto := match own with
  | [] => S
  | _ => buryN (own.map (·.2)) (S.map (hideL (own.map (·.2))))
def hideA (own : List (Nat × Nat)) (vs : List Val) : List Val := match own with
  | [] => vs
  | _ => hideL (own.map (·.2)) vs
/-- a call: the cells are brought up to date first (in a comprehension: put away) -/
def callE (P : Pr) (τ : Tau) (vs : List Val) (m : List Val → E Val) : E Val := fun S => if P.blk then m (hideA P.own vs) (bury P.own S) else m vs (sync P.own τ S)
def Pr.inn (P : Pr) : Pr := { P with blk := true }
def cloE (P : Pr) (k : Nat) (rs : List Nat) (us : List Val) : E Val := fun S => match mapO (cellV S) rs with
  | some vs => P.lam k rs vs us S
  | none => .bad
def goV (P : Pr) (vs : List Val) : E Val := match vs with
  | .clo k rs :: us => cloE P k rs us
  | .fn x :: us => P.fn x us
  | _ => E.bad
def cvalE (P : Pr) (τ : Tau) (v : Val) (us : List Val) : E Val := callE P τ (v :: us) (goV P)
/-- what may be called -/
def ckF (v : Val) : E Unit := match v with
  | .clo _ _ => E.pure ()
  | _ => E.bad
def lamE (P : Pr) (k : Nat) (js : List Nat) : E Val := match (if P.blk then none else mapO (fun j => P.own.lookup j) js) with
  | some rs => E.pure (.clo k rs)
  | none => E.bad
def rdV (τ : Tau) (i : Nat) : E Val := getO ((τ[i]?).getD none)
def cstV : Cst → Val
  | .non => .non | .bl b => .bl b | .int i => .int i | .str x => .str x
mutual
def evv (P : Pr) (τ : Tau) : Ex → E Val × E Bool
  | .cst c => dflt (E.pure (cstV c))
  | .var i => dflt (rdV τ i)
  | .glb x => dflt (getO (P.cs x))
  | .bin o a b => dflt (two (evv P τ a).1 (evv P τ b).1 (op2 o))
  | .neg a => dflt ((evv P τ a).1.bind negE)
  | .nt a => both ((evv P τ a).2.bind fun b => E.pure (!b))
  | .and a b => ((evv P τ a).1.bind fun v => (boolE v).bind fun c => if c then (evv P τ b).1 else E.pure (.bl false), (evv P τ a).2.bind fun c => if c then (evv P τ b).2 else E.pure false)
  | .or a b => ((evv P τ a).1.bind fun v => (boolE v).bind fun c => if c then E.pure (.bl true) else (evv P τ b).1, (evv P τ a).2.bind fun c => if c then E.pure true else (evv P τ b).2)
  | .ife c a b => dflt ((evv P τ c).2.bind fun k => if k then (evv P τ a).1 else (evv P τ b).1)
  | .cmp o a b => both (cmpE o (evv P τ a).1 (evv P τ b).1)
  | .chn o1 o2 a b c => both (chnE o1 o2 (evv P τ a).1 (evv P τ b).1 (evv P τ c).1)
  | .lst es => dflt ((evAs P τ es).bind alloc)
  | .tup es => dflt ((evAs P τ es).bind mkTup)
  | .edc => dflt (E.pure .edc)
  | .call f es => dflt ((evAs P τ es).bind fun vs => callE P τ vs (P.fn f))
  | .callK f as bs q => dflt ((evAs P τ as).bind fun us => (evAs P τ bs).bind fun ws => (getO (mapO (fun i => (us ++ ws)[i]?) q)).bind fun vs => callE P τ vs (P.fn f))
  | .cval f es => dflt ((evv P τ f).1.bind fun v => (ckF v).bind fun _ => (evAs P τ es).bind fun us => cvalE P τ v us)
  | .bif f es => dflt ((evAs P τ es).bind (biE f))
  | .isi a T => dflt ((evv P τ a).1.bind fun v => isiE P v T)
  | .mth m o es => dflt ((evv P τ o).1.bind fun x => (ckM m x).bind fun _ => (evAs P τ es).bind (mthE m x))
  | .fld a f => dflt ((evv P τ a).1.bind fun v => fldE v f)
  | .ix a i => dflt (two (evv P τ a).1 (evv P τ i).1 ixE)
  | .sl a lo hi => dflt ((evv P τ a).1.bind fun x => (evOp P τ lo).bind fun l => (evOp P τ hi).bind fun h => slE x l h)
  | .lam k js => dflt (lamE P k js)
  | .rgl tp es => dflt ((evAs P τ es).bind (rgE tp))
  | .rev a => dflt ((evv P τ a).1.bind revE)
  | .lc p k ss ifs e => dflt (lcE (evAs P τ ss) k fun d => (getO (bindP p d (wipeT p.slots τ))).bind fun τ' => (evIf P.inn τ' ifs).bind fun b => if b then (evv P.inn τ' e).1.bind fun v => E.pure (some v) else E.pure none)
def evOp (P : Pr) (τ : Tau) : Option Ex → E (Option Int)
  | none => E.pure none
  | some e => (evv P τ e).1.bind intO
def evAs (P : Pr) (τ : Tau) : List Ex → E (List Val)
  | [] => E.pure []
  | e :: es => (evv P τ e).1.bind fun v => (evAs P τ es).bind fun vs => E.pure (v :: vs)
def evIf (P : Pr) (τ : Tau) : List Ex → E Bool
  | [] => E.pure true
  | e :: es => (evv P τ e).2.bind fun b => if b then evIf P τ es else E.pure false
end
abbrev ev (P : Pr) (τ : Tau) (e : Ex) : E Val := (evv P τ e).1
abbrev evB (P : Pr) (τ : Tau) (e : Ex) : E Bool := (evv P τ e).2
/-! ### statements -/
abbrev MS := Tau → E (Fl × Tau)
def seqM (m r : MS) : MS := fun τ => (m τ).bind fun p => match p.1 with
  | .nx => r p.2
  | f => E.pure (f, p.2)
def loopM (p : Pat) (body : MS) (c : Src) (n : Nat) : Nat → MS
  | 0 => fun τ S => if c.len S = some n then .ok (.nx, τ) S else .bad
  | k + 1 => fun τ S => if c.len S = some n then (match c.get S (n - (k + 1)) with
    | some v => (match bindP p v τ with
      | some τ' => ((body τ').bind fun q => match q.1 with
        | .nx => loopM p body c n k q.2
        | .ct => loopM p body c n k q.2
        | .bk => E.pure (.nx, q.2)
        | .rt v => E.pure (.rt v, q.2)) S
      | none => .bad)
    | none => .bad) else .bad
def whileM (c : Tau → E Bool) (body : MS) : Nat → MS
  | 0 => fun _ => E.bad
  | k + 1 => fun τ => (c τ).bind fun b => if b then (body τ).bind fun q => match q.1 with
      | .nx => whileM c body k q.2
      | .ct => whileM c body k q.2
      | .bk => E.pure (.nx, q.2)
      | .rt v => E.pure (.rt v, q.2)
    else E.pure (.nx, τ)
def setSl (i : Nat) (v : Val) : MS := fun τ => if i < τ.length then E.pure (.nx, τ.set i (some v)) else E.bad
def rseM (c : Str) (v : Val) : E (Fl × Tau) := fun S => .exc c v S
/-- try: .. except c as j: i = j -/
def tryM (P : Pr) (m : E Val) (c : Str) (i j : Nat) : MS := fun τ S => match m S with
  | .ok _ S' => .ok (.nx, τ) S'
  | .exc c' d S' => (match P.isE c' c with
    | some true => if i < τ.length ∧ j < τ.length then .ok (.nx, (τ.set i (some (.exc c' d))).set j none) S' else .bad
    | _ => .bad)
  | .bad => .bad
/-- the call in a try's body: what goes ahead of it raises nothing -/
def evT (P : Pr) (τ : Tau) : Ex → E Val
  | .cval f es => (ev P τ f).bind fun v => (ckF v).bind fun _ => (quietE (evAs P τ es)).bind fun us => cvalE P τ v us
  | .call f es => (quietE (evAs P τ es)).bind fun vs => callE P τ vs (P.fn f)
  | .ife c a b => (quietE (evB P τ c)).bind fun k => if k then evT P τ a else evT P τ b
  | _ => E.bad
mutual
def exS (P : Pr) : Sm → MS
  | .asg p e => fun τ => (ev P τ e).bind fun v => (getO (bindP p v τ)).bind fun τ' => E.pure (.nx, τ')
  | .par i j a b => fun τ => (ev P τ a).bind fun v => (ev P τ b).bind fun w => if i < τ.length ∧ j < τ.length then E.pure (.nx, (τ.set i (some v)).set j (some w)) else E.bad
  | .par3 i j l a b c => fun τ => (ev P τ a).bind fun u => (ev P τ b).bind fun v => (ev P τ c).bind fun w => if i < τ.length ∧ j < τ.length ∧ l < τ.length then E.pure (.nx, ((τ.set i (some u)).set j (some v)).set l (some w)) else E.bad
  | .aug i o e => fun τ => (rdV τ i).bind fun x => (ev P τ e).bind fun y => (op2 o x y).bind fun v => setSl i v τ
  | .setI o j e => fun τ => (ev P τ e).bind fun v => (ev P τ o).bind fun x => (ev P τ j).bind fun k => (setE x k v).bind fun _ => E.pure (.nx, τ)
  | .ex e => fun τ => (ev P τ e).bind fun _ => E.pure (.nx, τ)
  | .ret e => fun τ => (ev P τ e).bind fun v => E.pure (.rt v, τ)
  | .retN => fun τ => E.pure (.rt .non, τ)
  | .ife c a b => fun τ => (evB P τ c).bind fun k => if k then exSs P a τ else exSs P b τ
  | .fr p k ss b => fun τ => srcE (evAs P τ ss) k fun c n => loopM p (exSs P b) c n n τ
  | .whl fuel c b => fun τ S => whileM (fun τ => evB P τ c) (exSs P b) (fuel τ S) τ S
  | .rse c e => fun τ => (ev P τ e).bind fun v => rseM c v
  | .tryc e c i j => fun τ => tryM P (evT P τ e) c i j τ
  | .pass => fun τ => E.pure (.nx, τ)
  | .brk => fun τ => E.pure (.bk, τ)
  | .cnt => fun τ => E.pure (.ct, τ)
def exSs (P : Pr) : List Sm → MS
  | [] => fun τ => E.pure (.nx, τ)
  | s :: r => seqM (exS P s) (exSs P r)
end
/-- a def: how many parameters, how many slots, which of them have a cell that a lambda may take, the body; where there are such: the body but for a last return, and what that gives -/
structure Df where
  pars : Nat
  size : Nat
  cells : List Nat
  body : List Sm
  fin : Option Ex := none
def places : List Nat → Nat → List (Nat × Nat)
  | [], _ => []
  | i :: r, n => (i, n) :: places r (n + 1)
def dcell : List Val := [.cmark, .dead]
def hideV (own : List (Nat × Nat)) (v : Val) : Val := hide (own.map (·.2)) v
/-- the last return: the cells are brought up to date -/
def finDf (own : List (Nat × Nat)) (τ : Tau) : R Val → R Val
  | .ok v S => .ok v (sync own τ S)
  | .exc c d S => .exc c (hideV own d) (bury own S)
  | .bad => .bad
def endDf (P : Pr) (own : List (Nat × Nat)) (fin : Option Ex) : R (Fl × Tau) → R Val
  | .ok (.rt v, _) S => .ok (hideV own v) (bury own S)
  | .ok (.nx, τ) S => match fin with
    | none => .ok .non (bury own S)
    | some e => finDf own τ (ev P τ e S)
  | .ok _ _ => .bad
  | .exc c d S => .exc c (hideV own d) (bury own S)
  | .bad => .bad
def plainDf : R (Fl × Tau) → R Val
  | .ok (.rt v, _) S => .ok v S
  | .ok (.nx, _) S => .ok .non S
  | .ok _ _ => .bad
  | .exc c d S => .exc c d S
  | .bad => .bad
def runDf (P : Pr) (d : Df) (vs : List Val) : E Val := fun S =>
  if vs.length = d.pars ∧ d.pars ≤ d.size then match d.cells with
    | [] => plainDf (exSs { P with own := [], blk := false } d.body (vs.map some ++ List.replicate (d.size - d.pars) none) S)
    | cs => endDf { P with own := places cs S.length, blk := false } (places cs S.length) d.fin (exSs { P with own := places cs S.length, blk := false } d.body (vs.map some ++ List.replicate (d.size - d.pars) none) (S ++ List.replicate cs.length dcell))
  else .bad
/-- a lambda: how many parameters, how many cells (their slots come behind), the expression -/
structure Lm where
  pars : Nat
  caps : Nat
  body : Ex
def lamOwn (pars : Nat) : List Nat → List (Nat × Nat)
  | [] => []
  | n :: r => (pars, n) :: lamOwn (pars + 1) r
def endLm (own : List (Nat × Nat)) (τ : Tau) : R Val → R Val
  | .ok v S => .ok v (sync own τ S)
  | .exc c d S => .exc c d (sync own τ S)
  | .bad => .bad
def runLm (P : Pr) (l : Lm) (rs : List Nat) (cs us : List Val) : E Val := fun S =>
  if us.length = l.pars ∧ cs.length = l.caps ∧ rs.length = l.caps then endLm (lamOwn l.pars rs) ((us ++ cs).map some) (ev { P with own := lamOwn l.pars rs, blk := false } ((us ++ cs).map some) l.body S)
  else .bad
end TQ
/-! TQ2: what a value is in the abstract heap; the store; a step's traces; the readings. -/
namespace TQ
open PySem L2
/-- what a step keeps as it is -/
def Kep : HO → Prop
  | .lst _ => False
  | .tbl _ => False
  | .frz _ (.ext _) => False
  | _ => True
structure Ky (H H' : Hp) : Prop where
  kn : ∀ {b o}, H b = some o → Kep o → H' b = some o
  ls : ∀ {b xs}, H b = some (.lst xs) → ∃ ys, H' b = some (.lst ys)
theorem Ky.refl (H : Hp) : Ky H H := ⟨fun h _ => h, fun {b xs} h => ⟨xs, h⟩⟩
theorem Ky.trans {H H1 H2 : Hp} (a : Ky H H1) (b : Ky H1 H2) : Ky H H2 := ⟨fun h k => b.kn (a.kn h k) k, fun h => let ⟨_, q⟩ := a.ls h; b.ls q⟩
/-- what is known of the module's names, of exceptions, closures, code tables -/
structure Gx where
  K : PySem.W.Frag
  m : Str → Option Value
  exc : Str → V → Addr → Hp → Prop
  clo : Nat → List Addr → Addr → Hp → Prop
  own : List (Nat × Addr)
  exc_ky : ∀ {c w a} {H H' : Hp}, Ky H H' → exc c w a H → exc c w a H'
  clo_ky : ∀ {k cs a} {H H' : Hp}, Ky H H' → clo k cs a H → clo k cs a H'
  tab : Hp → Prop
  tab_ext : ∀ {H H' : Hp}, (∀ b o, H b = some o → (Kep o ∨ ∃ ps, o = .tbl ps) → H' b = some o) → tab H → tab H'
/-- places of lists, of cells -/
def lA (a : Addr) : Nat := 2 * (a : Nat) + 1
def cA (c : Addr) : Nat := 2 * (c : Nat) + 2
/-- .. of what is gone -/
def gA : Nat := 0
theorem par_a (a b : Nat) (h : 2 * a + 1 = 2 * b + 1) : a = b := by omega
theorem par_c (a b : Nat) (h : 2 * a + 2 = 2 * b + 2) : a = b := by omega
theorem par_no (a c : Nat) (h : 2 * a + 1 = 2 * c + 2) : False := by omega
theorem lA_inj {a b : Addr} (h : lA a = lA b) : a = b := par_a a b h
theorem cA_inj {a b : Addr} (h : cA a = cA b) : a = b := par_c a b h
theorem lA_cA {a c : Addr} (h : lA a = cA c) : False := par_no a c h
theorem lA_gA {a : Addr} (h : lA a = gA) : False := Nat.noConfusion h
theorem cA_gA {a : Addr} (h : cA a = gA) : False := Nat.noConfusion h
section
variable (G : Gx) (H : Hp) (m : List Nat)
/-- a list that nobody changes -/
def ScrAt (a : Addr) (vs : List V) : Prop := (∃ o, H a = some (.frz o (.lst vs))) ∨ SqL G.K (fun _ => none) a vs
mutual
inductive RV : Val → V → Prop where
  | non : RV .non .non
  | bl {b : Bool} : RV (.bl b) (.bl b)
  | int {i : Int} : RV (.int i) (.int i)
  | str {x : Str} : RV (.str x) (.str x)
  | tup {xs : List Val} {a : Addr} {vs : List V} : SqT G.K H a vs → RVL xs vs → RV (.tup xs) (.ref a)
  | ref {n : Nat} {a : Addr} : m[n]? = some (lA a) → RV (.ref n) (.ref a)
  | edc {a : Addr} : H a = some (.dK []) → RV .edc (.ref a)
  | exc {c : Str} {d : Val} {w : V} {a : Addr} : G.exc c w a H → RV d w → RV (.exc c d) (.ref a)
  | fn {x : Str} {a : Addr} : G.m x = some (.ref a) → RV (.fn x) (.ref a)
  | scr {xs : List Val} {a : Addr} {vs : List V} : ScrAt G H a vs → RVL xs vs → RV (.scr xs) (.ref a)
  | clo {k : Nat} {rs : List Nat} {cs : List Addr} {a : Addr} : rs.map (fun r => m[r]?) = cs.map (fun c => some (cA c)) → G.clo k cs a H → RV (.clo k rs) (.ref a)
  | dead {a : Addr} : RV .dead (.ref a)
inductive RVL : List Val → List V → Prop where
  | nil : RVL [] []
  | cons {x : Val} {xs : List Val} {v : V} {vs : List V} : RV x v → RVL xs vs → RVL (x :: xs) (v :: vs)
end
/-- what stands at a place of the store, at which address -/
inductive Nd : Nat → List Val → Nat → Prop where
  | lst {n : Nat} {xs : List Val} {a : Addr} {vs : List V} : H a = some (.lst vs) → RVL G H m xs vs → Nd n xs (lA a)
  | cel {n : Nat} {x : Val} {c : Addr} {o : Obj} : H c = some (.frz o celU) → (x = .dead ∨ ∃ u w, o.data = .cell (some u) ∧ RelV w u ∧ RV G H m x w) → Nd n [.cmark, x] (cA c)
  | own {n : Nat} {x : Val} {c : Addr} : (n, c) ∈ G.own → Nd n [.cmark, x] (cA c)
  | gone {n : Nat} : Nd n [.cmark, .dead] gA
structure SR (S : Sto) : Prop where
  len : m.length = S.length
  nd : ∀ (i j : Nat) (a : Addr), m[i]? = some (lA a) → m[j]? = some (lA a) → i = j
  at_ : ∀ (n : Nat) (xs : List Val), S[n]? = some xs → ∃ b, m[n]? = some b ∧ Nd G H m n xs b
  tab : G.tab H
  ow : ∀ p ∈ G.own, m[p.1]? = some (cA p.2)
  ndc : ∀ (i j : Nat) (c : Addr), m[i]? = some (cA c) → m[j]? = some (cA c) → (∀ d, (i, d) ∉ G.own) → (∀ d, (j, d) ∉ G.own) → i = j
/-- the frame's slots -/
structure SL (τ : Tau) (σ : L2.St) : Prop where
  len : τ.length = σ.length
  at_ : ∀ (i : Nat) (x : Val), τ[i]? = some (some x) → ∃ v, σ[i]? = some (some v) ∧ RV G H m x v
end
def Sme (H' : Hp) (a : Addr) (o : HO) : Prop := H' a = some o ∨ ∃ ps qs, o = .tbl ps ∧ H' a = some (.tbl qs)
structure Ext (m : List Nat) (H : Hp) (m' : List Nat) (H' : Hp) : Prop where
  pre : ∃ k, m' = m ++ k ∧ ∀ a, lA a ∈ k ∨ cA a ∈ k → H a = none
  keep : ∀ a o, H a = some o → ((∀ xs, o ≠ .lst xs) ∨ lA a ∉ m) → Sme H' a o
  lst : ∀ a xs, H a = some (.lst xs) → ∃ ys, H' a = some (.lst ys)
section
variable {G : Gx} {H H' H1 H2 : Hp} {m m' m1 m2 : List Nat} {S S' : Sto}
theorem SqT.ky {K : PySem.W.Frag} (k : Ky H H') {a : Addr} {vs : List V} (h : SqT K H a vs) : SqT K H' a vs := by
  rcases h with (h | ⟨o, h⟩) | h
  · exact .inl (.inl (k.kn h True.intro))
  · exact .inl (.inr ⟨o, k.kn h True.intro⟩)
  · exact .inr h
theorem ScrAt.ky (k : Ky H H') {a : Addr} {vs : List V} (h : ScrAt G H a vs) : ScrAt G H' a vs := by
  rcases h with ⟨o, h⟩ | h
  · exact .inl ⟨o, k.kn h True.intro⟩
  · exact .inr h
theorem ScrAt.sq {a : Addr} {vs : List V} (h : ScrAt G H a vs) : SqL G.K H a vs := by
  rcases h with ⟨o, h⟩ | (h | ⟨o, h⟩) | h
  · exact .inl (.inr ⟨o, h⟩)
  · cases h
  · cases h
  · exact .inr h
theorem pre_get {k : List Nat} {n : Nat} {a : Nat} (h : m[n]? = some a) : (m ++ k)[n]? = some a := by
  rw [List.getElem?_append_left (List.getElem?_eq_some_iff.mp h).1]; exact h
theorem pre_map {k : List Nat} : ∀ {rs : List Nat} {cs : List Addr}, rs.map (fun r => m[r]?) = cs.map (fun c => some (cA c)) → rs.map (fun r => (m ++ k)[r]?) = cs.map (fun c => some (cA c))
  | [], [], _ => rfl
  | [], _ :: _, h => by simp at h
  | _ :: _, [], h => by simp at h
  | r :: rs, c :: cs, h => by
    simp only [List.map_cons, List.cons.injEq] at h ⊢
    exact ⟨pre_get h.1, pre_map h.2⟩
mutual
theorem RV.mono (k : Ky H H') (p : ∃ e, m' = m ++ e) : ∀ {x : Val} {v : V}, RV G H m x v → RV G H' m' x v
  | _, _, .non => .non
  | _, _, .bl => .bl
  | _, _, .int => .int
  | _, _, .str => .str
  | _, _, .tup h r => .tup (SqT.ky k h) (RVL.mono k p r)
  | _, _, .ref h => .ref (by obtain ⟨e, rfl⟩ := p; exact pre_get h)
  | _, _, .edc h => .edc (k.kn h True.intro)
  | _, _, .exc h r => .exc (G.exc_ky k h) (RV.mono k p r)
  | _, _, .fn h => .fn h
  | _, _, .scr h r => .scr (h.ky k) (RVL.mono k p r)
  | _, _, .clo e h => .clo (by obtain ⟨_, rfl⟩ := p; exact pre_map e) (G.clo_ky k h)
  | _, _, .dead => .dead
theorem RVL.mono (k : Ky H H') (p : ∃ e, m' = m ++ e) : ∀ {xs : List Val} {vs : List V}, RVL G H m xs vs → RVL G H' m' xs vs
  | _, _, .nil => .nil
  | _, _, .cons h r => .cons (RV.mono k p h) (RVL.mono k p r)
end
theorem RVL.nc {xs : List Val} {vs : List V} (h : RVL G H m xs vs) : ∀ r, xs ≠ .cmark :: r := fun r e => by
  subst e
  cases h with | cons h _ => cases h
theorem RVL.length {xs : List Val} {vs : List V} (h : RVL G H m xs vs) : vs.length = xs.length := by
  induction xs generalizing vs with
  | nil => cases h; rfl
  | cons x xs ih => cases h with | cons h1 h2 => simp [ih h2]
theorem RVL.get {xs : List Val} {vs : List V} (h : RVL G H m xs vs) {i : Nat} {x : Val} (e : xs[i]? = some x) : ∃ v, vs[i]? = some v ∧ RV G H m x v := by
  induction xs generalizing vs i with
  | nil => simp at e
  | cons y xs ih =>
    cases h with
    | cons h1 h2 =>
      cases i with
      | zero => simp at e; subst e; exact ⟨_, rfl, h1⟩
      | succ i =>
        obtain ⟨v, e1, q⟩ := ih h2 (i := i) (by simpa using e)
        exact ⟨v, by simpa using e1, q⟩
theorem RVL.append {xs ys : List Val} {vs ws : List V} (h : RVL G H m xs vs) (h' : RVL G H m ys ws) : RVL G H m (xs ++ ys) (vs ++ ws) := by
  induction xs generalizing vs with
  | nil => cases h; exact h'
  | cons x xs ih => cases h with | cons h1 h2 => exact .cons h1 (ih h2)
theorem RVL.take {xs : List Val} {vs : List V} (n : Nat) (h : RVL G H m xs vs) : RVL G H m (xs.take n) (vs.take n) := by
  induction xs generalizing vs n with
  | nil => cases h; simpa using RVL.nil
  | cons x xs ih => cases h with | cons h1 h2 => cases n with
    | zero => simpa using RVL.nil
    | succ n => exact .cons h1 (ih n h2)
theorem RVL.drop {xs : List Val} {vs : List V} (n : Nat) (h : RVL G H m xs vs) : RVL G H m (xs.drop n) (vs.drop n) := by
  induction xs generalizing vs n with
  | nil => cases h; simpa using RVL.nil
  | cons x xs ih => cases h with | cons h1 h2 => cases n with
    | zero => exact .cons h1 h2
    | succ n => simpa using ih n h2
theorem RVL.dropLast {xs : List Val} {vs : List V} (h : RVL G H m xs vs) : RVL G H m xs.dropLast vs.dropLast := by
  rw [List.dropLast_eq_take, List.dropLast_eq_take, h.length]; exact h.take _
theorem RVL.set {xs : List Val} {vs : List V} {x : Val} {v : V} (i : Nat) (h : RVL G H m xs vs) (r : RV G H m x v) : RVL G H m (xs.set i x) (vs.set i v) := by
  induction xs generalizing vs i with
  | nil => cases h; exact .nil
  | cons y xs ih => cases h with | cons h1 h2 => cases i with
    | zero => exact .cons r h2
    | succ i => exact .cons h1 (ih i h2)
theorem RVL.eraseIdx {xs : List Val} {vs : List V} (i : Nat) (h : RVL G H m xs vs) : RVL G H m (xs.eraseIdx i) (vs.eraseIdx i) := by
  induction xs generalizing vs i with
  | nil => cases h; exact .nil
  | cons y xs ih => cases h with | cons h1 h2 => cases i with
    | zero => exact h2
    | succ i => exact .cons h1 (ih i h2)
theorem RVL.rep {xs : List Val} {vs : List V} (h : RVL G H m xs vs) : ∀ n : Nat, RVL G H m (List.replicate n xs).flatten (List.replicate n vs).flatten
  | 0 => by simpa using RVL.nil
  | n + 1 => by simpa [List.replicate_succ] using h.append (RVL.rep h n)
theorem RVL.one {x : Val} {v : V} (h : RV G H m x v) : RVL G H m [x] [v] := .cons h .nil
theorem RVL.two {x y : Val} {v w : V} (h : RV G H m x v) (h' : RV G H m y w) : RVL G H m [x, y] [v, w] := .cons h (.cons h' .nil)
theorem RVL.inv1 {x : Val} {vs : List V} (h : RVL G H m [x] vs) : ∃ v, vs = [v] ∧ RV G H m x v := by
  cases h with | cons h1 h2 => cases h2; exact ⟨_, rfl, h1⟩
theorem RVL.inv2 {x y : Val} {vs : List V} (h : RVL G H m [x, y] vs) : ∃ v w, vs = [v, w] ∧ RV G H m x v ∧ RV G H m y w := by
  cases h with | cons h1 h2 => cases h2 with | cons h2 h3 => cases h3; exact ⟨_, _, rfl, h1, h2⟩
theorem Sme.kn {a : Addr} {o : HO} (h : Sme H' a o) (n : ∀ ps, o ≠ .tbl ps) : H' a = some o := by
  rcases h with h | ⟨ps, _, e, _⟩
  · exact h
  · exact absurd e (n ps)
theorem Ext.ky (e : Ext m H m' H') : Ky H H' := ⟨fun {b o} h k => (e.keep b o h (.inl fun xs z => by subst z; exact k)).kn fun ps z => by subst z; exact k, fun {b xs} h => e.lst b xs h⟩
theorem Ext.ref (m : List Nat) (H : Hp) : Ext m H m H := ⟨⟨[], by simp, by simp⟩, fun _ _ h _ => .inl h, fun _ xs h => ⟨xs, h⟩⟩
theorem Ext.sub (e : Ext m H m' H') : ∃ k, m' = m ++ k := let ⟨k, q, _⟩ := e.pre; ⟨k, q⟩
theorem Ext.trans (a : Ext m H m1 H1) (b : Ext m1 H1 m2 H2) : Ext m H m2 H2 := by
  have some1 : ∀ c o, H c = some o → ∃ o', H1 c = some o' := fun c o q => by
    by_cases hl : ∃ xs, o = .lst xs
    · obtain ⟨xs, rfl⟩ := hl
      obtain ⟨ys, y⟩ := a.lst c xs q
      exact ⟨_, y⟩
    · rcases a.keep c o q (.inl fun xs e => hl ⟨xs, e⟩) with y | ⟨_, _, _, y⟩ <;> exact ⟨_, y⟩
  refine ⟨?_, fun c o h n => ?_, fun c xs h => ?_⟩
  · obtain ⟨k1, rfl, n1⟩ := a.pre
    obtain ⟨k2, rfl, n2⟩ := b.pre
    refine ⟨k1 ++ k2, by simp, fun c hc => ?_⟩
    have z : (lA c ∈ k1 ∨ cA c ∈ k1) ∨ (lA c ∈ k2 ∨ cA c ∈ k2) := by
      simp only [List.mem_append] at hc
      rcases hc with (z | z) | (z | z)
      · exact .inl (.inl z)
      · exact .inr (.inl z)
      · exact .inl (.inr z)
      · exact .inr (.inr z)
    rcases z with z | z
    · exact n1 c z
    · cases q : H c with
      | none => rfl
      | some o =>
        obtain ⟨o', y⟩ := some1 c o q
        rw [n2 c z] at y; cases y
  · obtain ⟨k1, rfl, n1⟩ := a.pre
    have n' : (∀ xs, o ≠ .lst xs) ∨ lA c ∉ m ++ k1 := n.imp id fun n z => by
      rcases List.mem_append.mp z with z | z
      · exact n z
      · rw [n1 c (.inl z)] at h; cases h
    rcases a.keep c o h n with y | ⟨ps, qs, rfl, y⟩
    · exact b.keep c o y n'
    · rcases b.keep c _ y (.inl fun _ e => nomatch e) with z | ⟨_, ws, _, z⟩
      · exact .inr ⟨ps, qs, rfl, z⟩
      · exact .inr ⟨ps, ws, rfl, z⟩
  · obtain ⟨ys, y⟩ := a.lst c xs h
    exact b.lst c ys y
/-! ### steps -/
theorem Ext.new {p : Addr} {o : HO} (hp : H p = none) : Ext m H m (upd H p o) :=
  ⟨⟨[], by simp, by simp⟩, fun a u h _ => .inl (by rw [upd_ne (ne_of_none h hp)]; exact h), fun a xs h => ⟨xs, by rw [upd_ne (ne_of_none h hp)]; exact h⟩⟩
theorem tab_up {o : HO} {p : Addr} (t : G.tab H) (hp : H p = none) : G.tab (upd H p o) :=
  G.tab_ext (fun b u e _ => by rw [upd_ne (ne_of_none e hp)]; exact e) t
theorem tab_mut {p : Addr} {xs : List V} {o : HO} (t : G.tab H) (hp : H p = some (.lst xs)) : G.tab (upd H p o) :=
  G.tab_ext (fun b u e n => by
    have : b ≠ p := fun z => by
      subst z; rw [hp] at e; cases e
      rcases n with n | ⟨ps, n⟩
      · exact n
      · cases n
    rw [upd_ne this]; exact e) t
theorem frz_up {p c : Addr} {o : HO} {ob : Obj} {u : HO} (h : H c = some (.frz ob u)) (hp : H p = none ∨ ∃ xs, H p = some (.lst xs)) : upd H p o c = some (.frz ob u) := by
  rw [upd_ne]
  · exact h
  · intro z
    subst z
    rcases hp with hp | ⟨xs, hp⟩ <;> (rw [hp] at h; cases h)
theorem Nd.mono {n : Nat} {xs : List Val} {b : Nat} (q : Nd G H m n xs b) (k : Ky H H') (p : ∃ e, m' = m ++ e) (kl : ∀ a vs, b = lA a → H a = some (.lst vs) → H' a = some (.lst vs)) (kc : ∀ c o, b = cA c → H c = some (.frz o celU) → H' c = some (.frz o celU)) : Nd G H' m' n xs b := by
  cases q with
  | lst h r => exact .lst (kl _ _ rfl h) (r.mono k p)
  | cel h r => exact .cel (kc _ _ rfl h) (r.imp id fun ⟨u, w, d, r, x⟩ => ⟨u, w, d, r, x.mono k p⟩)
  | own h => exact .own h
  | gone => exact .gone
theorem Nd.toL {n : Nat} {xs : List Val} {a : Addr} (q : Nd G H m n xs (lA a)) : ∃ vs, H a = some (.lst vs) ∧ RVL G H m xs vs := by
  generalize e : lA a = b at q
  cases q with
  | lst h r => rw [lA_inj e]; exact ⟨_, h, r⟩
  | cel h r => exact (lA_cA e).elim
  | own h => exact (lA_cA e).elim
  | gone => exact (lA_gA e).elim
theorem SR.get (s : SR G H m S) {n : Nat} {a : Addr} (h : m[n]? = some (lA a)) : ∃ xs vs, S[n]? = some xs ∧ H a = some (.lst vs) ∧ RVL G H m xs vs := by
  have hn : n < S.length := by have := (List.getElem?_eq_some_iff.mp h).1; have := s.len; omega
  obtain ⟨b, e1, q⟩ := s.at_ n S[n] (by simp [hn])
  rw [h] at e1; cases e1
  obtain ⟨vs, e2, r⟩ := q.toL
  exact ⟨_, vs, by simp [hn], e2, r⟩
theorem SR.mem (s : SR G H m S) {a : Addr} (h : lA a ∈ m) : ∃ vs, H a = some (.lst vs) := by
  obtain ⟨n, hn⟩ := List.mem_iff_getElem?.mp h
  obtain ⟨_, vs, _, e, _⟩ := s.get hn
  exact ⟨vs, e⟩
/-- a new object that is no list of the store -/
theorem SR.new (s : SR G H m S) {p : Addr} {o : HO} (hp : H p = none) : SR G (upd H p o) m S := by
  refine ⟨s.len, s.nd, fun n xs e => ?_, tab_up s.tab hp, s.ow, s.ndc⟩
  obtain ⟨b, e1, q⟩ := s.at_ n xs e
  exact ⟨b, e1, q.mono (Ext.new (m := m) hp).ky ⟨[], by simp⟩ (fun a vs _ h => by rw [upd_ne (ne_of_none h hp)]; exact h) fun c o _ h => frz_up h (.inl hp)⟩
theorem nd_app (nd : ∀ (i j : Nat) (a : Addr), m[i]? = some (lA a) → m[j]? = some (lA a) → i = j) {d : Nat} (hd : d ∉ m ∨ ∀ a, d ≠ lA a) : ∀ (i j : Nat) (a : Addr), (m ++ [d])[i]? = some (lA a) → (m ++ [d])[j]? = some (lA a) → i = j := by
  intro i j a hi hj
  have key : ∀ {i : Nat}, (m ++ [d])[i]? = some (lA a) → (i < m.length ∧ m[i]? = some (lA a)) ∨ (i = m.length ∧ d = lA a) := fun {i} h => by
    by_cases hl : i < m.length
    · rw [List.getElem?_append_left hl] at h; exact .inl ⟨hl, h⟩
    · have := (List.getElem?_eq_some_iff.mp h).1
      have e : i = m.length := by simp at this; omega
      subst e
      simp at h
      exact .inr ⟨rfl, h⟩
  rcases key hi with ⟨_, h1⟩ | ⟨e1, h1⟩
  · rcases key hj with ⟨_, h2⟩ | ⟨e2, h2⟩
    · exact nd i j a h1 h2
    · rcases hd with hd | hd
      · exact absurd (h2 ▸ List.mem_of_getElem? h1) hd
      · exact absurd h2 (hd a)
  · rcases key hj with ⟨_, h2⟩ | ⟨e2, h2⟩
    · rcases hd with hd | hd
      · exact absurd (h1 ▸ List.mem_of_getElem? h2) hd
      · exact absurd h1 (hd a)
    · omega
theorem ndc_app {P : Nat → Prop} (nd : ∀ (i j : Nat) (c : Addr), m[i]? = some (cA c) → m[j]? = some (cA c) → P i → P j → i = j) {d : Nat} (hd : ∀ c, d ≠ cA c) : ∀ (i j : Nat) (c : Addr), (m ++ [d])[i]? = some (cA c) → (m ++ [d])[j]? = some (cA c) → P i → P j → i = j := by
  have key : ∀ {i : Nat} {c : Addr}, (m ++ [d])[i]? = some (cA c) → m[i]? = some (cA c) := fun {i c} h => by
    by_cases hl : i < m.length
    · rw [List.getElem?_append_left hl] at h; exact h
    · have := (List.getElem?_eq_some_iff.mp h).1
      have e : i = m.length := by simp at this; omega
      subst e
      simp at h
      exact absurd h (hd c)
  exact fun i j c hi hj => nd i j c (key hi) (key hj)
/-- a new list -/
theorem SR.alloc (s : SR G H m S) {p : Addr} {xs : List Val} {vs : List V} (hp : H p = none) (r : RVL G H m xs vs) :
    SR G (upd H p (.lst vs)) (m ++ [lA p]) (S ++ [xs]) ∧ Ext m H (m ++ [lA p]) (upd H p (.lst vs)) ∧ RV G (upd H p (.lst vs)) (m ++ [lA p]) (.ref S.length) (.ref p) := by
  have hpm : lA p ∉ m := fun z => by obtain ⟨_, q⟩ := s.mem z; rw [hp] at q; cases q
  have e : Ext m H (m ++ [lA p]) (upd H p (.lst vs)) :=
    ⟨⟨[lA p], rfl, fun a z => by
      rcases z with z | z
      · simp at z; rw [lA_inj z]; exact hp
      · simp at z; exact (lA_cA z.symm).elim⟩, fun a u h _ => .inl (by rw [upd_ne (ne_of_none h hp)]; exact h), fun a xs h => ⟨xs, by rw [upd_ne (ne_of_none h hp)]; exact h⟩⟩
  refine ⟨⟨by simp [s.len], nd_app s.nd (.inl hpm), fun n ys en => ?_, tab_up s.tab hp, fun p hp => pre_get (s.ow p hp), ndc_app s.ndc fun c z => lA_cA z⟩, e, .ref ?_⟩
  · by_cases hn : n < S.length
    · rw [List.getElem?_append_left hn] at en
      obtain ⟨b, e1, q⟩ := s.at_ n ys en
      exact ⟨b, pre_get e1, q.mono e.ky e.sub (fun a vs _ h => by rw [upd_ne (ne_of_none h hp)]; exact h) fun c o _ h => frz_up h (.inl hp)⟩
    · have hn' : n = S.length := by
        have := (List.getElem?_eq_some_iff.mp en).1
        simp at this; omega
      subst hn'
      simp at en
      subst en
      exact ⟨lA p, by rw [← s.len]; simp, .lst upd_same (r.mono e.ky e.sub)⟩
  · rw [← s.len]; simp
/-- a list changed -/
theorem SR.put (s : SR G H m S) {n : Nat} {p : Addr} {ys : List Val} {vs ws : List V} (hn : m[n]? = some (lA p)) (hp : H p = some (.lst vs)) (r : RVL G H m ys ws) :
    SR G (upd H p (.lst ws)) m (S.set n ys) ∧ Ext m H m (upd H p (.lst ws)) := by
  have hpm : lA p ∈ m := List.mem_of_getElem? hn
  have e : Ext m H m (upd H p (.lst ws)) := by
    refine ⟨⟨[], by simp, by simp⟩, fun a u h n => .inl ?_, fun a xs h => ?_⟩
    · have : a ≠ p := fun z => by
        subst z
        rcases n with n | n
        · rw [hp] at h; cases h; exact n _ rfl
        · exact n hpm
      rw [upd_ne this]; exact h
    · by_cases z : a = p
      · subst z; exact ⟨ws, upd_same⟩
      · exact ⟨xs, by rw [upd_ne z]; exact h⟩
  refine ⟨⟨by simp [s.len], s.nd, fun k zs ek => ?_, tab_mut s.tab hp, s.ow, s.ndc⟩, e⟩
  by_cases hk : n = k
  · subst hk
    have hl : n < S.length := by have := (List.getElem?_eq_some_iff.mp hn).1; have := s.len; omega
    rw [List.getElem?_set_self hl] at ek
    cases ek
    exact ⟨lA p, hn, .lst upd_same (r.mono e.ky ⟨[], by simp⟩)⟩
  · rw [List.getElem?_set_ne hk] at ek
    obtain ⟨b, e1, q⟩ := s.at_ k zs ek
    refine ⟨b, e1, q.mono e.ky ⟨[], by simp⟩ (fun a us eb h => ?_) fun c o _ h => frz_up h (.inr ⟨vs, hp⟩)⟩
    have : a ≠ p := fun z => by
      subst z; subst eb
      exact hk (s.nd n k _ hn e1)
    rw [upd_ne this]; exact h
theorem SL.mono {τ : Tau} {σ : L2.St} (s : SL G H m τ σ) (e : Ext m H m' H') : SL G H' m' τ σ :=
  ⟨s.len, fun i x h => let ⟨v, q, r⟩ := s.at_ i x h; ⟨v, q, r.mono e.ky e.sub⟩⟩
theorem SL.set {τ : Tau} {σ : L2.St} (s : SL G H m τ σ) {i : Nat} {x : Val} {v : V} (r : RV G H m x v) : SL G H m (τ.set i (some x)) (σ.set i (some v)) := by
  refine ⟨by simp [s.len], fun j y h => ?_⟩
  by_cases hj : i = j
  · subst hj
    have hi : i < τ.length := by have := (List.getElem?_eq_some_iff.mp h).1; simpa using this
    rw [List.getElem?_set_self hi] at h
    cases h
    exact ⟨v, by rw [List.getElem?_set_self (by rw [← s.len]; exact hi)], r⟩
  · rw [List.getElem?_set_ne hj] at h
    rw [List.getElem?_set_ne hj]
    exact s.at_ j y h
end
/-! ### the readings -/
def sValue : Str := "value"
/-- an exception that leaves: its class c, the value d -/
def ExcP (G : Gx) (H : Hp) (m : List Nat) (c : Str) (d : Val) (cls : Value) (dd : Option Addr) : Prop :=
  ∃ C a w, cls = .ref C ∧ G.m c = some (.ref C) ∧ dd = some a ∧ H a = some (.xd [(sValue, w)]) ∧ RV G H m d w
section
variable (G : Gx) (W : XK)
def Post {α : Type} (m : List Nat) (H : Hp) (r : R α) (C : α → List Nat → Sto → Hp → Prop) : Prop := match r with
  | .ok a S' => ∀ m' H', SR G H' m' S' → Ext m H m' H' → C a m' S' H'
  | .exc c d S' => ∀ m' H' cls dd, SR G H' m' S' → Ext m H m' H' → ExcP G H' m' c d cls dd → W cls dd H'
  | .bad => False
/-- from some state of ours, with the temporaries us -/
def Cont {α : Type} (us : List Val) (ws : List V) (f : Tau → E α) (C : α → List Nat → Sto → Hp → Prop) : L2.St → Hp → Prop := fun σ H =>
  ∃ m S τ, SR G H m S ∧ SL G H m τ σ ∧ RVL G H m us ws ∧ Post G W m H (f τ S) C
def tE (f : Tau → E Val) : TE := fun σ H Q => Cont G W [] [] f (fun x m' _ H' => ∀ v, RV G H' m' x v → Q v H') σ H
def tB (f : Tau → E Bool) : TT := fun σ H Q => Cont G W [] [] f (fun b _ _ H' => Q b H') σ H
def tA (f : Tau → E (List Val)) : TA := fun σ H Q => Cont G W [] [] f (fun xs m' _ H' => ∀ vs, RVL G H' m' xs vs → Q vs H') σ H
end
section
variable {G : Gx} {W : XK} {H H' H1 : Hp} {m m' m1 : List Nat} {S S' S1 : Sto} {σ : L2.St} {α β : Type}
theorem Post.step {r : R α} {C : α → List Nat → Sto → Hp → Prop} (e : Ext m H m1 H1) (h : Post G W m H r C) : Post G W m1 H1 r C := by
  cases r with
  | bad => exact h
  | exc c d S' => exact fun m' H' cls dd s e' x => h m' H' cls dd s (e.trans e') x
  | ok a S' => exact fun m' H' s e' => h m' H' s (e.trans e')
theorem Post.mono {r : R α} {C C' : α → List Nat → Sto → Hp → Prop} (k : ∀ a m' S' H', Ext m H m' H' → SR G H' m' S' → C a m' S' H' → C' a m' S' H') (h : Post G W m H r C) : Post G W m H r C' := by
  cases r with
  | bad => exact h
  | exc c d S' => exact h
  | ok a S' => exact fun m' H' s e' => k _ _ _ _ e' s (h m' H' s e')
theorem Post.bind {f : E α} {g : α → E β} {C : β → List Nat → Sto → Hp → Prop} (h : Post G W m H (f.bind g S) C) :
    Post G W m H (f S) fun a m1 S1 H1 => Ext m H m1 H1 ∧ SR G H1 m1 S1 ∧ Post G W m1 H1 (g a S1) C := by
  unfold E.bind at h
  cases e : f S with
  | bad => rw [e] at h; exact h
  | exc c d S' => rw [e] at h; exact h
  | ok a S' => rw [e] at h; exact fun m' H' s e' => ⟨e', s, h.step e'⟩
theorem Post.pure {a : α} {C : α → List Nat → Sto → Hp → Prop} (s : SR G H m S) (h : Post G W m H (E.pure a S) C) : C a m S H := h m H s (Ext.ref m H)
/-- a value, then the rest -/
theorem Cont.bindV {us : List Val} {ws : List V} {f : Tau → E Val} {g : Tau → Val → E β} {C : β → List Nat → Sto → Hp → Prop} (h : Cont G W us ws (fun τ => (f τ).bind (g τ)) C σ H) :
    tE G W f σ H fun v H1 => ∃ x, Cont G W (us ++ [x]) (ws ++ [v]) (fun τ => g τ x) C σ H1 := by
  obtain ⟨m, S, τ, s, sl, r, p⟩ := h
  refine ⟨m, S, τ, s, sl, .nil, p.bind.mono fun x m1 S1 H1 _ _ q v rv => ?_⟩
  obtain ⟨e, s1, p1⟩ := q
  exact ⟨x, m1, S1, τ, s1, sl.mono e, (r.mono e.ky e.sub).append (.one rv), p1⟩
theorem Cont.bindB {us : List Val} {ws : List V} {f : Tau → E Bool} {g : Tau → Bool → E β} {C : β → List Nat → Sto → Hp → Prop} (h : Cont G W us ws (fun τ => (f τ).bind (g τ)) C σ H) :
    tB G W f σ H fun b H1 => Cont G W us ws (fun τ => g τ b) C σ H1 := by
  obtain ⟨m, S, τ, s, sl, r, p⟩ := h
  refine ⟨m, S, τ, s, sl, .nil, p.bind.mono fun b m1 S1 H1 _ _ q => ?_⟩
  obtain ⟨e, s1, p1⟩ := q
  exact ⟨m1, S1, τ, s1, sl.mono e, r.mono e.ky e.sub, p1⟩
theorem Cont.bindA {us : List Val} {ws : List V} {f : Tau → E (List Val)} {g : Tau → List Val → E β} {C : β → List Nat → Sto → Hp → Prop} (h : Cont G W us ws (fun τ => (f τ).bind (g τ)) C σ H) :
    tA G W f σ H fun vs H1 => ∃ xs, Cont G W (us ++ xs) (ws ++ vs) (fun τ => g τ xs) C σ H1 := by
  obtain ⟨m, S, τ, s, sl, r, p⟩ := h
  refine ⟨m, S, τ, s, sl, .nil, p.bind.mono fun x m1 S1 H1 _ _ q v rv => ?_⟩
  obtain ⟨e, s1, p1⟩ := q
  exact ⟨x, m1, S1, τ, s1, sl.mono e, (r.mono e.ky e.sub).append rv, p1⟩
theorem Cont.mono {us : List Val} {ws : List V} {f : Tau → E α} {C C' : α → List Nat → Sto → Hp → Prop} (k : ∀ a m' S' H', C a m' S' H' → C' a m' S' H') (h : Cont G W us ws f C σ H) : Cont G W us ws f C' σ H := by
  obtain ⟨m, S, τ, s, sl, r, p⟩ := h
  exact ⟨m, S, τ, s, sl, r, p.mono fun _ _ _ _ _ _ q => k _ _ _ _ q⟩
theorem tE.mono {f : Tau → E Val} {Q Q' : VK} (k : ∀ v H, Q v H → Q' v H) (h : tE G W f σ H Q) : tE G W f σ H Q' := Cont.mono (fun _ _ _ _ q v r => k _ _ (q v r)) h
theorem tB.mono {f : Tau → E Bool} {Q Q' : Bool → Hp → Prop} (k : ∀ v H, Q v H → Q' v H) (h : tB G W f σ H Q) : tB G W f σ H Q' := Cont.mono (fun _ _ _ _ q => k _ _ q) h
theorem tA.mono {f : Tau → E (List Val)} {Q Q' : List V → Hp → Prop} (k : ∀ v H, Q v H → Q' v H) (h : tA G W f σ H Q) : tA G W f σ H Q' := Cont.mono (fun _ _ _ _ q v r => k _ _ (q v r)) h
end
end TQ
/-! TQ3: operators, comparisons, truth. -/
namespace TQ
open PySem L2 PyProof.Rows
section
variable {G : Gx} {W : XK} {H H' : Hp} {m m' : List Nat} {S S' : Sto} {Q : VK}
abbrev CQ (G : Gx) (Q : VK) : Val → List Nat → Sto → Hp → Prop := fun x m' _ H' => ∀ v, RV G H' m' x v → Q v H'
theorem ok_val {x : Val} {v : V} (s : SR G H m S) (p : Post G W m H (.ok x S) (CQ G Q)) (r : RV G H m x v) : Q v H := p m H s (Ext.ref m H) v r
theorem ok_int {i : Int} (s : SR G H m S) (p : Post G W m H (oki i S) (CQ G Q)) : Q (.int i) H := ok_val s p .int
theorem ok_bl {b : Bool} (s : SR G H m S) (p : Post G W m H (okb b S) (CQ G Q)) : Q (.bl b) H := ok_val s p .bl
theorem ok_alloc {xs : List Val} {vs : List V} (s : SR G H m S) (r : RVL G H m xs vs) (p : Post G W m H (alloc xs S) (CQ G Q)) : vs.length ≤ sizeLine ∧ ∀ p, H p = none → Q (.ref p) (upd H p (.lst vs)) := by
  unfold alloc at p
  split at p
  · rename_i hz
    refine ⟨by rw [r.length]; simpa [lineOk] using hz, fun a ha => ?_⟩
    obtain ⟨s', e', rv⟩ := s.alloc ha r
    exact p _ _ s' e' _ rv
  · exact p.elim
theorem ok_tup {xs : List Val} {vs : List V} (s : SR G H m S) (r : RVL G H m xs vs) (p : Post G W m H (mkTup xs S) (CQ G Q)) : vs.length ≤ sizeLine ∧ ∀ p, H p = none → Q (.ref p) (upd H p (.tup vs)) := by
  unfold mkTup at p
  split at p
  · rename_i hz
    refine ⟨by rw [r.length]; simpa [lineOk] using hz, fun a ha => ?_⟩
    have e : Ext m H m (upd H a (.tup vs)) := Ext.new ha
    exact p _ _ (s.new ha) e _ (.tup (.of upd_same) (r.mono e.ky e.sub))
  · exact p.elim
/-- a list's items -/
theorem items_of {v : Val} {x : V} {xs : List Val} (s : SR G H m S) (r : RV G H m v x) (e : itemsOf S v = some xs) : ∃ a vs, x = .ref a ∧ SqL G.K H a vs ∧ RVL G H m xs vs := by
  cases r with
  | ref h =>
    obtain ⟨ys, vs, e1, e2, r⟩ := s.get h
    simp only [itemsOf] at e
    rw [e1] at e; cases e
    exact ⟨_, vs, rfl, .of e2, r⟩
  | scr h r => simp only [itemsOf] at e; cases e; exact ⟨_, _, rfl, h.sq, r⟩
  | _ => simp [itemsOf] at e
theorem ref_of {n : Nat} {x : V} {xs : List Val} (s : SR G H m S) (r : RV G H m (.ref n) x) (e : S[n]? = some xs) : ∃ a vs, x = .ref a ∧ m[n]? = some (lA a) ∧ H a = some (.lst vs) ∧ RVL G H m xs vs := by
  cases r with
  | ref h =>
    obtain ⟨ys, vs, e1, e2, r⟩ := s.get h
    rw [e1] at e; cases e
    exact ⟨_, vs, rfl, h, e2, r⟩
theorem seq_of {v : Val} {x : V} {xs : List Val} (s : SR G H m S) (r : RV G H m v x) (e : seqOf S v = some xs) : ∃ a vs, x = .ref a ∧ (SqL G.K H a vs ∨ SqT G.K H a vs) ∧ RVL G H m xs vs := by
  cases r with
  | tup h r => simp only [seqOf] at e; cases e; exact ⟨_, _, rfl, .inr h, r⟩
  | ref h =>
    obtain ⟨ys, vs, e1, e2, r⟩ := s.get h
    simp only [seqOf] at e
    rw [e1] at e; cases e
    exact ⟨_, vs, rfl, .inl (.of e2), r⟩
  | scr h r => simp only [seqOf] at e; cases e; exact ⟨_, _, rfl, .inl h.sq, r⟩
  | _ => simp [seqOf] at e
theorem ints_of {xs : List Val} {vs : List V} {is : List Int} (r : RVL G H m xs vs) (e : intsV xs = some is) : vs = is.map V.int := by
  induction xs generalizing vs is with
  | nil => cases r; simp [intsV] at e; subst e; rfl
  | cons x xs ih =>
    cases r with
    | cons h1 h2 =>
      cases x <;> simp only [intsV, Option.map_eq_some_iff, reduceCtorEq] at e
      obtain ⟨js, e1, rfl⟩ := e
      cases h1
      simp [ih h2 e1]
theorem bools_of {xs : List Val} {vs : List V} {is : List Bool} (r : RVL G H m xs vs) (e : boolsV xs = some is) : vs = is.map V.bl := by
  induction xs generalizing vs is with
  | nil => cases r; simp [boolsV] at e; subst e; rfl
  | cons x xs ih =>
    cases r with
    | cons h1 h2 =>
      cases x <;> simp only [boolsV, Option.map_eq_some_iff, reduceCtorEq] at e
      obtain ⟨js, e1, rfl⟩ := e
      cases h1
      simp [ih h2 e1]
/-! ### data, deep -/
theorem mapO_cons {α β : Type} {f : α → Option β} {x : α} {xs : List α} {ys : List β} (h : mapO f (x :: xs) = some ys) : ∃ y r, ys = y :: r ∧ f x = some y ∧ mapO f xs = some r := by
  unfold mapO at h
  split at h
  · rename_i y r e1 e2; cases h; exact ⟨y, r, rfl, e1, e2⟩
  · cases h
theorem deep_all {n : Nat} (ih : ∀ {x : Val} {v : V} {d : D}, RV G H m x v → deepV n S x = some d → d.hasDict = false → Dp G.K H v d) :
    ∀ {xs : List Val} {vs : List V} {ds : List D}, RVL G H m xs vs → mapO (deepV n S) xs = some ds → PyData.hasDictAll ds = false → DpAll G.K H vs ds := by
  intro xs
  induction xs with
  | nil => intro vs ds r e hd; cases r; simp [mapO] at e; subst e; exact .nil
  | cons x xs ihx =>
    intro vs ds r e hd
    cases r with
    | cons h1 h2 =>
      obtain ⟨y, r, rfl, e1, e2⟩ := mapO_cons e
      have c' : y.hasDict = false ∧ PyData.hasDictAll r = false := by simpa [PyData.hasDictAll] using hd
      exact .cons (ih h1 e1 c'.1) (ihx h2 e2 c'.2)
theorem deep_dp (s : SR G H m S) : ∀ (n : Nat) {x : Val} {v : V} {d : D}, RV G H m x v → deepV n S x = some d → d.hasDict = false → Dp G.K H v d := by
  intro n
  induction n with
  | zero => intro x v d r e; simp [deepV] at e
  | succ n ih =>
    intro x v d r e hd
    cases r with
    | non => simp [deepV] at e; subst e; exact .non
    | bl => simp [deepV] at e; subst e; exact .bl _
    | int => simp [deepV] at e; subst e; exact .int _
    | str => simp [deepV] at e; subst e; exact .str _
    | tup h r =>
      simp only [deepV, Option.map_eq_some_iff] at e
      obtain ⟨ds, e1, rfl⟩ := e
      exact .tup h (deep_all ih r e1 (by simpa [PyData.hasDict] using hd))
    | ref h =>
      obtain ⟨ys, vs, e1, e2, r⟩ := s.get h
      simp only [deepV, e1, Option.map_eq_some_iff] at e
      obtain ⟨ds, e3, rfl⟩ := e
      exact .lst (.of e2) (deep_all ih r e3 (by simpa [PyData.hasDict] using hd))
    | scr h r =>
      simp only [deepV, Option.map_eq_some_iff] at e
      obtain ⟨ds, e1, rfl⟩ := e
      exact .lst h.sq (deep_all ih r e1 (by simpa [PyData.hasDict] using hd))
    | edc h => simp [deepV] at e; subst e; simp [PyData.hasDict] at hd
    | exc _ _ => simp [deepV] at e
    | fn _ => simp [deepV] at e
    | clo _ _ => simp [deepV] at e
    | dead => simp [deepV] at e
theorem dp_dp {x : Val} {v : V} {d : D} (s : SR G H m S) (r : RV G H m x v) (e : dp S x = some d) (hd : d.hasDict = false) : Dp G.K H v d := deep_dp s _ r e hd
end
mutual
theorem lay_nodict : ∀ d : D, d.canLay0 = true → d.hasDict = false
  | .none, _ => rfl
  | .bool _, _ => rfl
  | .int _, _ => rfl
  | .str _, _ => rfl
  | .list ds, h => by simpa [PyData.hasDict] using lay_nodictAll ds (by simpa [PyData.canLay0] using h)
  | .tuple ds, h => by simpa [PyData.hasDict] using lay_nodictAll ds (by simpa [PyData.canLay0] using h)
  | .dict _, h => by simp [PyData.canLay0] at h
theorem lay_nodictAll : ∀ ds : List D, PyData.canLayAll0 ds = true → PyData.hasDictAll ds = false
  | [], _ => rfl
  | d :: ds, h => by
    have c' : d.canLay0 = true ∧ PyData.canLayAll0 ds = true := by simpa [PyData.canLayAll0] using h
    simp [PyData.hasDictAll, lay_nodict d c'.1, lay_nodictAll ds c'.2]
end
theorem shaped_nodict {d : D} (h : SeqAt.shaped d = true) : d.hasDict = false := by
  unfold SeqAt.shaped at h
  simp only [Bool.and_eq_true] at h
  exact lay_nodict d h.1
/-! ### operations by values -/
def OpF (G : Gx) (W : XK) (f : Val → Val → E Val) (r : R2) : Prop := ∀ (m : List Nat) (S : Sto) (H : Hp) (x y : Val) (v w : V) (Q : VK), SR G H m S → RV G H m x v → RV G H m y w → Post G W m H (f x y S) (CQ G Q) → r v w H Q
def OpL (G : Gx) (W : XK) (f : List Val → E Val) (r : List V → Hp → VK → Prop) : Prop := ∀ (m : List Nat) (S : Sto) (H : Hp) (xs : List Val) (vs : List V) (Q : VK), SR G H m S → RVL G H m xs vs → Post G W m H (f xs S) (CQ G Q) → r vs H Q
def OpC (G : Gx) (f : Sto → Val → Val → Option Bool) (r : R2) : Prop := ∀ (m : List Nat) (S : Sto) (H : Hp) (x y : Val) (v w : V) (b : Bool) (Q : VK), SR G H m S → RV G H m x v → RV G H m y w → f S x y = some b → Q (.bl b) H → r v w H Q
section
variable {G : Gx} {W : XK}
def rAddA (K : PySem.W.Frag) : R2 := fun x y H Q => (rI0 fun i j => .int (i + j)) x y H Q ∨ (∃ i j, x = .str i ∧ y = .str j ∧ i.length + j.length ≤ sizeLine ∧ Q (.str (i ++ j)) H) ∨ rCat x y H Q ∨ rCatA K x y H Q
theorem op_addA {X : Cx} : OpR X (binaryOp .Add) (rAddA X.K) := op_add.or (op_add_str.or (op_cat.or op_catA))
theorem f_add : OpF G W (op2 .add) (rAddA G.K) := by
  intro m S H x y v w Q s rx ry p
  simp only [op2, opAdd] at p
  split at p
  · cases rx; cases ry; exact .inl ⟨_, _, rfl, rfl, ok_int s p⟩
  · split at p
    · rename_i hz
      cases rx; cases ry
      exact .inr (.inl ⟨_, _, rfl, rfl, by simpa [lineOk] using hz, ok_val s p .str⟩)
    · exact p.elim
  · split at p
    · exact p.elim
    · rename_i hz
      cases rx with
      | tup h1 r1 =>
        cases ry with
        | tup h2 r2 =>
          obtain ⟨hl, q⟩ := ok_tup s (r1.append r2) p
          rw [List.length_append] at hl
          refine .inr (.inr (.inr ⟨_, _, _, _, rfl, rfl, h1, h2, hl, fun z => ?_, fun _ z => ?_, fun _ _ => q⟩))
          · subst z; exact absurd (.inl (by rw [← r1.length]; rfl)) hz
          · subst z; exact absurd (.inr (by rw [← r2.length]; rfl)) hz
  · split at p
    · rename_i e1 e2
      obtain ⟨a, vs, rfl, _, h1, r1⟩ := ref_of s rx e1
      obtain ⟨b, ws, rfl, _, h2, r2⟩ := ref_of s ry e2
      obtain ⟨hl, q⟩ := ok_alloc s (r1.append r2) p
      rw [List.length_append] at hl
      exact .inr (.inr (.inl ⟨a, b, vs, ws, rfl, rfl, h1, h2, hl, q⟩))
    · exact p.elim
  · exact p.elim
def rMulA : R2 := fun x y H Q => (rI CMulW fun i j => .int (i * j)) x y H Q ∨ rRep x y H Q
theorem op_mulA {X : Cx} : OpR X (binaryOp .Mult) rMulA := op_mulW.or op_rep
theorem f_mul : OpF G W (op2 .mul) rMulA := by
  intro m S H x y v w Q s rx ry p
  simp only [op2, opMul] at p
  split at p
  · split at p
    · rename_i hz
      cases rx; cases ry
      exact .inl ⟨_, _, rfl, rfl, by simpa [mulOk, CMulW] using hz, ok_int s p⟩
    · exact p.elim
  · split at p
    · rename_i e1
      split at p
      · rename_i hz
        obtain ⟨a, vs, rfl, _, h1, r1⟩ := ref_of s rx e1
        cases ry
        simp only [Bool.and_eq_true, decide_eq_true_eq, lineOk, in63] at hz
        exact .inr ⟨a, _, vs, rfl, rfl, h1, hz.1.1, hz.1.2, by rw [r1.length]; exact hz.2, (ok_alloc s (r1.rep _) p).2⟩
      · exact p.elim
    · exact p.elim
  · exact p.elim
def CPowW (i j : Int) : Prop := 0 ≤ j ∧ (Builtin.Int.intBits i : Int) * j ≤ 2 ^ 27
theorem op_powW {X : Cx} : OpR X (binaryOp .Pow) (rI CPowW fun i j => .int (i ^ j.toNat)) := opI fun _ _ _ _ _ _ _ hc q => pow_int hc.1 hc.2 q
theorem op_subT {X : Cx} : OpR X (binaryOp .Sub) (rI (fun _ _ => True) fun i j => .int (i - j)) := opI fun _ _ _ _ _ _ _ _ q => sub_int q
theorem f_int2 {o : Op2} {C : Int → Int → Prop} {g : Int → Int → Int} (h1 : o ≠ .add) (h2 : o ≠ .mul) (ho : ∀ i j S (Q : VK) (m : List Nat) (H : Hp), SR G H m S → Post G W m H (opInt o i j S) (CQ G Q) → C i j ∧ Q (.int (g i j)) H) : OpF G W (op2 o) (rI C fun i j => .int (g i j)) := by
  intro m S H x y v w Q s rx ry p
  have p : Post G W m H ((match x, y with | .int i, .int j => opInt o i j | _, _ => E.bad) S) (CQ G Q) := by
    cases o <;> first | exact absurd rfl h1 | exact absurd rfl h2 | exact p
  split at p
  · cases rx; cases ry
    obtain ⟨c, q⟩ := ho _ _ S Q m H s p
    exact ⟨_, _, rfl, rfl, c, q⟩
  · exact p.elim
theorem f_sub : OpF G W (op2 .sub) (rI (fun _ _ => True) fun i j => .int (i - j)) := f_int2 (by decide) (by decide) fun _ _ _ _ _ _ s p => ⟨trivial, ok_int s p⟩
theorem f_fdiv : OpF G W (op2 .fdiv) (rI CDivW fun i j => .int (i / j)) := f_int2 (by decide) (by decide) fun i j S Q m H s p => by
  simp only [opInt] at p
  split at p
  · rename_i hz; exact ⟨by simpa [divOk, CDivW] using hz, ok_int s p⟩
  · exact p.elim
theorem f_mod : OpF G W (op2 .mod) (rI (fun _ j => 0 < j) fun i j => .int (i % j)) := f_int2 (by decide) (by decide) fun i j S Q m H s p => by
  simp only [opInt] at p
  split at p
  · rename_i hz; exact ⟨by simpa using hz, ok_int s p⟩
  · exact p.elim
theorem f_pow : OpF G W (op2 .pow) (rI CPowW fun i j => .int (i ^ j.toNat)) := f_int2 (by decide) (by decide) fun i j S Q m H s p => by
  simp only [opInt] at p
  split at p
  · rename_i hz
    have hz : 0 ≤ j ∧ (Builtin.Int.intBits i : Int) * j ≤ 2 ^ 27 := by unfold powOk at hz; exact of_decide_eq_true hz
    exact ⟨hz, ok_int s p⟩
  · exact p.elim
/-- an operator's rule -/
def opP : Op2 → Operator
  | .add => .Add | .sub => .Sub | .mul => .Mult | .fdiv => .FloorDiv | .mod => .Mod | .pow => .Pow
def opRl (K : PySem.W.Frag) : Op2 → R2
  | .add => rAddA K | .mul => rMulA
  | .sub => rI (fun _ _ => True) fun i j => .int (i - j)
  | .fdiv => rI CDivW fun i j => .int (i / j)
  | .mod => rI (fun _ j => 0 < j) fun i j => .int (i % j)
  | .pow => rI CPowW fun i j => .int (i ^ j.toNat)
theorem op_all {X : Cx} (o : Op2) : OpR X (binaryOp (opP o)) (opRl X.K o) := by
  cases o with
  | add => exact op_addA
  | sub => exact op_subT
  | mul => exact op_mulA
  | fdiv => exact op_fdivW
  | mod => exact op_mod
  | pow => exact op_powW
theorem f_all (o : Op2) : OpF G W (op2 o) (opRl G.K o) := by
  cases o with
  | add => exact f_add
  | sub => exact f_sub
  | mul => exact f_mul
  | fdiv => exact f_fdiv
  | mod => exact f_mod
  | pow => exact f_pow
/-! ### comparisons -/
def cmR (K : PySem.W.Frag) : Cm → R2
  | .eq => rEqD K
  | .ne => rNeD K
  | .lt => rI0 fun i j => .bl (decide (i < j))
  | .le => rI0 fun i j => .bl (decide (i ≤ j))
  | .gt => rI0 fun i j => .bl (decide (j < i))
  | .ge => rI0 fun i j => .bl (decide (j ≤ i))
  | .isN => fun x y H Q => y = .non ∧ Q (.bl (decide (x = .non))) H
  | .notN => fun x y H Q => y = .non ∧ Q (.bl (!decide (x = .non))) H
  | .inn => fun x y H Q => rInD K x y H Q ∨ ∃ i j, x = .str i ∧ y = .str j ∧ Q (.bl (!(Builtin.Str.occurrences j i 0 j.length 1).isEmpty)) H
  | .nin => fun x y H Q => rNotInD K x y H Q ∨ ∃ i j, x = .str i ∧ y = .str j ∧ Q (.bl (!(!(Builtin.Str.occurrences j i 0 j.length 1).isEmpty))) H
def cmP : Cm → CmpOp
  | .eq => .Eq | .ne => .NotEq | .lt => .Lt | .le => .LtE | .gt => .Gt | .ge => .GtE | .isN => .Is | .notN => .IsNot | .inn => .In | .nin => .NotIn
theorem op_cm {X : Cx} (hu : X.A.units + 65 < cLine) (o : Cm) : OpR X (compareOp (cmP o)) (cmR X.K o) := by
  cases o with
  | eq => exact op_eqD (by omega)
  | ne => exact op_neD (by omega)
  | lt => exact op_lt
  | le => exact op_le
  | gt => exact op_gt
  | ge => exact op_ge
  | isN => exact op_isN
  | notN => exact op_notN
  | inn => exact (op_inD hu).or op_in_str
  | nin => exact (op_notInD hu).or op_notin_str
theorem isNon {H : Hp} {m : List Nat} {x : Val} {v : V} (r : RV G H m x v) : decide (v = .non) = isNoneV x := by
  cases r <;> rfl
theorem c_eq : OpC G eqS (rEqD G.K) := by
  intro m S H x y v w b Q s rx ry e q
  unfold eqS at e
  split at e
  · rename_i d1 d2 e1 e2
    split at e
    · rename_i hz
      cases e
      simp only [Bool.and_eq_true] at hz
      exact ⟨d1, d2, dp_dp s rx e1 (shaped_nodict hz.1), dp_dp s ry e2 (shaped_nodict hz.2), hz.1, hz.2, q⟩
    · cases e
  · cases e
theorem c_in : OpC G inS (cmR G.K .inn) := by
  intro m S H x y v w b Q s rx ry e q
  unfold inS at e
  split at e
  · cases rx; cases ry; cases e; exact .inr ⟨_, _, rfl, rfl, q⟩
  · split at e
    · rename_i d es e1 e2
      split at e
      · rename_i hz
        cases e
        simp only [Bool.and_eq_true] at hz
        exact .inl ⟨d, es, dp_dp s rx e1 (shaped_nodict hz.1), dp_dp s ry e2 (shaped_nodict hz.2), hz.1, hz.2, q⟩
      · cases e
    · cases e
theorem c_nin : OpC G (fun S a b => (inS S a b).map not) (cmR G.K .nin) := by
  intro m S H x y v w b Q s rx ry e q
  simp only [Option.map_eq_some_iff] at e
  obtain ⟨c, e, rfl⟩ := e
  unfold inS at e
  split at e
  · cases rx; cases ry; cases e; exact .inr ⟨_, _, rfl, rfl, q⟩
  · split at e
    · rename_i d es e1 e2
      split at e
      · rename_i hz
        cases e
        simp only [Bool.and_eq_true] at hz
        exact .inl ⟨d, es, dp_dp s rx e1 (shaped_nodict hz.1), dp_dp s ry e2 (shaped_nodict hz.2), hz.1, hz.2, q⟩
      · cases e
    · cases e
theorem c_ne : OpC G (fun S a b => (eqS S a b).map not) (rNeD G.K) := by
  intro m S H x y v w b Q s rx ry e q
  simp only [Option.map_eq_some_iff] at e
  obtain ⟨c, e, rfl⟩ := e
  unfold eqS at e
  split at e
  · rename_i d1 d2 e1 e2
    split at e
    · rename_i hz
      cases e
      simp only [Bool.and_eq_true] at hz
      exact ⟨d1, d2, dp_dp s rx e1 (shaped_nodict hz.1), dp_dp s ry e2 (shaped_nodict hz.2), hz.1, hz.2, q⟩
    · cases e
  · cases e
theorem c_all (o : Cm) : OpC G (cmpS o) (cmR G.K o) := by
  intro m S H x y v w b Q s rx ry e q
  have intq : ∀ o', (match x, y with | .int i, .int j => some (cmpI o' i j) | _, _ => none) = some b → ∃ i j, v = .int i ∧ w = .int j ∧ Q (.bl (cmpI o' i j)) H := fun o' e => by
    split at e
    · cases e; cases rx; cases ry; exact ⟨_, _, rfl, rfl, q⟩
    · cases e
  cases o with
  | eq => exact c_eq m S H x y v w b Q s rx ry e q
  | ne => exact c_ne m S H x y v w b Q s rx ry e q
  | lt => exact intq .lt e
  | le => exact intq .le e
  | gt => exact intq .gt e
  | ge => exact intq .ge e
  | isN =>
    simp only [cmpS] at e
    split at e
    · cases e; cases ry; exact ⟨rfl, by rw [isNon rx]; exact q⟩
    · cases e
  | notN =>
    simp only [cmpS] at e
    split at e
    · cases e; cases ry; exact ⟨rfl, by rw [isNon rx]; exact q⟩
    · cases e
  | inn => exact c_in m S H x y v w b Q s rx ry e q
  | nin => exact c_nin m S H x y v w b Q s rx ry e q
theorem cmp2_end {o : Cm} {m : List Nat} {S : Sto} {H : Hp} {x y : Val} {v w : V} {Q : Bool → Hp → Prop} (s : SR G H m S) (rx : RV G H m x v) (ry : RV G H m y w) (p : Post G W m H (cmp2 o x y S) (fun b _ _ H' => Q b H')) : cmR G.K o v w H (fun z H' => ∃ k, z = .bl k ∧ Q k H') := by
  unfold cmp2 getO at p
  cases e : cmpS o S x y with
  | none => rw [e] at p; exact p.elim
  | some b => rw [e] at p; exact c_all o m S H x y v w b _ s rx ry e ⟨b, rfl, p m H s (Ext.ref m H)⟩
/-! ### truth -/
theorem nat_ne0 (n : Nat) : (n != 0) = ((n : Int) != 0) := by
  cases n with
  | zero => rfl
  | succ n => simp; omega
theorem tru_end {m : List Nat} {S : Sto} {H : Hp} {x : Val} {v : V} {Q : Bool → Hp → Prop} (s : SR G H m S) (r : RV G H m x v) (p : Post G W m H (truthE x S) (fun b _ _ H' => Q b H')) : ∃ k, TruV G.K v H k ∧ Q k H := by
  unfold truthE getO at p
  cases e : truthS S x with
  | none => rw [e] at p; exact p.elim
  | some b =>
    rw [e] at p
    refine ⟨b, ?_, p m H s (Ext.ref m H)⟩
    cases r with
    | non => simp only [truthS, Option.some.injEq] at e; subst e; rfl
    | bl => simp only [truthS, Option.some.injEq] at e; subst e; rfl
    | int => simp only [truthS, Option.some.injEq] at e; subst e; rfl
    | str =>
      simp only [truthS] at e
      split at e
      · rename_i hz; cases e; exact ⟨by simpa [lineOk] using hz, nat_ne0 _⟩
      · cases e
    | ref h =>
      obtain ⟨ys, vs, e1, e2, r⟩ := s.get h
      simp only [truthS, e1, Option.map_some, Option.some.injEq] at e
      subst e
      refine .inl ⟨vs, .of e2, ?_⟩
      have := r.length
      cases ys <;> cases vs <;> simp_all
    | _ => simp [truthS] at e
end
end TQ
/-! TQ4: built-in functions, items, slices, changing methods. -/
namespace TQ
open PySem L2 PyProof.Rows
section
variable {G : Gx} {W : XK}
theorem l_of (f : Str) {g : List Val → E Val} {r : List V → Hp → VK → Prop} (e : biE f = g) (h : OpL G W g r) : OpL G W (biE f) r := e ▸ h
def rLen (K : PySem.W.Frag) : List V → Hp → VK → Prop := fun xs H Q => ∃ x n, xs = [x] ∧ LenV K x H n ∧ Q (.int n) H
theorem l_len : OpL G W biLen (rLen G.K) := by
  intro m S H xs vs Q s r p
  unfold biLen at p
  split at p
  · rename_i v
    obtain ⟨x, rfl, rx⟩ := r.inv1
    cases e : lenS S v with
    | none => rw [e] at p; exact p.elim
    | some n =>
      rw [e] at p
      refine ⟨x, n, rfl, ?_, ok_int s p⟩
      cases rx with
      | str =>
        simp only [lenS] at e
        split at e
        · rename_i hz; cases e; exact ⟨by simpa [lineOk] using hz, rfl⟩
        · cases e
      | tup h r1 => simp only [lenS, Option.some.injEq] at e; exact .inr ⟨_, h, by rw [r1.length]; exact e.symm⟩
      | ref h =>
        simp only [lenS, Option.map_eq_some_iff] at e
        obtain ⟨ys, e1, rfl⟩ := e
        obtain ⟨a, ws, e2, h1, r1⟩ := items_of s (.ref h) e1
        cases e2
        exact .inl ⟨ws, h1, r1.length.symm⟩
      | scr h r1 =>
        simp only [lenS, itemsOf, Option.map_some, Option.some.injEq] at e
        exact .inl ⟨_, h.sq, by rw [r1.length]; exact e.symm⟩
      | _ => simp [lenS, itemsOf] at e
  · exact p.elim
def rAbs : List V → Hp → VK → Prop := fun xs H Q => ∃ i, xs = [.int i] ∧ Q (.int (if i < 0 then -i else i)) H
theorem l_abs : OpL G W biAbs rAbs := by
  intro m S H xs vs Q s r p
  unfold biAbs at p
  split at p
  · obtain ⟨x, rfl, rx⟩ := r.inv1
    cases rx
    exact ⟨_, rfl, ok_int s p⟩
  · exact p.elim
def rInt1 : List V → Hp → VK → Prop := fun xs H Q => (∃ i, xs = [.int i] ∧ Q (.int i) H) ∨ ∃ k, xs = [.bl k] ∧ Q (.int (if k then 1 else 0)) H
theorem l_int : OpL G W biInt rInt1 := by
  intro m S H xs vs Q s r p
  unfold biInt at p
  split at p
  · obtain ⟨x, rfl, rx⟩ := r.inv1
    cases rx
    exact .inl ⟨_, rfl, ok_int s p⟩
  · obtain ⟨x, rfl, rx⟩ := r.inv1
    cases rx
    exact .inr ⟨_, rfl, ok_int s p⟩
  · exact p.elim
def rMax2 : List V → Hp → VK → Prop := fun xs H Q => ∃ i j, xs = [.int i, .int j] ∧ Q (.int (if j > i then j else i)) H
theorem gtL_is : ∀ (is : List Int) (i m : Int), m ∈ i :: is → (∀ y, y ∈ i :: is → y ≤ m) → m = gtL is i
  | [], i, m, h, _ => by simpa [gtL] using h
  | j :: is, i, m, h, k => by
    have e : gtL (j :: is) i = gtL is (if j > i then j else i) := rfl
    rw [e]
    refine gtL_is is _ m ?_ fun y hy => ?_
    · have k1 := k i (by simp)
      have k2 := k j (by simp)
      simp only [List.mem_cons] at h ⊢
      rcases h with h | h | h
      · left; split <;> omega
      · left; split <;> omega
      · exact .inr h
    · simp only [List.mem_cons] at hy
      rcases hy with hy | hy
      · subst hy; split
        · exact k j (by simp)
        · exact k i (by simp)
      · exact k y (by simp [hy])
theorem lsL_is : ∀ (is : List Int) (i m : Int), m ∈ i :: is → (∀ y, y ∈ i :: is → m ≤ y) → m = lsL is i
  | [], i, m, h, _ => by simpa [lsL] using h
  | j :: is, i, m, h, k => by
    have e : lsL (j :: is) i = lsL is (if j < i then j else i) := rfl
    rw [e]
    refine lsL_is is _ m ?_ fun y hy => ?_
    · have k1 := k i (by simp)
      have k2 := k j (by simp)
      simp only [List.mem_cons] at h ⊢
      rcases h with h | h | h
      · left; split <;> omega
      · left; split <;> omega
      · exact .inr h
    · simp only [List.mem_cons] at hy
      rcases hy with hy | hy
      · subst hy; split
        · exact k j (by simp)
        · exact k i (by simp)
      · exact k y (by simp [hy])
def rMaxA (K : PySem.W.Frag) : List V → Hp → VK → Prop := fun xs H Q => rMax2 xs H Q ∨ rMax K xs H Q
theorem l_max : OpL G W biMax (rMaxA G.K) := by
  intro m S H xs vs Q s r p
  unfold biMax at p
  split at p
  · obtain ⟨x, y, rfl, rx, ry⟩ := r.inv2
    cases rx; cases ry
    exact .inl ⟨_, _, rfl, ok_int s p⟩
  · obtain ⟨x, rfl, rx⟩ := r.inv1
    dsimp only at p
    split at p
    · rename_i i is e
      obtain ⟨ys, e1, e2⟩ := Option.bind_eq_some_iff.mp e
      obtain ⟨a, ws, rfl, h1, r1⟩ := items_of s rx e1
      have := ints_of r1 e2
      subst this
      refine .inr ⟨a, i :: is, rfl, h1, by simp, fun m hm hk => ?_⟩
      rw [gtL_is is i m hm hk]
      exact ok_int s p
    · exact p.elim
  · exact p.elim
def rMin2 : List V → Hp → VK → Prop := fun xs H Q => ∃ i j, xs = [.int i, .int j] ∧ Q (.int (if j < i then j else i)) H
def rMinA (K : PySem.W.Frag) : List V → Hp → VK → Prop := fun xs H Q => rMin2 xs H Q ∨ rMin K xs H Q
theorem l_min : OpL G W biMin (rMinA G.K) := by
  intro m S H xs vs Q s r p
  unfold biMin at p
  split at p
  · obtain ⟨x, y, rfl, rx, ry⟩ := r.inv2
    cases rx; cases ry
    exact .inl ⟨_, _, rfl, ok_int s p⟩
  · obtain ⟨x, rfl, rx⟩ := r.inv1
    dsimp only at p
    split at p
    · rename_i i is e
      obtain ⟨ys, e1, e2⟩ := Option.bind_eq_some_iff.mp e
      obtain ⟨a, ws, rfl, h1, r1⟩ := items_of s rx e1
      have := ints_of r1 e2
      subst this
      refine .inr ⟨a, i :: is, rfl, h1, by simp, fun m hm hk => ?_⟩
      rw [lsL_is is i m hm hk]
      exact ok_int s p
    · exact p.elim
  · exact p.elim
theorem l_sum : OpL G W biSum (rSum G.K) := by
  intro m S H xs vs Q s r p
  unfold biSum at p
  split at p
  · obtain ⟨x, rfl, rx⟩ := r.inv1
    split at p
    · rename_i is e
      obtain ⟨ys, e1, e2⟩ := Option.bind_eq_some_iff.mp e
      obtain ⟨a, ws, rfl, h1, r1⟩ := items_of s rx e1
      have := ints_of r1 e2
      subst this
      exact ⟨a, is, rfl, h1, ok_int s p⟩
    · exact p.elim
  · exact p.elim
theorem l_all : OpL G W biAll (rAll G.K) := by
  intro m S H xs vs Q s r p
  unfold biAll at p
  split at p
  · obtain ⟨x, rfl, rx⟩ := r.inv1
    split at p
    · rename_i is e
      obtain ⟨ys, e1, e2⟩ := Option.bind_eq_some_iff.mp e
      obtain ⟨a, ws, rfl, h1, r1⟩ := items_of s rx e1
      have := bools_of r1 e2
      subst this
      exact ⟨a, is, rfl, h1, ok_bl s p⟩
    · exact p.elim
  · exact p.elim
theorem l_any : OpL G W biAny (rAny G.K) := by
  intro m S H xs vs Q s r p
  unfold biAny at p
  split at p
  · obtain ⟨x, rfl, rx⟩ := r.inv1
    split at p
    · rename_i is e
      obtain ⟨ys, e1, e2⟩ := Option.bind_eq_some_iff.mp e
      obtain ⟨a, ws, rfl, h1, r1⟩ := items_of s rx e1
      have := bools_of r1 e2
      subst this
      exact ⟨a, is, rfl, h1, ok_bl s p⟩
    · exact p.elim
  · exact p.elim
def rListOf (K : PySem.W.Frag) : List V → Hp → VK → Prop := fun xs H Q => ∃ p ys, xs = [.ref p] ∧ (SqL K H p ys ∨ SqT K H p ys) ∧ ∀ l, H l = none → Q (.ref l) (upd H l (.lst ys))
theorem l_list : OpL G W biList (rListOf G.K) := by
  intro m S H xs vs Q s r p
  unfold biList at p
  split at p
  · obtain ⟨x, rfl, rx⟩ := r.inv1
    split at p
    · rename_i ys e
      obtain ⟨a, ws, rfl, h1, r1⟩ := seq_of s rx e
      exact ⟨a, ws, rfl, h1, (ok_alloc s r1 p).2⟩
    · exact p.elim
  · exact p.elim
def rTupleOf (K : PySem.W.Frag) : List V → Hp → VK → Prop := fun xs H Q => ∃ p ys, xs = [.ref p] ∧ ((SqL K H p ys ∧ ∀ l, H l = none → Q (.ref l) (upd H l (.tup ys))) ∨ (SqT K H p ys ∧ Q (.ref p) H))
theorem l_tuple : OpL G W biTuple (rTupleOf G.K) := by
  intro m S H xs vs Q s r p
  unfold biTuple at p
  split at p
  · obtain ⟨x, rfl, rx⟩ := r.inv1
    cases rx with
    | tup h r1 => exact ⟨_, _, rfl, .inr ⟨h, ok_val s p (.tup h r1)⟩⟩
  · obtain ⟨x, rfl, rx⟩ := r.inv1
    split at p
    · rename_i ys e
      obtain ⟨a, ws, rfl, h1, r1⟩ := items_of s rx e
      exact ⟨a, ws, rfl, .inl ⟨h1, (ok_tup s r1 p).2⟩⟩
    · exact p.elim
  · exact p.elim
/-- data as the library reads it -/
inductive DpE (K : PySem.W.Frag) (H : Hp) : V → D → Prop where
  | dp {v : V} {d : D} : Dp K H v d → d.hasDict = false → DpE K H v d
  | emp {a : Addr} : H a = some (.dK []) → DpE K H (.ref a) (.dict [])
def rRepr (K : PySem.W.Frag) : List V → Hp → VK → Prop := fun xs H Q => ∃ x d, xs = [x] ∧ DpE K H x d ∧ d.showable = true ∧ d.shown.length ≤ sizeLine ∧ d.depth ≤ 60 ∧ Q (.str d.shown) H
theorem dp_emp {S : Sto} {x : Val} (e : dp S x = some (.dict [])) : x = .edc := by
  unfold dp at e
  cases x with
  | edc => rfl
  | ref n => simp only [deepV] at e; split at e <;> simp at e
  | _ => simp [deepV] at e
theorem l_repr : OpL G W biRepr (rRepr G.K) := by
  intro m S H xs vs Q s r p
  unfold biRepr at p
  split at p
  · rename_i v
    obtain ⟨x, rfl, rx⟩ := r.inv1
    split at p
    · rename_i d e
      split at p
      · rename_i hz
        simp only [Bool.and_eq_true, Bool.or_eq_true, Bool.not_eq_true', decide_eq_true_eq, lineOk] at hz
        obtain ⟨⟨⟨h1, h2⟩, h3⟩, h4⟩ := hz
        refine ⟨x, d, rfl, ?_, h1, h2, h3, ok_val s p .str⟩
        rcases h4 with h4 | h4
        · exact .dp (dp_dp s rx e h4) h4
        · unfold isEmpD at h4
          split at h4
          · have := dp_emp e
            subst this
            cases rx with
            | edc h => exact .emp h
          · cases h4
      · exact p.elim
    · exact p.elim
  · exact p.elim
/-! ### items, slices -/
theorem atI_rel {H : Hp} {m : List Nat} {xs : List Val} {vs : List V} {k : Int} {x : Val} (r : RVL G H m xs vs) (e : L2.atI xs k = some x) : ∃ v, L2.atI vs k = some v ∧ RV G H m x v := by
  unfold L2.atI at e ⊢
  rw [r.length]
  cases q : ixN xs.length k with
  | none => rw [q] at e; cases e
  | some j =>
    rw [q] at e
    exact r.get e
theorem f_ix : OpF G W ixE (rIx G.K) := by
  intro m S H x y v w Q s rx ry p
  unfold ixE at p
  split at p
  · cases ry
    split at p
    · rename_i xs e
      obtain ⟨a, vs, rfl, h, r⟩ := seq_of s rx e
      unfold getO at p
      split at p
      · rename_i z ez
        obtain ⟨u, e2, ru⟩ := atI_rel r ez
        have q := ok_val s p ru
        rcases h with h | h
        · exact .inl ⟨a, vs, _, u, rfl, rfl, h, e2, q⟩
        · exact .inr (.inl ⟨a, vs, _, u, rfl, rfl, h, e2, q⟩)
      · exact p.elim
    · split at p
      · split at p
        · rename_i hz
          split at p
          · rename_i c ec
            cases rx
            exact .inr (.inr ⟨_, _, c, rfl, rfl, by simpa [lineOk] using hz, ec, ok_val s p .str⟩)
          · exact p.elim
        · exact p.elim
      · exact p.elim
  · exact p.elim
theorem cut_rel {H : Hp} {m : List Nat} {xs : List Val} {vs : List V} {lo hi : Option Int} (r : RVL G H m xs vs) : RVL G H m (cutL xs lo hi) (cutV vs lo hi) := by
  unfold cutL cutV
  rw [r.length]
  exact (r.drop _).take _
def rSlA (K : PySem.W.Frag) : V → Option Int → Option Int → Hp → VK → Prop := fun x lo hi H Q => rSlL K x lo hi H Q ∨ rSlT K x lo hi H Q
theorem sl_all {X : Cx} : SlR X (rSlA X.K) := sl_list.or sl_tup
theorem f_sl {m : List Nat} {S : Sto} {H : Hp} {x : Val} {v : V} {lo hi : Option Int} {Q : VK} (s : SR G H m S) (rx : RV G H m x v) (p : Post G W m H (slE x lo hi S) (CQ G Q)) : rSlA G.K v lo hi H Q := by
  unfold slE at p
  split at p
  · rename_i xs e
    obtain ⟨a, vs, rfl, h, r⟩ := items_of s rx e
    exact .inl ⟨a, vs, rfl, h, (ok_alloc s (cut_rel r) p).2⟩
  · split at p
    · split at p
      · exact p.elim
      · rename_i hz
        cases rx with
        | tup h r =>
          refine .inr ⟨_, _, rfl, h, by rw [r.length]; exact hz, fun a ha => ?_⟩
          rename_i vs
          have e : Ext m H m (upd H a (.tup (cutV vs lo hi))) := Ext.new ha
          exact p _ _ (s.new ha) e _ (.tup (.of upd_same) ((cut_rel r).mono e.ky e.sub))
    · exact p.elim
/-! ### methods -/
def OpM (G : Gx) (W : XK) (f : Val → List Val → E Val) (r : V → List V → Hp → VK → Prop) : Prop := ∀ (m : List Nat) (S : Sto) (H : Hp) (o : Val) (xs : List Val) (v : V) (vs : List V) (Q : VK), SR G H m S → RV G H m o v → RVL G H m xs vs → Post G W m H (f o xs S) (CQ G Q) → r v vs H Q
theorem m_append : OpM G W mAppend rAppend := by
  intro m S H o xs v vs Q s ro r p
  unfold mAppend at p
  split at p
  · rename_i n z
    obtain ⟨y, rfl, ry⟩ := r.inv1
    split at p
    · rename_i us e
      split at p
      · rename_i hz
        obtain ⟨a, ws, rfl, ha, hl, r1⟩ := ref_of s ro e
        refine ⟨a, ws, y, rfl, rfl, hl, by rw [r1.length]; exact hz, ?_⟩
        obtain ⟨s', e'⟩ := s.put ha hl (r1.append (.one ry))
        exact p _ _ s' e' _ .non
      · exact p.elim
    · exact p.elim
  · exact p.elim
theorem m_pop {m : List Nat} {S : Sto} {H : Hp} {o : Val} {v : V} {Q : VK} (s : SR G H m S) (ro : RV G H m o v) (p : Post G W m H (mPop o [] S) (CQ G Q)) : rPop v [] H Q := by
  unfold mPop at p
  split at p
  · rename_i n _
    split at p
    · rename_i us e
      split at p
      · rename_i x ex
        obtain ⟨a, ws, rfl, ha, hl, r1⟩ := ref_of s ro e
        obtain ⟨y, ey, ry⟩ := r1.get ex
        refine ⟨a, ws, y, rfl, rfl, hl, by rw [r1.length]; exact ey, ?_⟩
        obtain ⟨s', e'⟩ := s.put ha hl r1.dropLast
        exact p _ _ s' e' _ (ry.mono e'.ky e'.sub)
      · exact p.elim
    · exact p.elim
  · exact p.elim
theorem m_popAt : OpM G W mPopAt rPopAt := by
  intro m S H o xs v vs Q s ro r p
  unfold mPopAt at p
  split at p
  · rename_i n k
    obtain ⟨w, rfl, rz⟩ := r.inv1
    cases rz
    split at p
    · rename_i us e
      split at p
      · exact p.elim
      · rename_i h0
        split at p
        · rename_i x ex
          obtain ⟨a, ws, rfl, ha, hl, r1⟩ := ref_of s ro e
          obtain ⟨y, ey, ry⟩ := r1.get ex
          have hj := (List.getElem?_eq_some_iff.mp ex).1
          have hz : us.length ≤ sizeLine := by
            have : lineOk us.length = true := by
              cases q : lineOk us.length with
              | true => rfl
              | false => exact absurd (.inr q) h0
            simpa [lineOk] using this
          have h0' : ¬ k < 0 := fun z => h0 (.inl z)
          have h63 : sizeLine < 2 ^ 63 := by decide
          have hlen := r1.length
          refine ⟨a, ws, k, k.toNat, y, rfl, rfl, hl, by omega, by omega, by rw [seqIndex_of (by omega) (by omega)], ey, ?_⟩
          obtain ⟨s', e'⟩ := s.put ha hl (r1.eraseIdx k.toNat)
          exact p _ _ s' e' _ (ry.mono e'.ky e'.sub)
        · exact p.elim
    · exact p.elim
  · exact p.elim
theorem f_set {m : List Nat} {S : Sto} {H : Hp} {o j z : Val} {v i w : V} {C : Unit → List Nat → Sto → Hp → Prop} (s : SR G H m S) (ro : RV G H m o v) (rj : RV G H m j i) (rz : RV G H m z w) (p : Post G W m H (setE o j z S) C) : rSetL v i w H (fun H' => ∃ m' S', SR G H' m' S' ∧ Ext m H m' H' ∧ C () m' S' H') := by
  unfold setE at p
  split at p
  · rename_i n k
    cases rj
    split at p
    · rename_i us e
      split at p
      · rename_i jj ej
        obtain ⟨a, ws, rfl, ha, hl, r1⟩ := ref_of s ro e
        refine ⟨a, ws, k, jj, rfl, rfl, hl, by rw [r1.length]; exact ej, ?_⟩
        obtain ⟨s', e'⟩ := s.put ha hl (r1.set jj rz)
        exact ⟨_, _, s', e', p _ _ s' e'⟩
      · exact p.elim
    · exact p.elim
  · exact p.elim
end
section
variable {X : Cx}
theorem call_reprA (hg : X.A.guards = some []) (hu : X.A.units + 65 < cLine) : CallR X (.builtin "repr") (rRepr X.K) := by
  intro pins s σ H xs us Q I r h
  obtain ⟨x, d, rfl, hd, hs, hz, hdp, q⟩ := h
  obtain ⟨u, rfl, ru⟩ := vals1 r
  have go : ∀ {as : List Addr}, Reads s.heap u d as → (d.hasDict = true → sysModules ∉ as) → wpAny (model X.prog X.w) X.A (call (.builtin "repr") [u]) (EP X pins σ Q) X.xe s := fun {as} rd hsm => by
    have fin : ∀ (h' : Heap) (tk : Nat) (tk' : Tok), (∀ b o, s.heap.get? b = some o → h'.get? b = some o) → EP X pins σ Q (.str d.shown tk') { s with heap := h', toks := tk } := fun h' tk tk' kk => ⟨.str d.shown, H, I.kept kk, ⟨_, rfl⟩, q⟩
    cases rd with
    | none => exact P.repr_of_none (fin s.heap _ _ fun _ _ e => e)
    | bool b => exact P.repr_of_bool (fin s.heap _ _ fun _ _ e => e)
    | int i t => exact P.repr_of_int (by simpa [PyData.showable] using hs) (fin s.heap _ _ fun _ _ e => e)
    | str z t => exact P.repr_of_str (fin s.heap _ _ fun _ _ e => e) hz
    | list h1 h2 h3 h4 => exact repr_of_reads' (.list h1 h2 h3 h4) hs hsm hg (by omega) (fun _ _ e => e) (fun h' u tk kk => fin h' tk u kk) hz
    | tuple h1 h2 h3 h4 => exact repr_of_reads' (.tuple h1 h2 h3 h4) hs hsm hg (by omega) (fun _ _ e => e) (fun h' u tk kk => fin h' tk u kk) hz
    | dict h1 h2 h3 h4 h5 => exact repr_of_reads' (.dict h1 h2 h3 h4 h5) hs hsm hg (by omega) (fun _ _ e => e) (fun h' u tk kk => fin h' tk u kk) hz
  cases hd with
  | dp hd hn =>
    obtain ⟨as, rd⟩ := Dp.reads I d x u hd ru
    exact go rd fun z => by rw [hn] at z; cases z
  | emp ha =>
    cases (show u = Value.ref _ from ru)
    obtain ⟨_, hsys, vs, kv, hdct⟩ := I.hok _ _ ha
    cases kv
    obtain ⟨o, es, ep, h1, h2, h3, h4⟩ := hdct
    have he : es = #[] := by
      have : es.toList = [] := by
        have z := h4.2.1
        cases q : es.toList with
        | nil => rfl
        | cons a b => rw [q] at z; cases z
      exact Array.toList_eq_nil_iff.mp this
    subst he
    refine go (Reads.dict (kvs := []) (as := []) (bs := []) h1 h2.1 h3 (by simpa using ReadsAll.nil) (by simpa using ReadsAll.nil)) fun _ hm => ?_
    simp at hm
    rw [← hm] at hsys
    simp at hsys
end
end TQ
/-! TQ4b: sorted, list(range(..)), xs[::-1], index, count. -/
namespace TQ
open PySem L2 PyProof.Rows
/-! ### sorted -/
def rSortD (K : PySem.W.Frag) : List V → Hp → VK → Prop := fun xs H Q => ∃ (a : Addr) (bs : List (V × D)), xs = [.ref a] ∧ SqL K H a (bs.map Prod.fst) ∧ (∀ b ∈ bs, Dp K H b.1 b.2) ∧ PySem.W.AllAlike (bs.map Prod.snd) ∧ PySem.W.Sortable (bs.map Prod.snd) ∧ (∀ b ∈ bs, b.2.depth ≤ 60) ∧
  ∀ p, H p = none → Q (.ref p) (upd H p (.lst ((bs.mergeSort (PySem.W.dataLe false Prod.snd)).map Prod.fst)))
theorem each_vals : ∀ {us : List Value} {bs : List (V × D)}, PySem.W.EachIs (fun u (b : V × D) => RelV b.1 u) us bs → Vals (bs.map Prod.fst) us
  | _, _, .nil => .nil
  | _, _, .cons h t => .cons h (each_vals t)
theorem vals_each : ∀ {us : List Value} {bs : List (V × D)}, Vals (bs.map Prod.fst) us → PySem.W.EachIs (fun u (b : V × D) => RelV b.1 u) us bs
  | _, [], h => by cases h; exact .nil
  | _, _ :: _, .cons h t => .cons h (vals_each t)
theorem each_reads {X : Cx} {pins : List (Addr × Obj)} {σ : L2.St} {H : Hp} {s : Shared} (I : Inv X pins σ H s) : ∀ {us : List Value} {bs : List (V × D)}, Vals (bs.map Prod.fst) us → (∀ b ∈ bs, Dp X.K H b.1 b.2) → PySem.W.EachIs (fun u (b : V × D) => ∃ as, Reads s.heap u b.2 as) us bs
  | _, [], h, _ => by cases h; exact .nil
  | _, b :: bs, .cons h t, k => .cons (Dp.reads I b.2 b.1 _ (k b (by simp)) h) (each_reads I t fun c hc => k c (List.mem_cons_of_mem _ hc))
theorem cr_sortD {X : Cx} (hu : X.A.units + 65 < cLine) : CallR X (.builtin "sorted") (rSortD X.K) := by
  intro pins s σ H vs us Q I r h
  obtain ⟨a, bs, rfl, hs, hd, hal, hk, hdp, q⟩ := h
  obtain ⟨its, rv, hl, hz⟩ := I.list hs
  rw [Vals.ref1 r]
  have hlen : bs.length ≤ sizeLine := by rw [List.length_map] at hz; exact hz
  refine PySem.W.sorted_data (enc := Prod.snd) (bs := bs) (R := fun u (b : V × D) => RelV b.1 u) hl.isList (by simpa using vals_each rv) (by simpa using each_reads I rv hd) hal hk hlen (fun b hb => by have := hdp b hb; omega) fun out ho he => ?_
  obtain ⟨ep, he'⟩ := PyProof.Rows.sortedAll_at s.heap its out.toArray
  have hv := each_vals he
  refine ⟨.ref _, upd H (s.heap.objs.size + 1) (.lst ((bs.mergeSort (PySem.W.dataLe false Prod.snd)).map Prod.fst)), I.laid (t' := s.toks) (fun _ _ => PyProof.Rows.sortedAll_old) (Nat.le_succ _) ⟨?_, out, ep, hv, he'⟩, rfl, q _ (I.hok.fresh (Nat.le_succ _))⟩
  rw [List.length_map, List.length_mergeSort]
  exact hlen
section
variable {G : Gx} {W : XK}
theorem mapO_len {α β : Type} {f : α → Option β} : ∀ {xs : List α} {ys : List β}, mapO f xs = some ys → ys.length = xs.length
  | [], _, h => by simp [mapO] at h; subst h; rfl
  | x :: xs, ys, h => by
    simp only [mapO] at h
    split at h
    · rename_i y zs e1 e2
      cases h
      simp [mapO_len e2]
    · cases h
/-- the three lists as one -/
theorem trip {H : Hp} {m : List Nat} {S : Sto} (s : SR G H m S) : ∀ {xs : List Val} {vs : List V} {ds : List D}, RVL G H m xs vs → mapO (dp S) xs = some ds → (∀ d ∈ ds, d.hasDict = false) →
    ∃ L : List (Val × V × D), L.map (fun t => (t.1, t.2.2)) = xs.zip ds ∧ L.map (fun t => t.2.1) = vs ∧ L.map (fun t => t.2.2) = ds ∧ ∀ t ∈ L, RV G H m t.1 t.2.1 ∧ Dp G.K H t.2.1 t.2.2
  | [], vs, ds, r, h, _ => by
    simp [mapO] at h; subst h
    cases r
    exact ⟨[], rfl, rfl, rfl, by simp⟩
  | x :: xs, vs, ds, r, h, hd => by
    simp only [mapO] at h
    split at h
    · rename_i d es e1 e2
      cases h
      cases r with
      | cons r1 r2 =>
        obtain ⟨L, h1, h2, h3, h4⟩ := trip s r2 e2 fun d hd' => hd d (List.mem_cons_of_mem _ hd')
        refine ⟨(x, _, d) :: L, by simp [h1], by rw [List.map_cons, h2], by simp [h3], fun t ht => ?_⟩
        rcases List.mem_cons.mp ht with rfl | ht
        · exact ⟨r1, dp_dp s r1 e1 (hd d (by simp))⟩
        · exact h4 t ht
    · cases h
theorem rvl_map {α : Type} {H : Hp} {m : List Nat} {f : α → Val} {g : α → V} : ∀ {L : List α}, (∀ t ∈ L, RV G H m (f t) (g t)) → RVL G H m (L.map f) (L.map g)
  | [], _ => .nil
  | a :: L, h => .cons (h a (by simp)) (rvl_map fun t ht => h t (List.mem_cons_of_mem _ ht))
theorem sort_ok {ds : List D} (h : sortOk ds = true) : PySem.W.AllAlike ds ∧ PySem.W.Sortable ds ∧ (∀ d ∈ ds, d.hasDict = false) ∧ ∀ d ∈ ds, d.depth ≤ 60 := by
  unfold sortOk at h
  simp only [Bool.and_eq_true, List.all_eq_true, Bool.or_eq_true, Bool.not_eq_true', decide_eq_true_eq] at h
  obtain ⟨⟨h1, h2⟩, h3⟩ := h
  refine ⟨fun d hd e he => h1 d hd e he, ?_, fun d hd => (h3 d hd).1, fun d hd => (h3 d hd).2⟩
  rcases h2 with h2 | h2
  · left
    intro d hd
    have := h2 d hd
    unfold tupNE at this
    split at this
    · exact ⟨_, _, rfl⟩
    · cases this
  · right
    intro d hd
    have := h2 d hd
    unfold notNT at this
    refine ⟨fun e => ?_, fun xs e => ?_⟩ <;> subst e <;> simp at this
theorem l_sorted : OpL G W biSorted (rSortD G.K) := by
  intro m S H xs vs Q s r p
  unfold biSorted at p
  split at p
  · obtain ⟨x, rfl, rx⟩ := r.inv1
    split at p
    · rename_i ys e
      split at p
      · rename_i ds ed
        split at p
        · rename_i ho
          obtain ⟨k1, k2, k3, k4⟩ := sort_ok ho
          obtain ⟨a, ws, rfl, h1, r1⟩ := items_of s rx e
          obtain ⟨L, e1, e2, e3, hL⟩ := trip s r1 ed k3
          have ms : ∀ t, t ∈ L.mergeSort (PySem.W.dataLe false fun t => t.2.2) → t ∈ L := fun t ht => (List.mergeSort_perm L _).mem_iff.mp ht
          have q1 : sortV ys ds = (L.mergeSort (PySem.W.dataLe false fun t => t.2.2)).map fun t => t.1 := by
            unfold sortV
            rw [← e1, ← List.map_mergeSort (r := PySem.W.dataLe false fun (t : Val × V × D) => t.2.2) (f := fun (t : Val × V × D) => (t.1, t.2.2)) (fun _ _ _ _ => rfl), List.map_map]
            rfl
          have q2 : ((L.map fun t => (t.2.1, t.2.2)).mergeSort (PySem.W.dataLe false Prod.snd)).map Prod.fst = (L.mergeSort (PySem.W.dataLe false fun t => t.2.2)).map fun t => t.2.1 := by
            rw [← List.map_mergeSort (r := PySem.W.dataLe false fun (t : Val × V × D) => t.2.2) (f := fun (t : Val × V × D) => (t.2.1, t.2.2)) (fun _ _ _ _ => rfl), List.map_map]
            rfl
          refine ⟨a, L.map fun t => (t.2.1, t.2.2), rfl, ?_, fun b hb => ?_, ?_, ?_, fun b hb => ?_, ?_⟩
          · rw [List.map_map]
            show SqL G.K H a (L.map fun t => t.2.1)
            rw [e2]; exact h1
          · obtain ⟨t, ht, rfl⟩ := List.mem_map.mp hb
            exact (hL t ht).2
          · rw [List.map_map]
            show PySem.W.AllAlike (L.map fun t => t.2.2)
            rw [e3]; exact k1
          · rw [List.map_map]
            show PySem.W.Sortable (L.map fun t => t.2.2)
            rw [e3]; exact k2
          · obtain ⟨t, ht, rfl⟩ := List.mem_map.mp hb
            exact k4 _ (by rw [← e3]; exact List.mem_map.mpr ⟨t, ht, rfl⟩)
          · rw [q2]
            rw [q1] at p
            exact (ok_alloc s (rvl_map fun t ht => (hL t (ms t ht)).1) p).2
        · exact p.elim
      · exact p.elim
    · exact p.elim
  · exact p.elim
/-! ### index, count -/
theorem first_ok {d : D} : ∀ {ds : List D} {j : Nat}, firstD d ds = some j → ∃ z, ds[j]? = some z ∧ PyData.eqv z d = true ∧ ∀ (m : Nat) (z' : D), m < j → ds[m]? = some z' → PyData.eqv z' d = false
  | [], _, h => by simp [firstD] at h
  | z :: r, j, h => by
    simp only [firstD] at h
    split at h
    · rename_i hz
      cases h
      exact ⟨z, rfl, hz, fun m z' hm => absurd hm (Nat.not_lt_zero m)⟩
    · rename_i hz
      obtain ⟨i, hi, rfl⟩ := Option.map_eq_some_iff.mp h
      obtain ⟨w, h1, h2, h3⟩ := first_ok hi
      refine ⟨w, by simpa using h1, h2, fun m z' hm e => ?_⟩
      cases m with
      | zero => simp at e; subst e; simpa using hz
      | succ m => exact h3 m z' (by omega) (by simpa using e)
theorem lst_ref {S : Sto} {H : Hp} {m : List Nat} {o : Val} {v : V} {ds : List D} (s : SR G H m S) (ro : RV G H m o v) (e : dp S o = some (.list ds)) : ∃ a, v = .ref a := by
  unfold dp at e
  cases ro with
  | ref h => exact ⟨_, rfl⟩
  | scr h _ => exact ⟨_, rfl⟩
  | tup => simp [deepV] at e
  | _ => first | exact ⟨_, rfl⟩ | simp [deepV] at e
theorem m_index : OpM G W mIndex (rIndexD G.K) := by
  intro m S H o xs v vs Q s ro r p
  unfold mIndex at p
  split at p
  · obtain ⟨y, rfl, ry⟩ := r.inv1
    split at p
    · rename_i x ds d e1 e2
      split at p
      · rename_i hz
        simp only [Bool.and_eq_true] at hz
        split at p
        · rename_i j ej
          obtain ⟨a, rfl⟩ := lst_ref s ro e1
          obtain ⟨z, h1, h2, h3⟩ := first_ok ej
          exact ⟨a, y, d, ds, j, z, rfl, rfl, dp_dp s ro e1 (shaped_nodict hz.1), dp_dp s ry e2 (shaped_nodict hz.2), hz.1, hz.2, h1, h2, h3, ok_int s p⟩
        · exact p.elim
      · exact p.elim
    · exact p.elim
  · exact p.elim
theorem m_count : OpM G W mCount (rCntI G.K) := by
  intro m S H o xs v vs Q s ro r p
  unfold mCount at p
  split at p
  · obtain ⟨y, rfl, ry⟩ := r.inv1
    cases ry
    split at p
    · rename_i is e
      obtain ⟨ys, e1, e2⟩ := Option.bind_eq_some_iff.mp e
      obtain ⟨a, ws, rfl, h1, r1⟩ := items_of s ro e1
      have := ints_of r1 e2
      subst this
      exact ⟨a, is, _, rfl, rfl, h1, ok_int s p⟩
    · exact p.elim
  · exact p.elim
end
end TQ
/-! TQ5: one rule for each expression. -/
namespace TQ
open PySem L2 PyProof.Rows
theorem PE.imp {X : Cx} {e : Expr} {t t' : TE} (h : PE X e t) (k : ∀ σ H Q, t' σ H Q → t σ H Q) : PE X e t' := ⟨fun pins s σ H Q I hw => h.run pins s σ H Q I (k _ _ _ hw)⟩
theorem PT.imp {X : Cx} {e : Expr} {t t' : TT} (h : PT X e t) (k : ∀ σ H Q, t' σ H Q → t σ H Q) : PT X e t' := ⟨fun pins s σ H Q I hw => h.run pins s σ H Q I (k _ _ _ hw)⟩
theorem PW.imp {X : Cx} {e : Expr} {t t' : TT} (h : PW X e t) (k : ∀ σ H Q, t' σ H Q → t σ H Q) : PW X e t' := ⟨fun w pins s σ H Q I hw => h.run w pins s σ H Q I (k _ _ _ hw)⟩
theorem PA.imp {X : Cx} {e : List Expr} {t t' : TA} (h : PA X e t) (k : ∀ σ H Q, t' σ H Q → t σ H Q) : PA X e t' := ⟨fun pos pins s σ H Q I hw => h.run pos pins s σ H Q I (k _ _ _ hw)⟩
section
variable {G : Gx} {W : XK} {H : Hp} {σ : L2.St} {Q : VK} {P : Pr}
theorem Cont.fin2 {x y : Val} {v w : V} {f : Val → Val → E Val} {r : R2} (ho : OpF G W f r) (h : Cont G W [x, y] [v, w] (fun _ => f x y) (CQ G Q) σ H) : r v w H Q := by
  obtain ⟨m, S, τ, s, sl, r, p⟩ := h
  obtain ⟨_, _, e, rx, ry⟩ := r.inv2
  simp only [List.cons.injEq, and_true] at e
  obtain ⟨rfl, rfl⟩ := e
  exact ho m S H x y _ _ Q s rx ry p
theorem Cont.finL {xs : List Val} {vs : List V} {f : List Val → E Val} {r : List V → Hp → VK → Prop} (ho : OpL G W f r) (h : Cont G W xs vs (fun _ => f xs) (CQ G Q) σ H) : r vs H Q := by
  obtain ⟨m, S, τ, s, sl, r, p⟩ := h
  exact ho m S H xs vs Q s r p
theorem Cont.fin1 {x : Val} {v : V} {β : Type} {f : E β} {C : β → List Nat → Sto → Hp → Prop} {R : Prop} (h : Cont G W [x] [v] (fun _ => f) C σ H) (k : ∀ m S, SR G H m S → RV G H m x v → Post G W m H (f S) C → R) : R := by
  obtain ⟨m, S, τ, s, sl, r, p⟩ := h
  obtain ⟨_, e, rx⟩ := r.inv1
  simp only [List.cons.injEq, and_true] at e
  subst e
  exact k m S s rx p
theorem t_two {ma mb : Tau → E Val} {f : Val → Val → E Val} {r : R2} (ho : OpF G W f r) (h : tE G W (fun τ => two (ma τ) (mb τ) f) σ H Q) : tOp r (tE G W ma) (tE G W mb) σ H Q := by
  refine tE.mono (fun v H1 q => ?_) (Cont.bindV (g := fun τ x => (mb τ).bind fun y => f x y) h)
  obtain ⟨x, q⟩ := q
  refine tE.mono (fun w H2 q2 => ?_) (Cont.bindV (f := mb) (g := fun τ y => f x y) q)
  obtain ⟨y, q2⟩ := q2
  exact Cont.fin2 ho q2
/-- .. and what is wanted -/
theorem t_dflt {m : Tau → E Val} {Q : Bool → Hp → Prop} (h : tB G W (fun τ => (m τ).bind truthE) σ H Q) : tE G W m σ H fun x H' => ∃ k, TruV G.K x H' k ∧ Q k H' := by
  refine tE.mono (fun v H1 q => ?_) (Cont.bindV (g := fun τ x => truthE x) h)
  obtain ⟨x, q⟩ := q
  exact Cont.fin1 q fun m S s r p => tru_end s r p
theorem t_both {m : Tau → E Bool} (h : tE G W (fun τ => (m τ).bind fun k => E.pure (.bl k)) σ H Q) : tB G W m σ H fun b H' => Q (.bl b) H' := by
  refine tB.mono (fun b H1 q => ?_) (Cont.bindB (f := m) (g := fun τ k => E.pure (Val.bl k)) h)
  obtain ⟨m, S, τ, s, sl, r, p⟩ := q
  exact ok_val s p .bl
theorem t_var {i : Nat} (h : tE G W (fun τ => rdV τ i) σ H Q) : tVar i σ H Q := by
  obtain ⟨m, S, τ, s, sl, r, p⟩ := h
  have p : Post G W m H (getO ((τ[i]?).getD none) S) (CQ G Q) := p
  unfold getO at p
  cases e : (τ[i]?).getD none with
  | none => rw [e] at p; exact p.elim
  | some x =>
    rw [e] at p
    have e' : τ[i]? = some (some x) := by
      cases q : τ[i]? with
      | none => rw [q] at e; cases e
      | some o => rw [q] at e; simp at e; rw [e]
    obtain ⟨v, q, rv⟩ := sl.at_ i x e'
    exact ⟨v, q, ok_val s p rv⟩
theorem t_pure {x : Val} {v : V} (hx : ∀ H m, RV G H m x v) (h : tE G W (fun _ => E.pure x) σ H Q) : Q v H := by
  obtain ⟨m, S, τ, s, sl, r, p⟩ := h
  exact ok_val s p (hx H m)
theorem t_nil {Q : List V → Hp → Prop} (h : tA G W (fun _ => E.pure []) σ H Q) : tNil σ H Q := by
  obtain ⟨m, S, τ, s, sl, r, p⟩ := h
  exact p m H s (Ext.ref m H) _ .nil
theorem t_cons {a : Tau → E Val} {b : Tau → E (List Val)} {Q : List V → Hp → Prop} (h : tA G W (fun τ => (a τ).bind fun v => (b τ).bind fun vs => E.pure (v :: vs)) σ H Q) : tCons (tE G W a) (tA G W b) σ H Q := by
  refine tE.mono (fun v H1 q => ?_) (Cont.bindV (g := fun τ x => (b τ).bind fun vs => E.pure (x :: vs)) h)
  obtain ⟨x, q⟩ := q
  refine tA.mono (fun vs H2 q2 => ?_) (Cont.bindA (f := b) (g := fun τ xs => E.pure (x :: xs)) q)
  obtain ⟨xs, m, S, τ, s, sl, r, p⟩ := q2
  exact p m H2 s (Ext.ref m H2) _ r
/-- arguments, then the call -/
theorem t_callL {a : Tau → E (List Val)} {f : List Val → E Val} {r : List V → Hp → VK → Prop} (ho : OpL G W f r) (h : tE G W (fun τ => (a τ).bind f) σ H Q) : tCB r (tA G W a) σ H Q := by
  refine tA.mono (fun vs H1 q => ?_) (Cont.bindA (g := fun τ xs => f xs) h)
  obtain ⟨xs, q⟩ := q
  exact Cont.finL ho (by simpa using q)
theorem l_alloc : OpL G W alloc (fun xs H Q => xs.length ≤ sizeLine ∧ ∀ p, H p = none → Q (.ref p) (upd H p (.lst xs))) := fun m S H xs vs Q s r p => ok_alloc s r p
theorem l_mkTup : OpL G W mkTup (fun xs H Q => xs.length ≤ sizeLine ∧ ∀ p, H p = none → Q (.ref p) (upd H p (.tup xs))) := fun m S H xs vs Q s r p => ok_tup s r p
end
section
variable {X : Cx} {G : Gx} {W : XK} {P : Pr} {a b c : Expr} {ea eb ec : Ex} {pos : Pos}
/-- our reading of e -/
abbrev JE (X : Cx) (G : Gx) (W : XK) (P : Pr) (x : Expr) (e : Ex) : Prop := PE X x (tE G W fun τ => ev P τ e)
abbrev JT (X : Cx) (G : Gx) (W : XK) (P : Pr) (x : Expr) (e : Ex) : Prop := PT X x (tB G W fun τ => evB P τ e)
abbrev JA (X : Cx) (G : Gx) (W : XK) (P : Pr) (x : List Expr) (e : List Ex) : Prop := PA X x (tA G W fun τ => evAs P τ e)
theorem j_var {i : Nat} {x : Str} (hN : X.N[i]? = some x) (hv : Vis X.env.scope x) (hd : (x == ("__debug__" : Str)) = false) (hcd : (x == ("__classdict__" : Str)) = false) : JE X G W P (.Name x pos) (.var i) :=
  PE.imp (pe_var hN hv hd hcd) fun _ _ _ h => t_var (by simpa only [ev, evv, dflt] using h)
theorem j_int {i : Int} {j} : JE X G W P (.Constant (.int i) j pos) (.cst (.int i)) := PE.imp pe_int fun _ _ _ h => t_pure (x := .int i) (fun _ _ => .int) (by simpa only [ev, evv, dflt, cstV] using h)
theorem j_str {i : Str} {j} : JE X G W P (.Constant (.str i) j pos) (.cst (.str i)) := PE.imp pe_str fun _ _ _ h => t_pure (x := .str i) (fun _ _ => .str) (by simpa only [ev, evv, dflt, cstV] using h)
theorem j_bl {i : Bool} {j} : JE X G W P (.Constant (.bool i) j pos) (.cst (.bl i)) := PE.imp pe_bl fun _ _ _ h => t_pure (x := .bl i) (fun _ _ => .bl) (by simpa only [ev, evv, dflt, cstV] using h)
theorem j_non {j} : JE X G W P (.Constant .none j pos) (.cst .non) := PE.imp pe_non fun _ _ _ h => t_pure (x := .non) (fun _ _ => .non) (by simpa only [ev, evv, dflt, cstV] using h)
theorem j_glb {x : Str} {v : V} {u : Value} {val : Val} (hc : P.cs x = some val) (hg : Gl X x) (hm : X.mg x = some u) (r : RelV v u) (hr : ∀ H m, RV G H m val v) (hd : (x == ("__debug__" : Str)) = false) : JE X G W P (.Name x pos) (.glb x) :=
  PE.imp (pe_glob hg hm r hd) fun σ H Q h => t_pure (x := val) hr (by
    have h' : tE G W (fun τ => getO (P.cs x)) σ H Q := by simpa only [ev, evv, dflt] using h
    rw [hc] at h'
    exact h')
theorem j_bin (hK : X.K = G.K) {o : Op2} (ha : JE X G W P a ea) (hb : JE X G W P b eb) : JE X G W P (.BinOp a (opP o) b pos) (.bin o ea eb) :=
  PE.imp (pe_op (op_all o) ha hb) fun _ _ _ h => by rw [hK]; exact t_two (f_all o) (by simpa only [ev, evv, dflt] using h)
theorem t_cmp {o : Cm} {ma mb : Tau → E Val} {σ : L2.St} {H : Hp} {Q : Bool → Hp → Prop} (h : tB G W (fun τ => cmpE o (ma τ) (mb τ)) σ H Q) : tOp (cmR G.K o) (tE G W ma) (tE G W mb) σ H (fun z H' => ∃ k, z = .bl k ∧ Q k H') := by
  refine tE.mono (fun v H1 q => ?_) (Cont.bindV (g := fun τ x => (mb τ).bind fun y => cmp2 o x y) h)
  obtain ⟨x, q⟩ := q
  refine tE.mono (fun w H2 q2 => ?_) (Cont.bindV (f := mb) (g := fun τ y => cmp2 o x y) q)
  obtain ⟨y, m, S, τ, s, sl, r, p⟩ := q2
  obtain ⟨_, _, e, rx, ry⟩ := r.inv2
  simp only [List.nil_append, List.singleton_append, List.cons.injEq, and_true] at e
  obtain ⟨rfl, rfl⟩ := e
  exact cmp2_end s rx ry p
theorem opt_imp {r : R2} {ta tb : TE} {σ : L2.St} {H : Hp} {Q : VK} (h : tOp r ta tb σ H Q) : tOp r ta tb σ H Q := h
theorem j_cmpT (hK : X.K = G.K) (hu : X.A.units + 65 < cLine) {o : Cm} (ha : JE X G W P a ea) (hb : JE X G W P b eb) (hm : behindInMarks (cmP o) b = false) : JT X G W P (.Compare a [cmP o] [b] pos) (.cmp o ea eb) :=
  PT.imp (pt_cmpR (op_cm hu o) ha hb hm) fun _ _ _ h => by rw [hK]; exact t_cmp (by simpa only [evB, evv, both] using h)
theorem j_cmp (hK : X.K = G.K) (hu : X.A.units + 65 < cLine) {o : Cm} (ha : JE X G W P a ea) (hb : JE X G W P b eb) (hm : behindInMarks (cmP o) b = false) : JE X G W P (.Compare a [cmP o] [b] pos) (.cmp o ea eb) := by
  have q := pe_cmpR (pos := pos) (op_cm hu o) ha hb hm
  refine ⟨fun pins s σ H Q I h => ?_⟩
  have h1 := t_both (by simpa only [ev, evv, both] using h)
  have h2 := t_cmp h1
  rw [← hK] at h2
  refine thn (q.run pins s σ H _ I h2) fun u s' z => ?_
  obtain ⟨v, H', I', r, k, e, q⟩ := z
  subst e
  exact ⟨_, H', I', r, q⟩
end
end TQ
/-! TQ6: and, or, not, chains, displays, built-in calls, items, slices, methods. -/
namespace TQ
open PySem L2 PyProof.Rows
section
variable {X : Cx} {G : Gx} {W : XK} {P : Pr} {a b c : Expr} {ea eb ec : Ex} {pos : Pos} {es : List Expr} {xs : List Ex} {σ : L2.St} {H : Hp}
abbrev JW (X : Cx) (G : Gx) (W : XK) (P : Pr) (x : Expr) (e : Ex) : Prop := PW X x (tB G W fun τ => evB P τ e)
/-! ### not, and, or -/
theorem t_notB {m : Tau → E Bool} {Q : Bool → Hp → Prop} (h : tB G W (fun τ => (m τ).bind fun b => E.pure (!b)) σ H Q) : tNot (tB G W m) σ H Q := by
  refine tB.mono (fun b H1 q => ?_) (Cont.bindB (f := m) (g := fun τ b => E.pure (!b)) h)
  obtain ⟨m, S, τ, s, sl, r, p⟩ := q
  exact p m H1 s (Ext.ref m H1)
theorem j_notT (ha : JT X G W P a ea) : JT X G W P (.UnaryOp .Not a pos) (.nt ea) :=
  PT.imp (pt_not ha) fun _ _ _ h => t_notB (by simpa only [evB, evv, both] using h)
/-- as a value: the operand is a bool -/
def isB : Ex → Bool
  | .nt _ => true
  | .cmp _ _ _ => true
  | .chn _ _ _ _ _ => true
  | .isi _ _ => true
  | .and a b => isB a && isB b
  | .or a b => isB a && isB b
  | _ => false
theorem t_notV {ma : Tau → E Val × E Bool} {Q : VK} (hb : ∀ τ, (ma τ).1 = (ma τ).2.bind fun k => E.pure (.bl k)) (h : tE G W (fun τ => ((ma τ).2.bind fun b => E.pure (!b)).bind fun k => E.pure (.bl k)) σ H Q) : tNotV (tE G W fun τ => (ma τ).1) σ H Q := by
  obtain ⟨m, S, τ, s, sl, r, p⟩ := h
  refine ⟨m, S, τ, s, sl, .nil, ?_⟩
  have p : Post G W m H ((((ma τ).2.bind fun b => E.pure (!b)).bind fun k => E.pure (.bl k)) S) (CQ G Q) := p
  show Post G W m H ((ma τ).1 S) _
  rw [hb τ]
  unfold E.bind at p ⊢
  cases e : (ma τ).2 S with
  | bad => rw [e] at p; exact p
  | exc c d S' => rw [e] at p; exact p
  | ok k S' =>
    rw [e] at p
    intro m' H' s' e' v rv
    cases rv
    exact ⟨k, rfl, p m' H' s' e' _ .bl⟩
/-! a value that is surely a bool -/
theorem bind_pure {α : Type} (m : E α) : m.bind E.pure = m := by
  funext S
  unfold E.bind
  cases m S <;> rfl
theorem bind_assoc {α β γ : Type} (m : E α) (f : α → E β) (g : β → E γ) : (m.bind f).bind g = m.bind fun a => (f a).bind g := by
  funext S
  unfold E.bind
  cases m S <;> rfl
theorem pure_bind {α β : Type} (a : α) (f : α → E β) : (E.pure a).bind f = f a := rfl
def isiB (P : Pr) (v : Val) (T : List Str) : E Bool := fun S => match isiAny P v T with | some b => .ok b S | none => .bad
theorem isi_bl {v : Val} {T : List Str} : isiE P v T = (isiB P v T).bind fun k => E.pure (.bl k) := by
  funext S
  unfold isiE isiB E.bind
  cases isiAny P v T <;> rfl
theorem truth_bl {m : E Bool} : (m.bind fun k => E.pure (.bl k)).bind truthE = m := by
  rw [bind_assoc]
  funext S
  unfold E.bind
  cases m S <;> rfl
theorem isB_ok (τ : Tau) : ∀ (e : Ex), isB e = true → (evv P τ e).1 = (evv P τ e).2.bind fun k => E.pure (.bl k)
  | .nt a, _ => by simp only [evv, both]
  | .cmp _ _ _, _ => by simp only [evv, both]
  | .chn _ _ _ _ _, _ => by simp only [evv, both]
  | .isi a T, _ => by
    simp only [evv, dflt]
    have h : ((evv P τ a).1.bind fun v => isiE P v T) = ((evv P τ a).1.bind fun v => isiB P v T).bind fun k => E.pure (.bl k) := by
      rw [bind_assoc]
      congr 1
      funext v
      exact isi_bl
    rw [h, truth_bl]
  | .and a b, h => by
    simp only [isB, Bool.and_eq_true] at h
    have h1 := isB_ok τ a h.1
    have h2 := isB_ok τ b h.2
    simp only [evv]
    rw [h1, bind_assoc, bind_assoc]
    congr 1
    funext k
    cases k with
    | true => exact h2
    | false => rfl
  | .or a b, h => by
    simp only [isB, Bool.and_eq_true] at h
    have h1 := isB_ok τ a h.1
    have h2 := isB_ok τ b h.2
    simp only [evv]
    rw [h1, bind_assoc, bind_assoc]
    congr 1
    funext k
    cases k with
    | true => rfl
    | false => exact h2
theorem j_not (hb : isB ea = true) (ha : JE X G W P a ea) : JE X G W P (.UnaryOp .Not a pos) (.nt ea) :=
  PE.imp (pe_not ha) fun _ _ _ h => t_notV (ma := fun τ => evv P τ ea) (fun τ => isB_ok τ ea hb) (by simpa only [ev, evv, both] using h)
theorem t_andB {ma mb : Tau → E Bool} {Q : Bool → Hp → Prop} (h : tB G W (fun τ => (ma τ).bind fun c => if c then mb τ else E.pure false) σ H Q) : tAnd (tB G W ma) (tB G W mb) σ H Q := by
  refine tB.mono (fun b H1 q => ?_) (Cont.bindB (f := ma) (g := fun τ c => if c then mb τ else E.pure false) h)
  cases b with
  | true => exact q
  | false =>
    obtain ⟨m, S, τ, s, sl, r, p⟩ := q
    exact p m H1 s (Ext.ref m H1)
theorem t_orB {ma mb : Tau → E Bool} {Q : Bool → Hp → Prop} (h : tB G W (fun τ => (ma τ).bind fun c => if c then E.pure true else mb τ) σ H Q) : tOr (tB G W ma) (tB G W mb) σ H Q := by
  refine tB.mono (fun b H1 q => ?_) (Cont.bindB (f := ma) (g := fun τ c => if c then E.pure true else mb τ) h)
  cases b with
  | false => exact q
  | true =>
    obtain ⟨m, S, τ, s, sl, r, p⟩ := q
    exact p m H1 s (Ext.ref m H1)
theorem j_and1W (ha : JT X G W P a ea) : JW X G W P (.BoolOp .And [a] pos) ea := pw_and1 ha
theorem j_or1W (ha : JT X G W P a ea) : JW X G W P (.BoolOp .Or [a] pos) ea := pw_or1 ha
theorem j_andW (ha : JT X G W P a ea) (hb : JW X G W P (.BoolOp .And (b :: es) pos) eb) : JW X G W P (.BoolOp .And (a :: b :: es) pos) (.and ea eb) :=
  PW.imp (pw_and ha hb) fun _ _ _ h => t_andB (by simpa only [evB, evv] using h)
theorem j_orW (ha : JT X G W P a ea) (hb : JW X G W P (.BoolOp .Or (b :: es) pos) eb) : JW X G W P (.BoolOp .Or (a :: b :: es) pos) (.or ea eb) :=
  PW.imp (pw_or ha hb) fun _ _ _ h => t_orB (by simpa only [evB, evv] using h)
theorem bool_end {x : Val} {v : V} {f : Tau → Bool → E Val} {Q : VK} (h : Cont G W [x] [v] (fun τ => (boolE x).bind (f τ)) (CQ G Q) σ H) : ∃ c, v = .bl c ∧ Cont G W [] [] (fun τ => f τ c) (CQ G Q) σ H := by
  obtain ⟨m, S, τ, s, sl, r, p⟩ := h
  obtain ⟨_, e, rx⟩ := r.inv1
  simp only [List.cons.injEq, and_true] at e
  subst e
  have p : Post G W m H (((boolE x).bind (f τ)) S) (CQ G Q) := p
  cases rx with
  | bl => exact ⟨_, rfl, m, S, τ, s, sl, .nil, p⟩
  | _ => exact p.elim
theorem j_and1 (ha : JE X G W P a ea) : JE X G W P (.BoolOp .And [a] pos) ea := pe_one ha
theorem j_or1 (ha : JE X G W P a ea) : JE X G W P (.BoolOp .Or [a] pos) ea := pe_one ha
theorem j_and (ha : JE X G W P a ea) (hb : JE X G W P (.BoolOp .And (b :: es) pos) eb) : JE X G W P (.BoolOp .And (a :: b :: es) pos) (.and ea eb) :=
  PE.imp (pe_and ha hb) fun σ H Q h => by
    have h : tE G W (fun τ => (ev P τ ea).bind fun v => (boolE v).bind fun c => if c then ev P τ eb else E.pure (.bl false)) σ H Q := by simpa only [ev, evv] using h
    refine tE.mono (fun v H1 q => ?_) (Cont.bindV (f := fun τ => ev P τ ea) (g := fun τ v => (boolE v).bind fun c => if c then ev P τ eb else E.pure (.bl false)) h)
    obtain ⟨x, q⟩ := q
    obtain ⟨c, e, q⟩ := bool_end (f := fun τ c => if c then ev P τ eb else E.pure (.bl false)) q
    refine ⟨c, e, ?_⟩
    cases c with
    | true => exact q
    | false => exact t_pure (x := .bl false) (fun _ _ => .bl) q
theorem j_or (ha : JE X G W P a ea) (hb : JE X G W P (.BoolOp .Or (b :: es) pos) eb) : JE X G W P (.BoolOp .Or (a :: b :: es) pos) (.or ea eb) :=
  PE.imp (pe_or ha hb) fun σ H Q h => by
    have h : tE G W (fun τ => (ev P τ ea).bind fun v => (boolE v).bind fun c => if c then E.pure (.bl true) else ev P τ eb) σ H Q := by simpa only [ev, evv] using h
    refine tE.mono (fun v H1 q => ?_) (Cont.bindV (f := fun τ => ev P τ ea) (g := fun τ v => (boolE v).bind fun c => if c then E.pure (Val.bl true) else ev P τ eb) h)
    obtain ⟨x, q⟩ := q
    obtain ⟨c, e, q⟩ := bool_end (f := fun τ c => if c then E.pure (.bl true) else ev P τ eb) q
    refine ⟨c, e, ?_⟩
    cases c with
    | false => exact q
    | true => exact t_pure (x := .bl true) (fun _ _ => .bl) q
/-- a value's truth as a test -/
theorem j_truth (hK : X.K = G.K) (hd : ∀ τ, (evv P τ ea).2 = (evv P τ ea).1.bind truthE) (ha : JE X G W P a ea) (he : ∀ whole, isTrue a X.env whole = (do let v ← whole; standAt a.pos; holding [v] (truthy v))) : JT X G W P a ea :=
  PT.imp (pt_truth ha he) fun σ H Q h => by
    have h : tB G W (fun τ => (ev P τ ea).bind truthE) σ H Q := by
      have e : (fun τ => evB P τ ea) = fun τ => (ev P τ ea).bind truthE := funext hd
      rw [← e]; exact h
    rw [hK]
    exact t_dflt h
theorem j_ife (hc : JT X G W P c ec) (ha : JE X G W P a ea) (hb : JE X G W P b eb) : JE X G W P (.IfExp c a b pos) (.ife ec ea eb) :=
  PE.imp (pe_ifExp hc ha hb) fun σ H Q h => by
    have h : tE G W (fun τ => (evB P τ ec).bind fun k => if k then ev P τ ea else ev P τ eb) σ H Q := by simpa only [ev, evv, dflt] using h
    refine tB.mono (fun k H1 q => ?_) (Cont.bindB (f := fun τ => evB P τ ec) (g := fun τ k => if k then ev P τ ea else ev P τ eb) h)
    cases k with
    | true => exact q
    | false => exact q
theorem j_neg (ha : JE X G W P a ea) : JE X G W P (.UnaryOp .USub a pos) (.neg ea) :=
  PE.imp (pe_un un_neg ha) fun σ H Q h => by
    have h : tE G W (fun τ => (ev P τ ea).bind negE) σ H Q := by simpa only [ev, evv, dflt] using h
    refine tE.mono (fun v H1 q => ?_) (Cont.bindV (f := fun τ => ev P τ ea) (g := fun τ v => negE v) h)
    obtain ⟨x, q⟩ := q
    refine Cont.fin1 q fun m S s r p => ?_
    cases r with
    | int => exact ⟨_, rfl, ok_int s p⟩
    | _ => exact p.elim
/-! ### chains -/
theorem t_chn {o1 o2 : Cm} {ma mb mc : Tau → E Val} {Q : Bool → Hp → Prop} (h : tB G W (fun τ => chnE o1 o2 (ma τ) (mb τ) (mc τ)) σ H Q) :
    tChain (cmR G.K o1) (cmR G.K o2) (tE G W ma) (tE G W mb) (tE G W mc) σ H (fun z H' => ∃ k, z = .bl k ∧ Q k H') := by
  refine tE.mono (fun v H1 q => ?_) (Cont.bindV (f := ma) (g := fun τ x => (mb τ).bind fun y => (cmp2 o1 x y).bind fun k => if k then (mc τ).bind fun z => cmp2 o2 y z else E.pure false) h)
  obtain ⟨x, q⟩ := q
  refine tE.mono (fun w H2 q2 => ?_) (Cont.bindV (f := mb) (g := fun τ y => (cmp2 o1 x y).bind fun k => if k then (mc τ).bind fun z => cmp2 o2 y z else E.pure false) q)
  obtain ⟨y, m, S, τ, s, sl, r, p⟩ := q2
  obtain ⟨_, _, e, rx, ry⟩ := r.inv2
  simp only [List.nil_append, List.singleton_append, List.cons.injEq, and_true] at e
  obtain ⟨rfl, rfl⟩ := e
  have p1 := Post.bind p
  refine cmp2_end (W := W) s rx ry ?_
  refine p1.mono fun k m1 S1 H3 _ _ q => ?_
  · obtain ⟨e1, s1, p2⟩ := q
    cases k with
    | false => exact ⟨false, rfl, p2 m1 H3 s1 (Ext.ref m1 H3)⟩
    | true =>
      refine ⟨m1, S1, τ, s1, sl.mono e1, .nil, (Post.bind p2).mono fun z m3 S3 H4 _ _ q3 u ru => ?_⟩
      obtain ⟨e3, s3, p3⟩ := q3
      exact cmp2_end s3 ((ry.mono e1.ky e1.sub).mono e3.ky e3.sub) ru p3
end
end TQ
/-! TQ7: chains, displays, built-in calls, items, slices, methods, isinstance. -/
namespace TQ
open PySem L2 PyProof.Rows
section
variable {X : Cx} {G : Gx} {W : XK} {P : Pr} {a b c : Expr} {ea eb ec : Ex} {pos : Pos} {es : List Expr} {xs : List Ex} {σ : L2.St} {H : Hp}
theorem PE.val {x : Expr} {t : TE} {f : Tau → E Bool} (q : PE X x t) (k : ∀ σ H (Q : Bool → Hp → Prop), tB G W f σ H Q → t σ H (fun z H' => ∃ k, z = .bl k ∧ Q k H')) : PE X x (tE G W fun τ => (f τ).bind fun k => E.pure (.bl k)) := by
  refine ⟨fun pins s σ H Q I h => ?_⟩
  refine thn (q.run pins s σ H _ I (k _ _ _ (t_both h))) fun u s' z => ?_
  obtain ⟨v, H', I', r, k, e, q⟩ := z
  subst e
  exact ⟨_, H', I', r, q⟩
theorem j_chnT (hK : X.K = G.K) (hu : X.A.units + 65 < cLine) {o1 o2 : Cm} (ha : JE X G W P a ea) (hb : JE X G W P b eb) (hc : JE X G W P c ec) (hm : lastMarks [cmP o1, cmP o2] [b, c] = false) : JT X G W P (.Compare a [cmP o1, cmP o2] [b, c] pos) (.chn o1 o2 ea eb ec) :=
  PT.imp (pt_chain (op_cm hu o1) (op_cm hu o2) ha hb hc hm) fun _ _ _ h => by rw [hK]; exact t_chn (by simpa only [evB, evv, both] using h)
theorem j_chn (hK : X.K = G.K) (hu : X.A.units + 65 < cLine) {o1 o2 : Cm} (ha : JE X G W P a ea) (hb : JE X G W P b eb) (hc : JE X G W P c ec) (hm : lastMarks [cmP o1, cmP o2] [b, c] = false) : JE X G W P (.Compare a [cmP o1, cmP o2] [b, c] pos) (.chn o1 o2 ea eb ec) := by
  have q := PE.val (G := G) (W := W) (f := fun τ => chnE o1 o2 (ev P τ ea) (ev P τ eb) (ev P τ ec)) (pe_chain (pos := pos) (op_cm hu o1) (op_cm hu o2) ha hb hc hm) fun _ _ _ h => by rw [hK]; exact t_chn h
  exact PE.imp q fun _ _ _ h => by simpa only [ev, evv, both] using h
/-! ### arguments, displays -/
theorem ja_nil : JA X G W P [] [] := PA.imp pa_nil fun _ _ _ h => t_nil (by simpa only [evAs] using h)
theorem ja_cons (ha : JE X G W P a ea) (hr : JA X G W P es xs) (hs : starEach (a :: es) X.env = (false, eval a X.env) :: starEach es X.env) : JA X G W P (a :: es) (ea :: xs) :=
  PA.imp (pa_cons ha hr hs) fun _ _ _ h => t_cons (by simpa only [evAs] using h)
theorem j_lst (h : JA X G W P es xs) : JE X G W P (.List es pos) (.lst xs) :=
  PE.imp (pe_lst h) fun _ _ _ h => t_callL l_alloc (by simpa only [ev, evv, dflt] using h)
theorem j_tup {k} (h : JA X G W P es xs) : JE X G W P (.Tuple es k pos) (.tup xs) :=
  PE.imp (pe_tup h) fun _ _ _ h => t_callL l_mkTup (by simpa only [ev, evv, dflt] using h)
theorem j_edc : JE X G W P (.Dict [] [] pos) .edc :=
  PE.imp pe_dnewK fun σ H Q h p hp => by
    obtain ⟨m, S, τ, s, sl, r, q⟩ := (show tE G W (fun τ => E.pure .edc) σ H Q by simpa only [ev, evv, dflt] using h)
    exact q _ _ (s.new hp) (Ext.new hp) _ (.edc upd_same)
/-! ### built-in functions -/
/-- f is the built-in function or type, with the rule r for ours -/
theorem j_bifB {f : Str} {id : String} {r : List V → Hp → VK → Prop} {p : Pos} {e : Expr} (hc : CallR X (.builtin id) r) (ho : OpL G W (biE f) r) (hg : Gl X f) (hm : X.mg f = none) (hv : bootBuiltins f = some (.builtin id)) (ha : JA X G W P (e :: es) xs) (hn : f ≠ "__name__") (hdb : (f == ("__debug__" : Str)) = false)
    (he : starEach (e :: es) X.env = (false, eval e X.env) :: starEach es X.env) (hpl : (backTo pos (starEach es X.env)).any (·.1) = false) : JE X G W P (.Call (.Name f p) (e :: es) [] pos) (.bif f xs) :=
  PE.imp (pe_callB hc hg hm hv ha hn hdb he hpl) fun _ _ _ h => t_callL ho (by simpa only [ev, evv, dflt] using h)
theorem j_bifT {f : Str} {T : String} {r : List V → Hp → VK → Prop} {p : Pos} {e : Expr} (hc : CallR X (.type T) r) (ho : OpL G W (biE f) r) (hg : Gl X f) (hm : X.mg f = none) (hv : bootBuiltins f = some (.type T)) (ha : JA X G W P (e :: es) xs) (hn : f ≠ "__name__") (hdb : (f == ("__debug__" : Str)) = false)
    (he : starEach (e :: es) X.env = (false, eval e X.env) :: starEach es X.env) (hpl : (backTo pos (starEach es X.env)).any (·.1) = false) : JE X G W P (.Call (.Name f p) (e :: es) [] pos) (.bif f xs) :=
  PE.imp (pe_callTy hc hg hm hv ha hn hdb he hpl) fun _ _ _ h => t_callL ho (by simpa only [ev, evv, dflt] using h)
def biNames : List Str := ["len", "abs", "max", "min", "sum", "all", "any", "repr", "int", "list", "tuple", "sorted"]
theorem j_bif {f : Str} {p : Pos} {e : Expr} (hf : f ∈ biNames) (hK : X.K = G.K) (hcalm : X.calm = true) (hgd : X.A.guards = some []) (hu : X.A.units + 65 < cLine) (hg : Gl X f) (hm : X.mg f = none) (ha : JA X G W P (e :: es) xs)
    (he : starEach (e :: es) X.env = (false, eval e X.env) :: starEach es X.env) (hpl : (backTo pos (starEach es X.env)).any (·.1) = false) : JE X G W P (.Call (.Name f p) (e :: es) [] pos) (.bif f xs) := by
  simp only [biNames, List.mem_cons, List.not_mem_nil, or_false] at hf
  rcases hf with rfl | rfl | rfl | rfl | rfl | rfl | rfl | rfl | rfl | rfl | rfl | rfl
  · exact j_bifB (r := rLen X.K) call_len (by rw [hK]; exact l_of _ rfl l_len) hg hm boot_len ha (by decide) (by decide) he hpl
  · exact j_bifB (r := rAbs) call_abs (l_of _ rfl l_abs) hg hm boot_abs ha (by decide) (by decide) he hpl
  · exact j_bifB (r := rMaxA X.K) (fun pins s σ H xs us Q I rv h => h.elim (call_max2 hcalm pins s σ H xs us Q I rv) (cr_max hcalm pins s σ H xs us Q I rv)) (by rw [hK]; exact l_of _ rfl l_max) hg hm boot_max ha (by decide) (by decide) he hpl
  · exact j_bifB (r := rMinA X.K) (fun pins s σ H xs us Q I rv h => h.elim (call_min2 hcalm pins s σ H xs us Q I rv) (cr_min hcalm pins s σ H xs us Q I rv)) (by rw [hK]; exact l_of _ rfl l_min) hg hm boot_min ha (by decide) (by decide) he hpl
  · exact j_bifB (cr_sum hcalm) (by rw [hK]; exact l_of _ rfl l_sum) hg hm boot_sum ha (by decide) (by decide) he hpl
  · exact j_bifB (cr_all hcalm) (by rw [hK]; exact l_of _ rfl l_all) hg hm boot_all ha (by decide) (by decide) he hpl
  · exact j_bifB (cr_any hcalm) (by rw [hK]; exact l_of _ rfl l_any) hg hm boot_any ha (by decide) (by decide) he hpl
  · exact j_bifB (call_reprA hgd hu) (by rw [hK]; exact l_of _ rfl l_repr) hg hm boot_repr ha (by decide) (by decide) he hpl
  · exact j_bifT (r := rInt1) call_int1 (l_of _ rfl l_int) hg hm PyProof.Rows.boot_int ha (by decide) (by decide) he hpl
  · exact j_bifT (r := rListOf X.K) call_list_of (by rw [hK]; exact l_of _ rfl l_list) hg hm PyProof.Rows.boot_list ha (by decide) (by decide) he hpl
  · exact j_bifT (r := rTupleOf X.K) call_tuple_of (by rw [hK]; exact l_of _ rfl l_tuple) hg hm PyProof.Rows.boot_tuple ha (by decide) (by decide) he hpl
  · exact j_bifB (cr_sortD hu) (by rw [hK]; exact l_of _ rfl l_sorted) hg hm PyProof.Rows.boot_sorted ha (by decide) (by decide) he hpl
/-! ### items, slices -/
theorem j_ix (hK : X.K = G.K) (ha : JE X G W P a ea) (hb : JE X G W P b eb) (hs : PlainIx b) : JE X G W P (.Subscript a b pos) (.ix ea eb) :=
  PE.imp (pe_ix ix_seq ha hb hs) fun _ _ _ h => by rw [hK]; exact t_two f_ix (by simpa only [ev, evv, dflt] using h)
def tO (G : Gx) (W : XK) (f : Tau → E (Option Int)) : TO := fun σ H Q => Cont G W [] [] f (fun o _ _ H' => Q o H') σ H
abbrev JO (X : Cx) (G : Gx) (W : XK) (P : Pr) (x : Option Expr) (e : Option Ex) : Prop := PO X x (tO G W fun τ => evOp P τ e)
theorem PO.imp {e : Option Expr} {t t' : TO} (h : PO X e t) (k : ∀ σ H Q, t' σ H Q → t σ H Q) : PO X e t' := ⟨fun pins s σ H Q I hw => h.run pins s σ H Q I (k _ _ _ hw)⟩
theorem jo_none : JO X G W P none none := PO.imp po_none fun σ H Q h => by
  obtain ⟨m, S, τ, s, sl, r, q⟩ := (show tO G W (fun τ => E.pure none) σ H Q by simpa only [evOp] using h)
  exact q m H s (Ext.ref m H)
theorem jo_some (ha : JE X G W P a ea) : JO X G W P (some a) (some ea) := PO.imp (po_some ha) fun σ H Q h => by
  have h : tO G W (fun τ => (ev P τ ea).bind intO) σ H Q := by simpa only [evOp, ev] using h
  refine tE.mono (fun v H1 q => ?_) (Cont.bindV (f := fun τ => ev P τ ea) (g := fun τ v => intO v) h)
  obtain ⟨x, q⟩ := q
  refine Cont.fin1 q fun m S s r p => ?_
  cases r with
  | int => exact ⟨_, rfl, p m H1 s (Ext.ref m H1)⟩
  | _ => exact p.elim
theorem Cont.bindO {β : Type} {us : List Val} {ws : List V} {f : Tau → E (Option Int)} {g : Tau → Option Int → E β} {C : β → List Nat → Sto → Hp → Prop} (h : Cont G W us ws (fun τ => (f τ).bind (g τ)) C σ H) :
    tO G W f σ H fun b H1 => Cont G W us ws (fun τ => g τ b) C σ H1 := by
  obtain ⟨m, S, τ, s, sl, r, p⟩ := h
  refine ⟨m, S, τ, s, sl, .nil, p.bind.mono fun b m1 S1 H1 _ _ q => ?_⟩
  obtain ⟨e, s1, p1⟩ := q
  exact ⟨m1, S1, τ, s1, sl.mono e, r.mono e.ky e.sub, p1⟩
theorem tO.mono {f : Tau → E (Option Int)} {Q Q' : Option Int → Hp → Prop} (k : ∀ v H, Q v H → Q' v H) (h : tO G W f σ H Q) : tO G W f σ H Q' := Cont.mono (fun _ _ _ _ q => k _ _ q) h
theorem j_sl (hK : X.K = G.K) {lo hi : Option Expr} {l u : Option Ex} {p2 : Pos} (ha : JE X G W P a ea) (hl : JO X G W P lo l) (hu : JO X G W P hi u) : JE X G W P (.Subscript a (.Slice lo hi none p2) pos) (.sl ea l u) :=
  PE.imp (pe_slice sl_all ha hl hu) fun σ H Q h => by
    rw [hK]
    have h : tE G W (fun τ => (ev P τ ea).bind fun x => (evOp P τ l).bind fun lo => (evOp P τ u).bind fun hi => slE x lo hi) σ H Q := by simpa only [ev, evv, dflt] using h
    refine tE.mono (fun v H1 q => ?_) (Cont.bindV (f := fun τ => ev P τ ea) (g := fun τ x => (evOp P τ l).bind fun lo => (evOp P τ u).bind fun hi => slE x lo hi) h)
    obtain ⟨x, q⟩ := q
    refine tO.mono (fun lo H2 q => ?_) (Cont.bindO (f := fun τ => evOp P τ l) (g := fun τ lo => (evOp P τ u).bind fun hi => slE x lo hi) q)
    refine tO.mono (fun hi H3 q => ?_) (Cont.bindO (f := fun τ => evOp P τ u) (g := fun τ hi => slE x lo hi) q)
    exact Cont.fin1 q fun m S s r p => f_sl s r p
/-! ### methods of a list, an int -/
theorem ty_ref {m : List Nat} {S : Sto} {n : Nat} {x : V} (s : SR G H m S) (r : RV G H m (.ref n) x) : tyV G.K "list" x H := by
  cases r with
  | ref h =>
    obtain ⟨_, vs, _, e2, _⟩ := s.get h
    exact .inl ⟨rfl, vs, .of e2⟩
theorem Cont.bindU {β : Type} {us : List Val} {ws : List V} {f : E Unit} {g : Tau → E β} {C : β → List Nat → Sto → Hp → Prop} (h : Cont G W us ws (fun τ => f.bind fun _ => g τ) C σ H) (hf : f = E.pure () ∨ f = E.bad) : f = E.pure () ∧ Cont G W us ws g C σ H := by
  rcases hf with e | e
  · subst e; exact ⟨rfl, h⟩
  · subst e
    obtain ⟨m, S, τ, s, sl, r, p⟩ := h
    exact p.elim
theorem ck_list {m : Str} (hm : m = "append" ∨ m = "pop" ∨ m = "popat" ∨ m = "index" ∨ m = "count") (x : Val) : ckM m x = E.pure () ∨ ckM m x = E.bad := by
  unfold ckM
  rw [if_pos hm]
  cases x <;> first | exact .inl rfl | exact .inr rfl
theorem ck_ref {m : Str} (hm : m = "append" ∨ m = "pop" ∨ m = "popat" ∨ m = "index" ∨ m = "count") {x : Val} (h : ckM m x = E.pure ()) : ∃ n, x = .ref n := by
  unfold ckM at h
  rw [if_pos hm] at h
  cases x with
  | ref n => exact ⟨n, rfl⟩
  | _ => have := congrFun h []; simp [E.bad, E.pure] at this
/-- a method of a list with arguments -/
theorem t_mthL {m : Str} {r : V → List V → Hp → VK → Prop} {ma : Tau → E Val} {mb : Tau → E (List Val)} {Q : VK} (hm : m = "append" ∨ m = "pop" ∨ m = "popat" ∨ m = "index" ∨ m = "count")
    (ho : ∀ (k : List Nat) (S : Sto) (H : Hp) (o : Val) (ys : List Val) (v : V) (vs : List V) (Q : VK), SR G H k S → RV G H k o v → RVL G H k ys vs → Post G W k H (mthE m o ys S) (CQ G Q) → r v vs H Q)
    (h : tE G W (fun τ => (ma τ).bind fun x => (ckM m x).bind fun _ => (mb τ).bind (mthE m x)) σ H Q) : tBM G.K "list" r (tE G W ma) (tA G W mb) σ H Q := by
  refine tE.mono (fun v H1 q => ?_) (Cont.bindV (f := ma) (g := fun τ x => (ckM m x).bind fun _ => (mb τ).bind (mthE m x)) h)
  obtain ⟨x, q⟩ := q
  obtain ⟨e, q⟩ := Cont.bindU (g := fun τ => (mb τ).bind (mthE m x)) q (ck_list hm x)
  obtain ⟨n, rfl⟩ := ck_ref hm e
  refine ⟨?_, ?_⟩
  · obtain ⟨k, S, τ, s, sl, r, p⟩ := q
    obtain ⟨_, e, rx⟩ := r.inv1
    simp only [List.nil_append, List.cons.injEq, and_true] at e
    subst e
    exact ty_ref s rx
  · refine tA.mono (fun vs H2 q => ?_) (Cont.bindA (f := mb) (g := fun τ ys => mthE m (.ref n) ys) q)
    obtain ⟨ys, k, S, τ, s, sl, r, p⟩ := q
    cases r with
    | cons rx r => exact ho k S H2 _ ys _ vs Q s rx r p
theorem t_mthL0 {m : Str} {r : V → List V → Hp → VK → Prop} {ma : Tau → E Val} {Q : VK} (hm : m = "append" ∨ m = "pop" ∨ m = "popat" ∨ m = "index" ∨ m = "count")
    (ho : ∀ (k : List Nat) (S : Sto) (H : Hp) (o : Val) (v : V) (Q : VK), SR G H k S → RV G H k o v → Post G W k H (mthE m o [] S) (CQ G Q) → r v [] H Q)
    (h : tE G W (fun τ => (ma τ).bind fun x => (ckM m x).bind fun _ => (E.pure []).bind (mthE m x)) σ H Q) : tBM0 G.K "list" r (tE G W ma) σ H Q := by
  refine tE.mono (fun v H1 q => ?_) (Cont.bindV (f := ma) (g := fun τ x => (ckM m x).bind fun _ => (E.pure []).bind (mthE m x)) h)
  obtain ⟨x, q⟩ := q
  obtain ⟨e, q⟩ := Cont.bindU (g := fun τ => (E.pure []).bind (mthE m x)) q (ck_list hm x)
  obtain ⟨n, rfl⟩ := ck_ref hm e
  obtain ⟨k, S, τ, s, sl, r, p⟩ := q
  obtain ⟨_, e, rx⟩ := r.inv1
  simp only [List.nil_append, List.cons.injEq, and_true] at e
  subst e
  exact ⟨ty_ref s rx, ho k S H1 _ _ Q s rx p⟩
theorem mth_append (o : Val) (vs : List Val) : mthE "append" o vs = mAppend o vs := rfl
theorem mth_pop (o : Val) (vs : List Val) : mthE "pop" o vs = mPop o vs := rfl
theorem mth_bits (o : Val) (vs : List Val) : mthE "bit_length" o vs = mBits o vs := rfl
theorem j_append (hK : X.K = G.K) {apos : Pos} {e : Expr} (ha : JE X G W P a ea) (hx : JA X G W P (e :: es) xs)
    (hbase : attributeBase a "append" X.env (eval a X.env) = eval a X.env)
    (hfew : ((backTo pos (starEach (e :: es) X.env)).all (fun x => !x.1) && (backToKw pos (keywordEach [] X.env)).all (fun x => x.1.isSome)
      && decide ((e :: es).length + ([] : List Keyword).length + (if ([] : List Keyword).isEmpty then 0 else 1) < 30)) = true)
    (hline : (apos.endLine == pos.line) = true) (hs : starEach (e :: es) X.env = (false, eval e X.env) :: starEach es X.env) (hplain : (backTo pos (starEach es X.env)).any (·.1) = false) :
    JE X G W P (.Call (.Attribute a "append" apos) (e :: es) [] pos) (.mth "append" ea xs) :=
  PE.imp (pe_bm PySem.F.plainAttrs_list PySem.F.slot_list_append PySem.F.type_list_append mt_append ha hx hbase hfew hline hs hplain) fun σ H Q h => by
    rw [hK]
    exact t_mthL (m := "append") (.inl rfl) (fun k S H o ys v vs Q s ro r p => m_append k S H o ys v vs Q s ro r p) (by simpa only [ev, evv, dflt] using h)
theorem j_pop0 (hK : X.K = G.K) {apos : Pos} (ha : JE X G W P a ea) (hbase : attributeBase a "pop" X.env (eval a X.env) = eval a X.env) (hline : (apos.endLine == pos.line) = true) :
    JE X G W P (.Call (.Attribute a "pop" apos) [] [] pos) (.mth "pop" ea []) :=
  PE.imp (pe_bm0 PySem.F.plainAttrs_list PySem.F.slot_list_pop PySem.F.type_list_pop mt_pop ha hbase hline) fun σ H Q h => by
    rw [hK]
    exact t_mthL0 (m := "pop") (.inr (.inl rfl)) (fun k S H o v Q s ro p => m_pop s ro p) (by simpa only [ev, evv, evAs, dflt] using h)
theorem j_pop1 (hK : X.K = G.K) {apos : Pos} {e : Expr} {y : Ex} (ha : JE X G W P a ea) (hx : JA X G W P [e] [y])
    (hbase : attributeBase a "pop" X.env (eval a X.env) = eval a X.env)
    (hfew : ((backTo pos (starEach [e] X.env)).all (fun x => !x.1) && (backToKw pos (keywordEach [] X.env)).all (fun x => x.1.isSome)
      && decide ([e].length + ([] : List Keyword).length + (if ([] : List Keyword).isEmpty then 0 else 1) < 30)) = true)
    (hline : (apos.endLine == pos.line) = true) (hs : starEach [e] X.env = (false, eval e X.env) :: starEach [] X.env) (hplain : (backTo pos (starEach [] X.env)).any (·.1) = false) :
    JE X G W P (.Call (.Attribute a "pop" apos) [e] [] pos) (.mth "popat" ea [y]) :=
  PE.imp (pe_bm PySem.F.plainAttrs_list PySem.F.slot_list_pop PySem.F.type_list_pop mt_popAt ha hx hbase hfew hline hs hplain) fun σ H Q h => by
    rw [hK]
    exact t_mthL (m := "popat") (.inr (.inr (.inl rfl))) (fun k S H o ys v vs Q s ro r p => m_popAt k S H o ys v vs Q s ro r p) (by simpa only [ev, evv, dflt] using h)
theorem j_bits {apos : Pos} (ha : JE X G W P a ea) (hbase : attributeBase a "bit_length" X.env (eval a X.env) = eval a X.env) (hline : (apos.endLine == pos.line) = true) :
    JE X G W P (.Call (.Attribute a "bit_length" apos) [] [] pos) (.mth "bit_length" ea []) :=
  PE.imp (pe_bits ha hbase hline) fun σ H Q h => by
    have h : tE G W (fun τ => (ev P τ ea).bind fun x => (ckM "bit_length" x).bind fun _ => (E.pure []).bind (mthE "bit_length" x)) σ H Q := by simpa only [ev, evv, evAs, dflt] using h
    refine tE.mono (fun v H1 q => ?_) (Cont.bindV (f := fun τ => ev P τ ea) (g := fun τ x => (ckM "bit_length" x).bind fun _ => (E.pure []).bind (mthE "bit_length" x)) h)
    obtain ⟨x, q⟩ := q
    refine Cont.fin1 q fun m S s r p => ?_
    cases r with
    | int => exact ⟨_, rfl, ok_int s p⟩
    | _ => exact p.elim
theorem j_meth1 {nm : Str} {id : String} {r : V → List V → Hp → VK → Prop} {m : Str} (hm : m = "append" ∨ m = "pop" ∨ m = "popat" ∨ m = "index" ∨ m = "count") (slot : PySem.Slot "list" nm id) (hty : typeOf (.builtin id) = pure (.type "method_descriptor")) (hr : MtR X id r)
    (ho : ∀ (k : List Nat) (S : Sto) (H : Hp) (o : Val) (ys : List Val) (v : V) (vs : List V) (Q : VK), SR G H k S → RV G H k o v → RVL G H k ys vs → Post G W k H (mthE m o ys S) (CQ G Q) → r v vs H Q) (hK : X.K = G.K) {apos : Pos} {e : Expr} {y : Ex} (ha : JE X G W P a ea) (hx : JA X G W P [e] [y])
    (hbase : attributeBase a nm X.env (eval a X.env) = eval a X.env)
    (hfew : ((backTo pos (starEach [e] X.env)).all (fun x => !x.1) && (backToKw pos (keywordEach [] X.env)).all (fun x => x.1.isSome)
      && decide ([e].length + ([] : List Keyword).length + (if ([] : List Keyword).isEmpty then 0 else 1) < 30)) = true)
    (hline : (apos.endLine == pos.line) = true) (hs : starEach [e] X.env = (false, eval e X.env) :: starEach [] X.env) (hplain : (backTo pos (starEach [] X.env)).any (·.1) = false) :
    JE X G W P (.Call (.Attribute a nm apos) [e] [] pos) (.mth m ea [y]) :=
  PE.imp (pe_bm PySem.F.plainAttrs_list slot hty hr ha hx hbase hfew hline hs hplain) fun σ H Q h => by
    rw [hK]
    exact t_mthL (m := m) hm ho (by simpa only [ev, evv, dflt] using h)
/-! ### list(range(..)), tuple(range(..)), xs[::-1], not as a value -/
theorem rg_rel {H : Hp} {m : List Nat} (a b : Int) : RVL G H m (rgI a b) (rgV a b) := rvl_map (L := List.range (b - a).toNat) (f := fun i => Val.int (a + (i : Nat))) (g := fun i => V.int (a + (i : Nat))) fun _ _ => .int
theorem rg_end {tp : Bool} {i j : Int} {m : List Nat} {S : Sto} {H : Hp} {Q : VK} (s : SR G H m S) (p : Post G W m H (rgE2 tp i j S) (CQ G Q)) : RgOk i j ∧ ∀ q, H q = none → Q (.ref q) (upd H q (if tp then .tup (rgV i j) else .lst (rgV i j))) := by
  unfold rgE2 at p
  split at p
  · rename_i hz
    simp only [Bool.and_eq_true, decide_eq_true_eq, in62] at hz
    refine ⟨⟨hz.1.1.1, hz.1.1.2, hz.1.2.1, hz.1.2.2, hz.2⟩, fun q hq => ?_⟩
    cases tp with
    | true => 
      have e : Ext m H m (upd H q (.tup (rgV i j))) := Ext.new hq
      exact p _ _ (s.new hq) e _ (.tup (.of upd_same) (rg_rel i j))
    | false =>
      obtain ⟨s', e', r'⟩ := s.alloc hq (rg_rel i j)
      exact p _ _ s' e' _ r'
  · exact p.elim
theorem t_rg1 {tp : Bool} {ma : Tau → E (List Val)} {f : Tau → E Val} {Q : VK} (hm : ∀ τ, ma τ = (f τ).bind fun v => E.pure [v]) (h : tE G W (fun τ => (ma τ).bind (rgE tp)) σ H Q) : tRg1 (tE G W f) σ H fun i j H1 => RgOk i j ∧ ∀ q, H1 q = none → Q (.ref q) (upd H1 q (if tp then .tup (rgV i j) else .lst (rgV i j))) := by
  have h' : tE G W (fun τ => (f τ).bind fun v => rgE tp [v]) σ H Q := by
    refine Eq.mp ?_ h
    congr 1
    funext τ S
    rw [hm]
    show ((f τ).bind fun v => E.pure [v]).bind (rgE tp) S = (f τ).bind (fun v => rgE tp [v]) S
    simp only [E.bind, E.pure]
    cases f τ S <;> rfl
  refine tE.mono (fun v H1 q => ?_) (Cont.bindV (f := f) (g := fun τ x => rgE tp [x]) h')
  obtain ⟨x, q⟩ := q
  refine Cont.fin1 q fun m S s r p => ?_
  cases r with
  | int => exact ⟨_, rfl, rg_end s p⟩
  | _ => exact p.elim
theorem t_rg2 {tp : Bool} {ma : Tau → E (List Val)} {f g : Tau → E Val} {Q : VK} (hm : ∀ τ, ma τ = (f τ).bind fun v => (g τ).bind fun w => E.pure [v, w]) (h : tE G W (fun τ => (ma τ).bind (rgE tp)) σ H Q) : tRg2 (tE G W f) (tE G W g) σ H fun i j H1 => RgOk i j ∧ ∀ q, H1 q = none → Q (.ref q) (upd H1 q (if tp then .tup (rgV i j) else .lst (rgV i j))) := by
  have h' : tE G W (fun τ => (f τ).bind fun v => (g τ).bind fun w => rgE tp [v, w]) σ H Q := by
    refine Eq.mp ?_ h
    congr 1
    funext τ S
    rw [hm]
    show ((f τ).bind fun v => (g τ).bind fun w => E.pure [v, w]).bind (rgE tp) S = (f τ).bind (fun v => (g τ).bind fun w => rgE tp [v, w]) S
    simp only [E.bind, E.pure]
    cases f τ S with
    | ok a S' => simp only; cases g τ S' <;> rfl
    | _ => rfl
  refine tE.mono (fun v H1 q => ?_) (Cont.bindV (f := f) (g := fun τ x => (g τ).bind fun w => rgE tp [x, w]) h')
  obtain ⟨x, q⟩ := q
  refine tE.mono (fun w H2 q2 => ?_) (Cont.bindV (f := g) (g := fun τ y => rgE tp [x, y]) q)
  obtain ⟨y, m, S, τ, s, sl, r, p⟩ := q2
  obtain ⟨_, _, e, rx, ry⟩ := r.inv2
  simp only [List.nil_append, List.singleton_append, List.cons.injEq, and_true] at e
  obtain ⟨rfl, rfl⟩ := e
  cases rx with
  | int => cases ry with
    | int => exact ⟨_, _, rfl, rfl, rg_end s p⟩
    | _ => exact p.elim
  | _ => exact p.elim
theorem j_rgl1 {tp : Bool} {p p' pos' : Pos} (hc : X.calm = true) (hT : Gl X (if tp then "tuple" else "list")) (hmT : X.mg (if tp then "tuple" else "list") = none) (hg : Gl X "range") (hm : X.mg "range" = none) (ha : JE X G W P a ea) (na : starEach [a] X.env = (false, eval a X.env) :: starEach [] X.env) :
    JE X G W P (.Call (.Name (if tp then "tuple" else "list") p) [.Call (.Name "range" p') [a] [] pos'] [] pos) (.rgl tp [ea]) := by
  have hm' : ∀ τ, evAs P τ [ea] = (ev P τ ea).bind fun v => E.pure [v] := fun τ => rfl
  cases tp with
  | true => exact PE.imp (pe_tupRg hc hT hmT (prg_1 hg hm ha na)) fun σ H Q h => t_rg1 (f := fun τ => ev P τ ea) (tp := true) hm' (by simpa only [ev, evv, dflt] using h)
  | false => exact PE.imp (pe_listRg hc hT hmT (prg_1 hg hm ha na)) fun σ H Q h => t_rg1 (f := fun τ => ev P τ ea) (tp := false) hm' (by simpa only [ev, evv, dflt] using h)
theorem j_rgl2 {tp : Bool} {p p' pos' : Pos} (hc : X.calm = true) (hT : Gl X (if tp then "tuple" else "list")) (hmT : X.mg (if tp then "tuple" else "list") = none) (hg : Gl X "range") (hm : X.mg "range" = none) (ha : JE X G W P a ea) (hb : JE X G W P b eb) (na : starEach [a, b] X.env = (false, eval a X.env) :: starEach [b] X.env)
    (nb : starEach [b] X.env = (false, eval b X.env) :: starEach [] X.env) (hp : (backTo pos' (starEach [b] X.env)).any (·.1) = false) :
    JE X G W P (.Call (.Name (if tp then "tuple" else "list") p) [.Call (.Name "range" p') [a, b] [] pos'] [] pos) (.rgl tp [ea, eb]) := by
  have hm' : ∀ τ, evAs P τ [ea, eb] = (ev P τ ea).bind fun v => (ev P τ eb).bind fun w => E.pure [v, w] := fun τ => by
    funext S
    simp only [evAs, ev, E.bind, E.pure]
    cases (evv P τ ea).1 S with
    | ok a S' => simp only; cases (evv P τ eb).1 S' <;> rfl
    | _ => rfl
  cases tp with
  | true => exact PE.imp (pe_tupRg hc hT hmT (prg_2 hg hm ha hb na nb hp)) fun σ H Q h => t_rg2 (f := fun τ => ev P τ ea) (g := fun τ => ev P τ eb) (tp := true) hm' (by simpa only [ev, evv, dflt] using h)
  | false => exact PE.imp (pe_listRg hc hT hmT (prg_2 hg hm ha hb na nb hp)) fun σ H Q h => t_rg2 (f := fun τ => ev P τ ea) (g := fun τ => ev P τ eb) (tp := false) hm' (by simpa only [ev, evv, dflt] using h)
theorem rvl_rev {H : Hp} {m : List Nat} {xs : List Val} {vs : List V} (r : RVL G H m xs vs) : RVL G H m xs.reverse vs.reverse := by
  induction xs generalizing vs with
  | nil => cases r; exact .nil
  | cons x xs ih => cases r with | cons h1 h2 => simpa using (ih h2).append (.one h1)
theorem j_rev (hK : X.K = G.K) {k : Nat} {p1 p2 p3 : Pos} (ha : JE X G W P a ea) : JE X G W P (.Subscript a (.Slice none none (some (.UnaryOp .USub (.Constant (.int 1) k p1) p2)) p3) pos) (.rev ea) :=
  PE.imp (pe_revL ha) fun σ H Q h => by
    rw [hK]
    have h : tE G W (fun τ => (ev P τ ea).bind revE) σ H Q := by simpa only [ev, evv, dflt] using h
    refine tE.mono (fun v H1 q => ?_) (Cont.bindV (f := fun τ => ev P τ ea) (g := fun τ x => revE x) h)
    obtain ⟨x, q⟩ := q
    refine Cont.fin1 q fun m S s r p => ?_
    unfold revE at p
    split at p
    · rename_i ys e
      obtain ⟨a, ws, rfl, h1, r1⟩ := items_of s r e
      exact ⟨a, ws, rfl, h1, (ok_alloc s (rvl_rev r1) p).2⟩
    · exact p.elim
theorem j_notV (hK : X.K = G.K) (hd : ∀ τ, (evv P τ ea).2 = (evv P τ ea).1.bind truthE) (ha : JE X G W P a ea) : JE X G W P (.UnaryOp .Not a pos) (.nt ea) :=
  PE.imp (pe_notT ha) fun σ H Q h => by
    rw [hK]
    have h' : tE G W (fun τ => (ev P τ ea).bind fun v => (truthE v).bind fun k => E.pure (.bl (!k))) σ H Q := by
      refine Eq.mp ?_ h
      congr 1
      funext τ S
      simp only [ev, evv, both]
      rw [hd]
      simp only [E.bind, E.pure]
      cases (evv P τ ea).1 S with
      | ok v S' => simp only; cases truthE v S' <;> rfl
      | _ => rfl
    refine tE.mono (fun v H1 q => ?_) (Cont.bindV (f := fun τ => ev P τ ea) (g := fun τ v => (truthE v).bind fun k => E.pure (Val.bl (!k))) h')
    obtain ⟨x, q⟩ := q
    refine Cont.fin1 q fun m S s r p => ?_
    refine tru_end (W := W) (Q := fun k H' => Q (.bl (!k)) H') s r ?_
    refine p.bind.mono fun b m' S' H' e s' q => ?_
    obtain ⟨_, _, q⟩ := q
    exact ok_bl s' q
end
end TQ
/-! TQ8: sources, patterns, comprehensions. -/
namespace TQ
open PySem L2 PyProof.Rows
/-! ### sources -/
/-- the walk J follows the source c of n items -/
def ItOk (G : Gx) (c : Src) (n : Nat) (J : It) (m0 : List Nat) (H0 : Hp) : Prop := ∀ (m : List Nat) (S : Sto) (H : Hp), SR G H m S → Ky H0 H → (∃ k, m = m0 ++ k) → c.len S = some n →
  (∀ i, i < n → J.go i H ∧ ∀ x H', J.yld i H x H' → ∃ v, c.get S i = some v ∧ SR G H' m S ∧ Ext m H m H' ∧ RV G H' m v x) ∧ J.stop n H
section
variable {G : Gx} {H0 : Hp} {m0 : List Addr} {n : Nat}
theorem it_seq {v : Val} {a : Addr} (r : RV G H0 m0 v (.ref a)) (hv : ∀ xs, v ≠ .tup xs) : ItOk G (.lst v) n (Itl G.K a) m0 H0 := by
  intro m S H s k p e
  simp only [Src.len, Option.map_eq_some_iff] at e
  obtain ⟨xs, e, rfl⟩ := e
  obtain ⟨b, vs, eb, h1, r1⟩ := items_of s (r.mono k p) e
  cases eb
  refine ⟨fun i hi => ?_, vs, h1, Nat.le_of_eq r1.length⟩
  obtain ⟨x, ex⟩ : ∃ x, xs[i]? = some x := ⟨xs[i], by simp [hi]⟩
  obtain ⟨y, ey, ry⟩ := r1.get ex
  refine ⟨⟨vs, y, h1, ey⟩, fun z H' q => ?_⟩
  obtain ⟨rfl, q⟩ := q
  have := q vs h1
  rw [ey] at this; cases this
  exact ⟨x, by simp [Src.get, e, ex], s, Ext.ref m _, ry⟩
theorem it_tup {xs : List Val} {a : Addr} {vs : List V} (h : SqT G.K H0 a vs) (r : RVL G H0 m0 xs vs) : ItOk G (.tup xs) xs.length (Itt G.K a) m0 H0 := by
  intro m S H s k p e
  have h1 := SqT.ky k h
  have r1 := r.mono k p
  refine ⟨fun i hi => ?_, vs, h1, Nat.le_of_eq r1.length⟩
  obtain ⟨x, ex⟩ : ∃ x, xs[i]? = some x := ⟨xs[i], by simp [hi]⟩
  obtain ⟨y, ey, ry⟩ := r1.get ex
  refine ⟨⟨vs, y, h1, ey⟩, fun z H' q => ?_⟩
  obtain ⟨rfl, q⟩ := q
  have := q vs h1
  rw [ey] at this; cases this
  exact ⟨x, by simp [Src.get, ex], s, Ext.ref m _, ry⟩
theorem it_rng {lo : Int} : ItOk G (.rng lo n) n (Itr lo n) m0 H0 := by
  intro m S H s k p e
  refine ⟨fun i hi => ⟨hi, fun x H' q => ?_⟩, Nat.le_refl n⟩
  obtain ⟨rfl, rfl⟩ := q
  exact ⟨_, rfl, s, Ext.ref m _, .int⟩
theorem it_enm {v : Val} {a : Addr} (r : RV G H0 m0 v (.ref a)) : ItOk G (.enm v) n (Ite G.K a) m0 H0 := by
  intro m S H s k p e
  simp only [Src.len, Option.map_eq_some_iff] at e
  obtain ⟨xs, e, rfl⟩ := e
  obtain ⟨b, vs, eb, h1, r1⟩ := items_of s (r.mono k p) e
  cases eb
  refine ⟨fun i hi => ?_, vs, h1, Nat.le_of_eq r1.length⟩
  obtain ⟨x, ex⟩ : ∃ x, xs[i]? = some x := ⟨xs[i], by simp [hi]⟩
  obtain ⟨y, ey, ry⟩ := r1.get ex
  refine ⟨⟨vs, y, h1, ey⟩, fun z H' q => ?_⟩
  obtain ⟨T, x', rfl, hT, rfl, q⟩ := q
  have := q vs h1
  rw [ey] at this; cases this
  have e' : Ext m H m (upd H T (.tup [.int (i : Nat), y])) := Ext.new hT
  exact ⟨.tup [.int (i : Int), x], by simp [Src.get, e, ex], s.new hT, e', .tup (.of upd_same) (.two .int (ry.mono e'.ky e'.sub))⟩
theorem it_zip {v w : Val} {a b : Addr} (r : RV G H0 m0 v (.ref a)) (r' : RV G H0 m0 w (.ref b)) : ItOk G (.zip false v w) n (Itz G.K a b) m0 H0 := by
  intro m S H s k p e
  simp only [Src.len] at e
  split at e
  · rename_i xs ys e1 e2
    simp only [Bool.false_eq_true, if_false, Option.some.injEq] at e
    subst e
    obtain ⟨_, vs, ea, h1, r1⟩ := items_of s (r.mono k p) e1
    cases ea
    obtain ⟨_, ws, eb, h2, r2⟩ := items_of s (r'.mono k p) e2
    cases eb
    have l1 := r1.length
    have l2 := r2.length
    refine ⟨fun i hi => ?_, vs, ws, h1, h2, by omega⟩
    obtain ⟨x, ex⟩ : ∃ x, xs[i]? = some x := ⟨xs[i]'(by omega), by simp⟩
    obtain ⟨y, ey⟩ : ∃ y, ys[i]? = some y := ⟨ys[i]'(by omega), by simp⟩
    obtain ⟨x', ex', rx⟩ := r1.get ex
    obtain ⟨y', ey', ry⟩ := r2.get ey
    refine ⟨⟨vs, ws, x', y', h1, h2, ex', ey'⟩, fun z H' q => ?_⟩
    obtain ⟨T, x2, y2, rfl, hT, rfl, q1, q2⟩ := q
    have t1 := q1 vs h1
    rw [ex'] at t1; cases t1
    have t2 := q2 ws h2
    rw [ey'] at t2; cases t2
    have e' : Ext m H m (upd H T (.tup [x', y'])) := Ext.new hT
    exact ⟨.tup [x, y], by simp [Src.get, e1, e2, ex, ey], s.new hT, e', .tup (.of upd_same) (.two (rx.mono e'.ky e'.sub) (ry.mono e'.ky e'.sub))⟩
  · cases e
end
/-- a list or a tuple, walked -/
def iSeq (K : PySem.W.Frag) (tl : TE) : TI := fun σ H R => tl σ H fun x H1 => ∃ a, x = .ref a ∧ (((∃ xs, SqL K H1 a xs) ∧ R (Itl K a) H1) ∨ ((∃ xs, SqT K H1 a xs) ∧ R (Itt K a) H1))
theorem pi_seq {X : Cx} {tg l : Expr} {tl : TE} (hl : PE X l tl) : PI X tg l (iSeq X.K tl) := by
  refine ⟨fun pins s σ H R I h => ?_⟩
  refine thn (hl.run pins s σ H _ I h) fun v s1 ⟨x, H1, I1, r1, q1⟩ => ?_
  obtain ⟨a, e, q⟩ := q1
  subst e
  cases r1
  rcases q with ⟨⟨xs, hq⟩, q⟩ | ⟨⟨xs, hq⟩, q⟩
  · obtain ⟨its, rv, p, hz⟩ := I1.list hq
    refine wpAny_pyIter_list p.isList ?_
    refine ⟨s1.heap.objs.size, [s1.heap.objs.size], _, _, H1, rfl, I1.kept (t' := s1.toks) fun b o e => Heap.get?_push_of_some _ e, turn_list a _, ⟨_, Heap.get?_push_size _ rfl, rfl, rfl⟩, fun b hb => ?_, q⟩
    have e : b = s1.heap.objs.size := by simpa using hb
    subst e
    exact I1.fpOk (Nat.le_refl _) (I1.hok.fresh (Nat.le_refl _))
  · obtain ⟨its, rv, p, hz⟩ := I1.tuple hq
    refine wpAny_pyIter_tuple (show s1.heap.IsTuple a its.toArray from p) ?_
    refine ⟨s1.heap.objs.size, [s1.heap.objs.size], _, _, H1, rfl, I1.kept (t' := s1.toks) fun b o e => Heap.get?_push_of_some _ e, turn_tuple a _, ⟨_, Heap.get?_push_size _ rfl, rfl, rfl⟩, fun b hb => ?_, q⟩
    have e : b = s1.heap.objs.size := by simpa using hb
    subst e
    exact I1.fpOk (Nat.le_refl _) (I1.hok.fresh (Nat.le_refl _))
section
variable {X : Cx} {G : Gx} {W : XK} {P : Pr} {σ : L2.St} {H : Hp} {α : Type}
/-- behind the source: what goes on -/
def Walk (G : Gx) (W : XK) (σ : L2.St) (go : Src → Nat → Tau → E α) (C : α → List Nat → Sto → Hp → Prop) (J : It) (H : Hp) : Prop :=
  ∃ m S τ c n, SR G H m S ∧ SL G H m τ σ ∧ ItOk G c n J m H ∧ c.len S = some n ∧ Post G W m H (go c n τ S) C
theorem evAs_len (τ : Tau) : ∀ (es : List Ex) (S : Sto) {us : List Val} {S' : Sto}, evAs P τ es S = .ok us S' → us.length = es.length
  | [], S, us, S', e => by simp only [evAs] at e; cases e; rfl
  | x :: es, S, us, S', e => by
    simp only [evAs] at e
    unfold E.bind at e
    split at e
    · rename_i v S1 _
      dsimp only at e
      split at e
      · rename_i vs S2 e2
        cases e
        simp [evAs_len τ es S1 e2]
      · cases e
      · cases e
    · cases e
    · cases e
theorem t_len {es : List Ex} {Q : List V → Hp → Prop} (h : tA G W (fun τ => evAs P τ es) σ H Q) : tA G W (fun τ => evAs P τ es) σ H fun vs H1 => vs.length = es.length ∧ Q vs H1 := by
  obtain ⟨m, S, τ, s, sl, r, p⟩ := h
  refine ⟨m, S, τ, s, sl, .nil, ?_⟩
  have p : Post G W m H (evAs P τ es S) (fun xs m' _ H' => ∀ vs, RVL G H' m' xs vs → Q vs H') := p
  show Post G W m H (evAs P τ es S) _
  cases e : evAs P τ es S with
  | bad => rw [e] at p; exact p
  | exc c d S' => rw [e] at p; exact p
  | ok us S' =>
    rw [e] at p
    exact fun m' H' s' e' vs rv => ⟨by rw [rv.length]; exact evAs_len τ es S e, p m' H' s' e' vs rv⟩
/-- a source's reading -/
abbrev JI (X : Cx) (G : Gx) (W : XK) (P : Pr) (tg x : Expr) (k : SrcK) (es : List Ex) : Prop := ∃ wi : TI, PI X tg x wi ∧ ∀ (α : Type) (σ : L2.St) (H : Hp) (go : Src → Nat → Tau → E α) (C : α → List Nat → Sto → Hp → Prop),
  Cont G W [] [] (fun τ => srcE (evAs P τ es) k fun c n => go c n τ) C σ H → ∀ R : It → Hp → Prop, (∀ J H1, Walk G W σ go C J H1 → R J H1) → wi σ H R
theorem src_args {k : SrcK} {es : List Ex} {go : Src → Nat → Tau → E α} {C : α → List Nat → Sto → Hp → Prop} (h : Cont G W [] [] (fun τ => srcE (evAs P τ es) k fun c n => go c n τ) C σ H) :
    tA G W (fun τ => evAs P τ es) σ H fun vs H1 => ∃ us m S τ c n, RVL G H1 m us vs ∧ mkSrc k us = some c ∧ c.len S = some n ∧ SR G H1 m S ∧ SL G H1 m τ σ ∧ Post G W m H1 (go c n τ S) C := by
  refine tA.mono (fun vs H1 q => ?_) (Cont.bindA (f := fun τ => evAs P τ es) (g := fun τ us => (getO (mkSrc k us)).bind fun c => fun S => match c.len S with | some n => go c n τ S | none => .bad) h)
  obtain ⟨us, m, S, τ, s, sl, r, p⟩ := q
  have p : Post G W m H1 (((getO (mkSrc k us)).bind fun c => fun S => match c.len S with | some n => go c n τ S | none => .bad) S) C := p
  cases e : mkSrc k us with
  | none => rw [e] at p; exact p.elim
  | some c =>
    rw [e] at p
    have p : Post G W m H1 (match c.len S with | some n => go c n τ S | none => .bad) C := p
    cases e2 : c.len S with
    | none => rw [e2] at p; exact p.elim
    | some n => rw [e2] at p; exact ⟨us, m, S, τ, c, n, r, e, e2, s, sl, p⟩
theorem ref_of_items {m : List Nat} {S : Sto} {v : Val} {x : V} {xs : List Val} (s : SR G H m S) (r : RV G H m v x) (e : itemsOf S v = some xs) : ∃ a, x = .ref a ∧ (∃ vs, SqL G.K H a vs) ∧ ∀ ys, v ≠ .tup ys := by
  obtain ⟨a, vs, rfl, h, _⟩ := items_of s r e
  refine ⟨a, rfl, ⟨vs, h⟩, fun ys z => ?_⟩
  subst z
  simp [itemsOf] at e
theorem t_one {e : Ex} {Q : List V → Hp → Prop} (h : tA G W (fun τ => evAs P τ [e]) σ H Q) : tE G W (fun τ => ev P τ e) σ H fun v H1 => Q [v] H1 := by
  have q := t_cons (by simpa only [evAs] using h)
  refine tE.mono (fun v H1 q => ?_) q
  exact t_nil (by simpa only [evAs] using q)
theorem ji_seq (hK : X.K = G.K) {tg x : Expr} {e : Ex} (hx : JE X G W P x e) : JI X G W P tg x .seq [e] := by
  refine ⟨_, pi_seq hx, fun α σ H go C h R kR => ?_⟩
  rw [hK]
  refine tE.mono (fun v H1 q => ?_) (t_one (src_args h))
  obtain ⟨us, m, S, τ, c, n, r, e1, e2, s, sl, p⟩ := q
  match us, r, e1 with
  | [u], r, e1 =>
    obtain ⟨_, ew, ru⟩ := r.inv1
    cases ew
    cases u with
    | tup xs =>
      simp only [mkSrc, mkSeq, Option.some.injEq] at e1
      subst e1
      simp only [Src.len, Option.some.injEq] at e2
      subst e2
      cases ru with
      | tup h1 r1 => exact ⟨_, rfl, .inr ⟨⟨_, h1⟩, kR _ _ ⟨m, S, τ, _, _, s, sl, it_tup h1 r1, rfl, p⟩⟩⟩
    | _ =>
      simp only [mkSrc, mkSeq, Option.some.injEq] at e1
      subst e1
      have e2' := e2
      simp only [Src.len, Option.map_eq_some_iff] at e2
      obtain ⟨xs, e2, rfl⟩ := e2
      obtain ⟨a, rfl, h1, hv⟩ := ref_of_items s ru e2
      exact ⟨a, rfl, .inl ⟨h1, kR _ _ ⟨m, S, τ, _, _, s, sl, it_seq ru hv, e2', p⟩⟩⟩
  | [], r, e1 => simp [mkSrc, mkSeq] at e1
  | _ :: _ :: _, r, e1 => simp [mkSrc, mkSeq] at e1
theorem ji_rng1 {tg x : Expr} {e : Ex} {p pos : Pos} (hx : JA X G W P [x] [e]) (hg : Gl X "range") (hm : X.mg "range" = none) (hs : starEach [x] X.env = [(false, eval x X.env)]) : JI X G W P tg (.Call (.Name "range" p) [x] [] pos) .rng [e] := by
  refine ⟨_, pi_range1 hg hm hx hs, fun α σ H go C h R kR => ?_⟩
  refine tA.mono (fun v H1 q => ?_) (t_len (src_args h))
  obtain ⟨hl, us, m, S, τ, c, n, r, e1, e2, s, sl, p⟩ := q
  rw [r.length] at hl
  match us, hl, r, e1 with
  | [u], _, r, e1 =>
    obtain ⟨w, rfl, ru⟩ := r.inv1
    obtain ⟨j, rfl⟩ : ∃ j, u = .int j := by
      cases u <;> first | exact ⟨_, rfl⟩ | (simp [mkSrc, mkRng] at e1)
    cases ru
    simp only [mkSrc, mkRng] at e1
    split at e1
    · rename_i hz
      cases e1
      simp only [Src.len, Option.some.injEq] at e2
      subst e2
      have hz : -(2 ^ 62) ≤ j ∧ j < 2 ^ 62 := by unfold in62 at hz; exact of_decide_eq_true hz
      exact ⟨j, rfl, hz.1, hz.2, kR _ _ ⟨m, S, τ, _, _, s, sl, it_rng, rfl, p⟩⟩
    · cases e1
theorem ji_rng2 {tg x y : Expr} {e f : Ex} {p pos : Pos} (hx : JA X G W P [x, y] [e, f]) (hg : Gl X "range") (hm : X.mg "range" = none) (hs : starEach [x, y] X.env = [(false, eval x X.env), (false, eval y X.env)]) (hs2 : starEach [y] X.env = [(false, eval y X.env)]) : JI X G W P tg (.Call (.Name "range" p) [x, y] [] pos) .rng [e, f] := by
  refine ⟨_, pi_range2 hg hm hx hs hs2, fun α σ H go C h R kR => ?_⟩
  refine tA.mono (fun v H1 q => ?_) (t_len (src_args h))
  obtain ⟨hl, us, m, S, τ, c, n, r, e1, e2, s, sl, p⟩ := q
  rw [r.length] at hl
  match us, hl, r, e1 with
  | [u, u'], _, r, e1 =>
    obtain ⟨w, w', rfl, ru, ru'⟩ := r.inv2
    obtain ⟨j, k, rfl, rfl⟩ : ∃ j k, u = .int j ∧ u' = .int k := by
      cases u <;> cases u' <;> first | exact ⟨_, _, rfl, rfl⟩ | (simp [mkSrc, mkRng] at e1)
    cases ru
    cases ru'
    simp only [mkSrc, mkRng] at e1
    split at e1
    · rename_i hz
      cases e1
      simp only [Src.len, Option.some.injEq] at e2
      subst e2
      simp only [Bool.and_eq_true] at hz
      have h1 : -(2 ^ 62) ≤ j ∧ j < 2 ^ 62 := by have := hz.1; unfold in62 at this; exact of_decide_eq_true this
      have h2 : -(2 ^ 62) ≤ k ∧ k < 2 ^ 62 := by have := hz.2; unfold in62 at this; exact of_decide_eq_true this
      exact ⟨j, k, rfl, ⟨h1.1, h1.2, h2.1, h2.2⟩, kR _ _ ⟨m, S, τ, _, _, s, sl, it_rng, rfl, p⟩⟩
    · cases e1
theorem ji_enm (hK : X.K = G.K) {x : Expr} {e : Ex} {p pos tpos : Pos} {elts : List Expr} {kk : Nat} (hx : JA X G W P [x] [e]) (hg : Gl X "enumerate") (hm : X.mg "enumerate" = none) (hs : starEach [x] X.env = [(false, eval x X.env)]) : JI X G W P (.Tuple elts kk tpos) (.Call (.Name "enumerate" p) [x] [] pos) .enm [e] := by
  refine ⟨_, pi_enum hg hm hx hs, fun α σ H go C h R kR => ?_⟩
  rw [hK]
  refine tA.mono (fun v H1 q => ?_) (t_len (src_args h))
  obtain ⟨hl, us, m, S, τ, c, n, r, e1, e2, s, sl, p⟩ := q
  rw [r.length] at hl
  match us, hl, r, e1 with
  | [u], _, r, e1 =>
    obtain ⟨w, rfl, ru⟩ := r.inv1
    simp only [mkSrc, mkEnm, Option.some.injEq] at e1
    subst e1
    have e2' := e2
    simp only [Src.len, Option.map_eq_some_iff] at e2
    obtain ⟨xs, e2, rfl⟩ := e2
    obtain ⟨a, rfl, ⟨vs, h1⟩, hv⟩ := ref_of_items s ru e2
    exact ⟨a, vs, rfl, h1, kR _ _ ⟨m, S, τ, _, _, s, sl, it_enm ru, e2', p⟩⟩
theorem ji_zip (hK : X.K = G.K) {x y : Expr} {e f : Ex} {p pos tpos : Pos} {elts : List Expr} {kk : Nat} (hx : JA X G W P [x, y] [e, f]) (hg : Gl X "zip") (hm : X.mg "zip" = none) (hs : starEach [x, y] X.env = (false, eval x X.env) :: starEach [y] X.env) (hpl : (backTo pos (starEach [y] X.env)).any (·.1) = false) : JI X G W P (.Tuple elts kk tpos) (.Call (.Name "zip" p) [x, y] [] pos) .zip [e, f] := by
  refine ⟨_, pi_zip hg hm hx hs hpl, fun α σ H go C h R kR => ?_⟩
  rw [hK]
  refine tA.mono (fun v H1 q => ?_) (t_len (src_args h))
  obtain ⟨hl, us, m, S, τ, c, n, r, e1, e2, s, sl, p⟩ := q
  rw [r.length] at hl
  match us, hl, r, e1 with
  | [u, u'], _, r, e1 =>
    obtain ⟨w, w', rfl, ru, ru'⟩ := r.inv2
    simp only [mkSrc, mkZip, Option.some.injEq] at e1
    subst e1
    have e2' := e2
    simp only [Src.len] at e2
    split at e2
    · rename_i xs ys q1 q2
      obtain ⟨a, rfl, ⟨vs, h1⟩, _⟩ := ref_of_items s ru q1
      obtain ⟨b, rfl, ⟨ws, h2⟩, _⟩ := ref_of_items s ru' q2
      exact ⟨a, b, vs, ws, rfl, h1, h2, kR _ _ ⟨m, S, τ, _, _, s, sl, it_zip ru ru', e2', p⟩⟩
    · cases e2
/-! ### patterns -/
/-- but for the slots is, σ' is σ -/
def But (is : List Nat) (σ σ' : L2.St) : Prop := ∀ j, j ∉ is → σ'[j]? = σ[j]?
/-- a target -/
def tG (G : Gx) (p : Pat) : TG := fun x σ H Q => ∃ m S τ v τ', SR G H m S ∧ SL G H m τ σ ∧ RV G H m v x ∧ bindP p v τ = some τ' ∧ ∀ σ', SL G H m τ' σ' → But p.slots σ σ' → Q σ' H
def tGs (G : Gx) (ps : List Pat) : TGs := fun xs σ H Q => ∃ m S τ vs τ', SR G H m S ∧ SL G H m τ σ ∧ RVL G H m vs xs ∧ bindPs ps vs τ = some τ' ∧ ∀ σ', SL G H m τ' σ' → But (Pat.slotsL ps) σ σ' → Q σ' H
abbrev JG (X : Cx) (G : Gx) (x : Expr) (p : Pat) : Prop := PG X x (tG G p)
abbrev JGs (X : Cx) (G : Gx) (x : List Expr) (p : List Pat) : Prop := PGs X x (tGs G p)
theorem PG.imp {x : Expr} {t t' : TG} (h : PG X x t) (k : ∀ v σ H Q, t' v σ H Q → t v σ H Q) : PG X x t' := ⟨fun pins s σ H v u Q I r hw => h.run pins s σ H v u Q I r (k _ _ _ _ hw)⟩
theorem PGs.imp {x : List Expr} {t t' : TGs} (h : PGs X x t) (k : ∀ v σ H Q, t' v σ H Q → t v σ H Q) : PGs X x t' := ⟨fun pins s σ H v u Q I r hw => h.run pins s σ H v u Q I r (k _ _ _ _ hw)⟩
theorem jg_name {i : Nat} {x : Str} {pos : Pos} (hN : X.N.Nodup) (hi : X.N[i]? = some x) (hx : Loc X.env.scope x) (hf : X.fn x = true ∨ X.env.scope.names.lookup x = some .local) : JG X G (.Name x pos) (.nm i) :=
  PG.imp (pg_name hN hi hx hf) fun x σ H Q h => by
    obtain ⟨m, S, τ, v, τ', s, sl, r, e, q⟩ := h
    simp only [bindP] at e
    split at e
    · cases e
      refine q _ (sl.set r) fun j hj => ?_
      simp only [Pat.slots, List.mem_singleton] at hj
      rw [List.getElem?_set_ne (fun z => hj z.symm)]
    · cases e
theorem jgs_nil : JGs X G [] [] := PGs.imp pgs_nil fun xs σ H Q h => by
  obtain ⟨m, S, τ, vs, τ', s, sl, r, e, q⟩ := h
  cases r with
  | nil => simp only [bindPs, Option.some.injEq] at e; subst e; exact ⟨rfl, q _ sl fun _ _ => rfl⟩
  | cons _ _ => simp [bindPs] at e
theorem jgs_cons {x : Expr} {xs : List Expr} {p : Pat} {ps : List Pat} (hx : JG X G x p) (hr : JGs X G xs ps) (hs : (assignEach (x :: xs) X.env).map (·.2) = assign x X.env :: (assignEach xs X.env).map (·.2)) : JGs X G (x :: xs) (p :: ps) :=
  PGs.imp (pgs_cons hx hr hs) fun ws σ H Q h => by
    obtain ⟨m, S, τ, vs, τ', s, sl, r, e, q⟩ := h
    cases r with
    | nil => simp [bindPs] at e
    | cons r1 r2 =>
      simp only [bindPs] at e
      split at e
      · rename_i τ1 e1
        refine ⟨_, _, rfl, m, S, τ, _, τ1, s, sl, r1, e1, fun σ1 sl1 b1 => ⟨m, S, τ1, _, τ', s, sl1, r2, e, fun σ2 sl2 b2 => q σ2 sl2 fun j hj => ?_⟩⟩
        simp only [Pat.slotsL, List.mem_append, not_or] at hj
        rw [b2 j hj.2, b1 j hj.1]
      · cases e
theorem bindPs_len : ∀ {ps : List Pat} {vs : List Val} {τ τ' : Tau}, bindPs ps vs τ = some τ' → vs.length = ps.length
  | [], [], _, _, _ => rfl
  | [], _ :: _, _, _, e => by simp [bindPs] at e
  | _ :: _, [], _, _, e => by simp [bindPs] at e
  | p :: ps, v :: vs, τ, τ', e => by
    simp only [bindPs] at e
    split at e
    · simp [bindPs_len e]
    · cases e
theorem jg_tup (hK : X.K = G.K) (hc : X.calm = true) {xs : List Expr} {ps : List Pat} {k : Nat} {pos : Pos} (h : JGs X G xs ps) (hn : (assignEach xs X.env).length = ps.length) (hst : (assignEach xs X.env).findIdx? (·.1) = none) : JG X G (.Tuple xs k pos) (.tup ps) :=
  PG.imp (pg_tup hc h hn hst) fun x σ H Q h => by
    obtain ⟨m, S, τ, v, τ', s, sl, r, e, q⟩ := h
    simp only [bindP] at e
    split at e
    · cases r with
      | tup h1 r1 => exact ⟨_, _, rfl, by rw [hK]; exact h1, by rw [r1.length]; exact bindPs_len e, m, S, τ, _, τ', s, sl, r1, e, q⟩
    · cases e
end
end TQ
/-! TQ9: list comprehensions. -/
namespace TQ
open PySem L2 PyProof.Rows
section
variable {G : Gx} {W : XK} {H H' : Hp} {m m' : List Nat} {S S' : Sto} {σ : L2.St} {τ : Tau}
abbrev W0 : XK := fun _ _ _ => False
theorem wipe_get (σ : L2.St) : ∀ (vs : List Nat) (j : Nat), (wipe σ vs)[j]? = if j ∈ vs then (if j < σ.length then some none else none) else σ[j]?
  | [], j => by simp [wipe]
  | v :: vs, j => by
    unfold wipe
    by_cases hj : v = j
    · subst hj
      by_cases hl : v < σ.length
      · rw [List.getElem?_set_self (by rw [wipe_length]; exact hl)]; simp [hl]
      · rw [List.getElem?_eq_none (by rw [List.length_set, wipe_length]; omega)]; simp [hl]
    · rw [List.getElem?_set_ne hj, wipe_get σ vs j]
      by_cases hm : j ∈ vs
      · simp [hm]
      · have : ¬ (j = v ∨ j ∈ vs) := fun z => z.elim (fun z => hj z.symm) hm
        simp [hm, this, Ne.symm hj]
theorem wipeT_len (τ : Tau) : ∀ vs : List Nat, (wipeT vs τ).length = τ.length
  | [] => rfl
  | v :: vs => by unfold wipeT; rw [List.length_set, wipeT_len τ vs]
theorem wipeT_some {i : Nat} {x : Val} : ∀ {vs : List Nat}, (wipeT vs τ)[i]? = some (some x) → τ[i]? = some (some x) ∧ i ∉ vs
  | [], h => ⟨h, by simp⟩
  | v :: vs, h => by
    unfold wipeT at h
    by_cases hi : v = i
    · subst hi
      by_cases hv : v < (wipeT vs τ).length
      · rw [List.getElem?_set_self hv] at h; cases h
      · rw [List.getElem?_eq_none (by rw [List.length_set]; omega)] at h; cases h
    · rw [List.getElem?_set_ne hi] at h
      obtain ⟨h1, h2⟩ := wipeT_some h
      exact ⟨h1, by simp only [List.mem_cons, not_or]; exact ⟨fun e => hi e.symm, h2⟩⟩
theorem SL.wipe (sl : SL G H m τ σ) (vs : List Nat) : SL G H m (wipeT vs τ) (L2.wipe σ vs) := by
  refine ⟨by rw [wipeT_len, wipe_length, sl.len], fun i x e => ?_⟩
  obtain ⟨e1, e2⟩ := wipeT_some e
  obtain ⟨v, q, r⟩ := sl.at_ i x e1
  exact ⟨v, by rw [wipe_get, if_neg e2]; exact q, r⟩
theorem But.wipe {vs : List Nat} {σ' : L2.St} (b : But vs (L2.wipe σ vs) σ') (hl : σ'.length = σ.length) : L2.wipe σ' vs = L2.wipe σ vs := by
  apply List.ext_getElem?
  intro j
  rw [wipe_get, wipe_get]
  by_cases hj : j ∈ vs
  · simp [hj, hl]
  · rw [if_neg hj, if_neg hj, b j hj, wipe_get, if_neg hj]
theorem ky_out {D : Addr} {xs ys : List V} (hD : H D = some (.lst xs)) : Ky H (upd H D (.lst ys)) := ⟨fun {b o} e k => by
  have : b ≠ D := fun z => by subst z; rw [hD] at e; cases e; exact k
  rw [upd_ne this]; exact e, fun {b us} e => by
  by_cases z : b = D
  · subst z; exact ⟨ys, upd_same⟩
  · exact ⟨us, by rw [upd_ne z]; exact e⟩⟩
/-- a list beside the store's -/
theorem SR.out (s : SR G H m S) {D : Addr} {xs ys : List V} (hD : H D = some (.lst xs)) (hn : lA D ∉ m) : SR G (upd H D (.lst ys)) m S := by
  refine ⟨s.len, s.nd, fun n zs e => ?_, tab_mut s.tab hD, s.ow, s.ndc⟩
  obtain ⟨b, e1, q⟩ := s.at_ n zs e
  refine ⟨b, e1, q.mono (ky_out hD) ⟨[], by simp⟩ (fun a vs eb h => ?_) fun c o _ h => frz_up h (.inr ⟨xs, hD⟩)⟩
  have : a ≠ D := fun z => by subst z; subst eb; exact hn (List.mem_of_getElem? e1)
  rw [upd_ne this]; exact h
/-- .. becomes one of the store's -/
theorem SR.adopt (s : SR G H m S) {D : Addr} {xs : List Val} {vs : List V} (hD : H D = some (.lst vs)) (hn : lA D ∉ m) (r : RVL G H m xs vs) : SR G H (m ++ [lA D]) (S ++ [xs]) := by
  have p : ∃ e, m ++ [lA D] = m ++ e := ⟨[lA D], rfl⟩
  refine ⟨by simp [s.len], nd_app s.nd (.inl hn), fun n ys en => ?_, s.tab, fun q hq => pre_get (s.ow q hq), ndc_app s.ndc fun c z => lA_cA z⟩
  by_cases hl : n < S.length
  · rw [List.getElem?_append_left hl] at en
    obtain ⟨b, e1, q⟩ := s.at_ n ys en
    exact ⟨b, pre_get e1, q.mono (Ky.refl H) p (fun _ _ _ h => h) fun _ _ _ h => h⟩
  · have hn' : n = S.length := by
      have := (List.getElem?_eq_some_iff.mp en).1
      simp at this; omega
    subst hn'
    simp at en
    subst en
    exact ⟨lA D, by rw [← s.len]; simp, .lst hD (r.mono (Ky.refl H) p)⟩
theorem quiet_bind {α β : Type} (x : E α) (f : α → E β) : quietE (x.bind f) = (quietE x).bind fun a => quietE (f a) := by
  funext S
  cases e : x S <;> simp [quietE, E.bind, e]
theorem quiet_pure {α : Type} (a : α) : quietE (E.pure a) = E.pure a := rfl
theorem quiet_getO {α : Type} (o : Option α) : quietE (getO o) = getO o := by
  funext S
  unfold quietE getO
  cases o <;> rfl
end
section
variable {X : Cx} {G : Gx} {W : XK} {P : Pr} {pos : Pos}
/-- the step of a comprehension's turn -/
def stepE (P : Pr) (p : Pat) (τ : Tau) (ifs : List Ex) (e : Ex) (d : Val) : E (Option Val) := (getO (bindP p d (wipeT p.slots τ))).bind fun τ' => (evIf P.inn τ' ifs).bind fun b => if b then (evv P.inn τ' e).1.bind fun v => E.pure (some v) else E.pure none
theorem quiet_exc {α : Type} {f : E α} {S : Sto} {c : Str} {d : Val} {S' : Sto} (h : quietE f S = .exc c d S') : False := by
  unfold quietE at h
  cases e : f S <;> rw [e] at h <;> cases h
theorem acc_len {m : List Nat} {H : Hp} {S : Sto} {C : Val → List Nat → Sto → Hp → Prop} {f : E (List Val)} {acc : List Val} (p : Post G W m H (((quietE f).bind fun r => alloc (acc ++ r)) S) C) : acc.length ≤ sizeLine := by
  unfold E.bind at p
  cases e : quietE f S with
  | bad => rw [e] at p; exact p.elim
  | exc c d S' => exact (quiet_exc e).elim
  | ok r S' =>
    rw [e] at p
    dsimp only at p
    unfold alloc at p
    split at p
    · rename_i hz
      simp only [lineOk, decide_eq_true_eq, List.length_append] at hz
      omega
    · exact p.elim
theorem quiet_at {α : Type} {f g : E α} {S : Sto} (h : f S = g S) : quietE f S = quietE g S := by unfold quietE; rw [h]
theorem bind_at {α β : Type} {f g : E α} {k : α → E β} {S : Sto} (h : f S = g S) : f.bind k S = g.bind k S := by unfold E.bind; rw [h]
theorem comp_succ {c : Src} {n k : Nat} {step : Val → E (Option Val)} {S : Sto} {v : Val} (hl : c.len S = some n) (hg : c.get S (n - (k + 1)) = some v) :
    compE c n step (k + 1) S = ((step v).bind fun o => (compE c n step k).bind fun r => E.pure (consO o r)) S := by
  simp only [compE]
  rw [if_pos hl, hg]
/-- a quiet step ahead: what it gives, and what follows of the whole -/
theorem post_quiet {α : Type} {m mm : List Addr} {H H' : Hp} {S : Sto} {C : Val → List Nat → Sto → Hp → Prop} {f : E α} {g : α → E Val} {D : α → List Nat → Sto → Hp → Prop} (p : Post G W m H (((quietE f).bind g) S) C)
    (k : ∀ a S' m' H', f S = .ok a S' → Post G W m H (g a S') C → SR G H' m' S' → Ext mm H' m' H' → True) (k2 : ∀ a S', f S = .ok a S' → Post G W m H (g a S') C → ∀ m' H2, SR G H2 m' S' → Ext mm H' m' H2 → D a m' S' H2) : Post G W0 mm H' (f S) D := by
  unfold E.bind at p
  cases e : f S with
  | bad =>
    have : quietE f S = .bad := by unfold quietE; rw [e]
    rw [this] at p; exact p.elim
  | exc c d S' =>
    have : quietE f S = .bad := by unfold quietE; rw [e]
    rw [this] at p; exact p.elim
  | ok a S' =>
    have : quietE f S = .ok a S' := by unfold quietE; rw [e]
    rw [this] at p
    exact fun m' H2 s x => k2 a S' e p m' H2 s x
mutual
theorem bindP_len : ∀ {p : Pat} {v : Val} {τ τ' : Tau}, bindP p v τ = some τ' → τ'.length = τ.length
  | .nm i, v, τ, τ', e => by
    simp only [bindP] at e
    split at e
    · cases e; simp
    · cases e
  | .tup ps, v, τ, τ', e => by
    simp only [bindP] at e
    split at e
    · exact bindPs_len2 e
    · cases e
theorem bindPs_len2 : ∀ {ps : List Pat} {vs : List Val} {τ τ' : Tau}, bindPs ps vs τ = some τ' → τ'.length = τ.length
  | [], [], τ, τ', e => by simp only [bindPs, Option.some.injEq] at e; subst e; rfl
  | [], _ :: _, _, _, e => by simp [bindPs] at e
  | _ :: _, [], _, _, e => by simp [bindPs] at e
  | p :: ps, v :: vs, τ, τ', e => by
    simp only [bindPs] at e
    split at e
    · rename_i τ1 e1
      rw [bindPs_len2 e, bindP_len e1]
    · cases e
end
theorem lc_imp {p : Pat} {k : SrcK} {ss ifs : List Ex} {e : Ex} {wi : TI} {σ : L2.St} {H : Hp} {Q : VK}
    (hw : ∀ (α : Type) (σ : L2.St) (H : Hp) (go : Src → Nat → Tau → E α) (C : α → List Nat → Sto → Hp → Prop), Cont G W [] [] (fun τ => srcE (evAs P τ ss) k fun c n => go c n τ) C σ H → ∀ R : It → Hp → Prop, (∀ J H1, Walk G W σ go C J H1 → R J H1) → wi σ H R)
    (h : tE G W (fun τ => ev P τ (.lc p k ss ifs e)) σ H Q) : tLc wi (tG G p) (tB G W0 fun τ => evIf P.inn τ ifs) (tE G W0 fun τ => ev P.inn τ e) p.slots σ H Q := by
  have h : tE G W (fun τ => srcE (evAs P τ ss) k fun c n => (quietE (compE c n (stepE P p τ ifs e) n)).bind alloc) σ H Q := by
    have h' : tE G W (fun τ => ev P τ (.lc p k ss ifs e)) σ H Q := h
    simp only [ev, evv, dflt, lcE] at h'
    exact h'
  refine hw Val σ H (fun c n τ => (quietE (compE c n (stepE P p τ ifs e) n)).bind alloc) (CQ G Q) h _ fun J H1 wk D hD => ?_
  obtain ⟨m, S, τ, c, n, s, sl, it, hn, post⟩ := wk
  refine ⟨fun i r H' => i + r = n ∧ ∃ mm S' acc accV, SR G H' mm S' ∧ Ext m H1 mm H' ∧ lA D ∉ mm ∧ H' D = some (.lst accV) ∧ RVL G H' mm acc accV ∧ Post G W m H1 (((quietE (compE c n (stepE P p τ ifs e) r)).bind fun r => alloc (acc ++ r)) S') (CQ G Q), ⟨n, by omega, m, S, [], [], s.new hD, Ext.new hD, fun z => ?_, upd_same, .nil, by simpa using post⟩, ?_⟩
  · obtain ⟨_, q⟩ := s.mem z
    rw [hD] at q; cases q
  rintro i r H' ⟨hir, mm, S', acc, accV, s', ex, hDm, hDl, ra, post⟩
  cases r with
  | zero =>
    have hi : i = n := by omega
    subst hi
    simp only [compE] at post
    by_cases hl : c.len S' = some i
    · refine .inl ⟨(it mm S' H' s' ex.ky ex.sub hl).2, ?_⟩
      have e : ((quietE fun S => if c.len S = some i then R.ok [] S else R.bad).bind fun r => alloc (acc ++ r)) S' = alloc acc S' := by
        simp [quietE, E.bind, hl]
      rw [e] at post
      unfold alloc at post
      split at post
      · refine post _ H' (s'.adopt hDl hDm ra) ⟨?_, ex.keep, ex.lst⟩ _ (.ref (by rw [← s'.len]; simp))
        obtain ⟨k, rfl, hk⟩ := ex.pre
        refine ⟨k ++ [lA D], by simp, fun a ha => ?_⟩
        rcases ha with ha | ha
        · rcases List.mem_append.mp ha with z | z
          · exact hk a (.inl z)
          · simp at z; rw [lA_inj z]; exact hD
        · rcases List.mem_append.mp ha with z | z
          · exact hk a (.inr z)
          · simp at z; exact (lA_cA z.symm).elim
      · exact post.elim
    · have e : ((quietE fun S => if c.len S = some i then R.ok [] S else R.bad).bind fun r => alloc (acc ++ r)) S' = .bad := by
        simp [quietE, E.bind, hl]
      rw [e] at post
      exact post.elim
  | succ r =>
    have hlen := acc_len post
    by_cases hl : c.len S' = some n
    · obtain ⟨items, _⟩ := it mm S' H' s' ex.ky ex.sub hl
      obtain ⟨go, yl⟩ := items i (by omega)
      refine .inr ⟨go, fun H2 => i + 1 + r = n ∧ ∃ mm S' acc accV, SR G H2 mm S' ∧ Ext m H1 mm H2 ∧ lA D ∉ mm ∧ H2 D = some (.lst accV) ∧ RVL G H2 mm acc accV ∧ Post G W m H1 (((quietE (compE c n (stepE P p τ ifs e) r)).bind fun r => alloc (acc ++ r)) S') (CQ G Q), fun H2 h2 => ⟨r, by omega, h2⟩, fun x H2 y => ?_⟩
      obtain ⟨v, ev, s2, ex2, rv⟩ := yl x H2 y
      have hni : n - (r + 1) = i := by omega
      -- the whole, from this turn on
      have post : Post G W m H1 (((quietE (stepE P p τ ifs e v)).bind fun o => (quietE (compE c n (stepE P p τ ifs e) r)).bind fun rest => alloc (acc ++ (consO o rest))) S') (CQ G Q) := by
        have this := bind_at (k := fun r => alloc (acc ++ r)) (quiet_at (comp_succ (step := stepE P p τ ifs e) (k := r) hl (by rw [hni]; exact ev)))
        rw [this, quiet_bind, bind_assoc] at post
        have e3 : (fun o => (quietE ((compE c n (stepE P p τ ifs e) r).bind fun r => E.pure (consO o r))).bind fun r => alloc (acc ++ r)) = fun o => (quietE (compE c n (stepE P p τ ifs e) r)).bind fun rest => alloc (acc ++ (consO o rest)) := by
          funext o
          rw [quiet_bind, bind_assoc]
          congr 1
        rw [e3] at post
        exact post
      have hD2 : H2 D = some (.lst accV) := by
        have := ex2.keep D _ hDl (.inr hDm)
        exact this.kn fun _ z => nomatch z
      unfold stepE at post
      simp only [quiet_bind, quiet_getO] at post
      cases eb : bindP p v (wipeT p.slots τ) with
      | none => rw [eb] at post; exact post.elim
      | some τ' =>
        rw [eb] at post
        have slw : SL G H2 mm (wipeT p.slots τ) (L2.wipe σ p.slots) := ((sl.mono ex).mono ex2).wipe _
        refine ⟨mm, S', _, v, τ', s2, slw, rv, eb, fun σ2 sl2 but => ?_⟩
        have hl2 : σ2.length = σ.length := by
          have h1 := sl2.len
          have h2 : τ'.length = (wipeT p.slots τ).length := bindP_len eb
          have h3 := wipeT_len τ p.slots
          have h4 := sl.len
          omega
        refine ⟨But.wipe but hl2, mm, S', τ', s2, sl2, .nil, ?_⟩
        have post : Post G W m H1 (((quietE (evIf P.inn τ' ifs)).bind fun b => (quietE (if b then (evv P.inn τ' e).1.bind fun v => E.pure (some v) else E.pure none)).bind fun o => (quietE (compE c n (stepE P p τ ifs e) r)).bind fun rest => alloc (acc ++ (consO o rest))) S') (CQ G Q) := by
          have e4 := bind_assoc (quietE (evIf P.inn τ' ifs)) (fun b => quietE (if b then (evv P.inn τ' e).1.bind fun v => E.pure (some v) else E.pure none)) (fun o => (quietE (compE c n (stepE P p τ ifs e) r)).bind fun rest => alloc (acc ++ (consO o rest)))
          rw [← e4]
          exact post
        refine post_quiet post (fun _ _ _ _ _ _ _ _ => trivial) fun b S3 _ post m3 H3 s3 ex3 => ?_
        have hD3 : H3 D = some (.lst accV) := (ex3.keep D _ hD2 (.inr hDm)).kn fun _ z => nomatch z
        have hDm3 : lA D ∉ m3 := fun z => by
          obtain ⟨k, rfl, hk⟩ := ex3.pre
          rcases List.mem_append.mp z with z | z
          · exact hDm z
          · rw [hk D (.inl z)] at hD2; cases hD2
        have ex13 : Ext m H1 m3 H3 := (ex.trans ex2).trans ex3
        cases b with
        | false =>
          simp only [Bool.false_eq_true, if_false] at post ⊢
          rw [quiet_pure] at post
          exact ⟨by omega, m3, S3, acc, accV, s3, ex13, hDm3, hD3, (ra.mono ex2.ky ex2.sub).mono ex3.ky ex3.sub, post⟩
        | true =>
          simp only [if_true] at post ⊢
          rw [quiet_bind, bind_assoc] at post
          refine ⟨m3, S3, τ', s3, sl2.mono ex3, .nil, post_quiet post (fun _ _ _ _ _ _ _ _ => trivial) fun z S4 _ post m4 H4 s4 ex4 w rw' => ?_⟩
          have hD4 : H4 D = some (.lst accV) := (ex4.keep D _ hD3 (.inr hDm3)).kn fun _ z => nomatch z
          have hDm4 : lA D ∉ m4 := fun z => by
            obtain ⟨k, rfl, hk⟩ := ex4.pre
            rcases List.mem_append.mp z with z | z
            · exact hDm3 z
            · rw [hk D (.inl z)] at hD3; cases hD3
          have ra4 := ((ra.mono ex2.ky ex2.sub).mono ex3.ky ex3.sub).mono ex4.ky ex4.sub
          have post : Post G W m H1 (((quietE (compE c n (stepE P p τ ifs e) r)).bind fun rest => alloc ((acc ++ [z]) ++ rest)) S4) (CQ G Q) := by
            have e5 : (fun rest => alloc ((acc ++ [z]) ++ rest)) = fun rest => alloc (acc ++ (z :: rest)) := by funext rest; rw [List.append_assoc]; rfl
            rw [e5]
            exact post
          have hl4 := acc_len post
          refine ⟨accV, hD4, ?_, by omega, m4, S4, acc ++ [z], accV ++ [w], s4.out hD4 hDm4, ?_, hDm4, upd_same, ?_, post⟩
          · rw [ra4.length]
            simp only [List.length_append, List.length_cons, List.length_nil] at hl4
            omega
          · have ex14 := ex13.trans ex4
            refine ⟨ex14.pre, fun a o ha hn => ?_, fun a xs ha => ?_⟩
            · have : a ≠ D := fun z => by rw [z, hD] at ha; cases ha
              rcases ex14.keep a o ha hn with y | ⟨ps, qs, e, y⟩
              · exact .inl (by rw [upd_ne this]; exact y)
              · exact .inr ⟨ps, qs, e, by rw [upd_ne this]; exact y⟩
            · have : a ≠ D := fun z => by rw [z, hD] at ha; cases ha
              obtain ⟨ys, y⟩ := ex14.lst a xs ha
              exact ⟨ys, by rw [upd_ne this]; exact y⟩
          · exact (ra4.append (.one rw')).mono (ky_out hD4) ⟨[], by simp⟩
    · have e : compE c n (stepE P p τ ifs e) (r + 1) S' = E.bad S' := by
        simp only [compE]
        rw [if_neg hl]
        rfl
      have this := bind_at (k := fun r => alloc (acc ++ r)) (quiet_at e)
      rw [this] at post
      exact post.elim
theorem j_lc {p : Pat} {k : SrcK} {ss ifs : List Ex} {e : Ex} {elt tg iter : Expr} {xifs : List Expr} {scope : Scope} {own : List (Str × Nat)} (hc : X.calm = true) (hN : X.N.Nodup) (hi : JI X G W P tg iter k ss) (ok : BlkOk X.N X.env.scope scope own) (ho : own.map (·.2) = p.slots)
    (hg : ∀ (s : Shared) (H : Hp) (C : Addr) (cl : List (Str × Addr)) (fp : List Addr), JG (X.blk s H scope (compEnvC scope cl C X.env) fp) G tg p)
    (ht : ∀ (s : Shared) (H : Hp) (C : Addr) (cl : List (Str × Addr)) (fp : List Addr), PTs (X.blk s H scope (compEnvC scope cl C X.env) fp) xifs (tB G W0 fun τ => evIf P.inn τ ifs))
    (he : ∀ (s : Shared) (H : Hp) (C : Addr) (cl : List (Str × Addr)) (fp : List Addr), JE (X.blk s H scope (compEnvC scope cl C X.env) fp) G W0 P.inn elt e)
    (hs : ∀ x, foldedSetIterable iter X.env x = pure x) : JE X G W P (.ListComp elt [⟨tg, iter, xifs, 0⟩] scope pos) (.lc p k ss ifs e) := by
  obtain ⟨wi, hpi, hw⟩ := hi
  refine PE.imp (pe_lc hc hN hpi ok hg ht he hs) fun σ H Q h => ?_
  rw [ho]
  exact lc_imp hw h
/-- name = [..] on one line -/
theorem ps_lc {p : Pat} {k : SrcK} {ss ifs : List Ex} {e : Ex} {elt tg iter : Expr} {xifs : List Expr} {scope : Scope} {own : List (Str × Nat)} {i : Nat} {y : Str} {py spos : Pos} (hc : X.calm = true) (hN : X.N.Nodup) (hy : X.N[i]? = some y) (hyl : X.env.scope.names.lookup y = some .local)
    (hsw : swapsWith (.ListComp elt [⟨tg, iter, xifs, 0⟩] scope pos) (some (.Name y py)) spos.line X.env = pure true) (hi : JI X G W P tg iter k ss) (ok : BlkOk X.N X.env.scope scope own) (ho : own.map (·.2) = p.slots)
    (hg : ∀ (s : Shared) (H : Hp) (C : Addr) (cl : List (Str × Addr)) (fp : List Addr), JG (X.blk s H scope (compEnvC scope cl C X.env) fp) G tg p)
    (ht : ∀ (s : Shared) (H : Hp) (C : Addr) (cl : List (Str × Addr)) (fp : List Addr), PTs (X.blk s H scope (compEnvC scope cl C X.env) fp) xifs (tB G W0 fun τ => evIf P.inn τ ifs))
    (he : ∀ (s : Shared) (H : Hp) (C : Addr) (cl : List (Str × Addr)) (fp : List Addr), JE (X.blk s H scope (compEnvC scope cl C X.env) fp) G W0 P.inn elt e)
    (hs : ∀ x, foldedSetIterable iter X.env x = pure x) : PS X (.Assign [.Name y py] (.ListComp elt [⟨tg, iter, xifs, 0⟩] scope pos) spos) (tAsg (tE G W fun τ => ev P τ (.lc p k ss ifs e)) (gName i)) := by
  obtain ⟨wi, hpi, hw⟩ := hi
  have q := ps_setLc hc hN hy hyl hsw hpi ok hg ht he hs
  refine ⟨fun pins s σ H D I h => q.run pins s σ H D I ?_⟩
  have h2 : tLc wi (tG G p) (tB G W0 fun τ => evIf P.inn τ ifs) (tE G W0 fun τ => ev P.inn τ e) p.slots σ H (fun x H1 => gName i x σ H1 D.nx) := lc_imp hw h
  rw [← ho] at h2
  exact h2
end
end TQ
/-! TQ10: statements. -/
namespace TQ
open PySem L2 PyProof.Rows
/-- what is wanted behind our statement -/
def EndC (G : Gx) (D : Ends) : Fl × Tau → List Nat → Sto → Hp → Prop := fun p m' _ H' => match p.1 with
  | .nx => ∀ σ', SL G H' m' p.2 σ' → D.nx σ' H'
  | .bk => ∀ σ', SL G H' m' p.2 σ' → D.bk σ' H'
  | .ct => ∀ σ', SL G H' m' p.2 σ' → D.ct σ' H'
  | .rt v => ∀ x, RV G H' m' v x → D.rt x H'
def tS (G : Gx) (W : XK) (f : MS) : TS := fun D σ H => Cont G W [] [] f (EndC G D) σ H
theorem PS.imp {X : Cx} {e : Stmt} {t t' : TS} (h : PS X e t) (k : ∀ D σ H, t' D σ H → t D σ H) : PS X e t' := ⟨fun pins s σ H D I hw => h.run pins s σ H D I (k _ _ _ hw)⟩
theorem PSs.imp {X : Cx} {e : List Stmt} {t t' : TS} (h : PSs X e t) (k : ∀ D σ H, t' D σ H → t D σ H) : PSs X e t' := ⟨fun pins s σ H D I hw => h.run pins s σ H D I (k _ _ _ hw)⟩
section
variable {X : Cx} {G : Gx} {W : XK} {P : Pr} {pos : Pos} {x : Expr} {e : Ex}
abbrev JS (X : Cx) (G : Gx) (W : XK) (P : Pr) (x : Stmt) (e : Sm) : Prop := PS X x (tS G W (exS P e))
abbrev JSs (X : Cx) (G : Gx) (W : XK) (P : Pr) (x : List Stmt) (e : List Sm) : Prop := PSs X x (tS G W (exSs P e))
theorem end_nx {τ' : Tau} {D : Ends} {m : List Nat} {S : Sto} {H : Hp} {σ : L2.St} (s : SR G H m S) (sl : SL G H m τ' σ) (p : Post G W m H (E.pure (Fl.nx, τ') S) (EndC G D)) : D.nx σ H := p m H s (Ext.ref m H) σ sl
theorem js_pass : JS X G W P (.Pass pos) .pass := PS.imp ps_pass fun D σ H h => by
  obtain ⟨m, S, τ, s, sl, r, p⟩ := h
  exact end_nx s sl (by simpa only [exS] using p)
theorem js_brk : JS X G W P (.Break pos) .brk := PS.imp ps_break fun D σ H h => by
  obtain ⟨m, S, τ, s, sl, r, p⟩ := h
  have p : Post G W m H (E.pure (Fl.bk, τ) S) (EndC G D) := by simpa only [exS] using p
  exact p m H s (Ext.ref m H) σ sl
theorem js_cnt : JS X G W P (.Continue pos) .cnt := PS.imp ps_continue fun D σ H h => by
  obtain ⟨m, S, τ, s, sl, r, p⟩ := h
  have p : Post G W m H (E.pure (Fl.ct, τ) S) (EndC G D) := by simpa only [exS] using p
  exact p m H s (Ext.ref m H) σ sl
theorem js_retN : JS X G W P (.Return none pos) .retN := PS.imp ps_retN fun D σ H h => by
  obtain ⟨m, S, τ, s, sl, r, p⟩ := h
  have p : Post G W m H (E.pure (Fl.rt .non, τ) S) (EndC G D) := by simpa only [exS] using p
  exact p m H s (Ext.ref m H) _ .non
theorem js_ret (hx : JE X G W P x e) : JS X G W P (.Return (some x) pos) (.ret e) := PS.imp (ps_ret hx) fun D σ H h => by
  have h : Cont G W [] [] (fun τ => (ev P τ e).bind fun v => E.pure (Fl.rt v, τ)) (EndC G D) σ H := by
    have h' : Cont G W [] [] (exS P (.ret e)) (EndC G D) σ H := h
    simpa only [exS] using h'
  refine tE.mono (fun v H1 q => ?_) (Cont.bindV (f := fun τ => ev P τ e) (g := fun τ v => E.pure (Fl.rt v, τ)) h)
  obtain ⟨y, m, S, τ, s, sl, r, p⟩ := q
  obtain ⟨_, e1, ry⟩ := r.inv1
  cases e1
  exact p m H1 s (Ext.ref m H1) _ ry
theorem js_ex (hx : JE X G W P x e) (hs : swapsWith x none pos.line X.env = pure false) : JS X G W P (.Expr x pos) (.ex e) := PS.imp (ps_expr hx hs) fun D σ H h => by
  have h : Cont G W [] [] (fun τ => (ev P τ e).bind fun v => E.pure (Fl.nx, τ)) (EndC G D) σ H := by
    have h' : Cont G W [] [] (exS P (.ex e)) (EndC G D) σ H := h
    simpa only [exS] using h'
  refine tE.mono (fun v H1 q => ?_) (Cont.bindV (f := fun τ => ev P τ e) (g := fun τ v => E.pure (Fl.nx, τ)) h)
  obtain ⟨y, m, S, τ, s, sl, r, p⟩ := q
  exact end_nx s sl p
theorem asg_imp {p : Pat} {D : Ends} {σ : L2.St} {H : Hp} (h : tS G W (exS P (.asg p e)) D σ H) : tAsg (tE G W fun τ => ev P τ e) (tG G p) D σ H := by
  have h : Cont G W [] [] (fun τ => (ev P τ e).bind fun v => (getO (bindP p v τ)).bind fun τ' => E.pure (Fl.nx, τ')) (EndC G D) σ H := by
    have h' : Cont G W [] [] (exS P (.asg p e)) (EndC G D) σ H := h
    simpa only [exS] using h'
  refine tE.mono (fun v H1 q => ?_) (Cont.bindV (f := fun τ => ev P τ e) (g := fun τ v => (getO (bindP p v τ)).bind fun τ' => E.pure (Fl.nx, τ')) h)
  obtain ⟨y, m, S, τ, s, sl, r, q⟩ := q
  obtain ⟨_, e1, ry⟩ := r.inv1
  cases e1
  have q : Post G W m H1 (((getO (bindP p y τ)).bind fun τ' => E.pure (Fl.nx, τ')) S) (EndC G D) := q
  cases eb : bindP p y τ with
  | none => rw [eb] at q; exact q.elim
  | some τ' =>
    rw [eb] at q
    exact ⟨m, S, τ, y, τ', s, sl, ry, eb, fun σ' sl' _ => end_nx s sl' q⟩
theorem js_asg {tg : Expr} {p : Pat} (hx : JE X G W P x e) (hg : JG X G tg p) (hs : swapsWithSole [tg] x pos.line X.env = pure false) (hw : swappedStores [tg] x X.env = pure none) (h1 : (assignEach [tg] X.env).map (·.2) = [assign tg X.env]) : JS X G W P (.Assign [tg] x pos) (.asg p e) :=
  PS.imp (ps_asg hx hg hs hw h1) fun D σ H h => asg_imp h
/-- a name on its comprehension's line -/
theorem js_asgLc {i : Nat} {y : Str} {py pos' : Pos} {k : SrcK} {q : Pat} {ss ifs : List Ex} {e : Ex} {elt tg iter : Expr} {xifs : List Expr} {scope : Scope} {own : List (Str × Nat)} (hc : X.calm = true) (hN : X.N.Nodup) (hy : X.N[i]? = some y) (hyl : X.env.scope.names.lookup y = some .local)
    (hsw : swapsWith (.ListComp elt [⟨tg, iter, xifs, 0⟩] scope pos) (some (.Name y py)) pos'.line X.env = pure true)
    (hl : PS X (.Assign [.Name y py] (.ListComp elt [⟨tg, iter, xifs, 0⟩] scope pos) pos') (tAsg (tE G W fun τ => ev P τ (.lc q k ss ifs e)) (gName i))) : JS X G W P (.Assign [.Name y py] (.ListComp elt [⟨tg, iter, xifs, 0⟩] scope pos) pos') (.asg (.nm i) (.lc q k ss ifs e)) :=
  PS.imp hl fun D σ H h => by
    refine tE.mono (fun v H1 q => ?_) (asg_imp h)
    obtain ⟨m, S, τ, w, τ', s, sl, r, eb, q⟩ := q
    simp only [bindP] at eb
    split at eb
    · cases eb
      refine q _ (sl.set r) fun j hj => ?_
      simp only [Pat.slots, List.mem_singleton] at hj
      rw [List.getElem?_set_ne (fun z => hj z.symm)]
    · cases eb
theorem js_par {i j : Nat} {y z : Str} {a b : Expr} {ea eb : Ex} {px py pt : Pos} {kt k2 pt2} (hc : X.calm = true) (hN : X.N.Nodup) (hi : X.N[i]? = some y) (hj : X.N[j]? = some z) (hij : i ≠ j)
    (hx : X.env.scope.names.lookup y = some .local) (hy : X.env.scope.names.lookup z = some .local) (ha : JA X G W P [a, b] [ea, eb])
    (hw : swappedStores [.Tuple [.Name y px, .Name z py] kt pt] (.Tuple [a, b] k2 pt2) X.env = pure (some [y, z]))
    (hs : swapsWithSole [.Tuple [.Name y px, .Name z py] kt pt] (.Tuple [a, b] k2 pt2) pos.line X.env = pure false) :
    JS X G W P (.Assign [.Tuple [.Name y px, .Name z py] kt pt] (.Tuple [a, b] k2 pt2) pos) (.par i j ea eb) :=
  PS.imp (ps_par hc hN hi hj hij hx hy ha hw hs) fun D σ H h => by
    have h : Cont G W [] [] (fun τ => (ev P τ ea).bind fun v => (ev P τ eb).bind fun w => if i < τ.length ∧ j < τ.length then E.pure (Fl.nx, (τ.set i (some v)).set j (some w)) else E.bad) (EndC G D) σ H := by
      have h' : Cont G W [] [] (exS P (.par i j ea eb)) (EndC G D) σ H := h
      simpa only [exS] using h'
    have h2 : Cont G W [] [] (fun τ => (evAs P τ [ea, eb]).bind fun vs => match vs with | [v, w] => if i < τ.length ∧ j < τ.length then E.pure (Fl.nx, (τ.set i (some v)).set j (some w)) else E.bad | _ => E.bad) (EndC G D) σ H := by
      refine Eq.mp ?_ h
      congr 1
      funext τ
      simp only [evAs, bind_assoc, pure_bind]
    refine tA.mono (fun vs H1 q => ?_) (t_len (Cont.bindA (f := fun τ => evAs P τ [ea, eb]) (g := fun τ vs => match vs with | [v, w] => if i < τ.length ∧ j < τ.length then E.pure (Fl.nx, (τ.set i (some v)).set j (some w)) else E.bad | _ => E.bad) h2))
    obtain ⟨hl, us, m, S, τ, s, sl, r, p⟩ := q
    simp only [List.nil_append] at r
    rw [r.length] at hl
    match us, hl, r, p with
    | [u, w], _, r, p =>
      obtain ⟨v1, v2, rfl, r1, r2⟩ := r.inv2
      have p : Post G W m H1 ((if i < τ.length ∧ j < τ.length then E.pure (Fl.nx, (τ.set i (some u)).set j (some w)) else E.bad) S) (EndC G D) := p
      split at p
      · exact ⟨v1, v2, rfl, end_nx s ((sl.set r1).set r2) p⟩
      · exact p.elim
theorem js_par3 {i j l : Nat} {y z w : Str} {a b c : Expr} {ea eb ec : Ex} {px py pz pt : Pos} {kt k2 pt2} (hc : X.calm = true) (hN : X.N.Nodup) (hi : X.N[i]? = some y) (hj : X.N[j]? = some z) (hl : X.N[l]? = some w) (hij : i ≠ j) (hil : i ≠ l) (hjl : j ≠ l)
    (hx : X.env.scope.names.lookup y = some .local) (hy : X.env.scope.names.lookup z = some .local) (hz : X.env.scope.names.lookup w = some .local) (ha : JA X G W P [a, b, c] [ea, eb, ec])
    (hw : swappedStores [.Tuple [.Name y px, .Name z py, .Name w pz] kt pt] (.Tuple [a, b, c] k2 pt2) X.env = pure (some [y, z, w]))
    (hs : swapsWithSole [.Tuple [.Name y px, .Name z py, .Name w pz] kt pt] (.Tuple [a, b, c] k2 pt2) pos.line X.env = pure false) :
    JS X G W P (.Assign [.Tuple [.Name y px, .Name z py, .Name w pz] kt pt] (.Tuple [a, b, c] k2 pt2) pos) (.par3 i j l ea eb ec) :=
  PS.imp (ps_par3 hc hN hi hj hl hij hil hjl hx hy hz ha hw hs) fun D σ H h => by
    have h : Cont G W [] [] (fun τ => (ev P τ ea).bind fun u => (ev P τ eb).bind fun v => (ev P τ ec).bind fun w => if i < τ.length ∧ j < τ.length ∧ l < τ.length then E.pure (Fl.nx, ((τ.set i (some u)).set j (some v)).set l (some w)) else E.bad) (EndC G D) σ H := by
      have h' : Cont G W [] [] (exS P (.par3 i j l ea eb ec)) (EndC G D) σ H := h
      simpa only [exS] using h'
    have h2 : Cont G W [] [] (fun τ => (evAs P τ [ea, eb, ec]).bind fun vs => match vs with | [u, v, w] => if i < τ.length ∧ j < τ.length ∧ l < τ.length then E.pure (Fl.nx, ((τ.set i (some u)).set j (some v)).set l (some w)) else E.bad | _ => E.bad) (EndC G D) σ H := by
      refine Eq.mp ?_ h
      congr 1
      funext τ
      simp only [evAs, bind_assoc, pure_bind]
    refine tA.mono (fun vs H1 q => ?_) (t_len (Cont.bindA (f := fun τ => evAs P τ [ea, eb, ec]) (g := fun τ vs => match vs with | [u, v, w] => if i < τ.length ∧ j < τ.length ∧ l < τ.length then E.pure (Fl.nx, ((τ.set i (some u)).set j (some v)).set l (some w)) else E.bad | _ => E.bad) h2))
    obtain ⟨hl, us, m, S, τ, s, sl, r, p⟩ := q
    simp only [List.nil_append] at r
    rw [r.length] at hl
    match us, hl, r, p with
    | [u1, u2, u3], _, r, p =>
      cases r with
      | cons r1 rr =>
        obtain ⟨v2, v3, rfl, r2, r3⟩ := rr.inv2
        have p : Post G W m H1 ((if i < τ.length ∧ j < τ.length ∧ l < τ.length then E.pure (Fl.nx, ((τ.set i (some u1)).set j (some u2)).set l (some u3)) else E.bad) S) (EndC G D) := p
        split at p
        · exact ⟨_, v2, v3, rfl, end_nx s (((sl.set r1).set r2).set r3) p⟩
        · exact p.elim
theorem js_setI {o j v : Expr} {eo ej ev' : Ex} {tpos : Pos} (ho : JE X G W P o eo) (hj : JE X G W P j ej) (hv : JE X G W P v ev') (hs : swapsWithSole [.Subscript o j tpos] v pos.line X.env = pure false) (hw : swappedStores [.Subscript o j tpos] v X.env = pure none)
    (ha : ∀ w, assign (.Subscript o j tpos) X.env w = (do
      let ov ← holding [w] (eval o X.env)
      let iv ← holding [w, ov] (eval j X.env)
      standAt tpos
      holding [w, ov, iv] (setItem ov iv w)
      release [w, ov, iv] [])) (h1 : (assignEach [.Subscript o j tpos] X.env).map (·.2) = [assign (.Subscript o j tpos) X.env]) : JS X G W P (.Assign [.Subscript o j tpos] v pos) (.setI eo ej ev') :=
  PS.imp (ps_asg hv (pg_sub ho hj set_list ha) hs hw h1) fun D σ H h => by
    have h : Cont G W [] [] (fun τ => (ev P τ ev').bind fun v => (ev P τ eo).bind fun x => (ev P τ ej).bind fun k => (setE x k v).bind fun _ => E.pure (Fl.nx, τ)) (EndC G D) σ H := by
      have h' : Cont G W [] [] (exS P (.setI eo ej ev')) (EndC G D) σ H := h
      simpa only [exS] using h'
    refine tE.mono (fun v1 H1 q => ?_) (Cont.bindV (f := fun τ => ev P τ ev') (g := fun τ v => (ev P τ eo).bind fun x => (ev P τ ej).bind fun k => (setE x k v).bind fun _ => E.pure (Fl.nx, τ)) h)
    obtain ⟨y1, q⟩ := q
    refine tE.mono (fun v2 H2 q => ?_) (Cont.bindV (f := fun τ => ev P τ eo) (g := fun τ x => (ev P τ ej).bind fun k => (setE x k y1).bind fun _ => E.pure (Fl.nx, τ)) q)
    obtain ⟨y2, q⟩ := q
    refine tE.mono (fun v3 H3 q => ?_) (Cont.bindV (f := fun τ => ev P τ ej) (g := fun τ k => (setE y2 k y1).bind fun _ => E.pure (Fl.nx, τ)) q)
    obtain ⟨y3, m, S, τ, s, sl, r, p⟩ := q
    simp only [List.nil_append, List.singleton_append, List.cons_append] at r
    cases r with
    | cons r1 r =>
      obtain ⟨_, _, e1, r2, r3⟩ := r.inv2
      cases e1
      have p2 := Post.bind p
      have key := f_set s r2 r3 r1 p2
      obtain ⟨pp, xs, k, jj, q1, q2, q3, q4, q⟩ := key
      obtain ⟨m', S', s', e', e2, s2, p3⟩ := q
      exact ⟨pp, xs, k, jj, q1, q2, q3, q4, end_nx s2 (sl.mono e') p3⟩
theorem js_ife {c : Expr} {ec : Ex} {a b : List Stmt} {ea eb : List Sm} (hc : JT X G W P c ec) (ha : JSs X G W P a ea) (hb : JSs X G W P b eb) : JS X G W P (.If c a b pos) (.ife ec ea eb) :=
  PS.imp (ps_if hc ha hb) fun D σ H h => by
    have h : Cont G W [] [] (fun τ => (evB P τ ec).bind fun k => if k then exSs P ea τ else exSs P eb τ) (EndC G D) σ H := by
      have h' : Cont G W [] [] (exS P (.ife ec ea eb)) (EndC G D) σ H := h
      simpa only [exS] using h'
    refine tB.mono (fun k H1 q => ?_) (Cont.bindB (f := fun τ => evB P τ ec) (g := fun τ k => if k then exSs P ea τ else exSs P eb τ) h)
    cases k with
    | true => exact q
    | false => exact q
theorem jss_nil : JSs X G W P [] [] := PSs.imp pss_nil fun D σ H h => by
  obtain ⟨m, S, τ, s, sl, r, p⟩ := h
  exact end_nx s sl (by simpa only [exSs] using p)
theorem seq_end {m : List Nat} {S : Sto} {H : Hp} {τ : Tau} {f g : MS} {D : Ends} (p : Post G W m H (seqM f g τ S) (EndC G D)) : Post G W m H (f τ S) (EndC G { D with nx := fun σ' H' => tS G W g D σ' H' }) := by
  refine (Post.bind p).mono fun q m1 S1 H1 _ _ z => ?_
  obtain ⟨e, s1, p1⟩ := z
  obtain ⟨fl, τ1⟩ := q
  cases fl with
  | nx => exact fun σ' sl' => ⟨m1, S1, τ1, s1, sl', .nil, p1⟩
  | bk => exact fun σ' sl' => p1 m1 H1 s1 (Ext.ref m1 H1) σ' sl'
  | ct => exact fun σ' sl' => p1 m1 H1 s1 (Ext.ref m1 H1) σ' sl'
  | rt v => exact fun x rx => p1 m1 H1 s1 (Ext.ref m1 H1) x rx
theorem jss_cons {st : Stmt} {rest : List Stmt} {e : Sm} {es : List Sm} (h : JS X G W P st e) (hr : JSs X G W P rest es) : JSs X G W P (st :: rest) (e :: es) := PSs.imp (pss_cons h hr) fun D σ H h => by
  obtain ⟨m, S, τ, s, sl, r, p⟩ := h
  have p : Post G W m H (seqM (exS P e) (exSs P es) τ S) (EndC G D) := by simpa only [exSs] using p
  exact ⟨m, S, τ, s, sl, .nil, seq_end p⟩
/-! ### loops -/
theorem js_whl {c : Expr} {ec : Ex} {b : List Stmt} {eb : List Sm} {fuel : Tau → Sto → Nat} (hp : PassesOwn (model X.prog X.w) X.A X.env X.xe) (hc : JT X G W P c ec) (hb : JSs X G W P b eb) : JS X G W P (.While c b [] pos) (.whl fuel ec eb) :=
  PS.imp (ps_while hp hc hb) fun D σ H h => by
    obtain ⟨m, S, τ, s, sl, r, p⟩ := h
    have p : Post G W m H (whileM (fun τ => evB P τ ec) (exSs P eb) (fuel τ S) τ S) (EndC G D) := by simpa only [exS] using p
    refine ⟨fun n σ H => ∃ m S τ, SR G H m S ∧ SL G H m τ σ ∧ Post G W m H (whileM (fun τ => evB P τ ec) (exSs P eb) n τ S) (EndC G D), ⟨_, m, S, τ, s, sl, p⟩, ?_⟩
    rintro n σ1 H1 ⟨m1, S1, τ1, s1, sl1, p1⟩
    cases n with
    | zero => exact p1.elim
    | succ n =>
      simp only [whileM] at p1
      refine ⟨m1, S1, τ1, s1, sl1, .nil, (Post.bind p1).mono fun k m2 S2 H2 _ _ z => ?_⟩
      obtain ⟨e2, s2, p2⟩ := z
      cases k with
      | false => exact end_nx s2 (sl1.mono e2) p2
      | true =>
        refine ⟨fun σ' H' => ∃ m S τ, SR G H' m S ∧ SL G H' m τ σ' ∧ Post G W m H' (whileM (fun τ => evB P τ ec) (exSs P eb) n τ S) (EndC G D), fun σ' H' w => ⟨n, Nat.lt_succ_self n, w⟩, ?_⟩
        refine ⟨m2, S2, τ1, s2, sl1.mono e2, .nil, (Post.bind p2).mono fun q m3 S3 H3 _ _ z => ?_⟩
        obtain ⟨e3, s3, p3⟩ := z
        obtain ⟨fl, τ3⟩ := q
        cases fl with
        | nx => exact fun σ' sl' => ⟨m3, S3, τ3, s3, sl', p3⟩
        | ct => exact fun σ' sl' => ⟨m3, S3, τ3, s3, sl', p3⟩
        | bk => exact fun σ' sl' => p3 m3 H3 s3 (Ext.ref m3 H3) σ' sl'
        | rt v => exact fun x rx => p3 m3 H3 s3 (Ext.ref m3 H3) x rx
theorem js_for {tg iter : Expr} {p : Pat} {k : SrcK} {ss : List Ex} {b : List Stmt} {eb : List Sm} (hp : PassesOwn (model X.prog X.w) X.A X.env X.xe) (hc : X.calm = true) (hi : JI X G W P tg iter k ss) (hg : JG X G tg p) (hb : JSs X G W P b eb)
    (hs : ∀ x, foldedSetIterable iter X.env x = pure x) : JS X G W P (.For tg iter b [] pos) (.fr p k ss eb) := by
  obtain ⟨wi, hpi, hw⟩ := hi
  refine PS.imp (ps_for hp hc hpi hg hb hs) fun D σ H h => ?_
  have h : Cont G W [] [] (fun τ => srcE (evAs P τ ss) k fun c n => loopM p (exSs P eb) c n n τ) (EndC G D) σ H := by
    have h' : Cont G W [] [] (exS P (.fr p k ss eb)) (EndC G D) σ H := h
    simpa only [exS] using h'
  refine hw (Fl × Tau) σ H (fun c n τ => loopM p (exSs P eb) c n n τ) (EndC G D) h _ fun J H1 wk => ?_
  obtain ⟨m, S, τ, c, n, s, sl, it, hn, post⟩ := wk
  refine ⟨fun i r σ' H' => i + r = n ∧ ∃ mm S' τ', SR G H' mm S' ∧ SL G H' mm τ' σ' ∧ Ext m H1 mm H' ∧ Post G W mm H' (loopM p (exSs P eb) c n r τ' S') (EndC G D), ⟨n, by omega, m, S, τ, s, sl, Ext.ref m H1, post⟩, ?_⟩
  rintro i r σ' H' ⟨hir, mm, S', τ', s', sl', ex, post⟩
  cases r with
  | zero =>
    have hi : i = n := by omega
    subst hi
    simp only [loopM] at post
    by_cases hl : c.len S' = some i
    · rw [if_pos hl] at post
      exact .inl ⟨(it mm S' H' s' ex.ky ex.sub hl).2, end_nx s' sl' post⟩
    · rw [if_neg hl] at post
      exact post.elim
  | succ r =>
    simp only [loopM] at post
    by_cases hl : c.len S' = some n
    · rw [if_pos hl] at post
      obtain ⟨items, _⟩ := it mm S' H' s' ex.ky ex.sub hl
      obtain ⟨go, yl⟩ := items i (by omega)
      refine .inr ⟨go, fun σ2 H2 => i + 1 + r = n ∧ ∃ mm S' τ', SR G H2 mm S' ∧ SL G H2 mm τ' σ2 ∧ Ext m H1 mm H2 ∧ Post G W mm H2 (loopM p (exSs P eb) c n r τ' S') (EndC G D), fun σ2 H2 h2 => ⟨r, by omega, h2⟩, fun x H2 y => ?_⟩
      obtain ⟨v, ev, s2, ex2, rv⟩ := yl x H2 y
      have hni : n - (r + 1) = i := by omega
      rw [hni, ev] at post
      dsimp only at post
      cases eb' : bindP p v τ' with
      | none => rw [eb'] at post; exact post.elim
      | some τ2 =>
        rw [eb'] at post
        dsimp only at post
        refine ⟨mm, S', τ', v, τ2, s2, sl'.mono ex2, rv, eb', fun σ2 sl2 _ => ?_⟩
        refine ⟨mm, S', τ2, s2, sl2, .nil, (Post.bind (post.step ex2)).mono fun q m3 S3 H3 _ _ z => ?_⟩
        obtain ⟨e3, s3, p3⟩ := z
        obtain ⟨fl, τ3⟩ := q
        have ex3 : Ext m H1 m3 H3 := (ex.trans ex2).trans e3
        cases fl with
        | nx => exact fun σ' sl' => ⟨by omega, m3, S3, τ3, s3, sl', ex3, p3⟩
        | ct => exact fun σ' sl' => ⟨by omega, m3, S3, τ3, s3, sl', ex3, p3⟩
        | bk => exact fun σ' sl' => p3 m3 H3 s3 (Ext.ref m3 H3) σ' sl'
        | rt v => exact fun x rx => p3 m3 H3 s3 (Ext.ref m3 H3) x rx
    · rw [if_neg hl] at post
      exact post.elim
end
end TQ
/-! TQC: a frame's cells: held over a call, put away in a comprehension. -/
namespace TQ
open PySem L2 PyProof.Rows
abbrev Gx.ow (G : Gx) (o : List (Nat × Addr)) : Gx := { G with own := o }
section
variable {G : Gx} {W : XK} {H H' : Hp} {m m' : List Nat} {S S' : Sto} {F : List (Addr × Obj)} {o : List (Nat × Addr)}
mutual
theorem RV.ow : ∀ {x : Val} {v : V}, RV G H m x v → RV (G.ow o) H m x v
  | _, _, .non => .non
  | _, _, .bl => .bl
  | _, _, .int => .int
  | _, _, .str => .str
  | _, _, .tup h r => .tup h (RVL.ow r)
  | _, _, .ref h => .ref h
  | _, _, .edc h => .edc h
  | _, _, .exc h r => .exc h (RV.ow r)
  | _, _, .fn h => .fn h
  | _, _, .scr h r => .scr h (RVL.ow r)
  | _, _, .clo e h => .clo e h
  | _, _, .dead => .dead
theorem RVL.ow : ∀ {xs : List Val} {vs : List V}, RVL G H m xs vs → RVL (G.ow o) H m xs vs
  | _, _, .nil => .nil
  | _, _, .cons h r => .cons (RV.ow h) (RVL.ow r)
end
theorem RV.wo {x : Val} {v : V} (h : RV (G.ow o) H m x v) : RV G H m x v := RV.ow (G := G.ow o) (o := G.own) h
theorem RVL.wo {x : List Val} {v : List V} (h : RVL (G.ow o) H m x v) : RVL G H m x v := RVL.ow (G := G.ow o) (o := G.own) h
theorem ky_plus (c : ∀ b o, F.lookup b = some o → H b = none) : Ky H (plus H F) := by
  have out : ∀ {b : Addr} {u : HO}, H b = some u → F.lookup b = none := fun {b u} e => by
    rcases lk_cases F b with ⟨o, z⟩ | z
    · rw [c b o z] at e; cases e
    · exact z
  exact ⟨fun e _ => by rw [plus_out (out e)]; exact e, fun {b xs} e => ⟨xs, by rw [plus_out (out e)]; exact e⟩⟩
theorem held_out (k : Held F H) {b : Addr} {u : HO} (e : H b = some u) (n : Kep u ∨ (∃ xs, u = .lst xs) ∨ ∃ ps, u = .tbl ps) : F.lookup b = none := by
  rcases lk_cases F b with ⟨o, z⟩ | z
  · rw [k b o z] at e
    cases e
    rcases n with n | ⟨_, n⟩ | ⟨_, n⟩
    · exact n.elim
    · cases n
    · cases n
  · exact z
theorem ky_minus (k : Held F H) : Ky H (minus H F) :=
  ⟨fun e n => by rw [minus_out (held_out k e (.inl n))]; exact e, fun {b xs} e => ⟨xs, by rw [minus_out (held_out k e (.inr (.inl ⟨_, rfl⟩)))]; exact e⟩⟩
/-! ### the store brought up to date -/
theorem sync_len (τ : Tau) : ∀ own : List (Nat × Nat), (sync own τ S).length = S.length
  | [] => rfl
  | (i, n) :: r => by unfold sync; rw [List.length_set, sync_len τ r]
theorem sync_get (τ : Tau) {n : Nat} {xs : List Val} : ∀ {own : List (Nat × Nat)}, (sync own τ S)[n]? = some xs → (∃ i, (i, n) ∈ own ∧ xs = [.cmark, ((τ[i]?).getD none).getD .dead]) ∨ (S[n]? = some xs ∧ ∀ i, (i, n) ∉ own)
  | [], h => .inr ⟨h, by simp⟩
  | (j, k) :: r, h => by
    unfold sync at h
    by_cases hk : k = n
    · subst hk
      by_cases hl : k < (sync r τ S).length
      · rw [List.getElem?_set_self hl] at h
        cases h
        exact .inl ⟨j, by simp, rfl⟩
      · rw [List.getElem?_eq_none (by rw [List.length_set]; omega)] at h; cases h
    · rw [List.getElem?_set_ne hk] at h
      rcases sync_get τ h with ⟨i, h1, h2⟩ | ⟨h1, h2⟩
      · exact .inl ⟨i, List.mem_cons_of_mem _ h1, h2⟩
      · refine .inr ⟨h1, fun i hm => ?_⟩
        rcases List.mem_cons.mp hm with z | z
        · cases z; exact hk rfl
        · exact h2 i z
/-- how the frame's slots, places and cells go together, as the cells stand -/
structure Lnk (G : Gx) (own : List (Nat × Nat)) (F : List (Addr × Obj)) (H : Hp) (m : List Nat) (τ : Tau) : Prop where
  no : ∀ b o, F.lookup b = some o → H b = none
  toF : ∀ n c, (n, c) ∈ G.own → ∃ o, F.lookup c = some o
  ofF : ∀ c o, F.lookup c = some o → ∃ n, (n, c) ∈ G.own
  toO : ∀ n c, (n, c) ∈ G.own → ∃ i, (i, n) ∈ own
  inj : ∀ n n' c, (n, c) ∈ G.own → (n', c) ∈ G.own → n = n'
  val : ∀ i n, (i, n) ∈ own → ∃ c o, (n, c) ∈ G.own ∧ F.lookup c = some o ∧ ∀ v, τ[i]? = some (some v) → ∃ u w, o.data = .cell (some u) ∧ RelV w u ∧ RV G H m v w
theorem SR.uq (s : SR G H m S) (no : ∀ b o, F.lookup b = some o → H b = none) : ∀ n c o, F.lookup c = some o → m[n]? = some (cA c) → (n, c) ∈ G.own := fun n c o h z => by
  have hn : n < S.length := by have := (List.getElem?_eq_some_iff.mp z).1; have := s.len; omega
  obtain ⟨b, e1, q⟩ := s.at_ n S[n] (by simp [hn])
  rw [z] at e1
  have e2 := Option.some.inj e1
  generalize S[n] = xs at q
  cases q with
  | lst _ _ => exact (lA_cA e2.symm).elim
  | cel h _ => rw [← cA_inj e2, no c o ‹_›] at h; cases h
  | own h => rw [cA_inj e2]; exact h
  | gone => exact (cA_gA e2).elim
theorem SR.track {own : List (Nat × Nat)} {τ : Tau} (s : SR G H m S) (L : Lnk G own F H m τ) : SR (G.ow []) (plus H F) m (sync own τ S) := by
  have k := ky_plus L.no
  have p : ∃ e, m = m ++ e := ⟨[], by simp⟩
  have out : ∀ {b : Addr} {u : HO}, H b = some u → F.lookup b = none := fun {b u} e => by
    rcases lk_cases F b with ⟨o, z⟩ | z
    · rw [L.no b o z] at e; cases e
    · exact z
  refine ⟨by rw [sync_len]; exact s.len, s.nd, fun n xs e => ?_, G.tab_ext (fun b u e _ => by rw [plus_out (out e)]; exact e) s.tab, (fun q hq => nomatch hq), fun i j c hi hj _ _ => ?_⟩
  · rcases sync_get τ e with ⟨i, h1, h2⟩ | ⟨h1, h2⟩
    · obtain ⟨c, ob, q1, q2, q3⟩ := L.val i n h1
      refine ⟨cA c, s.ow _ q1, ?_⟩
      subst h2
      refine .cel (plus_in q2) ?_
      cases z : (τ[i]?).getD none with
      | none => exact .inl rfl
      | some v =>
        obtain ⟨u, w, a1, a2, a3⟩ := q3 v (by
          cases y : τ[i]? with
          | none => rw [y] at z; cases z
          | some t => rw [y] at z; simp at z; rw [z])
        exact .inr ⟨u, w, a1, a2, (a3.mono k p).ow⟩
    · obtain ⟨b, e1, q⟩ := s.at_ n xs h1
      refine ⟨b, e1, ?_⟩
      cases q with
      | lst h r => exact .lst (by rw [plus_out (out h)]; exact h) (r.mono k p).ow
      | cel h r => exact .cel (by rw [plus_out (out h)]; exact h) (r.imp id fun ⟨u, w, a, b, c⟩ => ⟨u, w, a, b, (c.mono k p).ow⟩)
      | own h =>
        obtain ⟨i, hi⟩ := L.toO _ _ h
        exact absurd hi (h2 i)
      | gone => exact .gone
  · by_cases h1 : ∃ d, (i, d) ∈ G.own
    · obtain ⟨d, h1⟩ := h1
      have e1 := s.ow _ h1
      rw [hi] at e1
      have e1 := cA_inj (Option.some.inj e1)
      subst e1
      obtain ⟨o, ho⟩ := L.toF _ _ h1
      exact L.inj _ _ _ h1 (s.uq L.no j c o ho hj)
    · by_cases h2 : ∃ d, (j, d) ∈ G.own
      · obtain ⟨d, h2⟩ := h2
        have e1 := s.ow _ h2
        rw [hj] at e1
        have e1 := cA_inj (Option.some.inj e1)
        subst e1
        obtain ⟨o, ho⟩ := L.toF _ _ h2
        exact L.inj _ _ _ (s.uq L.no i c o ho hi) h2
      · exact s.ndc i j c hi hj (fun d z => h1 ⟨d, z⟩) fun d z => h2 ⟨d, z⟩
theorem SR.untrack (s : SR (G.ow []) H m S) (hh : Held F H) (ow : ∀ p ∈ G.own, m[p.1]? = some (cA p.2)) (uq : ∀ n c o, F.lookup c = some o → m[n]? = some (cA c) → (n, c) ∈ G.own) : SR G (minus H F) m S := by
  have k := ky_minus hh
  have p : ∃ e, m = m ++ e := ⟨[], by simp⟩
  refine ⟨s.len, s.nd, fun n xs e => ?_, G.tab_ext (fun b u e n => by rw [minus_out (held_out hh e (n.imp id fun z => .inr z))]; exact e) s.tab, ow, fun i j c hi hj _ _ => s.ndc i j c hi hj (fun _ z => nomatch z) (fun _ z => nomatch z)⟩
  obtain ⟨b, e1, q⟩ := s.at_ n xs e
  refine ⟨b, e1, ?_⟩
  cases q with
  | lst h r => exact .lst (by rw [minus_out (held_out hh h (.inr (.inl ⟨_, rfl⟩)))]; exact h) (r.mono k p).wo
  | @cel x c ob h r =>
    rcases lk_cases F c with ⟨o', z⟩ | z
    · exact .own (uq n c o' z e1)
    · exact .cel (by rw [minus_out z]; exact h) (r.imp id fun ⟨u, w, a, b, c⟩ => ⟨u, w, a, b, (c.mono k p).wo⟩)
  | own h => cases h
  | gone => exact .gone
theorem ext_minus (c : ∀ b o, F.lookup b = some o → H b = none) (e : Ext m (plus H F) m' H') (hh : Held F H') : Ext m H m' (minus H' F) := by
  have out : ∀ {b : Addr} {u : HO}, H b = some u → F.lookup b = none := fun {b u} e => by
    rcases lk_cases F b with ⟨o, z⟩ | z
    · rw [c b o z] at e; cases e
    · exact z
  refine ⟨?_, fun a u h n => ?_, fun a xs h => ?_⟩
  · obtain ⟨k, h1, h2⟩ := e.pre
    exact ⟨k, h1, fun a ha => (plus_none (h2 a ha)).2⟩
  · have z := out h
    rcases e.keep a u (by rw [plus_out z]; exact h) n with y | ⟨ps, qs, e1, y⟩
    · exact .inl (by rw [minus_out z]; exact y)
    · exact .inr ⟨ps, qs, e1, by rw [minus_out z]; exact y⟩
  · have z := out h
    obtain ⟨ys, y⟩ := e.lst a xs (by rw [plus_out z]; exact h)
    exact ⟨ys, by rw [minus_out z]; exact y⟩
theorem ext_held (e : Ext m (plus H F) m' H') : Held F H' := fun b o z => (e.keep b _ (plus_in z) (.inl fun _ y => nomatch y)).kn fun _ y => nomatch y
theorem uq_ext (uq : ∀ n c o, F.lookup c = some o → m[n]? = some (cA c) → (n, c) ∈ G.own) (e : Ext m (plus H F) m' H') : ∀ n c o, F.lookup c = some o → m'[n]? = some (cA c) → (n, c) ∈ G.own := fun n c o h z => by
  obtain ⟨k, rfl, hk⟩ := e.pre
  by_cases hl : n < m.length
  · rw [List.getElem?_append_left hl] at z; exact uq n c o h z
  · rw [List.getElem?_append_right (by omega)] at z
    have q := hk c (.inr (List.mem_of_getElem? z))
    rw [plus_in h] at q; cases q
/-- a step with F held, as one of ours -/
theorem Post.track {α : Type} {r : R α} {C : α → List Nat → Sto → Hp → Prop} (no : ∀ b o, F.lookup b = some o → H b = none) (ow : ∀ p ∈ G.own, m[p.1]? = some (cA p.2)) (uq : ∀ n c o, F.lookup c = some o → m[n]? = some (cA c) → (n, c) ∈ G.own) (h : Post G W m H r C) :
    Post (G.ow []) (fun cls d H' => Held F H' → W cls d (minus H' F)) m (plus H F) r (fun a m' S' H' => Held F H' → C a m' S' (minus H' F)) := by
  cases r with
  | bad => exact h
  | ok a S' => exact fun m' H' s e hh => h m' _ (s.untrack hh (fun p hp => by obtain ⟨k, rfl, _⟩ := e.pre; exact pre_get (ow p hp)) (uq_ext uq e)) (ext_minus no e hh)
  | exc c d S' =>
    intro m' H' cls dd s e x hh
    obtain ⟨C', a, w, h1, h2, h3, h4, h5⟩ := x
    refine h m' _ cls dd (s.untrack hh (fun p hp => by obtain ⟨k, rfl, _⟩ := e.pre; exact pre_get (ow p hp)) (uq_ext uq e)) (ext_minus no e hh) ⟨C', a, w, h1, h2, h3, ?_, ?_⟩
    · rw [minus_out (held_out hh h4 (.inl True.intro))]; exact h4
    · exact (h5.mono (ky_minus hh) ⟨[], by simp⟩).wo
end
end TQ
/-! TQD: a frame's cells put away: in a comprehension, behind an exception. -/
namespace TQ
open PySem L2 PyProof.Rows
def gm : List Nat → List Nat → List Nat
  | [], m => m
  | n :: r, m => (gm r m).set n gA
section
variable {G : Gx} {W : XK} {H H' : Hp} {m m' k : List Nat} {S S' : Sto} {ns : List Nat}
theorem gm_len : ∀ {ns : List Nat}, (gm ns m).length = m.length
  | [] => rfl
  | n :: r => by unfold gm; rw [List.length_set, gm_len]
theorem gm_out {i : Nat} : ∀ {ns : List Nat}, i ∉ ns → (gm ns m)[i]? = m[i]?
  | [], _ => rfl
  | n :: r, h => by
    unfold gm
    simp only [List.mem_cons, not_or] at h
    rw [List.getElem?_set_ne (Ne.symm h.1), gm_out h.2]
theorem gm_in {i : Nat} : ∀ {ns : List Nat}, i ∈ ns → i < m.length → (gm ns m)[i]? = some gA
  | n :: r, h, hl => by
    unfold gm
    by_cases e : n = i
    · subst e
      rw [List.getElem?_set_self (by rw [gm_len]; exact hl)]
    · rw [List.getElem?_set_ne e]
      refine gm_in ?_ hl
      rcases List.mem_cons.mp h with z | z
      · exact absurd z.symm e
      · exact z
/-- an entry that is none of what is gone -/
theorem gm_back {i b : Nat} (hb : b ≠ gA) (h : (gm ns m ++ k)[i]? = some b) : (m ++ k)[i]? = some b ∧ (i < m.length → i ∉ ns) := by
  by_cases hl : i < m.length
  · rw [List.getElem?_append_left (by rw [gm_len]; exact hl)] at h
    have hi : i ∉ ns := fun z => by
      rw [gm_in z hl] at h
      exact hb (Option.some.inj h).symm
    rw [gm_out hi] at h
    exact ⟨by rw [List.getElem?_append_left hl]; exact h, fun _ => hi⟩
  · rw [List.getElem?_append_right (by rw [gm_len]; omega), gm_len] at h
    exact ⟨by rw [List.getElem?_append_right (by omega)]; exact h, fun z => absurd z hl⟩
theorem gm_map : ∀ {rs : List Nat} {cs : List Addr}, (rs.any fun r => decide (r ∈ ns)) = false → rs.map (fun r => m[r]?) = cs.map (fun c => some (cA c)) → rs.map (fun r => (gm ns m)[r]?) = cs.map (fun c => some (cA c))
  | [], _, _, h => h
  | r :: rs, [], _, h => by simp at h
  | r :: rs, c :: cs, ha, h => by
    simp only [List.any_cons, Bool.or_eq_false_iff, decide_eq_false_iff_not] at ha
    simp only [List.map_cons, List.cons.injEq] at h ⊢
    exact ⟨by rw [gm_out ha.1]; exact h.1, gm_map ha.2 h.2⟩
theorem back_map : ∀ {rs : List Nat} {cs : List Addr}, rs.map (fun r => (gm ns m ++ k)[r]?) = cs.map (fun c => some (cA c)) → rs.map (fun r => (m ++ k)[r]?) = cs.map (fun c => some (cA c))
  | [], _, h => h
  | r :: rs, [], h => by simp at h
  | r :: rs, c :: cs, h => by
    simp only [List.map_cons, List.cons.injEq] at h ⊢
    exact ⟨(gm_back (fun z => cA_gA z) h.1).1, back_map h.2⟩
mutual
theorem RV.gone (hm : ∀ i a, m[i]? = some (lA a) → i ∉ ns) : ∀ {x : Val} {v : V}, RV G H m x v → RV G H (gm ns m) (hide ns x) v
  | _, _, .non => .non
  | _, _, .bl => .bl
  | _, _, .int => .int
  | _, _, .str => .str
  | _, _, .tup h r => .tup h (RVL.gone hm r)
  | _, _, .ref h => .ref (by rw [gm_out (hm _ _ h)]; exact h)
  | _, _, .edc h => .edc h
  | _, _, .exc h r => .exc h (RV.gone hm r)
  | _, _, .fn h => .fn h
  | _, _, .scr h r => .scr h (RVL.gone hm r)
  | _, _, .clo (rs := rs) e h => by
    unfold hide
    cases z : rs.any fun r => decide (r ∈ ns) with
    | true => exact .dead
    | false => exact .clo (gm_map z e) h
  | _, _, .dead => .dead
theorem RVL.gone (hm : ∀ i a, m[i]? = some (lA a) → i ∉ ns) : ∀ {xs : List Val} {vs : List V}, RVL G H m xs vs → RVL G H (gm ns m) (hideL ns xs) vs
  | _, _, .nil => .nil
  | _, _, .cons h r => .cons (RV.gone hm h) (RVL.gone hm r)
end
mutual
theorem RV.back : ∀ {x : Val} {v : V}, RV G H (gm ns m ++ k) x v → RV G H (m ++ k) x v
  | _, _, .non => .non
  | _, _, .bl => .bl
  | _, _, .int => .int
  | _, _, .str => .str
  | _, _, .tup h r => .tup h (RVL.back r)
  | _, _, .ref h => .ref (gm_back (fun z => lA_gA z) h).1
  | _, _, .edc h => .edc h
  | _, _, .exc h r => .exc h (RV.back r)
  | _, _, .fn h => .fn h
  | _, _, .scr h r => .scr h (RVL.back r)
  | _, _, .clo e h => .clo (back_map e) h
  | _, _, .dead => .dead
theorem RVL.back : ∀ {xs : List Val} {vs : List V}, RVL G H (gm ns m ++ k) xs vs → RVL G H (m ++ k) xs vs
  | _, _, .nil => .nil
  | _, _, .cons h r => .cons (RV.back h) (RVL.back r)
end
theorem buryN_len : ∀ {ns : List Nat}, (buryN ns S).length = S.length
  | [] => rfl
  | n :: r => by unfold buryN; rw [List.length_set, buryN_len]
theorem buryN_get {n : Nat} {xs : List Val} : ∀ {ns : List Nat}, (buryN ns S)[n]? = some xs → (n ∈ ns ∧ xs = [.cmark, .dead]) ∨ (n ∉ ns ∧ S[n]? = some xs)
  | [], h => .inr ⟨by simp, h⟩
  | j :: r, h => by
    unfold buryN at h
    by_cases hk : j = n
    · subst hk
      by_cases hl : j < (buryN r S).length
      · rw [List.getElem?_set_self hl] at h
        cases h
        exact .inl ⟨by simp, rfl⟩
      · rw [List.getElem?_eq_none (by rw [List.length_set]; omega)] at h; cases h
    · rw [List.getElem?_set_ne hk] at h
      rcases buryN_get h with ⟨h1, h2⟩ | ⟨h1, h2⟩
      · exact .inl ⟨List.mem_cons_of_mem _ h1, h2⟩
      · exact .inr ⟨by simp only [List.mem_cons, not_or]; exact ⟨fun z => hk z.symm, h1⟩, h2⟩
theorem own_ns (s : SR G H m S) (hB : ∀ n ∈ ns, ∃ c, (n, c) ∈ G.own) : ∀ i a, m[i]? = some (lA a) → i ∉ ns := fun i a h z => by
  obtain ⟨c, hc⟩ := hB i z
  have := s.ow _ hc
  rw [h] at this
  exact lA_cA (Option.some.inj this)
theorem SR.bury (s : SR G H m S) (hA : ∀ n c, (n, c) ∈ G.own → n ∈ ns) (hB : ∀ n ∈ ns, ∃ c, (n, c) ∈ G.own) : SR (G.ow []) H (gm ns m) (buryN ns (S.map (hideL ns))) := by
  have hm := own_ns s hB
  refine ⟨by rw [gm_len, buryN_len, List.length_map]; exact s.len, fun i j a hi hj => ?_, fun n xs e => ?_, s.tab, (fun q hq => nomatch hq), fun i j c hi hj _ _ => ?_⟩
  · have h1 := (gm_back (k := []) (fun z => lA_gA z) (by simpa using hi)).1
    have h2 := (gm_back (k := []) (fun z => lA_gA z) (by simpa using hj)).1
    exact s.nd i j a (by simpa using h1) (by simpa using h2)
  · rcases buryN_get e with ⟨h1, rfl⟩ | ⟨h1, h2⟩
    · obtain ⟨c, hc⟩ := hB n h1
      exact ⟨gA, gm_in h1 (List.getElem?_eq_some_iff.mp (s.ow _ hc)).1, .gone⟩
    · rw [List.getElem?_map] at h2
      cases q : S[n]? with
      | none => rw [q] at h2; cases h2
      | some ys =>
        rw [q] at h2
        simp only [Option.map_some, Option.some.injEq] at h2
        subst h2
        obtain ⟨b, e1, z⟩ := s.at_ n ys q
        refine ⟨b, by rw [gm_out h1]; exact e1, ?_⟩
        cases z with
        | lst h r => exact .lst h (r.gone hm).ow
        | cel h r =>
          refine .cel h ?_
          rcases r with rfl | ⟨u, w, a, b, c⟩
          · exact .inl rfl
          · exact .inr ⟨u, w, a, b, (c.gone hm).ow⟩
        | own h => exact absurd (hA _ _ h) h1
        | gone => exact .gone
  · have h1 := gm_back (k := []) (fun z => cA_gA z) (by simpa using hi)
    have h2 := gm_back (k := []) (fun z => cA_gA z) (by simpa using hj)
    have l1 := (List.getElem?_eq_some_iff.mp hi).1
    have l2 := (List.getElem?_eq_some_iff.mp hj).1
    rw [gm_len] at l1 l2
    exact s.ndc i j c (by simpa using h1.1) (by simpa using h2.1) (fun d z => h1.2 l1 (hA _ _ z)) fun d z => h2.2 l2 (hA _ _ z)
theorem SR.unbury (s : SR (G.ow []) H (gm ns m ++ k) S) (ow : ∀ p ∈ G.own, m[p.1]? = some (cA p.2)) (hB : ∀ n ∈ ns, ∃ c, (n, c) ∈ G.own) : SR G H (m ++ k) S := by
  have up : ∀ {i b : Nat}, (m ++ k)[i]? = some b → (i < m.length → i ∉ ns) → (gm ns m ++ k)[i]? = some b := fun {i b} h n => by
    by_cases hl : i < m.length
    · rw [List.getElem?_append_left hl] at h
      rw [List.getElem?_append_left (by rw [gm_len]; exact hl), gm_out (n hl)]; exact h
    · rw [List.getElem?_append_right (by omega)] at h
      rw [List.getElem?_append_right (by rw [gm_len]; omega), gm_len]; exact h
  have noL : ∀ {i : Nat} {a : Addr}, (m ++ k)[i]? = some (lA a) → i < m.length → i ∉ ns := fun {i a} h hl z => by
    obtain ⟨c, hc⟩ := hB i z
    rw [List.getElem?_append_left hl, ow _ hc] at h
    exact lA_cA (Option.some.inj h).symm
  refine ⟨by have := s.len; rw [List.length_append, gm_len] at this; rw [List.length_append]; exact this, fun i j a hi hj => s.nd i j a (up hi (noL hi)) (up hj (noL hj)), fun n xs e => ?_, s.tab, fun p hp => pre_get (ow p hp), fun i j c hi hj n1 n2 => s.ndc i j c (up hi fun _ z => by obtain ⟨q, hq⟩ := hB i z; exact n1 q hq) (up hj fun _ z => by obtain ⟨q, hq⟩ := hB j z; exact n2 q hq) (fun _ z => nomatch z) (fun _ z => nomatch z)⟩
  obtain ⟨b, e1, z⟩ := s.at_ n xs e
  by_cases hb : b = gA
  · subst hb
    by_cases hn : n < m.length ∧ n ∈ ns
    · obtain ⟨c, hc⟩ := hB n hn.2
      refine ⟨cA c, pre_get (ow _ hc), ?_⟩
      generalize eb : gA = b at z
      cases z with
      | lst h r => exact (lA_gA eb.symm).elim
      | cel h r => exact (cA_gA eb.symm).elim
      | own h => cases h
      | gone => exact .own hc
    · have e2 : (m ++ k)[n]? = some gA := by
        by_cases hl : n < m.length
        · have hi : n ∉ ns := fun z => hn ⟨hl, z⟩
          rw [List.getElem?_append_left (by rw [gm_len]; exact hl), gm_out hi] at e1
          rw [List.getElem?_append_left hl]; exact e1
        · rw [List.getElem?_append_right (by rw [gm_len]; omega), gm_len] at e1
          rw [List.getElem?_append_right (by omega)]; exact e1
      refine ⟨gA, e2, ?_⟩
      generalize eb : gA = b at z
      cases z with
      | lst h r => exact (lA_gA eb.symm).elim
      | cel h r => exact (cA_gA eb.symm).elim
      | own h => cases h
      | gone => exact .gone
  · refine ⟨b, (gm_back hb e1).1, ?_⟩
    cases z with
    | lst h r => exact .lst h r.back.wo
    | cel h r => exact .cel h (r.imp id fun ⟨u, w, a, b, c⟩ => ⟨u, w, a, b, c.back.wo⟩)
    | own h => cases h
    | gone => exact absurd rfl hb
theorem ext_gm (hm : ∀ i a, m[i]? = some (lA a) → i ∉ ns) (e : Ext (gm ns m) H (gm ns m ++ k) H') : Ext m H (m ++ k) H' := by
  refine ⟨⟨k, rfl, ?_⟩, fun a u h n => e.keep a u h (n.imp id fun n z => n ?_), e.lst⟩
  · obtain ⟨k', h1, h2⟩ := e.pre
    rw [List.append_cancel_left h1]; exact h2
  · obtain ⟨i, hi⟩ := List.mem_iff_getElem?.mp z
    have := (gm_back (k := []) (fun z => lA_gA z) (by simpa using hi)).1
    exact List.mem_of_getElem? (by simpa using this)
/-- a step with the cells put away, as one of ours -/
theorem Post.bury {α : Type} {r : R α} {C : α → List Nat → Sto → Hp → Prop} (s : SR G H m S) (hB : ∀ n ∈ ns, ∃ c, (n, c) ∈ G.own) (h : Post G W m H r C) :
    Post (G.ow []) W (gm ns m) H r (fun a m' S' H' => ∀ k, m' = gm ns m ++ k → C a (m ++ k) S' H') := by
  have hm := own_ns s hB
  cases r with
  | bad => exact h
  | ok a S' =>
    intro m' H' s' e k hk
    subst hk
    exact h (m ++ k) H' (s'.unbury s.ow hB) (ext_gm hm e)
  | exc c d S' =>
    intro m' H' cls dd s' e x
    obtain ⟨k, rfl, _⟩ := id e.pre
    obtain ⟨C', a, w, h1, h2, h3, h4, h5⟩ := x
    exact h (m ++ k) H' cls dd (s'.unbury s.ow hB) (ext_gm hm e) ⟨C', a, w, h1, h2, h3, h4, h5.back.wo⟩
end
end TQ
/-! TQE: what stands at a call. -/
namespace TQ
open PySem L2 PyProof.Rows
/-- a def's or a lambda's frame: its cells, as they stand -/
def OwnAt (X : Cx) (G : Gx) (P : Pr) : Prop := ∀ (pins : List (Addr × Obj)) (σ : L2.St) (H : Hp) (s : Shared), Inv X pins σ H s → ∀ (m : List Nat) (τ : Tau), SL G H m τ σ →
  ∃ F, Cels F H s.heap ∧ Lnk G P.own F H m τ ∧ ∀ b o, F.lookup b = some o → b ∉ frs X.stack ∧ X.base.get? b = none
/-- how the context, the ghosts and the evaluator go together about cells -/
inductive OwnLk (X : Cx) (G : Gx) (P : Pr) : Prop where
  | no : P.own = [] → G.own = [] → OwnLk X G P
  | blk : P.blk = true → P.own ≠ [] → (∀ n c, (n, c) ∈ G.own → n ∈ P.own.map (·.2)) → (∀ n ∈ P.own.map (·.2), ∃ c, (n, c) ∈ G.own) → OwnLk X G P
  | frm : P.blk = false → (∀ n c, (n, c) ∈ G.own → n ∈ P.own.map (·.2)) → (∀ n ∈ P.own.map (·.2), ∃ c, (n, c) ∈ G.own) → OwnAt X G P → OwnLk X G P
theorem ow_nil {G : Gx} (h : G.own = []) : G.ow [] = G := by
  cases G
  simp only at h
  subst h
  rfl
section
variable {X : Cx} {G : Gx} {W : XK} {P : Pr} {H : Hp} {m : List Nat} {S : Sto} {σ : L2.St} {τ : Tau} {pins : List (Addr × Obj)} {s : Shared} {Q : VK}
theorem hideL_len {ns : List Nat} : ∀ {xs : List Val}, (hideL ns xs).length = xs.length
  | [] => rfl
  | x :: xs => by simp only [hideL, List.length_cons, hideL_len]
/-- a call of ours, as the callee sees it -/
structure CallAt (X : Cx) (G : Gx) (W : XK) (H : Hp) (s : Shared) (g : List Val → E Val) (n : Nat) (vs : List V) (Q : VK) : Prop where
  run : ∃ (H0 : Hp) (W0 : XK) (Q0 : VK), Env0 X.prog X.w X.K X.mg X.base X.A X.stack s H0 ∧
    (∃ m0 S0 xs0, SR (G.ow []) H0 m0 S0 ∧ RVL (G.ow []) H0 m0 xs0 vs ∧ xs0.length = n ∧ Post (G.ow []) W0 m0 H0 (g xs0 S0) (CQ (G.ow []) Q0)) ∧
    ∀ r s', CR (L2.CX X.prog X.w) X.stack X.prog X.w H0 s Q0 W0 r s' → CR (L2.CX X.prog X.w) X.stack X.prog X.w H s Q W r s'
theorem call_own {xs : List Val} {vs : List V} {g : List Val → E Val} (L : OwnLk X G P) (I : Inv X pins σ H s) (sr : SR G H m S) (sl : SL G H m τ σ) (r : RVL G H m xs vs) (p : Post G W m H (callE P τ xs g S) (CQ G Q)) : CallAt X G W H s g xs.length vs Q := by
  cases L with
  | no h1 h2 =>
    have e : callE P τ xs g S = g xs S := by
      unfold callE
      rw [h1]
      cases P.blk <;> rfl
    rw [e] at p
    exact ⟨H, W, Q, I.env0, ⟨m, S, xs, by rw [ow_nil h2]; exact sr, r.ow, rfl, by rw [ow_nil h2]; exact p⟩, fun _ _ h => h⟩
  | blk h1 h2 hA hB =>
    have e : callE P τ xs g S = g (hideL (P.own.map (·.2)) xs) (buryN (P.own.map (·.2)) (S.map (hideL (P.own.map (·.2))))) := by
      unfold callE
      rw [h1]
      cases q : P.own with
      | nil => exact absurd q h2
      | cons a b => rfl
    rw [e] at p
    have hm := own_ns sr hB
    refine ⟨H, W, Q, I.env0, ⟨_, _, _, sr.bury hA hB, (r.gone hm).ow, hideL_len, (Post.bury sr hB p).mono fun a m' S' H' ex _ q v rv => ?_⟩, fun _ _ h => h⟩
    obtain ⟨k, hk, _⟩ := ex.pre
    subst hk
    exact q k rfl v rv.back.wo
  | frm h1 _ _ hO =>
    have e : callE P τ xs g S = g xs (sync P.own τ S) := by
      unfold callE
      rw [h1]
      rfl
    rw [e] at p
    obtain ⟨F, c, L, hf⟩ := hO pins σ H s I m τ sl
    have E0 := I.env0
    refine ⟨plus H F, fun cls d H' => Held F H' → W cls d (minus H' F), fun v H' => Held F H' → Q v (minus H' F), ?_, ⟨m, sync P.own τ S, xs, sr.track L, (r.mono (ky_plus L.no) ⟨[], by simp⟩).ow, rfl, (Post.track L.no sr.ow (sr.uq L.no) p).mono fun a m' S' H' ex _ q v rv hh => q hh v (rv.mono (ky_minus hh) ⟨[], by simp⟩).wo⟩, fun r s' h => ?_⟩
    · refine ⟨E0.frames, E0.mod, fun b o e => ⟨(E0.bs b o e).1, ?_⟩, E0.bsz, E0.funs, fun b hb => ?_, plus_ok c E0.hok, E0.bare⟩
      · rw [plus_out]
        · exact (E0.bs b o e).2
        · rcases lk_cases F b with ⟨o', z⟩ | z
          · rw [(hf b o' z).2] at e; cases e
          · exact z
      · rw [plus_out]
        · exact E0.frf b hb
        · rcases lk_cases F b with ⟨o', z⟩ | z
          · exact absurd hb (hf b o' z).1
          · exact z
    · cases r with
      | error er => exact cx_minus c (fun b o z => (hf b o z).1) h fun cls d H' hh q => q hh
      | ok fl =>
        cases fl with
        | ret u => exact ce_minus c h fun v H' hh q => q hh
        | next => exact h
        | brk => exact h
        | cont => exact h
end
end TQ
/-! TQ11: what a def promises; calls. -/
namespace TQ
open PySem L2 PyProof.Rows
structure FnQ (prg : Program) (w : World) (K : PySem.W.Frag) (mg : Str → Option Value) (base : Heap) (GI : Gx → Prop) (k : Nat) (f : Addr) (fd : FuncData) (ps : List Str) (g : List Val → E Val) : Prop where
  run : ∀ (G : Gx), GI G → G.own = [] → ∀ (A : Around) (outer : List Env) (s : Shared) (H : Hp) (args : Args) (us : List Value) (vs : List V) (Q : VK) (W : XK), Room k A → A.guards = some [] → Env0 prg w K mg base A outer s H → BindsTo s fd args (ps.zip us) → Vals vs us →
    (∃ m S xs, SR G H m S ∧ RVL G H m xs vs ∧ xs.length = ps.length ∧ Post G W m H (g xs S) (CQ G Q)) → codeAny (model prg w) A (.call (.ref f) args) (CR (L2.CX prg w) outer prg w H s Q W) s
theorem FnQ.mono {prg : Program} {w : World} {K : PySem.W.Frag} {mg : Str → Option Value} {base : Heap} {GI : Gx → Prop} {j k : Nat} {f : Addr} {fd : FuncData} {ps : List Str} {g : List Val → E Val} (F : FnQ prg w K mg base GI j f fd ps g) (h : j ≤ k) : FnQ prg w K mg base GI k f fd ps g :=
  ⟨fun G hG ho A outer s H args us vs Q W hr => F.run G hG ho A outer s H args us vs Q W (hr.mono h)⟩
section
variable {prg : Program} {w : World} {K : PySem.W.Frag} {mg : Str → Option Value} {base : Heap} {GI : Gx → Prop} {k : Nat} {f : Addr} {N ps : List Str}
theorem sl_start {G : Gx} {H : Hp} {m : List Nat} {xs : List Val} {vs : List V} (r : RVL G H m xs vs) (hz : xs.length ≤ N.length) : SL G H m (xs.map some ++ List.replicate (N.length - xs.length) none) (L2.start N vs) := by
  unfold L2.start
  have hl := r.length
  refine ⟨by simp [hl], fun i x e => ?_⟩
  by_cases hi : i < xs.length
  · rw [List.getElem?_append_left (by simpa using hi), List.getElem?_map] at e
    cases ex : xs[i]? with
    | none => rw [ex] at e; simp at e
    | some y =>
      rw [ex] at e
      simp at e
      subst e
      obtain ⟨v, ev, rv⟩ := r.get ex
      refine ⟨v, ?_, rv⟩
      rw [List.getElem?_append_left (by rw [List.length_map]; omega), List.getElem?_map, ev]
      rfl
  · rw [List.getElem?_append_right (by simpa using Nat.le_of_not_lt hi), List.getElem?_replicate] at e
    split at e <;> cases e
/-- THE RULE: a def by its body, no lambda in it -/
theorem fnq_of {name qual : Str} {params : Arguments} {body : List Stmt} {scope : Scope} {dV kV doc pm cdv ct oc : Value} {an od : Option Addr} {osl : Array (Option Value)} {P : Pr} {d : Df} (lk : K.lookup f = some ⟨oc, od, .func (PySem.W.fnOf name qual params body scope dV kV doc pm an cdv ct), osl⟩) (hcd : PySem.W.codeIn K cdv qual = true)
    (S : FnScope N ps scope) (hd : d.size = N.length) (hp : d.pars = ps.length) (hc : d.cells = [])
    (hbody : ∀ (G : Gx), GI G → G.own = [] → ∀ (A : Around) (outer : List Env) (s : Shared) (H : Hp) (W : XK), Room k (A.deeper (envOfC qual scope s.heap.objs.size f cdv)) → A.guards = some [] → JSs (cxOf (L2.CX prg w) prg w K mg base N qual scope f cdv A outer s H W) G W { P with own := [], blk := false } body d.body) :
    FnQ prg w K mg base GI (k + 1) f (PySem.W.fnOf name qual params body scope dV kV doc pm an cdv ct) ps (runDf P d) := by
  refine ⟨fun G hG ho A outer s H args us vs Q W hr hgd e0 hb r h => ?_⟩
  obtain ⟨m, St, xs, sr, rx, hx, p⟩ := h
  have hl : vs.length = ps.length := by rw [rx.length, hx]
  refine LamX.run_ofS lk hcd S hr e0 hb r hl fun hr' => ⟨_, hbody G hG ho A outer s H W hr' hgd, ?_⟩
  unfold runDf at p
  split at p
  · rename_i hz
    rw [hc] at p
    simp only at p
    have fin : ∀ (z : R (Fl × Tau)), Post G W m H (plainDf z) (CQ G Q) → Post G W m H z (EndC G { nx := fun _ H' => Q .non H', rt := Q }) := by
      intro z hz'
      cases z with
      | bad => exact hz'
      | exc c dd S' => exact hz'
      | ok q S' =>
        obtain ⟨fl, τ1⟩ := q
        intro m1 H1 s1 e1
        cases fl with
        | nx => exact fun σ' _ => hz' m1 H1 s1 e1 _ .non
        | rt v => exact fun x rx => hz' m1 H1 s1 e1 x rx
        | bk => exact hz'.elim
        | ct => exact hz'.elim
    refine ⟨m, St, xs.map some ++ List.replicate (d.size - d.pars) none, sr, ?_, .nil, fin _ p⟩
    have e : d.size - d.pars = N.length - xs.length := by omega
    rw [e]
    exact sl_start rx (by omega)
  · exact p.elim
end
/-! ### calls -/
section
variable {X : Cx} {G : Gx} {W : XK} {P : Pr} {GI : Gx → Prop} {k : Nat} {f : Addr} {fd : FuncData} {ps : List Str} {x : Str} {p pos : Pos} {e : Expr} {es : List Expr} {xs : List Ex}
theorem run_q {pins : List (Addr × Obj)} {σ : L2.St} {H : Hp} {s : Shared} {Q : VK} {args : Args} {us : List Value} {vs : List V} {g : List Val → E Val} (F : FnQ X.prog X.w X.K X.mg X.base GI k f fd ps g) (hG : GI (G.ow [])) (hr : Room k X.A) (hgd : X.A.guards = some []) (hx : ∀ e s', L2.CX X.prog X.w X.stack H s W e s' → X.xe e s')
    (I : Inv X pins σ H s) (hb : BindsTo s fd args (ps.zip us)) (r : Vals vs us) (h : CallAt X G W H s g ps.length vs Q) : wpAny (model X.prog X.w) X.A (call (.ref f) args.pos args.kw) (EP X pins σ Q) X.xe s := by
  obtain ⟨H0, W0, Q0, E0, hv, conv⟩ := h.run
  refine wpAny_call (codeAny_mono (F.run (G.ow []) hG rfl X.A X.stack s H0 args us vs Q0 W0 hr hgd E0 hb r hv) fun r s' hq => ?_)
  have hq := conv r s' hq
  cases r with
  | error e => exact hx e s' hq
  | ok fl =>
    cases fl with
    | ret u => exact I.after hq
    | next => exact False.elim hq
    | brk => exact False.elim hq
    | cont => exact False.elim hq
/-- what stands when the arguments are there -/
def ArgsAt (X : Cx) (G : Gx) (W : XK) (g : List Val → E Val) (n : Nat) (σ : L2.St) (vs : List V) (H : Hp) (Q : VK) : Prop := ∀ (pins : List (Addr × Obj)) (s : Shared), Inv X pins σ H s → CallAt X G W H s g n vs Q
theorem t_call {σ : L2.St} {H : Hp} {Q : VK} (hl : xs.length = ps.length) (L : OwnLk X G P) (h : tE G W (fun τ => ev P τ (.call x xs)) σ H Q) :
    tA G W (fun τ => evAs P τ xs) σ H fun vs H1 => vs.length = ps.length ∧ ArgsAt X G W (P.fn x) ps.length σ vs H1 Q := by
  have h : tE G W (fun τ => (evAs P τ xs).bind fun vs => callE P τ vs (P.fn x)) σ H Q := by simpa only [ev, evv, dflt] using h
  refine tA.mono (fun vs H1 q => ?_) (t_len (Cont.bindA (f := fun τ => evAs P τ xs) (g := fun τ us => callE P τ us (P.fn x)) h))
  obtain ⟨hl', us, m, S, τ, s, sl, r, p⟩ := q
  have hr := r.length
  simp only [List.nil_append] at hr r
  refine ⟨by omega, fun pins sh I => ?_⟩
  have z := call_own L I s sl r p
  have e : us.length = ps.length := by omega
  rw [e] at z
  exact z
/-- f(e, ..): every parameter is written -/
theorem j_call (F : FnQ X.prog X.w X.K X.mg X.base GI k f fd ps (P.fn x)) (hG : GI (G.ow [])) (L : OwnLk X G P) (hr : Room k X.A) (hgd : X.A.guards = some []) (hg : Gl X x) (hm : X.mg x = some (.ref f)) (hk : PySem.W.keepIn X.K (.ref f) = true) (hb : Binds X.K fd ps []) (hx : Passes (L2.CX X.prog X.w) X W)
    (ha : JA X G W P (e :: es) xs) (hl : xs.length = ps.length) (hdb : (x == ("__debug__" : Str)) = false) (he : starEach (e :: es) X.env = (false, eval e X.env) :: starEach es X.env) (hpl : (backTo pos (starEach es X.env)).any (·.1) = false) : JE X G W P (.Call (.Name x p) (e :: es) [] pos) (.call x xs) := by
  refine ⟨fun pins s σ H Q I h => ?_⟩
  refine wpAny_Call_Name_kw (ld_glob I hg hm ?_ hdb)
  refine PySem.W.callWith_K (h₀ := X.base) I.ok.mod.kin hk (thn (ha.run pos pins s σ H _ I (t_call hl L h)) fun us s1 ⟨vs, H1, I1, r, hv, q⟩ => ⟨I1.kIn, ?_⟩) he hpl
  refine run_q (args := ⟨us, []⟩) F hG hr hgd (fun e s' q => hx pins σ _ _ e s' I1 q) I1 ?_ r (q pins s1 I1)
  have z := hb s1 us I1.kIn (by rw [List.append_nil, ← r.length]; exact hv)
  rw [List.append_nil] at z
  exact z
theorem j_call0 (F : FnQ X.prog X.w X.K X.mg X.base GI k f fd [] (P.fn x)) (hG : GI (G.ow [])) (L : OwnLk X G P) (hr : Room k X.A) (hgd : X.A.guards = some []) (hg : Gl X x) (hm : X.mg x = some (.ref f)) (hk : PySem.W.keepIn X.K (.ref f) = true) (hb : Binds X.K fd [] []) (hx : Passes (L2.CX X.prog X.w) X W)
    (hdb : (x == ("__debug__" : Str)) = false) : JE X G W P (.Call (.Name x p) [] [] pos) (.call x []) := by
  refine ⟨fun pins s σ H Q I h => ?_⟩
  refine wpAny_Call_Name_kw (ld_glob I hg hm ?_ hdb)
  refine PySem.W.callWith_K0 I.kIn hk ?_
  have q := t_call (xs := []) (ps := []) rfl L h
  have q := t_nil (by simpa only [evAs] using q)
  obtain ⟨_, q⟩ := q
  exact run_q (args := ⟨[], []⟩) (us := []) F hG hr hgd (fun e s' q => hx pins σ _ _ e s' I q) I (hb s [] I.kIn rfl) .nil (q pins s I)
/-! keywords -/
abbrev JK (X : Cx) (G : Gx) (W : XK) (P : Pr) (x : List Keyword) (e : List Ex) : Prop := PK X x (tA G W fun τ => evAs P τ e)
theorem PK.imp {e : List Keyword} {t t' : TA} (h : PK X e t) (k : ∀ σ H Q, t' σ H Q → t σ H Q) : PK X e t' := ⟨fun pos pins s σ H Q I hw => h.run pos pins s σ H Q I (k _ _ _ hw)⟩
theorem jk_nil : JK X G W P [] [] := PK.imp pk_nil fun _ _ _ h => t_nil (by simpa only [evAs] using h)
theorem jk_cons {nm : Option Str} {kpos : Pos} {a : Expr} {ea : Ex} {kws : List Keyword} (ha : JE X G W P a ea) (hr : JK X G W P kws xs) : JK X G W P (⟨nm, a, kpos⟩ :: kws) (ea :: xs) :=
  PK.imp (pk_cons ha hr) fun _ _ _ h => t_cons (by simpa only [evAs] using h)
theorem t_callK {σ : L2.St} {H : Hp} {Q : VK} {as bs : List Ex} {q : List Nat} (hq : q.length = ps.length) (L : OwnLk X G P) (h : tE G W (fun τ => ev P τ (.callK x as bs q)) σ H Q) :
    tA G W (fun τ => evAs P τ as) σ H fun vs H1 => vs.length = as.length ∧ tA G W (fun τ => evAs P τ bs) σ H1 fun ws H2 => ws.length = bs.length ∧ ∃ m us zs, RVL G H2 m us (vs ++ ws) ∧ mapO (fun i => us[i]?) q = some zs ∧ ∀ vz, RVL G H2 m zs vz → ArgsAt X G W (P.fn x) ps.length σ vz H2 Q := by
  have h : tE G W (fun τ => (evAs P τ as).bind fun us => (evAs P τ bs).bind fun ws => (getO (mapO (fun i => (us ++ ws)[i]?) q)).bind fun vs => callE P τ vs (P.fn x)) σ H Q := by simpa only [ev, evv, dflt] using h
  refine tA.mono (fun vs H1 w => ?_) (t_len (Cont.bindA (f := fun τ => evAs P τ as) (g := fun τ us => (evAs P τ bs).bind fun ws => (getO (mapO (fun i => (us ++ ws)[i]?) q)).bind fun vs => callE P τ vs (P.fn x)) h))
  obtain ⟨hl1, us, w⟩ := w
  refine ⟨hl1, tA.mono (fun ws H2 w => ?_) (t_len (Cont.bindA (f := fun τ => evAs P τ bs) (g := fun τ ws => (getO (mapO (fun i => (us ++ ws)[i]?) q)).bind fun vs => callE P τ vs (P.fn x)) w))⟩
  obtain ⟨hl2, us2, m, S, τ, s, sl, r, p⟩ := w
  simp only [List.nil_append] at r
  have p : Post G W m H2 (((getO (mapO (fun i => (us ++ us2)[i]?) q)).bind fun vs => callE P τ vs (P.fn x)) S) (CQ G Q) := p
  cases e : mapO (fun i => (us ++ us2)[i]?) q with
  | none => rw [e] at p; exact p.elim
  | some zs =>
    rw [e] at p
    refine ⟨hl2, m, us ++ us2, zs, r, e, fun vz rz pins sh I => ?_⟩
    have z := call_own L I s sl rz p
    rw [show zs.length = ps.length by rw [mapO_len e]; exact hq] at z
    exact z
/-- the parameters' values, picked -/
theorem pick_rel {H : Hp} {m : List Nat} {us : List Val} {vs : List V} {ws : List Value} (r : RVL G H m us vs) (rr : Vals vs ws) : ∀ {q : List Nat} {zs : List Val}, mapO (fun i => us[i]?) q = some zs → ∃ vz wz, mapO (fun i => ws[i]?) q = some wz ∧ RVL G H m zs vz ∧ Vals vz wz
  | [], zs, h => by simp [mapO] at h; subst h; exact ⟨[], [], rfl, .nil, .nil⟩
  | i :: q, zs, h => by
    obtain ⟨y, r', rfl, e1, e2⟩ := mapO_cons h
    obtain ⟨vz, wz, e3, r1, r2⟩ := pick_rel r rr e2
    obtain ⟨v, ev, rv⟩ := r.get e1
    obtain ⟨u, eu, ru⟩ := rr.get ev
    exact ⟨v :: vz, u :: wz, by simp [mapO, eu, e3], .cons rv r1, .cons ru r2⟩
/-- how a call with keywords binds -/
def KwB (fd : FuncData) (ps ks : List Str) (n : Nat) (q : List Nat) : Prop := ∀ us ws zs : List Value, us.length = n → ws.length = ks.length → mapO (fun i => (us ++ ws)[i]?) q = some zs → bindArgs fd ⟨us, ks.zip ws⟩ = pure (ps.zip zs)
theorem j_callK {ks : List Str} {q : List Nat} {kws : List Keyword} {zs : List Ex} (F : FnQ X.prog X.w X.K X.mg X.base GI k f fd ps (P.fn x)) (hG : GI (G.ow [])) (L : OwnLk X G P) (hr : Room k X.A) (hgd : X.A.guards = some []) (hg : Gl X x) (hm : X.mg x = some (.ref f)) (hk : PySem.W.keepIn X.K (.ref f) = true) (hq : q.length = ps.length)
    (hb : KwB fd ps ks xs.length q) (hkl : zs.length = ks.length) (hx : Passes (L2.CX X.prog X.w) X W) (ha : JA X G W P (e :: es) xs) (hkw : JK X G W P kws zs) (hall : (backToKw pos (keywordEach kws X.env)).all (·.1.isSome) = true) (hks : (backToKw pos (keywordEach kws X.env)).filterMap (·.1) = ks)
    (hdb : (x == ("__debug__" : Str)) = false) (he : starEach (e :: es) X.env = (false, eval e X.env) :: starEach es X.env)
    (hpl : ((backTo pos (starEach (e :: es) X.env)).any (·.1) || (backToKw pos (keywordEach kws X.env)).any (·.1.isNone)) = false) : JE X G W P (.Call (.Name x p) (e :: es) kws pos) (.callK x xs zs q) := by
  refine ⟨fun pins s σ H Q I h => ?_⟩
  refine wpAny_Call_Name_kw (ld_glob I hg hm ?_ hdb)
  refine PySem.W.callWith_KW (h₀ := X.base) I.ok.mod.kin hk hall (thn (ha.run pos pins s σ H _ I (t_callK hq L h)) fun us s1 ⟨vs, H1, I1, r, l1, w⟩ => ?_) hpl he
  refine thn (hkw.run pos pins s1 σ H1 _ I1 w) fun ws s2 ⟨ws', H2, I2, rz, l2, m, us', zs', rx, ep, pp⟩ => ⟨I2.kIn, ?_⟩
  rw [hks]
  obtain ⟨vz, wz, e3, r1, r2⟩ := pick_rel rx (r.append rz) ep
  refine run_q (args := ⟨us, ks.zip ws⟩) (us := wz) F hG hr hgd (fun e s' q => hx pins σ _ _ e s' I2 q) I2 (.of_eq (hb us ws wz (by rw [← r.length]; exact l1) (by rw [← rz.length, l2, hkl]) e3)) r2 (pp vz r1 pins s2 I2)
theorem j_callK0 {ks : List Str} {q : List Nat} {kws : List Keyword} {zs : List Ex} (F : FnQ X.prog X.w X.K X.mg X.base GI k f fd ps (P.fn x)) (hG : GI (G.ow [])) (L : OwnLk X G P) (hr : Room k X.A) (hgd : X.A.guards = some []) (hg : Gl X x) (hm : X.mg x = some (.ref f)) (hk : PySem.W.keepIn X.K (.ref f) = true) (hq : q.length = ps.length)
    (hb : KwB fd ps ks 0 q) (hkl : zs.length = ks.length) (hx : Passes (L2.CX X.prog X.w) X W) (hkw : JK X G W P kws zs) (hall : (backToKw pos (keywordEach kws X.env)).all (·.1.isSome) = true) (hks : (backToKw pos (keywordEach kws X.env)).filterMap (·.1) = ks)
    (hdb : (x == ("__debug__" : Str)) = false)
    (hpl : ((backTo pos (starEach [] X.env)).any (·.1) || (backToKw pos (keywordEach kws X.env)).any (·.1.isNone)) = false) : JE X G W P (.Call (.Name x p) [] kws pos) (.callK x [] zs q) := by
  refine ⟨fun pins s σ H Q I h => ?_⟩
  refine wpAny_Call_Name_kw (ld_glob I hg hm ?_ hdb)
  have h' := t_callK (as := []) (bs := zs) hq L h
  have h2 := t_nil (by simpa only [evAs] using h')
  obtain ⟨_, h2⟩ := h2
  refine PySem.W.callWith_KW0 (h₀ := X.base) I.ok.mod.kin hk hall (thn (hkw.run pos pins s σ H _ I h2) fun ws s2 ⟨ws', H2, I2, rz, l2, m, us', zs', rx, ep, pp⟩ => ⟨I2.kIn, ?_⟩) hpl
  rw [hks]
  obtain ⟨vz, wz, e3, r1, r2⟩ := pick_rel (by simpa using rx) rz ep
  refine run_q (args := ⟨[], ks.zip ws⟩) (us := wz) F hG hr hgd (fun e s' q => hx pins σ _ _ e s' I2 q) I2 (.of_eq (hb [] ws wz rfl (by rw [← rz.length, l2, hkl]) e3)) r2 (pp vz r1 pins s2 I2)
end
end TQ
/-! TQ12: isinstance. -/
namespace TQ
open PySem L2 PyProof.Rows
/-- the class that the name T tells -/
inductive ClsN (mg : Str → Option Value) (T : Str) : V → Value → Prop where
  | ty (n : String) : mg T = none → bootBuiltins T = some (.type n) → T ≠ "__name__" → ClsN mg T (.ty n) (.type n)
  | own (C : Addr) : mg T = some (.ref C) → ClsN mg T (.ref C) (.ref C)
/-- the type that the name t tells -/
inductive TyN (mg : Str → Option Value) : Str → Value → Prop where
  | non : TyN mg "NoneType" (.type "NoneType")
  | bl : TyN mg "bool" (.type "bool")
  | int : TyN mg "int" (.type "int")
  | str : TyN mg "str" (.type "str")
  | lst : TyN mg "list" (.type "list")
  | tup : TyN mg "tuple" (.type "tuple")
  | dct : TyN mg "dict" (.type "dict")
theorem boot_bool : bootBuiltins "bool" = some (.type "bool") := by decide +kernel
theorem boot_str : bootBuiltins "str" = some (.type "str") := by decide +kernel
/-- what P's isE must say: kitOne's answers -/
def IsOk (K : PySem.W.Frag) (mg : Str → Option Value) (isE : Str → Str → Option Bool) : Prop := ∀ t T b, isE t T = some b → ∀ c u, ClsN mg T c u → (∀ tv, TyN mg t tv → PySem.W.kitOne K tv u = some b) ∧ ∀ C, mg t = some (.ref C) → PySem.W.kitOne K (.ref C) u = some b
/-- an exception as a value -/
def ExcLook (K : PySem.W.Frag) (G : Gx) : Prop := ∀ (P : Program) (w : World) (H : Hp) (h : Heap) (cc : Str) (d : V) (a : Addr), K.In h → HOk P w H h → G.exc cc d a H → ∃ C Pz, G.m cc = some (.ref C) ∧ PySem.W.KitX K (.ref a) (.ref C) Pz ∧ Pz h
section
variable {X : Cx} {G : Gx} {W : XK} {P : Pr} {H : Hp} {m : List Nat} {S : Sto}
theorem kit_plain {K : PySem.W.Frag} {t T : Str} {tv : Value} {c : V} {u : Value} {mg : Str → Option Value} (ht : TyN mg t tv) (hT : plainT T = true) (hc : ClsN mg T c u) (hn : mg T = none) : PySem.W.kitOne K tv u = some (isiT t T) := by
  have key : ∀ (n : String), bootBuiltins T = some (.type n) → PySem.W.kitOne K tv (.type n) = some (isiT t T) := fun n hb => by
    unfold plainT at hT
    simp only [Bool.or_eq_true, decide_eq_true_eq] at hT
    rcases hT with (((rfl | rfl) | rfl) | rfl) | rfl
    · rw [PyProof.Rows.boot_int] at hb; cases hb
      cases ht <;> exact kit_ty (by decide +kernel)
    · rw [boot_bool] at hb; cases hb
      cases ht <;> exact kit_ty (by decide +kernel)
    · rw [boot_str] at hb; cases hb
      cases ht <;> exact kit_ty (by decide +kernel)
    · rw [PyProof.Rows.boot_list] at hb; cases hb
      cases ht <;> exact kit_ty (by decide +kernel)
    · rw [PyProof.Rows.boot_tuple] at hb; cases hb
      cases ht <;> exact kit_ty (by decide +kernel)
  cases hc with
  | ty n h1 h2 h3 => exact key n h2
  | own C h1 => rw [hn] at h1; cases h1
theorem ty_of (hK : X.K = G.K) {x : Val} {v : V} {t : Str} (s : SR G H m S) (r : RV G H m x v) (e : typV x = some t) : ∃ tv, TyN G.m t tv ∧ TyX X.K H v tv := by
  cases r with
  | non => cases e; exact ⟨_, .non, .base .non⟩
  | bl => cases e; exact ⟨_, .bl, .base (.bl _)⟩
  | int => cases e; exact ⟨_, .int, .base (.int _)⟩
  | str => cases e; exact ⟨_, .str, .base (.str _)⟩
  | tup h r =>
    cases e
    rcases h with (h | ⟨o, h⟩) | ⟨o, its, n, h1, h2, _⟩
    · exact ⟨_, .tup, .base (.tup h)⟩
    · exact ⟨_, .tup, .fTuple h⟩
    · exact ⟨_, .tup, .kTuple (by rw [hK]; exact h1) h2⟩
  | ref h =>
    cases e
    obtain ⟨_, vs, _, e2, _⟩ := s.get h
    exact ⟨_, .lst, .base (.lst e2)⟩
  | edc h => cases e; exact ⟨_, .dct, .base (.dK h)⟩
  | scr h r =>
    cases e
    rcases h.sq with (h | ⟨o, h⟩) | ⟨o, its, n, h1, h2, _⟩
    · exact ⟨_, .lst, .base (.lst h)⟩
    · exact ⟨_, .lst, .base (.frz h)⟩
    · exact ⟨_, .lst, .kList (by rw [hK]; exact h1) h2⟩
  | _ => cases e
/-- isinstance's rule, exceptions too -/
def rIsG (K : PySem.W.Frag) (G : Gx) (x : V) (us : List Value) (H : Hp) (Q : VK) : Prop := ∃ b, ((∃ t, TyX K H x t ∧ PySem.W.kitAny K t us = some b) ∨ (∃ a cc w C, x = .ref a ∧ G.exc cc w a H ∧ G.m cc = some (.ref C) ∧ PySem.W.kitAny K (.ref C) us = some b)) ∧ Q (.bl b) H
theorem isi_any {x : Val} {v : V} (hK : X.K = G.K) (hm : X.mg = G.m) (hI : IsOk X.K X.mg P.isE) (hpl : ∀ T, plainT T = true → X.mg T = none) (hex : ∀ c w a, G.exc c w a H → ∃ C, G.m c = some (.ref C)) (s : SR G H m S) (r : RV G H m x v) :
    ∀ {Ts : List Str} {cs : List V} {us : List Value} {b : Bool}, Paired (fun (T : Str) (p : V × Value) => ClsN X.mg T p.1 p.2) Ts (cs.zip us) → cs.length = us.length → Ts ≠ [] → isiAny P x Ts = some b →
      (∃ t, TyX X.K H v t ∧ PySem.W.kitAny X.K t us = some b) ∨ (∃ a cc w C, v = .ref a ∧ G.exc cc w a H ∧ G.m cc = some (.ref C) ∧ PySem.W.kitAny X.K (.ref C) us = some b) := by
  -- one class
  have one : ∀ {T : Str} {c : V} {u : Value} {b : Bool}, ClsN X.mg T c u → isiV P x T = some b → (∀ t tv, typV x = some t → TyN G.m t tv → PySem.W.kitOne X.K tv u = some b) ∧ ∀ cc d C, x = .exc cc d → G.m cc = some (.ref C) → PySem.W.kitOne X.K (.ref C) u = some b := by
    intro T c u b hc e
    refine ⟨fun t tv ht htv => ?_, fun cc d C hx hC => ?_⟩
    · have e : (if plainT T then some (isiT t T) else P.isE t T) = some b := by
        cases x <;> simp only [typV, reduceCtorEq] at ht <;> (unfold isiV at e; simp only [typV] at e; cases ht; exact e)
      split at e
      · rename_i hp
        cases e
        exact kit_plain (mg := X.mg) (by rw [hm]; exact htv) hp hc (hpl T hp)
      · exact (hI t T b e c u hc).1 tv (by rw [hm]; exact htv)
    · subst hx
      exact (hI cc T b e c u hc).2 C (by rw [hm]; exact hC)
  have main : ∀ {Ts : List Str} {cs : List V} {us : List Value} {b : Bool}, Paired (fun (T : Str) (p : V × Value) => ClsN X.mg T p.1 p.2) Ts (cs.zip us) → cs.length = us.length → isiAny P x Ts = some b →
      (∀ t tv, typV x = some t → TyN G.m t tv → PySem.W.kitAny X.K tv us = some b) ∧ ∀ cc d C, x = .exc cc d → G.m cc = some (.ref C) → PySem.W.kitAny X.K (.ref C) us = some b := by
    intro Ts
    induction Ts with
    | nil =>
      intro cs us b hp hl e
      have : us = [] := by
        cases us with
        | nil => rfl
        | cons u us => cases cs with
          | nil => simp at hl
          | cons c cs => cases hp
      subst this
      simp only [isiAny, Option.some.injEq] at e
      subst e
      exact ⟨fun _ _ _ _ => rfl, fun _ _ _ _ _ => rfl⟩
    | cons T Ts ih =>
      intro cs us b hp hl e
      cases us with
      | nil => cases cs with
        | nil => cases hp
        | cons c cs => simp at hl
      | cons u us => cases cs with
        | nil => simp at hl
        | cons c cs =>
          cases hp with
          | cons h1 h2 =>
            simp only [isiAny] at e
            cases eb : isiV P x T with
            | none => rw [eb] at e; cases e
            | some b1 =>
              rw [eb] at e
              obtain ⟨o1, o2⟩ := one h1 eb
              cases b1 with
              | true =>
                cases e
                exact ⟨fun t tv a1 a2 => kitAny_cons (o1 t tv a1 a2) (fun z => nomatch z) fun _ => rfl, fun cc d C a1 a2 => kitAny_cons (o2 cc d C a1 a2) (fun z => nomatch z) fun _ => rfl⟩
              | false =>
                obtain ⟨q1, q2⟩ := ih h2 (by simpa using hl) e
                exact ⟨fun t tv a1 a2 => kitAny_cons (o1 t tv a1 a2) (fun _ => q1 t tv a1 a2) (fun z => nomatch z), fun cc d C a1 a2 => kitAny_cons (o2 cc d C a1 a2) (fun _ => q2 cc d C a1 a2) (fun z => nomatch z)⟩
  intro Ts cs us b hp hl hne e
  have q12 := main hp hl e
  have q1 := q12.1
  have q2 := q12.2
  by_cases hx : ∃ cc d, x = .exc cc d
  · obtain ⟨cc, d, rfl⟩ := hx
    cases r with
    | exc h1 h2 =>
      obtain ⟨C, hC⟩ := hex _ _ _ h1
      exact .inr ⟨_, cc, _, C, rfl, h1, hC, q2 cc d C rfl hC⟩
  · have ht : ∃ t, typV x = some t := by
      cases Ts with
      | nil => exact absurd rfl hne
      | cons T Ts =>
        simp only [isiAny] at e
        cases x with
        | exc cc d => exact absurd ⟨cc, d, rfl⟩ hx
        | fn _ => simp [isiV, typV] at e
        | clo _ _ => simp [isiV, typV] at e
        | dead => simp [isiV, typV] at e
        | cmark => simp [isiV, typV] at e
        | _ => exact ⟨_, rfl⟩
    obtain ⟨t, ht⟩ := ht
    obtain ⟨tv, h1, h2⟩ := ty_of hK s r ht
    exact .inl ⟨tv, h2, q1 t tv ht h1⟩
/-- one class, or a tuple of classes that was just laid -/
theorem call_isG (hexc : ExcLook X.K G) {x : V} {H : Hp} {Q : VK} {us : List Value} (h : rIsG X.K G x us H Q) :
    (∀ c u, us = [u] → ClsV c u → ∀ (pins : List (Addr × Obj)) (s : Shared) (σ : L2.St) (ws : List Value), Inv X pins σ H s → Vals [x, c] ws → wpAny (model X.prog X.w) X.A (call (.builtin "isinstance") ws) (EP X pins σ Q) X.xe s) ∧
    ∀ (tp : Addr) (cs : List V), H tp = some (.tup cs) → Paired ClsV cs us → ∀ (pins : List (Addr × Obj)) (s : Shared) (σ : L2.St) (ws : List Value), Inv X pins σ H s → Vals [x, .ref tp] ws → wpAny (model X.prog X.w) X.A (call (.builtin "isinstance") ws) (EP X pins σ Q) X.xe s := by
  obtain ⟨b, hb, q⟩ := h
  have kit : ∀ (pins : List (Addr × Obj)) (s : Shared) (σ : L2.St) (u1 : Value), Inv X pins σ H s → RelV x u1 → ∃ t Pz, PySem.W.KitX X.K u1 t Pz ∧ Pz s.heap ∧ PySem.W.kitAny X.K t us = some b ∧ u1 ≠ .builtin "__main__.__loader__#opaque" := by
    intro pins s σ u1 I r1
    rcases hb with ⟨t, ty, e⟩ | ⟨a, cc, w, C, rfl, he, hC, e⟩
    · obtain ⟨Pz, Z, p, hx⟩ := kit_of I r1 ty
      exact ⟨t, Pz, Z, p, e, hx⟩
    · cases r1
      obtain ⟨C', Pz, hC', Z, p⟩ := hexc X.prog X.w H s.heap cc w a I.kIn I.hok he
      rw [hC] at hC'
      cases hC'
      exact ⟨_, Pz, Z, p, e, fun z => nomatch z⟩
  refine ⟨fun c u hu k pins s σ ws I r => ?_, fun tp cs hT k pins s σ ws I r => ?_⟩
  · obtain ⟨u1, u2, rfl, r1, r2⟩ := vals2 r
    have e2 := k.eq r2
    subst e2
    subst hu
    obtain ⟨t, Pz, Z, p, e, hx⟩ := kit pins s σ u1 I r1
    have e : PySem.W.kitOne X.K t u2 = some b := by
      unfold PySem.W.kitAny at e
      cases q : PySem.W.kitOne X.K t u2 with
      | none => rw [q] at e; cases e
      | some b' => rw [q] at e; cases b' <;> simpa [PySem.W.kitAny] using e
    exact PySem.W.kia_one Z I.kIn p e hx fun tk => ⟨.bl b, H, I.tok tk, rfl, q⟩
  · obtain ⟨u1, u2, rfl, r1, r2⟩ := vals2 r
    cases (show u2 = Value.ref tp from r2)
    obtain ⟨t, Pz, Z, p, e, hx⟩ := kit pins s σ u1 I r1
    obtain ⟨_, its, rv, o, h1, h2, n, h3⟩ := (show ObjOk X.prog X.w H s.heap tp (.tup cs) from I.hok tp _ hT)
    have e3 := ClsV.all k rv
    subst e3
    obtain ⟨oc, od, dt, sl⟩ := o
    simp only at h2 h3
    subst h2 h3
    exact PySem.W.kia_tup Z I.kIn p h1 e hx fun tk => ⟨.bl b, H, I.tok tk, rfl, q⟩
/-- what the context tells of classes -/
structure IsCx (X : Cx) (G : Gx) (P : Pr) : Prop where
  K : X.K = G.K
  m : X.mg = G.m
  is : IsOk X.K X.mg P.isE
  pl : ∀ T, plainT T = true → X.mg T = none
  ex : ∀ c w a H, G.exc c w a H → ∃ C, G.m c = some (.ref C)
  look : ExcLook X.K G
theorem isi_post {Ts : List Str} {cs : List V} {us : List Value} (hi : IsCx X G P) (hp : Paired (fun (T : Str) (p : V × Value) => ClsN X.mg T p.1 p.2) Ts (cs.zip us)) (hl : cs.length = us.length) (hne : Ts ≠ []) {v : V} {Q : VK} {σ : L2.St} {x : Val} (h : Cont G W [x] [v] (fun _ => isiE P x Ts) (CQ G Q) σ H) : rIsG X.K G v us H Q :=
  Cont.fin1 h fun m S s r p => by
    unfold isiE at p
    cases e : isiAny P x Ts with
    | none => rw [e] at p; exact p.elim
    | some b =>
      rw [e] at p
      exact ⟨b, isi_any hi.K hi.m hi.is hi.pl (fun c w a => hi.ex c w a H) s r hp hl hne e, ok_val s p .bl⟩
theorem t_isi {ea : Ex} {Ts : List Str} {cs : List V} {us : List Value} (hi : IsCx X G P) (hp : Paired (fun (T : Str) (p : V × Value) => ClsN X.mg T p.1 p.2) Ts (cs.zip us)) (hl : cs.length = us.length) (hne : Ts ≠ []) {σ : L2.St} {Q : VK} (h : tE G W (fun τ => ev P τ (.isi ea Ts)) σ H Q) : tE G W (fun τ => ev P τ ea) σ H fun v H1 => rIsG X.K G v us H1 Q := by
  have h : tE G W (fun τ => (ev P τ ea).bind fun v => isiE P v Ts) σ H Q := by simpa only [ev, evv, dflt] using h
  refine tE.mono (fun v H1 q => ?_) (Cont.bindV (f := fun τ => ev P τ ea) (g := fun τ v => isiE P v Ts) h)
  obtain ⟨x, q⟩ := q
  exact isi_post hi hp hl hne q
theorem Cont.newObj {α : Type} {us : List Val} {ws : List V} {f : Tau → E α} {C : α → List Nat → Sto → Hp → Prop} {σ : L2.St} {H : Hp} {p : Addr} {o : HO} (h : Cont G W us ws f C σ H) (hp : H p = none) : Cont G W us ws f C σ (upd H p o) := by
  obtain ⟨m, S, τ, s, sl, r, q⟩ := h
  have e : Ext m H m (upd H p o) := Ext.new hp
  exact ⟨m, S, τ, s.new hp, sl.mono e, r.mono e.ky e.sub, q.step e⟩
theorem cls_pe {T : Str} {c : V} {u : Value} {q : Pos} (h : ClsN X.mg T c u) (hg : Gl X T) (hd : (T == ("__debug__" : Str)) = false) : PE X (.Name T q) (tC c) := by
  cases h with
  | ty n h1 h2 h3 => exact pe_bltn hg h1 h2 rfl h3 hd
  | own C h1 => exact pe_glob hg h1 rfl hd
theorem cls_v {T : Str} {c : V} {u : Value} (h : ClsN X.mg T c u) : ClsV c u := by
  cases h with
  | ty n _ _ _ => exact .ty n
  | own C _ => exact .own C
theorem j_isi1 {a : Expr} {ea : Ex} {T : Str} {c : V} {u : Value} {p q pos : Pos} (hi : IsCx X G P) (hT : ClsN X.mg T c u) (hg : Gl X "isinstance") (hm : X.mg "isinstance" = none) (hgT : Gl X T) (hd : (T == ("__debug__" : Str)) = false) (ha : JE X G W P a ea)
    (he : starEach [a, .Name T q] X.env = (false, eval a X.env) :: starEach [.Name T q] X.env) : JE X G W P (.Call (.Name "isinstance" p) [a, .Name T q] [] pos) (.isi ea [T]) := by
  have hc : CallR X (.builtin "isinstance") (fun xs H Q => ∃ x, xs = [x, c] ∧ rIsG X.K G x [u] H Q) := by
    intro pins s σ H xs ws Q I r h
    obtain ⟨x, rfl, h⟩ := h
    exact (call_isG hi.look h).1 c u rfl (cls_v hT) pins s σ ws I r
  refine PE.imp (pe_callB hc hg hm PyProof.Rows.boot_isinstance (pa_cons ha (pa_cons (cls_pe hT hgT hd) pa_nil (by rfl)) he) (by decide) (by decide) he (by rfl)) fun σ H Q h => ?_
  exact tE.mono (fun v H1 w => ⟨v, rfl, w⟩) (t_isi hi (Ts := [T]) (cs := [c]) (us := [u]) (.cons hT .nil) rfl (by simp) h)
theorem names_pa : ∀ {Ts : List Str} {cs : List V} {us : List Value} {es : List Expr}, Paired (fun (T : Str) (p : V × Value) => ClsN X.mg T p.1 p.2) Ts (cs.zip us) → cs.length = us.length → Paired (fun (T : Str) (e : Expr) => (∃ q, e = .Name T q) ∧ Gl X T ∧ (T == ("__debug__" : Str)) = false) Ts es → PA X es (fun σ H Q => Q cs H) ∧ Paired ClsV cs us
  | [], cs, us, _, hp, hl, .nil => by
    have : cs = [] ∧ us = [] := by
      cases cs with
      | nil => cases us with
        | nil => exact ⟨rfl, rfl⟩
        | cons u us => simp at hl
      | cons c cs => cases us with
        | nil => simp at hl
        | cons u us => cases hp
    obtain ⟨rfl, rfl⟩ := this
    exact ⟨PA.imp pa_nil fun _ _ _ h => h, .nil⟩
  | T :: Ts, cs, us, _ :: es, hp, hl, .cons ⟨⟨q, rfl⟩, hg, hd⟩ hr => by
    cases cs with
    | nil => cases hp
    | cons c cs => cases us with
      | nil => simp at hl
      | cons u us =>
        cases hp with
        | cons h1 h2 =>
          obtain ⟨r1, r2⟩ := names_pa h2 (by simpa using hl) hr
          exact ⟨PA.imp (pa_cons (cls_pe h1 hg hd) r1 (by rfl)) fun _ _ _ h => h, .cons (cls_v h1) r2⟩
theorem j_isiT {a : Expr} {ea : Ex} {Ts : List Str} {cs : List V} {us : List Value} {es : List Expr} {p q pos : Pos} {k : Nat} (hi : IsCx X G P) (hp : Paired (fun (T : Str) (p : V × Value) => ClsN X.mg T p.1 p.2) Ts (cs.zip us)) (hl : cs.length = us.length) (hne : Ts ≠ []) (hz : cs.length ≤ sizeLine)
    (hes : Paired (fun (T : Str) (e : Expr) => (∃ q, e = .Name T q) ∧ Gl X T ∧ (T == ("__debug__" : Str)) = false) Ts es) (hg : Gl X "isinstance") (hm : X.mg "isinstance" = none) (ha : JE X G W P a ea)
    (he : starEach [a, .Tuple es k q] X.env = (false, eval a X.env) :: starEach [.Tuple es k q] X.env) : JE X G W P (.Call (.Name "isinstance" p) [a, .Tuple es k q] [] pos) (.isi ea Ts) := by
  obtain ⟨hes', hcv⟩ := names_pa hp hl hes
  have hc : CallR X (.builtin "isinstance") (fun xs H Q => ∃ x tp, xs = [x, .ref tp] ∧ H tp = some (.tup cs) ∧ rIsG X.K G x us H Q) := by
    intro pins s σ H xs ws Q I r h
    obtain ⟨x, tp, rfl, hT, h⟩ := h
    exact (call_isG hi.look h).2 tp cs hT hcv pins s σ ws I r
  refine PE.imp (pe_callB hc hg hm PyProof.Rows.boot_isinstance (pa_cons ha (pa_cons (pe_tup hes') pa_nil (by rfl)) he) (by decide) (by decide) he (by rfl)) fun σ H Q h => ?_
  have h : tE G W (fun τ => (ev P τ ea).bind fun v => isiE P v Ts) σ H Q := by simpa only [ev, evv, dflt] using h
  refine tE.mono (fun v H1 q => ?_) (Cont.bindV (f := fun τ => ev P τ ea) (g := fun τ v => isiE P v Ts) h)
  obtain ⟨x, q⟩ := q
  exact ⟨hz, fun tp hn => ⟨v, tp, rfl, upd_same, isi_post hi hp hl hne (q.newObj hn)⟩⟩
end
end TQ
/-! TQ19: an own exception with `def __init__(sf, value=None): super().__init__(value); sf.value = value`, over the bare heap. -/
namespace TQ
open PySem PySem.W PySem.Calls PyProof.Rows
section
variable {p : Program} {w : World} {A : Around} {R : Result → Shared → Prop} {hp base : Heap} {g : Array GenState} {d : Drawn} {t : Nat} {os : OsState} {K : Frag} {mg : Str → Option Value}
  {name qual sf val fld : Str} {params : Arguments} {scope : Scope} {dV kV doc pm ct oc u cl ccl : Value} {an od cld cdd : Option Addr} {osl csl ccs vs : Array (Option Value)} {fI cc cda D C x t0 : Addr} {args : Args} {q0 q1 q2 q3 q4 q5 q6 q7 q8 q9 : Pos} {ar : Arg} {cdD cdC : ClassData}
abbrev iniBody (sf val fld : Str) (q0 q1 q2 q3 q4 q5 q6 q7 q8 q9 : Pos) : List Stmt :=
  [.Expr (.Call (.Attribute (.Call (.Name "super" q0) [] [] q1) "__init__" q2) [.Name val q3] [] q4) q5, .Assign [.Attribute (.Name sf q6) fld q7] (.Name val q8) q9]
/-- what the program says of the class and of its __init__ -/
structure IniK (p : Program) (K : Frag) (mg : Str → Option Value) (fI D cc cda : Addr) (name qual sf val fld : Str) (params : Arguments) (scope : Scope) (dV kV doc pm ct oc : Value) (an od : Option Addr) (osl : Array (Option Value)) (q0 q1 q2 q3 q4 q5 q6 q7 q8 q9 : Pos) : Prop where
  lk : K.lookup fI = some ⟨oc, od, .func (ksFn name qual params (iniBody sf val fld q0 q1 q2 q3 q4 q5 q6 q7 q8 q9) scope dV kV doc pm an (.ref cda) ct cc), osl⟩
  cd : codeIn K (.ref cda) qual = true
  ps : ∃ ar : Arg, (params.posonlyargs ++ params.args).head? = some ar ∧ ar.arg = sf
  code : ∃ ccl cdd vs ccs file tf, K.lookup cda = some ⟨ccl, cdd, .fields vs, ccs⟩ ∧ vs[2]? = some (.str file tf) ∧ ((p.main.file : Str) == file) = true
  cell : ∃ cl cld csl, K.lookup cc = some ⟨cl, cld, .cell (some (.ref D)), csl⟩
  cls : ∃ cdD, clsIn K D = some cdD
  sup : mg "super" = none
  htop : (p.main.scope.names.lookup ("super" : Str)).isSome = false
  hks : scope.names.lookup ("super" : Str) = some .globalImplicit
  hkc : scope.names.lookup ("__class__" : Str) = some .free
  hka : scope.names.lookup sf = some .local
  hkv : scope.names.lookup val = some .local
  ne : (sf == val) = false
  hcell : ∀ y ∈ scope.names, y.2 ≠ .cell
  hco : scope.isCoroutine = false
  hgen : scope.isGenerator = false
  hk : scope.kind = .function
  any : nsIn K cStatics "thirdparty.any" = some none
  ds : (sf == ("__debug__" : Str)) = false
  dv : (val == ("__debug__" : Str)) = false
  sw1 : ∀ env : Env, swapsWith (.Call (.Attribute (.Call (.Name "super" q0) [] [] q1) "__init__" q2) [.Name val q3] [] q4) none q5.line env = pure false
  sw2 : ∀ env : Env, swapsWith (.Name val q8) (some (.Attribute (.Name sf q6) fld q7)) q9.line env = pure false
  mc : ∀ env : Env, ∃ pl : Sem Bool, eval (.Call (.Attribute (.Call (.Name "super" q0) [] [] q1) "__init__" q2) [.Name val q3] [] q4) env = (do
      let ov ← attributeBase (.Call (.Name "super" q0) [] [] q1) "__init__" env (eval (.Call (.Name "super" q0) [] [] q1) env)
      standAt q2.atName
      let (f, first) ← holding [ov] (getMethod ov "__init__" pl)
      callWith q4 f first (backTo q4 (starEach [.Name val q3] env)) [])
/-- .. and of the class C that is raised -/
structure IniC (K : Frag) (D C : Addr) (fld : Str) : Prop where
  ox : L2.OexC K C
  sub : mroIn K C (.ref D) = some true
  sup : ks_superIn K C D "__init__" = some (some (.builtin "ValueError.__init__"))
  ve : subIn K (.ref C) (.type "ValueError") = some true
  no : findIn K (.ref C) fld = some none
theorem ns_but {h h' : Heap} {L : Addr} {m : Str → Option Value} (n : h.Ns L m) (k : ∀ o, h.get? L = some o → h'.get? L = some o) : h'.Ns L m := by
  obtain ⟨oL, es, ep, hL, r⟩ := n
  exact ⟨oL, es, ep, k _ hL, r⟩
theorem init_raw (T : IniK p K mg fI D cc cda name qual sf val fld params scope dV kV doc pm ct oc an od osl q0 q1 q2 q3 q4 q5 q6 q7 q8 q9) (TC : IniC K D C fld) (kb : ∀ b o, base.get? b = some o → hp.get? b = some o) (Mo : L2.Mod K mg base) (hroom : A.depth < recursionLimit)
    (nb : base.get? x = none) (hx : hp.get? x = some (HandSPX.excO C t0))
    (hbind : BindsTo ⟨hp, g, d, t, os⟩ (ksFn name qual params (iniBody sf val fld q0 q1 q2 q3 q4 q5 q6 q7 q8 q9) scope dV kV doc pm an (.ref cda) ct cc) args [(sf, .ref x), (val, u)])
    (hR : ∀ h' tk' dx t1, (∀ b o, b ≠ x → hp.get? b = some o → h'.get? b = some o) → hp.objs.size ≤ dx → dx ≠ x → h'.get? x = some { cls := .ref C, dict := some dx, data := .fields #[.ref t1, .none, .none, .none, .bool false, .none] } →
      h'.Ns1 dx (fun y => if y = fld then some u else none) → R (.ok (.ret .none)) ⟨h', g, d, tk', os⟩) :
    codeAny (model p w) A (.call (.ref fI) args) R ⟨hp, g, d, t, os⟩ := by
  have X0 : K.In hp := Mo.kin.keeps kb
  obtain ⟨ar, hp1, hp2⟩ := T.ps
  obtain ⟨ccl, cdd, vs, ccs, file, tf, c1, c2, c3⟩ := T.code
  obtain ⟨cl, cld, csl, hcellD⟩ := T.cell
  obtain ⟨cdD, hD⟩ := T.cls
  obtain ⟨nmC, qC, NC, bsC, bmC, snC, subC, abC, colC, ddC, k0, k1, k2, k3, k5, hC, hbm⟩ := TC.ox.cls
  have hclC : clsIn K C = some { name := nmC, bases := bsC, mro := .ref C :: bmC, ns := NC, qualname := qC, hasDict := true, slotNames := snC, subclasses := subC, abstract := abC, collection := colC, hasDel := false } := by unfold clsIn; rw [hC] <;> rfl
  refine ks_codeAny_call_defAt (fd := ksFn name qual params (iniBody sf val fld q0 q1 q2 q3 q4 q5 q6 q7 q8 q9) scope dV kV doc pm an (.ref cda) ct cc) (body := iniBody sf val fld q0 q1 q2 q3 q4 q5 q6 q7 q8 q9) hroom (X0 _ _ T.lk) rfl (Mo.nolimit.keeps kb) (codeRec_of X0 T.cd) rfl hbind T.hcell
    (fun y hy => ?_) (fun h₁ hns hk₁ => ?_) T.hco T.hgen T.hk
  · simp only [List.mem_cons, List.not_mem_nil, or_false] at hy
    rcases hy with rfl | rfl
    · exact T.hka
    · exact T.hkv
  have xL : x < hp.objs.size := Heap.lt_size hx
  have X1 : K.In h₁ := X0.keeps hk₁
  have vself : (fun y => ([(sf, Value.ref x), (val, u)] : List (Str × Value)).reverse.lookup y) sf = some (.ref x) := by
    show List.lookup sf [(val, u), (sf, Value.ref x)] = _
    simp [List.lookup, T.ne]
  have vval : (fun y => ([(sf, Value.ref x), (val, u)] : List (Str × Value)).reverse.lookup y) val = some u := by
    show List.lookup val [(val, u), (sf, Value.ref x)] = _
    simp [List.lookup]
  have hx1 := hk₁ _ _ hx
  obtain ⟨pl, hmc⟩ := T.mc (callEnv (ksFn name qual params (iniBody sf val fld q0 q1 q2 q3 q4 q5 q6 q7 q8 q9) scope dV kV doc pm an (.ref cda) ct cc) hp.objs.size fI)
  refine ks_wpAt_execs_cons (ks_wpAt_Expr_any (ks_wpAt_MethodCall ?_ hmc) (by show interactive (callEnv _ _ _) = false; simp [interactive, callEnv, newEnv, T.hk]) (T.sw1 _))
  obtain ⟨oD, hD1, hD2⟩ : ∃ oD, h₁.get? D = some oD ∧ oD.data = .cls cdD := by
    unfold clsIn at hD
    split at hD
    · rename_i c dd cd' sl ho
      cases hD
      exact ⟨_, X1 _ _ ho, rfl⟩
    · cases hD
  obtain ⟨mb, hb1, hb2⟩ := Mo.blt
  have kb1 : ∀ b o, base.get? b = some o → h₁.get? b = some o := fun b o e => hk₁ b o (kb b o e)
  refine ks_wpAt_super_base T.hks T.hkc (by decide) rfl (X1 _ _ T.lk) rfl hp1 rfl (X1 _ _ c1) rfl c2 c3 T.htop ?_
  refine ks_loadName_global T.hk T.hks (loadGlobal_builtin (Mo.glob.keeps kb1) T.sup (hb1.keeps kb1) ((hb2 _ (by decide)).trans PyProof.Rows.Boot.«super») ⟨rfl, ?_⟩)
  refine wpAny_loadName_free T.hk T.hkc rfl ⟨_, X1 _ _ hcellD, rfl⟩ ?_
  rw [hp2]
  refine wpAny_loadName_local T.hk T.hka hns vself ?_
  refine ks_wpAny_isType_cls hD1 hD2 ⟨rfl, ?_⟩
  refine ks_wpAny_call_super hD1 hD2 hx1 rfl (fun c e => by cases e) (looks_mroIn X1 TC.sub) (fun h₂ e2 hk₂ => ?_)
  have X2 : K.In h₂ := X1.keeps hk₂
  have hx2 := hk₂ _ _ hx1
  have I2 : InstAt h₂ x (HandSPX.excO C t0) C none := ⟨hx2, rfl, rfl, trivial⟩
  have hmx : alongIn K "__init__" (((Value.ref C :: bmC).dropWhile (· != .ref D)).drop 1) = some (some (.builtin "ValueError.__init__")) := by
    have z := TC.sup
    unfold ks_superIn at z
    rw [hclC] at z
    exact z
  refine kxs_getMethod kxs_ValueError e2 (looks_opaque X2 T.any) (l₀ := .ref C :: bmC) (fun A Q E s k q => wpAny_bind ((looks_clsIn X2 hclC) A _ E s k (wpAny_pure q))) rfl X2 hmx (I2.type.andThen (looks_subIn X2 TC.ve)) (ks_ne X2 I2 hclC) (by decide) ?_
  have kp : ∀ b o, h₂.get? b = some o → (h₂.push (kxs_mw "ValueError.__init__" x)).get? b = some o := fun b o e => Heap.get?_push_of_some _ e
  have mw : (h₂.push (kxs_mw "ValueError.__init__" x)).get? h₂.objs.size = some (kxs_mw "ValueError.__init__" x) := Heap.get?_push_size h₂ rfl
  have ns3 := ns_but (h' := h₂.push (kxs_mw "ValueError.__init__" x)) hns fun o e => kp _ _ (hk₂ _ _ e)
  generalize hg3 : h₂.push (kxs_mw "ValueError.__init__" x) = h₃ at kp mw ns3 ⊢
  have X3 : K.In h₃ := X2.keeps kp
  have hx3 := kp _ _ hx2
  refine kxs_callWith (i := "ValueError.__init__") (x := x) (by rfl) (evalArgs_plain (args_cons (env := callEnv (ksFn name qual params (iniBody sf val fld q0 q1 q2 q3 q4 q5 q6 q7 q8 q9) scope dV kV doc pm an (.ref cda) ct cc) hp.objs.size fI) (pos := q4) (rest := []) (wpAny_Name (wpAny_loadName_local T.hk T.hkv ns3 vval (args_nil ⟨mw, ?_⟩)) T.dv)))
  refine wpAny_call (codeAny_of_tree ?_)
  show wpAny _ _ (callAny (.ref h₂.objs.size) ⟨[u], []⟩) _ _ _
  simp only [callAny]
  refine wpAny_bind (wpAny_load mw ?_)
  simp only [kxs_mw, show (Value.type "method-wrapper" == Value.type "method" || Value.type "method-wrapper" == Value.type "builtin_function_or_method" || Value.type "method-wrapper" == Value.type "method-wrapper") = true by decide, if_true]
  refine KFB.if_so (by decide) ?_
  refine wpAny_bind (check_bound_init F.excBase_ValueError.toExcCallFacts (X3 _ _ hC) hx3 rfl ?_)
  refine wpAny_bind (wpAny_pure (wpAny_pure ?_))
  refine ⟨plainId_quiet F.excBase_ValueError.init.plain _, codeAny_builtin F.excBase_ValueError.initEntry ?_⟩
  refine exc_init_tree (cls := .ref C) (t0 := t0) (dv := none) (c2 := .none) (c3 := .none) (b4 := .bool false) hx3 (by rw [sizeLine_eq]; simp) fun h₄ hk4 hx4 ht4 => ?_
  have nLx : hp.objs.size ≠ x := Nat.ne_of_gt xL
  have ns4 := ns_but (h' := h₄) ns3 fun o e => hk4 _ _ nLx e
  have X4 : K.In h₄ := fun b o e => hk4 b o (fun z => by
    have y := Mo.kin _ _ e
    rw [z, nb] at y
    cases y) (X3 b o e)
  refine ks_wpAt_execs_cons (wpAt_of_wpAny (plainObj_wpAny_Assign_Attribute (wpAny_Name (wpAny_loadName_local T.hk T.hkv ns4 vval ?_) T.dv) (T.sw2 _)))
  refine wpAny_Name (wpAny_loadName_local T.hk T.hka ns4 vself ?_) T.ds
  refine set_plain X4 (ox := { cls := .ref C, dict := none, data := .fields #[.ref h₃.objs.size, .none, .none, .none, .bool false, .none] }) (od := none) ⟨hx4, rfl, rfl, trivial⟩ TC.ox.sa ?_
  refine HandSPX.exc_osa X4 hx4 hclC (show HandSPX.refsVE (.ref C :: bmC) = true from hbm) rfl TC.no (fun h' tk' dx k dn dne hx' hn => ?_)
  have sz : hp.objs.size ≤ dx := by
    refine Nat.le_trans ?_ dn
    have q : ∃ o, h₄.get? hp.objs.size = some o := by
      obtain ⟨oL, es, ep, hL, r⟩ := ns4
      exact ⟨oL, hL⟩
    obtain ⟨o, q⟩ := q
    exact Nat.le_of_lt (Heap.lt_size q)
  show PySem.wpAt _ _ _ (execs [] _) _ _ _
  rw [execs_nil]
  exact wpAt_of_wpAny (wpAny_pure (hR h' tk' dx _ (fun b o ne e => k b o ne (hk4 b o ne (kp b o (hk₂ b o (hk₁ b o e))))) sz dne hx' hn))
end
end TQ
/-! TQ20: raise C(e). -/
namespace TQ
open PySem L2 PyProof.Rows
section
variable {X : Cx} {e : Expr} {te : TE} {x fld : Str} {C : Addr} {p pos : Pos}
/-- C(e), an own exception -/
def tMkV (C : Addr) (fld : Str) (te : TE) : L2.St → Hp → XK → Prop := fun σ H Q => te σ H fun v H1 => ∀ d, H1 d = none → Q (.ref C) (some d) (upd H1 d (.xd [(fld, v)]))
theorem pmk_ini {mgE : Str → Option Value} {fI D cc cda : Addr} {name qual sf val : Str} {params : Arguments} {scope : Scope} {dV kV doc pm ct oc : Value} {an od : Option Addr} {osl : Array (Option Value)} {q0 q1 q2 q3 q4 q5 q6 q7 q8 q9 : Pos} {k : Nat}
    (T : IniK X.prog X.K X.mg fI D cc cda name qual sf val fld params scope dV kV doc pm ct oc an od osl q0 q1 q2 q3 q4 q5 q6 q7 q8 q9) (TC : IniC X.K D C fld)
    (iC : PySem.W.findIn X.K (.ref C) "__init__" = some (some (.ref fI))) (tI : PySem.W.typeIn X.K (.ref fI) = some (.type "function"))
    (hb : Binds X.K (PySem.W.ksFn name qual params (iniBody sf val fld q0 q1 q2 q3 q4 q5 q6 q7 q8 q9) scope dV kV doc pm an (.ref cda) ct cc) [sf, val] [])
    (hr : Room (k + 1) X.A) (hg : Gl X x) (hm : X.mg x = some (.ref C)) (ha : PE X e te)
    (hdb : (x == ("__debug__" : Str)) = false) (he : starEach [e] X.env = (false, eval e X.env) :: starEach [] X.env) (hpl : (backTo pos (starEach [] X.env)).any (·.1) = false) :
    PMk X (.Call (.Name x p) [e] [] pos) (tMkV C fld te) := by
  intro pins s σ H Q I h
  obtain ⟨nm, q, N, bs, bm, sn, sub, ab, col, dd, k0, k1, k2, k3, k5, hC, hbm⟩ := TC.ox.cls
  refine wpAny_Call_Name_kw (ld_glob I hg hm ?_ hdb)
  refine PySem.W.callWith_K (h₀ := X.base) I.ok.mod.kin TC.ox.kC (args_cons (thn (ha.run pins s σ H _ I h) fun u s1 ⟨v, H1, I1, r1, q1⟩ => args_nil ⟨I1.kIn, ?_⟩) he) he hpl
  show wpAny _ _ (call (.ref C) [u]) _ _ _
  obtain ⟨hp, g, dr, tk, os⟩ := s1
  have hsz : hp.objs.size ≤ hp.objs.size + 1 := Nat.le_succ _
  have hn : H1 (hp.objs.size + 1) = none := I1.hok.fresh hsz
  have kk : ∀ b o, hp.get? b = some o → ((hp.push (PySem.W.kdv_tup [u])).push (PySem.HandSPX.excO C hp.objs.size)).get? b = some o := fun b o e => Heap.get?_push_of_some _ (Heap.get?_push_of_some _ e)
  have hget : ((hp.push (PySem.W.kdv_tup [u])).push (PySem.HandSPX.excO C hp.objs.size)).get? (hp.objs.size + 1) = some (PySem.HandSPX.excO C hp.objs.size) := by heap_get
  have I2 : Inv X pins σ (upd H1 (hp.objs.size + 1) (exo (hp.objs.size + 1) C none)) ⟨(hp.push (PySem.W.kdv_tup [u])).push (PySem.HandSPX.excO C hp.objs.size), g, dr, tk, os⟩ :=
    I1.laid (t' := tk) (a := hp.objs.size + 1) (o := exo (hp.objs.size + 1) C none) (h' := (hp.push (PySem.W.kdv_tup [u])).push (PySem.HandSPX.excO C hp.objs.size)) kk hsz (exo_ok hget)
  have nb : X.base.get? (hp.objs.size + 1) = none := by
    cases z : X.base.get? (hp.objs.size + 1) with
    | none => rfl
    | some o =>
      have y : hp.objs.size + 1 < hp.objs.size := Heap.lt_size (I1.bk _ _ z)
      omega
  refine wpAny_call (PySem.HandSPX.call_own F.excBase_ValueError (fun Y => PySem.HandSPX.refsVE_contains Y bm hbm) (I1.kIn _ _ hC) (PySem.W.looks_findIn I1.kIn iC) (fun self => PySem.W.bind_fn I1.kIn self tI) (by rw [sizeLine_eq]; simp) ?_)
  refine init_raw T TC (base := X.base) (fun b o e => kk b o (I1.bk b o e)) I.ok.mod (hr.make C [u] []).depth nb hget (hb _ [Value.ref (hp.objs.size + 1), u] I2.kIn rfl) fun h2 tk2 dx t1 k dn dne hx hns => ?_
  have sz2 : ((hp.push (PySem.W.kdv_tup [u])).push (PySem.HandSPX.excO C hp.objs.size)).objs.size = hp.objs.size + 1 + 1 := by simp [Heap.push]
  have hd1 : H1 dx = none := I1.hok.fresh (show hp.objs.size ≤ dx by omega)
  have hok1 := I2.hok
  generalize hA : hp.objs.size + 1 = a at *
  generalize hP : (hp.push (PySem.W.kdv_tup [u])).push (PySem.HandSPX.excO C hp.objs.size) = hp2 at *
  have e : upd H1 a (exo a C none) a = some (exo a C none) := upd_same
  have hnd : upd H1 a (exo a C none) dx = none := by rw [upd_ne dne]; exact hd1
  have nd : ∀ {b : Addr} {o : Obj}, hp2.get? b = some o → b ≠ dx := fun {b o} q => Nat.ne_of_lt (Nat.lt_of_lt_of_le (Heap.lt_size q) dn)
  have na : ∀ {b : Addr}, upd H1 a (exo a C none) b = none → b ≠ a := fun {b} n z => by
    rw [z, e] at n
    cases n
  have Un1 : Un (frs X.stack) [] (upd H1 a (exo a C none)) (upd (upd (upd H1 a (exo a C none)) dx (exd dx [(fld, v)])) a (exo a C (some dx))) hp2 h2 := {
    keep := fun b o q n _ _ => k b o (na n) q
    slot := fun b o q n _ _ => ⟨o.slots, k b o (na n) q⟩
    free := fun b o q n _ => by rw [upd_ne (na n), upd_ne (nd q)]; exact n
    there := fun b o q _ => by
      by_cases hb : b = a
      · exact ⟨_, by rw [hb]; exact hx⟩
      · exact ⟨o, k b o hb q⟩
    tups := fun b xs q => by rw [upd_ne (at_ne e q exo_tup), upd_ne (ne_of_none q hnd)]; exact q
    frzs := fun b o v q => by rw [upd_ne (at_ne e q exo_frz), upd_ne (ne_of_none q hnd)]; exact q
    tbls := fun b ps q => ⟨#[], by rw [upd_ne (at_ne e q exo_tbl), upd_ne (ne_of_none q hnd), q]; simp⟩ }
  have hok2 : HOk X.prog X.w (upd (upd (upd H1 a (exo a C none)) dx (exd dx [(fld, v)])) a (exo a C (some dx))) h2 := fun b o q => by
    by_cases hb : b = a
    · subst hb
      rw [upd_same] at q
      cases q
      exact exo_ok hx
    · rw [upd_ne hb] at q
      by_cases hd : b = dx
      · subst hd
        rw [upd_same] at q
        cases q
        exact exd_ok hns (relO_put (fs := []) r1 fun g => True.intro)
      · rw [upd_ne hd] at q
        exact (hok1 b o q).stay (fun c v hc z => k c v (by
            rcases hc with hc | hc
            · rw [hc]
              exact hb
            · exact at_ne e hc exo_own) z)
          (fun c hc => by rw [upd_ne (at_ne e hc exo_own), upd_ne (ne_of_none hc hnd)]; exact hc) (fun c xs hc => by rw [upd_ne (at_ne e hc exo_tup), upd_ne (ne_of_none hc hnd)]; exact hc)
  have eq : upd (del (upd (upd (upd H1 a (exo a C none)) dx (exd dx [(fld, v)])) a (exo a C (some dx))) a) dx (.xd [(fld, v)]) = upd H1 dx (.xd [(fld, v)]) := by
    funext b
    by_cases hb : b = dx
    · subst hb; rw [upd_same, upd_same]
    · rw [upd_ne hb, upd_ne hb]
      by_cases ha : b = a
      · subst ha; rw [del_same, hn]
      · rw [del_ne ha, upd_ne ha, upd_ne hb, upd_ne ha]
  exact ⟨rfl, mk_end (d2 := dr) (t2 := tk2) (raises_own TC.ox.exC TC.ox.tyC) I1 hsz kk Un1 hok2 rfl I1.bare upd_same (by rw [upd_ne dne, upd_same]) hd1 (by rw [eq]; exact q1 dx hd1)⟩
end
end TQ
/-! TQ21: the statement raise; the value of an exception; isinstance of an exception. -/
namespace TQ
open PySem L2 PyProof.Rows
/-- instances of the class C may be made and raised in X -/
def MkBy (X : Cx) (x : Str) (C : Addr) : Prop := ∀ (e : Expr) (te : TE) (p pos : Pos), Gl X x → PE X e te → starEach [e] X.env = (false, eval e X.env) :: starEach [] X.env → PMk X (.Call (.Name x p) [e] [] pos) (tMkV C sValue te)
section
variable {X : Cx} {G : Gx} {W : XK} {P : Pr} {x : Str} {C : Addr} {e : Expr} {ee : Ex} {p pos pos' : Pos}
theorem js_rse (hc : X.calm = true) (tk : Takes X (fun cls d _ H => W cls d H)) (hC : MkBy X x C) (hG : G.m x = some (.ref C)) (hg : Gl X x) (he : JE X G W P e ee) (hs : starEach [e] X.env = (false, eval e X.env) :: starEach [] X.env) :
    JS X G W P (.Raise (some (.Call (.Name x p) [e] [] pos)) none pos') (.rse x ee) :=
  PS.imp (ps_raise hc tk (hC e _ p pos hg he hs)) fun D σ H h => by
    have h : Cont G W [] [] (fun τ => (ev P τ ee).bind fun v => rseM x v) (EndC G D) σ H := by
      have h' : Cont G W [] [] (exS P (.rse x ee)) (EndC G D) σ H := h
      simpa only [exS] using h'
    refine tE.mono (fun w H1 q => ?_) (Cont.bindV (f := fun τ => ev P τ ee) (g := fun τ v => rseM x v) h)
    obtain ⟨y, m, S, τ, s, sl, r, q⟩ := q
    obtain ⟨_, e1, ry⟩ := r.inv1
    cases e1
    intro d hd
    have ex : Ext m H1 m (upd H1 d (.xd [(sValue, w)])) := Ext.new hd
    exact q m _ (.ref C) (some d) (s.new hd) ex ⟨C, d, w, rfl, hG, rfl, upd_same, ry.mono ex.ky ex.sub⟩
/-! ### an exception that a slot holds -/
/-- at a: an exception of the class C with the dict dd -/
def XcO (C dd a : Addr) : HO := .ext fun h => ∃ (oe : Obj) (vs : Array Value), h.get? a = some oe ∧ Zc (.ref C) (some dd) oe ∧ oe.data = .fields vs
theorem xcO_ok {P : Program} {w : World} {H : Hp} {h : Heap} {a C dd : Addr} {oe : Obj} {vs : Array Value} (e : h.get? a = some oe) (z : Zc (.ref C) (some dd) oe) (d : oe.data = .fields vs) : ObjOk P w H h a (XcO C dd a) :=
  ⟨⟨oe, vs, e, z, d⟩, ⟨oe, e⟩, fun h1 h2 q k => by
    obtain ⟨o, us, e1, z1, d1⟩ := q
    exact ⟨o, us, k _ e1, z1, d1⟩⟩
theorem xcO_at {P : Program} {w : World} {H : Hp} {h : Heap} {a C dd : Addr} (hok : HOk P w H h) (e : H a = some (XcO C dd a)) : ∃ (oe : Obj) (vs : Array Value), h.get? a = some oe ∧ Zc (.ref C) (some dd) oe ∧ oe.data = .fields vs := by
  have x : ObjOk P w H h a (.ext fun h => ∃ (oe : Obj) (vs : Array Value), h.get? a = some oe ∧ Zc (.ref C) (some dd) oe ∧ oe.data = .fields vs) := hok a _ e
  exact x.1
/-- what G says of exceptions -/
def ExcG (m : Str → Option Value) (c : Str) (w : V) (a : Addr) (H : Hp) : Prop := ∃ C dd, m c = some (.ref C) ∧ H a = some (XcO C dd a) ∧ H dd = some (.xd [(sValue, w)])
theorem excG_ky {m : Str → Option Value} {c : Str} {w : V} {a : Addr} {H H' : Hp} (k : Ky H H') (h : ExcG m c w a H) : ExcG m c w a H' := by
  obtain ⟨C, dd, h1, h2, h3⟩ := h
  exact ⟨C, dd, h1, k.kn h2 True.intro, k.kn h3 True.intro⟩
/-- e.value -/
structure FldOk (K : PySem.W.Frag) (G : Gx) : Prop where
  exc : ∀ c w a H, G.exc c w a H → ExcG G.m c w a H
  cls : ∀ c C w a H, G.exc c w a H → G.m c = some (.ref C) → XfC K C ∧ PySem.W.findIn K (.ref C) sValue = some none
theorem j_fld (hK : X.K = G.K) (hF : FldOk X.K G) (he : JE X G W P e ee) (hb : attributeBase e sValue X.env (eval e X.env) = eval e X.env) : JE X G W P (.Attribute e sValue pos) (.fld ee sValue) := by
  refine ⟨fun pins s σ H Q I h => ?_⟩
  have h : tE G W (fun τ => (ev P τ ee).bind fun v => fldE v sValue) σ H Q := by simpa only [ev, evv, dflt] using h
  have h2 := tE.mono (Q' := fun v H1 => ∃ a C dd w, v = .ref a ∧ H1 a = some (XcO C dd a) ∧ H1 dd = some (.xd [(sValue, w)]) ∧ XfC X.K C ∧ PySem.W.findIn X.K (.ref C) sValue = some none ∧ Q w H1) (fun v H1 q => ?_) (Cont.bindV (f := fun τ => ev P τ ee) (g := fun τ v => fldE v sValue) h)
  · refine attr_of hb (thn (he.run pins s σ H _ I h2) fun u s1 hh => ?_)
    obtain ⟨x, H1, I1, rx, a, C, dd, v, ex, e1, e2, T, hno, q⟩ := hh
    subst ex
    obtain rfl : u = Value.ref a := rx
    obtain ⟨oe, vs, ha, hz, hd⟩ := xcO_at I1.hok e1
    have hx : ObjOk X.prog X.w H1 s1.heap dd (.xd [(sValue, v)]) := I1.hok dd _ e2
    obtain ⟨mA, hns, hr⟩ := hx
    obtain ⟨od, ho, hl⟩ := lookIn_ns hns
    obtain ⟨u, hu, ru⟩ := RelO.some_of (v := v) (o := mA sValue) (by
      have z := hr sValue
      rwa [lookup_put, if_pos rfl] at z)
    have J : PySem.W.InstAt s1.heap a oe C (some od) := ⟨ha, hz.1, by unfold PySem.W.notCls; rw [hd] <;> rfl, by rw [hz.2]; exact ho⟩
    exact HandSPX.exc_get I1.kIn J T.ga T.gg T.exC (PySem.W.findObj_own T.hdC hno rfl (by rw [hl, hu])) (handed_of ru) ⟨v, H1, I1.tok _, ru, q⟩
  · obtain ⟨y, q⟩ := q
    refine Cont.fin1 q fun m S s r p => ?_
    unfold fldE at p
    split at p
    · rename_i c d
      rw [if_pos (show sValue = Str.ofString "value" from rfl)] at p
      cases r with
      | exc h1 h2 =>
        obtain ⟨C, dd, g1, g2, g3⟩ := hF.exc _ _ _ _ h1
        obtain ⟨t1, t2⟩ := hF.cls _ _ _ _ _ h1 g1
        exact ⟨_, C, dd, _, rfl, g2, g3, t1, t2, ok_val s p h2⟩
    · exact p.elim
end
end TQ
/-! TQ22: lambdas: the function object, its call. -/
namespace TQ
open PySem L2 PyProof.Rows LamX NdefX
/-- the words of a lambda: its names are the parameters, then the captured ones -/
structure LI where
  qual : Str
  params : Arguments
  body : Expr
  scope : Scope
  ps : List Str
  fr : List Str
def LamO (L : LI) (cl : List (Str × Addr)) (c' a : Addr) : HO := .ext fun h => ∃ pm ctv : Value, h.get? a = some (PySem.W.kla_obj "<lambda>" L.qual L.params L.body L.scope cl pm c' ctv)
theorem lamO_ok {P : Program} {w : World} {H : Hp} {h : Heap} {L : LI} {cl : List (Str × Addr)} {c' a : Addr} {pm ctv : Value} (e : h.get? a = some (PySem.W.kla_obj "<lambda>" L.qual L.params L.body L.scope cl pm c' ctv)) : ObjOk P w H h a (LamO L cl c' a) :=
  ⟨⟨pm, ctv, e⟩, ⟨_, e⟩, fun h1 h2 q k => by
    obtain ⟨pm, ctv, e1⟩ := q
    exact ⟨pm, ctv, k _ e1⟩⟩
theorem lamO_at {P : Program} {w : World} {H : Hp} {h : Heap} {L : LI} {cl : List (Str × Addr)} {c' a : Addr} (hok : HOk P w H h) (e : H a = some (LamO L cl c' a)) : ∃ pm ctv : Value, h.get? a = some (PySem.W.kla_obj "<lambda>" L.qual L.params L.body L.scope cl pm c' ctv) := by
  have x : ObjOk P w H h a (.ext fun h => ∃ pm ctv : Value, h.get? a = some (PySem.W.kla_obj "<lambda>" L.qual L.params L.body L.scope cl pm c' ctv)) := hok a _ e
  exact x.1
/-- what G says of a closure: the lambda k, its cells at cs -/
def CloG (lamT : Nat → LI → Prop) (k : Nat) (cs : List Addr) (a : Addr) (H : Hp) : Prop := ∃ L c', lamT k L ∧ cs.length = L.fr.length ∧ cs.Nodup ∧ H a = some (LamO L (L.fr.zip cs) c' a) ∧ H c' = some (CodeO c' L.qual)
theorem cloG_ky {lamT : Nat → LI → Prop} {k : Nat} {cs : List Addr} {a : Addr} {H H' : Hp} (y : Ky H H') (h : CloG lamT k cs a H) : CloG lamT k cs a H' := by
  obtain ⟨L, c', h1, h2, h3, h4, h5⟩ := h
  exact ⟨L, c', h1, h2, h3, y.kn h4 True.intro, y.kn h5 True.intro⟩
abbrev LI.nf (L : LI) (cs : List Addr) (c' : Addr) : NF := ⟨"<lambda>", L.qual, L.params, [], L.scope, L.fr.zip cs, c'⟩
section
variable {P : Program} {w : World} {K : PySem.W.Frag} {mg : Str → Option Value} {base : Heap} {L : LI} {cs : List Addr} {c' f : Addr} {A : Around} {outer : List Env} {s : Shared} {H : Hp} {us : List Value} {vs : List V} {ws : List (Option V)} {Q : VK} {E : XK} {k : Nat}
/-- the lambda called, its cells let go -/
theorem lam_code (S : NScope (L.ps ++ L.fr) L.ps L.fr L.scope) (hb : ∀ (pm ctv : Value) (us : List Value), us.length = L.ps.length → bindArgs (PySem.W.kla_fn "<lambda>" L.qual L.params L.body L.scope (L.fr.zip cs) pm (.ref c') ctv) ⟨us, []⟩ = pure (L.ps.zip us))
    (hr : Room (k + 1) A) (e0 : Env0 P w K mg base A outer s H) (hf : H f = some (LamO L (L.fr.zip cs) c' f)) (hc : H c' = some (CodeO c' L.qual)) (C : CellsAt (L.fr.zip cs) L.fr ws s.heap H) (r : Vals vs us) (hl : vs.length = L.ps.length)
    (hbody : Room k (A.deeper (envF (L.nf cs c') f s.heap.objs.size)) → ∃ t, PE (ncx (L2.CX P w) P w K mg base (L.ps ++ L.fr) (L.nf cs c') f A outer s H E) L.body t ∧ t (startF (L.ps ++ L.fr) vs ws) H Q) :
    codeAny (model P w) A (.call (.ref f) ⟨us, []⟩) (CR (L2.CX P w) outer P w H s Q E) s := by
  have lim : s.heap.NoLimit := e0.mod.nolimit.keeps fun b o e => (e0.bs b o e).1
  obtain ⟨pm, ctv, ho⟩ := lamO_at e0.hok hf
  refine PySem.W.kla_callFunE hr.depth ho rfl S.co S.gen rfl (codeO_at e0.hok hc) ?_
  rw [hb pm ctv us (by rw [← r.length]; exact hl)]
  refine wpAny_pure (wpAny_newFunctionEnv S.nocell (fun ⟨n, _⟩ hy => S.par n (List.of_mem_zip hy).1) (fun h₁ hns hsb => ⟨lim.fresh _ hsb, ?_⟩) S.kind)
  show codeAny _ _ (.expr L.body (envF (L.nf cs c') f s.heap.objs.size)) _ _
  have kp : ∀ b o, s.heap.get? b = some o → h₁.get? b = some o := fun b o e => hsb.extBut b o (Nat.ne_of_lt (Heap.lt_size e)) (Heap.get?_push_of_some _ e)
  obtain ⟨t, ht, hq⟩ := hbody (hr.deeper _)
  have I : Inv (ncx (L2.CX P w) P w K mg base (L.ps ++ L.fr) (L.nf cs c') f A outer s H E) [] (startF (L.ps ++ L.fr) vs ws) H { s with heap := h₁, toks := s.toks + (L.ps.zip us).length } := inv_startN (F := L.nf cs c') S hr.hd e0 hl r C hns kp
  refine PySem.W.kla_codeExpr (wpAny_mono (ht.run [] _ (startF (L.ps ++ L.fr) vs ws) H Q I hq) (fun v s' hq => ?_) fun e s' hq => hq)
  obtain ⟨w', H', J', rv, q⟩ := hq
  exact ⟨w', H', J'.os, J'.bare, J'.base, J'.hok, rv, q⟩
end
/-! ### a closure's cells in the store -/
section
variable {G : Gx} {W : XK} {H : Hp} {m : List Nat} {S : Sto}
/-- the cells at rs, as they are held -/
theorem cells_get (s : SR G H m S) (ho : G.own = []) : ∀ {rs : List Nat} {cs : List Addr} {vs : List Val}, rs.map (fun r => m[r]?) = cs.map (fun c => some (cA c)) → mapO (cellV S) rs = some vs →
    ∃ (F : List (Addr × Obj)) (us : List Value) (ws : List V), F.map (·.1) = cs ∧ (∀ p ∈ F, H p.1 = some (.frz p.2 celU)) ∧ F.map (fun p => p.2.data) = us.map (fun u => .cell (some u)) ∧ Vals ws us ∧ RVL G H m vs ws
  | [], [], vs, _, h => by simp [mapO] at h; subst h; exact ⟨[], [], [], rfl, by simp, rfl, .nil, .nil⟩
  | [], _ :: _, _, h, _ => by simp at h
  | _ :: _, [], _, h, _ => by simp at h
  | r :: rs, c :: cs, vs, h, hv => by
    simp only [List.map_cons, List.cons.injEq] at h
    obtain ⟨x, xs, rfl, h1, h2⟩ := mapO_cons hv
    obtain ⟨F, us, ws, f1, f2, f3, f4, f5⟩ := cells_get s ho h.2 h2
    have key : ∃ o u w, H c = some (.frz o celU) ∧ o.data = .cell (some u) ∧ RelV w u ∧ RV G H m x w := by
      unfold cellV at h1
      split at h1
      · cases h1
      · rename_i y nd e
        cases h1
        obtain ⟨b, e1, q⟩ := s.at_ r _ e
        rw [h.1] at e1
        have e1 := Option.some.inj e1
        generalize hxs : [Val.cmark, x] = zs at q
        cases q with
        | lst _ r => subst hxs; cases r with | cons z _ => cases z
        | cel hc r =>
          cases hxs
          rcases r with rfl | ⟨u, w, a, b, c⟩
          · exact absurd e (by simpa using nd)
          · rw [cA_inj e1]; exact ⟨_, u, w, hc, a, b, c⟩
        | own hw => rw [ho] at hw; cases hw
        | gone => exact (cA_gA e1).elim
      · cases h1
    obtain ⟨o, u, w, k1, k2, k3, k4⟩ := key
    refine ⟨(c, o) :: F, u :: us, w :: ws, by simp [f1], fun p hp => ?_, by simp [f3, k2], .cons k3 f4, .cons k4 f5⟩
    rcases List.mem_cons.mp hp with rfl | hp
    · exact k1
    · exact f2 p hp
end
end TQ
/-! TQ23: a closure called. -/
namespace TQ
open PySem L2 PyProof.Rows LamX NdefX
theorem lk_mem {F : List (Addr × Obj)} {c : Addr} {o : Obj} (h : F.lookup c = some o) : (c, o) ∈ F := PySem.W.mem_of_lookupK h
theorem lk_has : ∀ {F : List (Addr × Obj)} {c : Addr}, c ∈ F.map (·.1) → ∃ o, F.lookup c = some o
  | (d, o) :: F, c, h => by
    by_cases e : c = d
    · subst e; exact ⟨o, by simp [List.lookup]⟩
    · simp only [List.map_cons, List.mem_cons] at h
      obtain ⟨o', q⟩ := lk_has (h.resolve_left e)
      refine ⟨o', ?_⟩
      have : (c == d) = false := by simpa using e
      simp only [List.lookup, this]; exact q
theorem zip_at {m : List Nat} : ∀ {rs : List Nat} {cs : List Addr}, rs.map (fun r => m[r]?) = cs.map (fun c => some (cA c)) → (∀ p ∈ rs.zip cs, m[p.1]? = some (cA p.2)) ∧ rs.length = cs.length
  | [], [], _ => ⟨(fun p hp => nomatch hp), rfl⟩
  | [], _ :: _, h => by simp at h
  | _ :: _, [], h => by simp at h
  | r :: rs, c :: cs, h => by
    simp only [List.map_cons, List.cons.injEq] at h
    obtain ⟨h1, h2⟩ := zip_at h.2
    refine ⟨fun p hp => ?_, by simp [h2]⟩
    rw [List.zip_cons_cons] at hp
    rcases List.mem_cons.mp hp with rfl | hp
    · exact h.1
    · exact h1 p hp
theorem zip_ix {α β : Type} {as : List α} {bs : List β} {a : α} {b : β} (h : (a, b) ∈ as.zip bs) : ∃ j : Nat, as[j]? = some a ∧ bs[j]? = some b := by
  obtain ⟨j, hj⟩ := List.mem_iff_getElem?.mp h
  rw [List.getElem?_zip_eq_some] at hj
  exact ⟨j, hj⟩
theorem ix_zip {α β : Type} {as : List α} {bs : List β} {a : α} {b : β} {j : Nat} (h1 : as[j]? = some a) (h2 : bs[j]? = some b) : (a, b) ∈ as.zip bs :=
  List.mem_of_getElem? (i := j) (by rw [List.getElem?_zip_eq_some]; exact ⟨h1, h2⟩)
theorem lamOwn_ix : ∀ {rs : List Nat} {p i n : Nat}, (i, n) ∈ lamOwn p rs → ∃ j, rs[j]? = some n ∧ i = p + j
  | r :: rs, p, i, n, h => by
    unfold lamOwn at h
    rcases List.mem_cons.mp h with e | h
    · cases e; exact ⟨0, rfl, rfl⟩
    · obtain ⟨j, h1, h2⟩ := lamOwn_ix h
      exact ⟨j + 1, by simpa using h1, by omega⟩
theorem ix_lamOwn : ∀ {rs : List Nat} {p j n : Nat}, rs[j]? = some n → (p + j, n) ∈ lamOwn p rs
  | r :: rs, p, 0, n, h => by simp at h; subst h; unfold lamOwn; exact List.mem_cons_self
  | r :: rs, p, j + 1, n, h => by
    unfold lamOwn
    refine List.mem_cons_of_mem _ ?_
    have := ix_lamOwn (p := p + 1) (show rs[j]? = some n by simpa using h)
    rw [show p + (j + 1) = p + 1 + j by omega]
    exact this
section
variable {G : Gx} {W : XK} {H H' : Hp} {m m' : List Nat} {S S' : Sto} {F : List (Addr × Obj)} {rs : List Nat} {cs : List Addr} {us cvs : List Val} {uv : List Value} {ws : List V}
/-- a closure's cells: their places, addresses, objects, what they hold -/
structure Clos (G : Gx) (H : Hp) (m : List Nat) (F : List (Addr × Obj)) (rs : List Nat) (cs : List Addr) (cvs : List Val) (uv : List Value) (ws : List V) : Prop where
  at_ : rs.map (fun r => m[r]?) = cs.map (fun c => some (cA c))
  nd : cs.Nodup
  ks : F.map (·.1) = cs
  held : ∀ p ∈ F, H p.1 = some (.frz p.2 celU)
  dat : F.map (fun p => p.2.data) = uv.map (fun u => .cell (some u))
  vals : Vals ws uv
  rel : RVL G H m cvs ws
theorem Clos.hh (c : Clos G H m F rs cs cvs uv ws) : Held F H := fun b o e => c.held _ (lk_mem e)
theorem Clos.key (c : Clos G H m F rs cs cvs uv ws) {b : Addr} {o : Obj} (e : F.lookup b = some o) : ∃ n, (n, b) ∈ rs.zip cs := by
  have hb : b ∈ cs := by rw [← c.ks]; exact List.mem_map.mpr ⟨_, lk_mem e, rfl⟩
  obtain ⟨j, hj⟩ := List.mem_iff_getElem?.mp hb
  have hl := (zip_at c.at_).2
  have lj := (List.getElem?_eq_some_iff.mp hj).1
  exact ⟨rs[j]'(by omega), ix_zip (List.getElem?_eq_getElem (by omega)) hj⟩
theorem SR.enterL (s : SR G H m S) (ho : G.own = []) (c : Clos G H m F rs cs cvs uv ws) : SR (G.ow (rs.zip cs)) (minus H F) m S := by
  have hh := c.hh
  have k := ky_minus hh
  have p : ∃ e, m = m ++ e := ⟨[], by simp⟩
  have hz := (zip_at c.at_).1
  refine ⟨s.len, s.nd, fun n xs e => ?_, G.tab_ext (fun b u e n => by rw [minus_out (held_out hh e (n.imp id fun z => .inr z))]; exact e) s.tab, hz, fun i j d hi hj _ _ => s.ndc i j d hi hj (by rw [ho]; exact fun _ z => nomatch z) (by rw [ho]; exact fun _ z => nomatch z)⟩
  obtain ⟨b, e1, q⟩ := s.at_ n xs e
  refine ⟨b, e1, ?_⟩
  cases q with
  | lst h r => exact .lst (by rw [minus_out (held_out hh h (.inr (.inl ⟨_, rfl⟩)))]; exact h) (r.mono k p).ow
  | @cel x d ob h r =>
    rcases lk_cases F d with ⟨o', z⟩ | z
    · obtain ⟨r0, h0⟩ := c.key z
      have e2 := hz _ h0
      have := s.ndc n r0 d e1 e2 (by rw [ho]; exact fun _ z => nomatch z) (by rw [ho]; exact fun _ z => nomatch z)
      subst this
      exact .own h0
    · exact .cel (by rw [minus_out z]; exact h) (r.imp id fun ⟨u, w, a, b, c⟩ => ⟨u, w, a, b, (c.mono k p).ow⟩)
  | own h => rw [ho] at h; cases h
  | gone => exact .gone
theorem Clos.lnk (c : Clos G H m F rs cs cvs uv ws) (s : SR G H m S) (ho : G.own = []) (no : ∀ b o, F.lookup b = some o → H' b = none) (rv : RVL (G.ow (rs.zip cs)) H' m' cvs ws) : Lnk (G.ow (rs.zip cs)) (lamOwn us.length rs) F H' m' ((us ++ cvs).map some) := by
  have hz := zip_at c.at_
  refine ⟨no, fun n d h => ?_, fun d o h => c.key h, fun n d h => ?_, fun n n' d h h' => ?_, fun i n h => ?_⟩
  · obtain ⟨j, _, h2⟩ := zip_ix h
    exact lk_has (by rw [c.ks]; exact List.mem_of_getElem? h2)
  · obtain ⟨j, h1, _⟩ := zip_ix h
    exact ⟨_, ix_lamOwn h1⟩
  · exact s.ndc n n' d (hz.1 _ h) (hz.1 _ h') (by rw [ho]; exact fun _ z => nomatch z) (by rw [ho]; exact fun _ z => nomatch z)
  · obtain ⟨j, h1, rfl⟩ := lamOwn_ix h
    have lj := (List.getElem?_eq_some_iff.mp h1).1
    have hl := hz.2
    have hF : F.length = cs.length := by rw [← c.ks, List.length_map]
    have hU : uv.length = F.length := by have := congrArg List.length c.dat; simpa using this.symm
    have hW : ws.length = uv.length := c.vals.length
    have fj : j < F.length := by omega
    have k1 : cs[j]? = some F[j].1 := by rw [← c.ks, List.getElem?_map, List.getElem?_eq_getElem fj]; rfl
    have k2 : F[j].2.data = .cell (some (uv[j]'(by omega))) := by
      have q := congrArg (fun l => l[j]?) c.dat
      simp only [List.getElem?_map, List.getElem?_eq_getElem fj, List.getElem?_eq_getElem (show j < uv.length by omega), Option.map_some, Option.some.injEq] at q
      exact q
    have nF : (F.map (·.1)).Nodup := by rw [c.ks]; exact c.nd
    have k3 : F.lookup F[j].1 = some F[j].2 := by
      obtain ⟨o, ho'⟩ := lk_has (F := F) (c := F[j].1) (List.mem_map.mpr ⟨_, List.getElem_mem fj, rfl⟩)
      obtain ⟨i', hi'⟩ := List.mem_iff_getElem?.mp (lk_mem ho')
      obtain ⟨li, ei⟩ := List.getElem?_eq_some_iff.mp hi'
      have : i' = j := by
        have e1 : (F.map (·.1))[i']? = some F[j].1 := by rw [List.getElem?_map, hi']; rfl
        have e2 : (F.map (·.1))[j]? = some F[j].1 := by rw [List.getElem?_map, List.getElem?_eq_getElem fj]; rfl
        obtain ⟨a1, b1⟩ := List.getElem?_eq_some_iff.mp e1
        obtain ⟨a2, b2⟩ := List.getElem?_eq_some_iff.mp e2
        exact (List.getElem_inj nF).mp (b1.trans b2.symm)
      subst this
      have h2 := List.mem_of_getElem? hi'
      have e3 : F[i'] = (F[i'].1, o) := ei
      rw [ho']
      exact congrArg some (congrArg Prod.snd e3).symm
    refine ⟨F[j].1, F[j].2, ix_zip h1 k1, k3, fun v hv => ?_⟩
    have hv : cvs[j]? = some v := by
      rw [List.getElem?_map, List.getElem?_append_right (by omega), show us.length + j - us.length = j by omega] at hv
      cases q : cvs[j]? with
      | none => rw [q] at hv; cases hv
      | some x => rw [q] at hv; simp at hv; rw [hv]
    obtain ⟨w, hw, rw'⟩ := rv.get hv
    obtain ⟨u, hu, ru⟩ := c.vals.get hw
    have : u = uv[j]'(by omega) := by
      rw [List.getElem?_eq_getElem (by omega)] at hu; exact (Option.some.inj hu).symm
    subst this
    exact ⟨_, w, k2, ru, rw'⟩
end
end TQ
/-! TQ24: what a closure's call promises. -/
namespace TQ
open PySem L2 PyProof.Rows LamX NdefX
section
variable {G : Gx} {W : XK} {H H' : Hp} {m m' : List Nat} {S S' : Sto} {F : List (Addr × Obj)} {rs : List Nat} {cs : List Addr} {us cvs : List Val} {uv : List Value} {ws : List V}
theorem ext_plus {G1 : Gx} (hh : Held F H) (no : ∀ b o, F.lookup b = some o → H' b = none) (s1 : SR G1 H' m' S') (hown : ∀ p ∈ G1.own, p.1 < m.length) (e1 : Ext m (minus H F) m' H') : Ext m H m' (plus H' F) := by
  refine ⟨?_, fun a u h n => ?_, fun a xs h => ?_⟩
  · obtain ⟨k, rfl, hk⟩ := e1.pre
    refine ⟨k, rfl, fun a ha => ?_⟩
    have z := hk a ha
    rcases lk_cases F a with ⟨o, e⟩ | e
    · exfalso
      have hn := no a o e
      rcases ha with ha | ha
      · obtain ⟨_, q⟩ := s1.mem (List.mem_append_right _ ha)
        rw [hn] at q; cases q
      · obtain ⟨i, hi⟩ := List.mem_iff_getElem?.mp ha
        have hm : (m ++ k)[m.length + i]? = some (cA a) := by
          rw [List.getElem?_append_right (by omega), show m.length + i - m.length = i by omega]; exact hi
        have hl : m.length + i < S'.length := by
          have := (List.getElem?_eq_some_iff.mp hm).1
          have := s1.len
          omega
        obtain ⟨b, e2, q⟩ := s1.at_ (m.length + i) S'[m.length + i] (by simp [hl])
        rw [hm] at e2
        have e2 := Option.some.inj e2
        generalize S'[m.length + i] = xs at q
        generalize hj : m.length + i = j at q
        cases q with
        | lst _ _ => exact lA_cA e2.symm
        | cel h _ => rw [← cA_inj e2, hn] at h; cases h
        | own h => have := hown _ h; simp only at this; omega
        | gone => exact cA_gA e2
    · rw [minus_out e] at z; exact z
  · rcases lk_cases F a with ⟨o, e⟩ | e
    · rw [hh a o e] at h; cases h
      exact .inl (plus_in e)
    · rcases e1.keep a u (by rw [minus_out e]; exact h) n with y | ⟨ps, qs, e2, y⟩
      · exact .inl (by rw [plus_out e]; exact y)
      · exact .inr ⟨ps, qs, e2, by rw [plus_out e]; exact y⟩
  · rcases lk_cases F a with ⟨o, e⟩ | e
    · rw [hh a o e] at h; cases h
    · obtain ⟨ys, y⟩ := e1.lst a xs (by rw [minus_out e]; exact h)
      exact ⟨ys, by rw [plus_out e]; exact y⟩
/-- the lambda's body, its cells let go, as a step of the caller's -/
theorem post_lam {Q : VK} {r : R Val} (c : Clos G H m F rs cs cvs uv ws) (s : SR G H m S) (ho : G.own = []) (h : Post G W m H (endLm (lamOwn us.length rs) ((us ++ cvs).map some) r) (CQ G Q)) :
    Post (G.ow (rs.zip cs)) (fun cls d H' => (∀ b o, F.lookup b = some o → H' b = none) → W cls d (plus H' F)) m (minus H F) r (CQ (G.ow (rs.zip cs)) fun v H' => (∀ b o, F.lookup b = some o → H' b = none) → Q v (plus H' F)) := by
  have hz := zip_at c.at_
  have hown : ∀ p ∈ (G.ow (rs.zip cs)).own, p.1 < m.length := fun p hp => (List.getElem?_eq_some_iff.mp (hz.1 p hp)).1
  have self : ∀ l : List Nat, ∃ e, l = l ++ e := fun l => ⟨[], by simp⟩
  have tr : ∀ {m' : List Nat} {H' : Hp} {S' : Sto}, SR (G.ow (rs.zip cs)) H' m' S' → Ext m (minus H F) m' H' → (∀ b o, F.lookup b = some o → H' b = none) → SR G (plus H' F) m' (sync (lamOwn us.length rs) ((us ++ cvs).map some) S') := fun {m' H' S'} s1 e1 no => by
    have rvl : RVL (G.ow (rs.zip cs)) H' m' cvs ws := ((c.rel.mono (ky_minus c.hh) (self m)).ow).mono e1.ky e1.sub
    have q := s1.track (c.lnk (us := us) s ho no rvl)
    have q : SR (G.ow []) (plus H' F) m' (sync (lamOwn us.length rs) ((us ++ cvs).map some) S') := q
    rw [ow_nil ho] at q
    exact q
  cases r with
  | bad => exact h
  | ok v S' => exact fun m' H' s1 e1 v' rv no => h m' _ (tr s1 e1 no) (ext_plus c.hh no s1 hown e1) v' (rv.mono (ky_plus no) (self m')).wo
  | exc cc d S' =>
    intro m' H' cls dd s1 e1 x no
    obtain ⟨C', a, w, h1, h2, h3, h4, h5⟩ := x
    refine h m' _ cls dd (tr s1 e1 no) (ext_plus c.hh no s1 hown e1) ⟨C', a, w, h1, h2, h3, ?_, (h5.mono (ky_plus no) (self m')).wo⟩
    rw [plus_out]
    · exact h4
    · rcases lk_cases F a with ⟨o, z⟩ | z
      · rw [no a o z] at h4; cases h4
      · exact z
/-- the cells, for the frame's entry -/
theorem Clos.cells {P : Program} {w : World} {h : Heap} {fr : List Str} (c : Clos G H m F rs cs cvs uv ws) (hok : HOk P w H h) (hl : cs.length = fr.length) (nf : fr.Nodup) : CellsAt (fr.zip cs) fr (ws.map some) h (minus H F) := by
  have hF : F.length = cs.length := by rw [← c.ks, List.length_map]
  have hU : uv.length = F.length := by have := congrArg List.length c.dat; simpa using this.symm
  have hW : ws.length = uv.length := c.vals.length
  have at_ : ∀ j (hj : j < F.length), cs[j]? = some F[j].1 ∧ h.get? F[j].1 = some F[j].2 ∧ F[j].2.data = .cell (some (uv[j]'(by omega))) := fun j fj => by
    refine ⟨by rw [← c.ks, List.getElem?_map, List.getElem?_eq_getElem fj]; rfl, frz_at hok (c.held _ (List.getElem_mem fj)), ?_⟩
    have q := congrArg (fun l => l[j]?) c.dat
    simp only [List.getElem?_map, List.getElem?_eq_getElem fj, List.getElem?_eq_getElem (show j < uv.length by omega), Option.map_some, Option.some.injEq] at q
    exact q
  have ix : ∀ {y : Str} {d : Addr}, (fr.zip cs).lookup y = some d → ∃ j, ∃ hj : j < F.length, fr[j]? = some y ∧ d = F[j].1 := fun {y d} e => by
    obtain ⟨j, h1, h2⟩ := zip_ix (PySem.mem_of_lookup e)
    have fj : j < F.length := by have := (List.getElem?_eq_some_iff.mp h2).1; omega
    rw [(at_ j fj).1] at h2
    exact ⟨j, fj, h1, (Option.some.inj h2).symm⟩
  have nc : ∀ j (hj : j < F.length), minus H F F[j].1 = none := fun j fj => by
    obtain ⟨o, ho⟩ := lk_has (F := F) (c := F[j].1) (List.mem_map.mpr ⟨_, List.getElem_mem fj, rfl⟩)
    exact minus_in ho
  refine ⟨by rw [List.length_map]; omega, fun y d e => ?_, fun x y d e1 e2 => ?_, fun i y e => ?_⟩
  · obtain ⟨j, fj, _, rfl⟩ := ix e
    exact ⟨nc j fj, _, _, (at_ j fj).2.1, (at_ j fj).2.2⟩
  · obtain ⟨i, hi, a1, rfl⟩ := ix e1
    obtain ⟨j, hj, a2, b2⟩ := ix e2
    have e3 : cs[i]? = cs[j]? := by rw [(at_ i hi).1, (at_ j hj).1, b2]
    have : i = j := by
      obtain ⟨l1, q1⟩ := List.getElem?_eq_some_iff.mp (at_ i hi).1
      obtain ⟨l2, q2⟩ := List.getElem?_eq_some_iff.mp (at_ j hj).1
      exact (List.getElem_inj c.nd).mp (q1.trans (b2.trans q2.symm))
    subst this
    rw [a1] at a2; exact Option.some.inj a2
  · have il := (List.getElem?_eq_some_iff.mp e).1
    have fi : i < F.length := by omega
    obtain ⟨d, hd⟩ : ∃ d, (fr.zip cs).lookup y = some d := mem_lookup (ix_zip e (at_ i fi).1)
    obtain ⟨j, fj, a1, b1⟩ := ix hd
    have : i = j := by
      obtain ⟨l1, q1⟩ := List.getElem?_eq_some_iff.mp e
      obtain ⟨l2, q2⟩ := List.getElem?_eq_some_iff.mp a1
      exact (List.getElem_inj nf).mp (q1.trans q2.symm)
    subst this
    refine ⟨d, hd, fun v hv => ⟨uv[i]'(by omega), ?_, F[i].2, by rw [b1]; exact (at_ i fi).2.1, (at_ i fi).2.2⟩⟩
    rw [List.getElem?_map] at hv
    cases q : ws[i]? with
    | none => rw [q] at hv; cases hv
    | some x =>
      rw [q] at hv
      simp at hv
      subst hv
      obtain ⟨u, hu, ru⟩ := c.vals.get q
      rw [List.getElem?_eq_getElem (by omega)] at hu
      rw [Option.some.inj hu]; exact ru
end
end TQ
/-! TQ25: THE RULE for a closure's call. -/
namespace TQ
open PySem L2 PyProof.Rows LamX NdefX
section
variable {G : Gx} {H : Hp} {m : List Nat}
theorem sl_full {xs : List Val} {vs : List V} (r : RVL G H m xs vs) : SL G H m (xs.map some) (vs.map some) := by
  refine ⟨by simp [r.length], fun i x e => ?_⟩
  rw [List.getElem?_map] at e
  cases q : xs[i]? with
  | none => rw [q] at e; cases e
  | some y =>
    rw [q] at e
    simp at e
    subst e
    obtain ⟨v, hv, rv⟩ := r.get q
    exact ⟨v, by rw [List.getElem?_map, hv]; rfl, rv⟩
theorem start_lam {ps fr : List Str} {vs ws : List V} (h1 : vs.length = ps.length) (h2 : ws.length = fr.length) : startF (ps ++ fr) vs (ws.map some) = (vs ++ ws).map some := by
  unfold startF
  have : (ps ++ fr).length - vs.length - (ws.map some).length = 0 := by simp; omega
  rw [this]
  simp
end
/-- how a lambda's arguments bind -/
def LamB (L : LI) : Prop := ∀ (cl : List (Str × Addr)) (c' : Addr) (pm ctv : Value) (us : List Value), us.length = L.ps.length → bindArgs (PySem.W.kla_fn "<lambda>" L.qual L.params L.body L.scope cl pm (.ref c') ctv) ⟨us, []⟩ = pure (L.ps.zip us)
section
variable {prg : Program} {w : World} {K : PySem.W.Frag} {mg : Str → Option Value} {base : Heap} {G : Gx} {H : Hp} {m : List Nat} {S : Sto} {P : Pr} {L : LI} {l : Lm} {rs : List Nat} {cs : List Addr} {cvs xs : List Val} {vs : List V} {us : List Value} {f c' : Addr} {A : Around} {outer : List Env} {sh : Shared} {Q : VK} {W : XK} {k : Nat}
theorem lam_q (Sc : NScope (L.ps ++ L.fr) L.ps L.fr L.scope) (hb : LamB L) (hp : l.pars = L.ps.length) (hc : l.caps = L.fr.length) (ho : G.own = []) (s : SR G H m S) (hat : rs.map (fun r => m[r]?) = cs.map (fun c => some (cA c))) (nd : cs.Nodup) (hl : cs.length = L.fr.length) (hf : H f = some (LamO L (L.fr.zip cs) c' f)) (hco : H c' = some (CodeO c' L.qual))
    (hv : mapO (cellV S) rs = some cvs) (r : RVL G H m xs vs) (p : Post G W m H (runLm P l rs cvs xs S) (CQ G Q)) (e0 : Env0 prg w K mg base A outer sh H) (hr : Room (k + 1) A) (rr : Vals vs us)
    (hbody : (∀ c ∈ cs, c ∉ frs (envF (L.nf cs c') f sh.heap.objs.size :: outer) ∧ base.get? c = none) → ∀ (F : List (Addr × Obj)) (W1 : XK), Room k (A.deeper (envF (L.nf cs c') f sh.heap.objs.size)) →
      JE (ncx (L2.CX prg w) prg w K mg base (L.ps ++ L.fr) (L.nf cs c') f A outer sh (minus H F) W1) (G.ow (rs.zip cs)) W1 { P with own := lamOwn l.pars rs, blk := false } L.body l.body) :
    codeAny (model prg w) A (.call (.ref f) ⟨us, []⟩) (CR (L2.CX prg w) outer prg w H sh Q W) sh := by
  obtain ⟨F, uv, ws, f1, f2, f3, f4, f5⟩ := cells_get s ho hat hv
  have c : Clos G H m F rs cs cvs uv ws := ⟨hat, nd, f1, f2, f3, f4, f5⟩
  have p : Post G W m H (if xs.length = l.pars ∧ cvs.length = l.caps ∧ rs.length = l.caps then endLm (lamOwn l.pars rs) ((xs ++ cvs).map some) (ev { P with own := lamOwn l.pars rs, blk := false } ((xs ++ cvs).map some) l.body S) else .bad) (CQ G Q) := p
  split at p
  · rename_i hz
    obtain ⟨z1, z2, z3⟩ := hz
    have hF : F.length = cs.length := by rw [← c.ks, List.length_map]
    have hU : uv.length = F.length := by have := congrArg List.length c.dat; simpa using this.symm
    have hW : ws.length = uv.length := c.vals.length
    have hvl : vs.length = L.ps.length := by rw [r.length, z1, hp]
    have hfs : ∀ b o, F.lookup b = some o → b ∉ frs outer := fun b o e z => by
      have q := e0.frf b z
      rw [c.hh b o e] at q; cases q
    have hkM : ∀ {b : Addr} {o : HO}, H b = some o → Kep o → minus H F b = some o := fun {b o} e q => by rw [minus_out (held_out c.hh e (.inl q))]; exact e
    have eM : Env0 prg w K mg base A outer sh (minus H F) := by
      have nn : ∀ {b : Addr}, H b = none → minus H F b = none := fun {b} e => by
        rcases lk_cases F b with ⟨o, z⟩ | z
        · exact minus_in z
        · rw [minus_out z]; exact e
      exact ⟨e0.frames, e0.mod, fun b o e => ⟨(e0.bs b o e).1, nn (e0.bs b o e).2⟩, e0.bsz, e0.funs, fun b hb => nn (e0.frf b hb), minus_ok c.hh e0.hok, e0.bare⟩
    have hout : ∀ d ∈ cs, d ∉ frs (envF (L.nf cs c') f sh.heap.objs.size :: outer) ∧ base.get? d = none := fun d hd => by
      obtain ⟨o, ho'⟩ := lk_has (F := F) (c := d) (by rw [c.ks]; exact hd)
      have hH := c.hh d o ho'
      refine ⟨fun z => ?_, ?_⟩
      · unfold frs at z
        rw [List.filterMap_cons] at z
        rcases List.mem_cons.mp z with z | z
        · have := Heap.lt_size (frz_at e0.hok hH)
          rw [z] at this
          exact Nat.lt_irrefl _ this
        · exact hfs d o ho' z
      · cases q : base.get? d with
        | none => rfl
        | some ob =>
          have z := (e0.bs d ob q).2
          rw [hH] at z; cases z
    have nfr : L.fr.Nodup := (List.nodup_append.mp Sc.nd).2.1
    have pl := post_lam (us := xs) (W := W) c s ho (by rw [z1]; exact p)
    refine codeAny_mono (lam_code (H := minus H F) (ws := ws.map some) (Q := fun v H' => (∀ b o, F.lookup b = some o → H' b = none) → Q v (plus H' F)) (E := fun cls d H' => (∀ b o, F.lookup b = some o → H' b = none) → W cls d (plus H' F)) Sc (hb _ _) hr eM (hkM hf True.intro) (hkM hco True.intro) (c.cells e0.hok hl nfr) rr hvl fun hr' => ⟨_, hbody hout F _ hr', ?_⟩) fun r s' hq => ?_
    · rw [start_lam hvl (by omega)]
      refine ⟨m, S, (xs ++ cvs).map some, s.enterL ho c, ?_, .nil, pl⟩
      exact sl_full (((r.append c.rel).mono (ky_minus c.hh) ⟨[], by simp⟩).ow)
    · cases r with
      | error er => exact cx_plus c.hh e0.hok hfs hq fun cls d H' no q => q no
      | ok fl =>
        cases fl with
        | ret u => exact ce_plus c.hh e0.hok hfs hq fun v H' no q => q no
        | next => exact hq
        | brk => exact hq
        | cont => exact hq
  · exact p.elim
end
end TQ
/-! TQ26: a lambda made. -/
namespace TQ
open PySem PySem.Spec L2 PyProof.Rows LamX NdefX
section
variable {X : Cx} {pins : List (Addr × Obj)} {σ : L2.St} {H : Hp} {s : Shared}
/-- the lambda is made, and its function object told -/
theorem lam_mk {T : List (Addr × Str)} {L : LI} {c Pt : Addr} {pos : Pos} {E : Value → Shared → Prop} {Q : Value → Shared → Prop} (I : Inv X pins σ H s) (TB : TabB X.base X.mg c Pt) (hcode : X.env.code = .ref c) (hq : L.qual = X.env.qual ++ "<lambda>")
    (hm : (Pt, L.qual) ∈ T) (hu : ∀ p ∈ T, p.1 = Pt → p.2 = L.qual) (hT : Tabs T H) (hdef : defaultsOf L.params X.env = ([], [])) (hfree : ∀ y ∈ L.scope.names, y.2 = .free → ∃ c, X.env.cells.lookup y.1 = some c)
    (h : ∀ (f c' : Addr) (H1 : Hp) (s' : Shared), Inv X pins σ (upd H1 f (LamO L (cloFrom X.env.cells L.scope.names []) c' f)) s' → (∀ b o, H b = some o → b ≠ Pt → H1 b = some o) → Tabs T H1 → H1 f = none → H1 c' = some (CodeO c' L.qual) → Q (.ref f) s') :
    wpAny (model X.prog X.w) X.A (eval (.Lambda L.params L.body L.scope pos) X.env) Q E s := by
  obtain ⟨ps, hP, ht, ha⟩ := hT _ hm
  refine PySem.W.kla_eval hdef ?_
  have bP : s.heap.BuiltinsAt X.mg Pt := TB.bm.keeps I.bk
  have hP' : s.heap.get? Pt = some { cls := .none, data := .fields ps } := I.hok Pt _ hP
  cases hc : codeAmong pos ps.toList with
  | none =>
    refine PySem.W.kla_makeFunction (mg := X.mg) (c := c) (P := Pt) (ps := ps) (closure_ok hfree) I.ok.glob (I.mod.glob.keeps I.bk) hcode (TB.code.keeps I.bk) hP' ht hc TB.gP bP fun c' ctv h' tk hx hge hlt hrec htb => ?_
    obtain ⟨c2, oc, vs, t, e2, hoc, hd, hv⟩ := hrec
    cases e2
    rw [← hq] at hv
    have nC : H c' = none := I.hok.fresh hge
    have J := inv_table (t' := tk) (more := #[rawInt pos.line, rawInt pos.col, .ref c']) (h' := h') I hP hx htb hge ⟨oc, vs, t, hoc, hd, hv⟩
    have hE : ExtN H (upd (upd H Pt (.tbl (ps ++ #[rawInt pos.line, rawInt pos.col, .ref c']))) c' (CodeO c' L.qual)) := fun b o e n => by
      have n1 : b ≠ c' := ne_of_none e nC
      have n2 : b ≠ Pt := fun z => n ps (Option.some.inj (e.symm.trans (by rw [z]; exact hP)))
      rw [upd_ne n1, upd_ne n2, e]
    have eL : (ps ++ #[rawInt pos.line, rawInt pos.col, .ref c']).toList = ps.toList ++ [rawInt pos.line, rawInt pos.col, .ref c'] := by simp
    have J2 := J.laid (t' := tk) (a := h'.objs.size) (o := LamO L (cloFrom X.env.cells L.scope.names []) c' h'.objs.size) (fun b o e => Heap.get?_push_of_some (PySem.W.kla_obj "<lambda>" L.qual L.params L.body L.scope (cloFrom X.env.cells L.scope.names []) ((X.mg "__name__").getD .none) c' ctv) e) (Nat.le_refl _) (lamO_ok (Heap.get?_push_size _ rfl))
    rw [← hq]
    refine h h'.objs.size c' _ _ J2 (fun b o e n2 => by rw [upd_ne (ne_of_none e nC), upd_ne n2]; exact e) (fun p hp => ?_) (J.hok.fresh (Nat.le_refl _)) upd_same
    by_cases hb : p.1 = Pt
    · rw [hu p hp hb, hb]
      refine ⟨_, by rw [upd_ne (ne_of_none hP nC), upd_same], by rw [eL]; exact PySem.TriplesOk_snoc _ _ _ _ ht, fun p' cv hcv => ?_⟩
      rw [eL] at hcv
      rcases among_app _ ht hcv with z | z
      · obtain ⟨c0, e1, e2⟩ := ha p' cv z
        exact ⟨c0, e1, hE _ _ e2 codeO_ne⟩
      · exact ⟨c', z, upd_same⟩
    · obtain ⟨ps', a1, a2, a3⟩ := hT p hp
      refine ⟨ps', by rw [upd_ne (ne_of_none a1 nC), upd_ne hb]; exact a1, a2, fun p' cv hcv => ?_⟩
      obtain ⟨c0, e1, e2⟩ := a3 p' cv hcv
      exact ⟨c0, e1, hE _ _ e2 codeO_ne⟩
  | some cv =>
    obtain ⟨c', e, hco⟩ := ha pos cv hc
    subst e
    refine PySem.W.kla_makeFunctionHit (mg := X.mg) (c := c) (P := Pt) (ps := ps) (closure_ok hfree) I.ok.glob (I.mod.glob.keeps I.bk) hcode (TB.code.keeps I.bk) hP' ht hc bP fun ctv h' tk hx hsz => ?_
    have J2 := I.laid (t' := tk) (a := h'.objs.size) (h' := h'.push (PySem.W.kla_obj "<lambda>" L.qual L.params L.body L.scope (cloFrom X.env.cells L.scope.names []) ((X.mg "__name__").getD .none) c' ctv)) (o := LamO L (cloFrom X.env.cells L.scope.names []) c' h'.objs.size) (fun b o e => Heap.get?_push_of_some _ (hx b o e)) hsz (lamO_ok (Heap.get?_push_size _ rfl))
    rw [← hq]
    exact h h'.objs.size c' H _ J2 (fun _ _ e _ => e) hT (I.hok.fresh hsz) hco
end
theorem map_zip {m : List Nat} : ∀ {rs : List Nat} {cs : List Addr}, rs.length = cs.length → (∀ p ∈ rs.zip cs, m[p.1]? = some (cA p.2)) → rs.map (fun r => m[r]?) = cs.map (fun c => some (cA c))
  | [], [], _, _ => rfl
  | [], _ :: _, h, _ => by simp at h
  | _ :: _, [], h, _ => by simp at h
  | r :: rs, c :: cs, h, k => by
    rw [List.map_cons, List.map_cons, k (r, c) (by simp), map_zip (by simpa using h) fun p hp => k p (by rw [List.zip_cons_cons]; exact List.mem_cons_of_mem _ hp)]
section
variable {X : Cx} {G : Gx} {W : XK} {P : Pr}
/-- lambda ..: -/
theorem j_lam {lamT : Nat → LI → Prop} {T : List (Addr × Str)} {L : LI} {c Pt : Addr} {pos : Pos} {k : Nat} {js : List Nat} (hG : ∀ k cs a H, CloG lamT k cs a H → G.clo k cs a H) (hTab : ∀ H, G.tab H ↔ Tabs T H) (hk : lamT k L) (TB : TabB X.base X.mg c Pt) (hcode : X.env.code = .ref c) (hq : L.qual = X.env.qual ++ "<lambda>")
    (hm : (Pt, L.qual) ∈ T) (hu : ∀ p ∈ T, p.1 = Pt → p.2 = L.qual) (hdef : defaultsOf L.params X.env = ([], [])) (hfree : ∀ y ∈ L.scope.names, y.2 = .free → ∃ c, X.env.cells.lookup y.1 = some c)
    (hcap : (∀ x y a, X.env.cells.lookup x = some a → X.env.cells.lookup y = some a → x = y) → ∀ rs, mapO (fun j => P.own.lookup j) js = some rs → ∃ cs, cloFrom X.env.cells L.scope.names [] = L.fr.zip cs ∧ cs.length = L.fr.length ∧ cs.Nodup ∧ rs.length = cs.length ∧ ∀ p ∈ rs.zip cs, p ∈ G.own) :
    JE X G W P (.Lambda L.params L.body L.scope pos) (.lam k js) := by
  refine ⟨fun pins s σ H Q I h => ?_⟩
  have h : tE G W (fun τ => lamE P k js) σ H Q := by simpa only [ev, evv, dflt] using h
  obtain ⟨m, S, τ, sr, sl, r, p⟩ := h
  have p : Post G W m H (lamE P k js S) (CQ G Q) := p
  unfold lamE at p
  cases e : (if P.blk = true then none else mapO (fun j => P.own.lookup j) js) with
  | none => rw [e] at p; exact p.elim
  | some rs =>
    rw [e] at p
    have e : mapO (fun j => P.own.lookup j) js = some rs := by
      cases hb : P.blk with
      | true => rw [hb, if_pos rfl] at e; cases e
      | false => rw [hb, if_neg (by decide)] at e; exact e
    obtain ⟨cs, c1, c2, c3, c4, c5⟩ := hcap (fun x y a => I.ok.inj x y a) rs e
    have hT := (hTab H).mp sr.tab
    obtain ⟨ps0, hP0, _, _⟩ := hT _ hm
    refine lam_mk I TB hcode hq hm hu hT hdef hfree fun f c' H1 s' J e1 t1 hf hc => ?_
    rw [c1] at J
    have nP : ∀ {b : Addr} {o : HO}, H b = some o → (∀ ps, o ≠ .tbl ps) → b ≠ Pt := fun {b o} e n z => by
      rw [z, hP0] at e; cases e; exact n _ rfl
    have st : ∀ {b : Addr} {o : HO}, H b = some o → (∀ ps, o ≠ .tbl ps) → upd H1 f (LamO L (L.fr.zip cs) c' f) b = some o := fun {b o} e n => by
      have q := e1 b o e (nP e n)
      rw [upd_ne (ne_of_none q hf)]; exact q
    have ex : Ext m H m (upd H1 f (LamO L (L.fr.zip cs) c' f)) := by
      refine ⟨⟨[], by simp, by simp⟩, fun a o e n => ?_, fun a xs e => ⟨xs, st e fun _ z => nomatch z⟩⟩
      by_cases ht : ∃ ps, o = .tbl ps
      · obtain ⟨ps, rfl⟩ := ht
        by_cases hb : a = Pt
        · obtain ⟨ps1, q1, _, _⟩ := t1 _ hm
          refine .inr ⟨ps, ps1, rfl, ?_⟩
          rw [hb, upd_ne (ne_of_none q1 hf)]; exact q1
        · have q := e1 a _ e hb
          exact .inl (by rw [upd_ne (ne_of_none q hf)]; exact q)
      · exact .inl (st e fun ps z => ht ⟨ps, z⟩)
    have sr' : SR G (upd H1 f (LamO L (L.fr.zip cs) c' f)) m S := by
      refine ⟨sr.len, sr.nd, fun n xs e => ?_, (hTab _).mpr (t1.ext fun b o q => by rw [upd_ne (ne_of_none q hf)]; exact q), sr.ow, sr.ndc⟩
      obtain ⟨b, b1, q⟩ := sr.at_ n xs e
      exact ⟨b, b1, q.mono ex.ky ⟨[], by simp⟩ (fun a vs _ z => st z fun _ y => nomatch y) fun d o _ z => st z fun _ y => nomatch y⟩
    refine ⟨.ref f, _, J, rfl, p m _ sr' ex (.ref f) (.clo (map_zip c4 fun q hq' => sr.ow _ (c5 q hq')) (hG _ _ _ _ ⟨L, c', hk, c2, c3, upd_same, ?_⟩))⟩
    rw [upd_ne (ne_of_none hc hf)]; exact hc
end
end TQ
/-! TQ27: a slot's closure, or def, called. -/
namespace TQ
open PySem PySem.Spec L2 PyProof.Rows LamX NdefX
/-- what the lambda j promises -/
def LmQ (prg : Program) (w : World) (K : PySem.W.Frag) (mg : Str → Option Value) (base : Heap) (GI : Gx → Prop) (k : Nat) (j : Nat) (g : List Nat → List Val → List Val → E Val) : Prop :=
  ∀ (G : Gx), GI G → G.own = [] → ∀ (A : Around) (outer : List Env) (sh : Shared) (H : Hp) (m : List Nat) (S : Sto) (rs : List Nat) (cs : List Addr) (f : Addr) (cvs xs : List Val) (vs : List V) (us : List Value) (Q : VK) (W : XK), Room k A → A.guards = some [] → Env0 prg w K mg base A outer sh H → SR G H m S →
    rs.map (fun r => m[r]?) = cs.map (fun c => some (cA c)) → G.clo j cs f H → mapO (cellV S) rs = some cvs → RVL G H m xs vs → Vals vs us → Post G W m H (g rs cvs xs S) (CQ G Q) → codeAny (model prg w) A (.call (.ref f) ⟨us, []⟩) (CR (L2.CX prg w) outer prg w H sh Q W) sh
/-- .. a def as a value -/
def FvQ (prg : Program) (w : World) (K : PySem.W.Frag) (mg : Str → Option Value) (base : Heap) (GI : Gx → Prop) (k : Nat) (x : Str) (g : List Val → E Val) : Prop :=
  ∀ (G : Gx), GI G → G.own = [] → ∀ (A : Around) (outer : List Env) (sh : Shared) (H : Hp) (m : List Nat) (S : Sto) (f : Addr) (xs : List Val) (vs : List V) (us : List Value) (Q : VK) (W : XK), Room k A → A.guards = some [] → Env0 prg w K mg base A outer sh H → SR G H m S →
    G.m x = some (.ref f) → RVL G H m xs vs → Vals vs us → Post G W m H (g xs S) (CQ G Q) → codeAny (model prg w) A (.call (.ref f) ⟨us, []⟩) (CR (L2.CX prg w) outer prg w H sh Q W) sh
section
variable {X : Cx} {G : Gx} {W : XK} {P : Pr} {GI : Gx → Prop} {k : Nat}
theorem go_run {pins : List (Addr × Obj)} {σ : L2.St} {H : Hp} {s : Shared} {Q : VK} {f : Addr} {us : List Value} {vs : List V} {n : Nat} (hL : ∀ j, LmQ X.prog X.w X.K X.mg X.base GI k j (P.lam j)) (hF : ∀ x, FvQ X.prog X.w X.K X.mg X.base GI k x (P.fn x)) (hG : GI (G.ow [])) (hr : Room k X.A) (hgd : X.A.guards = some []) (hx : ∀ e s', L2.CX X.prog X.w X.stack H s W e s' → X.xe e s')
    (I : Inv X pins σ H s) (r : Vals vs us) (h : CallAt X G W H s (goV P) n (.ref f :: vs) Q) : wpAny (model X.prog X.w) X.A (call (.ref f) us) (EP X pins σ Q) X.xe s := by
  obtain ⟨H0, W0, Q0, E0, ⟨m0, S0, xs0, sr, rx, _, p⟩, conv⟩ := h.run
  have key : codeAny (model X.prog X.w) X.A (.call (.ref f) ⟨us, []⟩) (CR (L2.CX X.prog X.w) X.stack X.prog X.w H0 s Q0 W0) s := by
    unfold goV at p
    split at p
    · cases rx with
      | cons rv rx =>
        cases rv with
        | clo e hc =>
          rename_i rs' us' j' cs'
          unfold cloE at p
          split at p
          · rename_i cvs hv
            exact hL _ (G.ow []) hG rfl X.A X.stack s H0 m0 S0 _ _ f cvs _ vs us Q0 W0 hr hgd E0 sr e hc hv rx r p
          · exact p.elim
    · cases rx with
      | cons rv rx =>
        cases rv with
        | fn hm => exact hF _ (G.ow []) hG rfl X.A X.stack s H0 m0 S0 f _ vs us Q0 W0 hr hgd E0 sr hm rx r p
    · exact p.elim
  refine wpAny_call (codeAny_mono key fun r s' hq => ?_)
  have hq := conv r s' hq
  cases r with
  | error e => exact hx e s' hq
  | ok fl =>
    cases fl with
    | ret u => exact I.after hq
    | next => exact False.elim hq
    | brk => exact False.elim hq
    | cont => exact False.elim hq
end
end TQ
/-! TQ28: a lambda's contract by its body. -/
namespace TQ
open PySem PySem.Spec L2 PyProof.Rows LamX NdefX
theorem lmq_of {prg : Program} {w : World} {K : PySem.W.Frag} {mg : Str → Option Value} {base : Heap} {GI : Gx → Prop} {k j : Nat} {lamT : Nat → LI → Prop} {l : Lm} {P : Pr} (hGc : ∀ G, GI G → ∀ k cs a H, G.clo k cs a H → CloG lamT k cs a H)
    (hsc : ∀ L, lamT j L → NScope (L.ps ++ L.fr) L.ps L.fr L.scope ∧ LamB L ∧ l.pars = L.ps.length ∧ l.caps = L.fr.length)
    (hbody : ∀ (L : LI), lamT j L → ∀ (G : Gx), GI G → G.own = [] → ∀ (rs : List Nat) (cs : List Addr) (f c' : Addr) (A : Around) (outer : List Env) (sh : Shared) (H : Hp) (W1 : XK), (∀ c ∈ cs, c ∉ frs (envF (L.nf cs c') f sh.heap.objs.size :: outer) ∧ base.get? c = none) → cs.Nodup → cs.length = L.fr.length → rs.length = cs.length → Room k (A.deeper (envF (L.nf cs c') f sh.heap.objs.size)) → A.guards = some [] →
      JE (ncx (L2.CX prg w) prg w K mg base (L.ps ++ L.fr) (L.nf cs c') f A outer sh H W1) (G.ow (rs.zip cs)) W1 { P with own := lamOwn l.pars rs, blk := false } L.body l.body) :
    LmQ prg w K mg base GI (k + 1) j (runLm P l) := by
  intro G hG ho A outer sh H m S rs cs f cvs xs vs us Q W hr hgd e0 s hat hcl hv r rr p
  obtain ⟨L, c', h1, h2, h3, h4, h5⟩ := hGc G hG j cs f H hcl
  obtain ⟨Sc, hb, hp, hc⟩ := hsc L h1
  exact lam_q Sc hb hp hc ho s hat h3 h2 h4 h5 hv r p e0 hr rr fun hout F W1 hr' => hbody L h1 G hG ho rs cs f c' A outer sh (minus H F) W1 hout h3 h2 (zip_at hat).2 hr' hgd
/-- a def as a value: without keywords -/
theorem fvq_of {prg : Program} {w : World} {K : PySem.W.Frag} {mg : Str → Option Value} {base : Heap} {GI : Gx → Prop} {k : Nat} {x : Str} {f : Addr} {fd : FuncData} {ps : List Str} {g : List Val → E Val} (F : FnQ prg w K mg base GI k f fd ps g) (hm : ∀ G, GI G → ∀ a, G.m x = some (.ref a) → a = f)
    (hb : ∀ (s : Shared) (us : List Value), K.In s.heap → us.length = ps.length → BindsTo s fd ⟨us, []⟩ (ps.zip us)) (hl : ∀ xs S, g xs S ≠ .bad → xs.length = ps.length) : FvQ prg w K mg base GI k x g := by
  intro G hG ho A outer sh H m S a xs vs us Q W hr hgd e0 s hx r rr p
  have := hm G hG a hx
  subst this
  have hlen : xs.length = ps.length := hl xs S fun z => by
    rw [z] at p
    exact p.elim
  have hin : K.In sh.heap := e0.mod.kin.keeps fun b o e => (e0.bs b o e).1
  exact F.run G hG ho A outer sh H ⟨us, []⟩ us vs Q W hr hgd e0 (hb sh us hin (by rw [← rr.length, r.length]; exact hlen)) rr ⟨m, S, xs, s, r, hlen, p⟩
end TQ
/-! TQ29: the expression that calls a slot's closure. -/
namespace TQ
open PySem PySem.Spec L2 PyProof.Rows LamX NdefX
section
variable {X : Cx} {G : Gx} {W : XK} {P : Pr} {GI : Gx → Prop} {k i : Nat} {x : Str} {p pos : Pos} {e : Expr} {es : List Expr} {xs : List Ex} {lamT : Nat → LI → Prop}
theorem fn_at {pins : List (Addr × Obj)} {σ : L2.St} {H : Hp} {s : Shared} {j : Nat} {cs : List Addr} {f : Addr} (I : Inv X pins σ H s) (h : CloG lamT j cs f H) : PySem.W.FnAt f s.heap := by
  obtain ⟨L, c', h1, h2, h3, h4, h5⟩ := h
  obtain ⟨pm, ctv, ho⟩ := lamO_at I.hok h4
  exact ⟨_, _, _, _, ho⟩
/-- the slot's value, then the rest -/
theorem t_cval {σ : L2.St} {H : Hp} {Q : VK} (h : tE G W (fun τ => ev P τ (.cval (.var i) xs)) σ H Q) : ∃ j rs cs f, σ[i]? = some (some (.ref f)) ∧ G.clo j cs f H ∧ Cont G W [.clo j rs] [.ref f] (fun τ => (evAs P τ xs).bind fun us => cvalE P τ (.clo j rs) us) (CQ G Q) σ H := by
  have h : tE G W (fun τ => (rdV τ i).bind fun v => (ckF v).bind fun _ => (evAs P τ xs).bind fun us => cvalE P τ v us) σ H Q := by simpa only [ev, evv, dflt] using h
  have q := t_var (Cont.bindV (f := fun τ => rdV τ i) (g := fun τ v => (ckF v).bind fun _ => (evAs P τ xs).bind fun us => cvalE P τ v us) h)
  obtain ⟨v, hv, y, q⟩ := q
  have ck : ckF y = E.pure () ∨ ckF y = E.bad := by cases y <;> first | exact .inl rfl | exact .inr rfl
  obtain ⟨e1, q⟩ := Cont.bindU (g := fun τ => (evAs P τ xs).bind fun us => cvalE P τ y us) q ck
  have hy : ∃ j rs, y = .clo j rs := by
    cases y with
    | clo j rs => exact ⟨j, rs, rfl⟩
    | _ => have := congrFun e1 []; simp [ckF, E.bad, E.pure] at this
  obtain ⟨j, rs, rfl⟩ := hy
  obtain ⟨m, S, τ, s, sl, r, pp⟩ := q
  obtain ⟨w, ew, rw'⟩ := r.inv1
  simp only [List.nil_append, List.cons.injEq, and_true] at ew
  subst ew
  cases rw' with
  | clo hat hc => exact ⟨j, rs, _, _, hv, hc, m, S, τ, s, sl, .one (.clo hat hc), pp⟩
theorem j_cval (hGc : ∀ k cs a H, G.clo k cs a H → CloG lamT k cs a H) (hL : ∀ j, LmQ X.prog X.w X.K X.mg X.base GI k j (P.lam j)) (hF : ∀ x, FvQ X.prog X.w X.K X.mg X.base GI k x (P.fn x)) (hG : GI (G.ow [])) (O : OwnLk X G P) (hr : Room k X.A) (hgd : X.A.guards = some []) (hx : Passes (L2.CX X.prog X.w) X W)
    (hN : X.N[i]? = some x) (hv : Vis X.env.scope x) (hd : (x == ("__debug__" : Str)) = false) (hcd : (x == ("__classdict__" : Str)) = false) (ha : JA X G W P (e :: es) xs) (he : starEach (e :: es) X.env = (false, eval e X.env) :: starEach es X.env) (hpl : (backTo pos (starEach es X.env)).any (·.1) = false) :
    JE X G W P (.Call (.Name x p) (e :: es) [] pos) (.cval (.var i) xs) := by
  refine ⟨fun pins s σ H Q I h => ?_⟩
  obtain ⟨j, rs, cs, f, hs, hc, q⟩ := t_cval h
  refine wpAny_Call_Name_kw (thn ((pe_var (pos := p) (i := i) hN hv hd hcd).run pins s σ H (fun v H1 => v = .ref f ∧ H1 = H) I ⟨.ref f, hs, rfl, rfl⟩) fun u s1 ⟨v, H1, I1, r1, q1⟩ => ?_)
  obtain ⟨ev', eH⟩ := q1
  subst ev'
  subst eH
  obtain rfl : u = Value.ref f := r1
  have q := Cont.bindA (f := fun τ => evAs P τ xs) (g := fun τ us => cvalE P τ (.clo j rs) us) q
  refine PySem.W.callWith_F (fn_at I1 (hGc _ _ _ _ hc)) (thn (ha.run pos pins s1 σ _ _ I1 q) fun us s2 ⟨vs, H2, I2, r2, w⟩ => ?_) he hpl
  obtain ⟨ys, m, S, τ, sr, sl, r, pp⟩ := w
  cases r with
  | cons rv r =>
    cases rv with
    | clo hat hc2 =>
      refine ⟨fn_at I2 (hGc _ _ _ _ hc2), ?_⟩
      have z := call_own (g := goV P) O I2 sr sl (.cons (.clo hat hc2) r) pp
      exact go_run hL hF hG hr hgd (fun e s' q => hx pins σ _ _ e s' I2 q) I2 r2 z
theorem j_cval0 (hGc : ∀ k cs a H, G.clo k cs a H → CloG lamT k cs a H) (hL : ∀ j, LmQ X.prog X.w X.K X.mg X.base GI k j (P.lam j)) (hF : ∀ x, FvQ X.prog X.w X.K X.mg X.base GI k x (P.fn x)) (hG : GI (G.ow [])) (O : OwnLk X G P) (hr : Room k X.A) (hgd : X.A.guards = some []) (hx : Passes (L2.CX X.prog X.w) X W)
    (hN : X.N[i]? = some x) (hv : Vis X.env.scope x) (hd : (x == ("__debug__" : Str)) = false) (hcd : (x == ("__classdict__" : Str)) = false) : JE X G W P (.Call (.Name x p) [] [] pos) (.cval (.var i) []) := by
  refine ⟨fun pins s σ H Q I h => ?_⟩
  obtain ⟨j, rs, cs, f, hs, hc, q⟩ := t_cval h
  refine wpAny_Call_Name_kw (thn ((pe_var (pos := p) (i := i) hN hv hd hcd).run pins s σ H (fun v H1 => v = .ref f ∧ H1 = H) I ⟨.ref f, hs, rfl, rfl⟩) fun u s1 ⟨v, H1, I1, r1, q1⟩ => ?_)
  obtain ⟨ev', eH⟩ := q1
  subst ev'
  subst eH
  obtain rfl : u = Value.ref f := r1
  have q := Cont.bindA (f := fun τ => evAs P τ []) (g := fun τ us => cvalE P τ (.clo j rs) us) q
  have q := t_nil (by simpa only [evAs] using q)
  obtain ⟨ys, m, S, τ, sr, sl, r, pp⟩ := q
  refine PySem.W.callWith_F0 (fn_at I1 (hGc _ _ _ _ hc)) ?_
  have z := call_own (g := goV P) O I1 sr sl r pp
  exact go_run (vs := []) (us := []) hL hF hG hr hgd (fun e s' q => hx pins σ _ _ e s' I1 q) I1 .nil z
end
end TQ
/-! TQT: try: a call; except C as n: x = n. -/
namespace TQ
open PySem PySem.Spec L2 PyProof.Rows LamX NdefX
section
variable {X : Cx} {pins : List (Addr × Obj)} {σ : L2.St} {H : Hp} {s : Shared}
/-- a new object of the heap is tracked from now on -/
theorem inv_adopt {a : Addr} {o : HO} (I : Inv X pins σ H s) (hn : H a = none) (h0 : X.s_0.heap.get? a = none) (hl : a ≠ X.env.locals) (hc : ∀ x c, X.env.cells.lookup x = some c → c ≠ a) (hp : ∀ p ∈ X.pn ++ pins, p.1 ≠ a) (new : ObjOk X.prog X.w (upd H a o) s.heap a o) :
    Inv X pins σ (upd H a o) s := by
  have nb : ∀ {b : Addr} {u : Obj}, X.s_0.heap.get? b = some u → b ≠ a := fun {b u} e z => by rw [z, h0] at e; cases e
  refine ⟨I.ok, I.os, I.bare, ⟨I.base.keep, I.base.slot, fun b u e n hx => ?_, I.base.there, fun b xs e => ?_, fun b u v e => ?_, fun b ps e => ?_⟩, I.loc, I.cell, ?_, fun x c e => ?_, fun p q => ?_, fun b u e => ?_, I.len⟩
  · rw [upd_ne (nb e)]; exact I.base.free b u e n hx
  · have q := I.base.tups b xs e
    rw [upd_ne (ne_of_none q hn)]; exact q
  · have q := I.base.frzs b u v e
    rw [upd_ne (ne_of_none q hn)]; exact q
  · obtain ⟨more, q⟩ := I.base.tbls b ps e
    exact ⟨more, by rw [upd_ne (ne_of_none q hn)]; exact q⟩
  · rw [upd_ne (Ne.symm hl)]; exact I.free
  · rw [upd_ne (hc x c e)]; exact I.freeC x c e
  · obtain ⟨e1, e2, e3⟩ := I.pin p q
    exact ⟨e1, by rw [upd_ne (hp p q)]; exact e2, e3⟩
  · by_cases hb : b = a
    · subst hb
      rw [upd_same] at e
      cases e
      exact new
    · rw [upd_ne hb] at e
      exact (I.hok b u e).stay (fun _ _ _ q => q) (fun d q => by rw [upd_ne (ne_of_none q hn)]; exact q) fun d xs q => by rw [upd_ne (ne_of_none q hn)]; exact q
end
section
variable {X : Cx} {x n v : Str} {c : Value} {i j : Nat} {body : List Stmt} {np px pq pa pos pos' : Pos} {tb : WX → TS}
/-- what is wished of an exception -/
def wOwn (K : PySem.W.Frag) (c : Value) (i j : Nat) (D : Ends) : WX := fun cls d σ H =>
  PySem.W.exmOne K cls c = some true ∧ ∃ C dd, cls = .ref C ∧ d = some dd ∧ ∀ a, H a = none → D.nx (((σ.set j (some (.ref a))).set i (some (.ref a))).set j none) (upd H a (XcO C dd a))
theorem ps_try_own (hxe : X.ex = []) (hs : X.stack = X.env :: X.outer) (hf : X.env.frame = some X.env.locals) (hN : X.N.Nodup) (hi : X.N[i]? = some v) (hj : X.N[j]? = some n) (hjl : X.env.kindOf n = some .local) (hvl : Loc X.env.scope v) (hvf : X.fn v = true ∨ X.env.scope.names.lookup v = some .local)
    (hnd : (n == ("__debug__" : Str)) = false) (hnc : (n == ("__classdict__" : Str)) = false) (hc : Names X x c)
    (hb : ∀ (W : WX) (p1 : List (Addr × Obj)) (xe : Value → Shared → Prop), Takes (X.tr (X.pn ++ p1) xe) W → PassesOwn (model X.prog X.w) X.A X.env xe → PSs (X.tr (X.pn ++ p1) xe) body (tb W)) :
    PS X (.Try body [.ExceptHandler (some (.Name x np)) (some n) [.Assign [.Name v px] (.Name n pq) pa] pos'] [] [] pos) (fun D σ H => tb (wOwn X.K c i j D) D σ H) := by
  refine ⟨fun pins s σ H D I h => ?_⟩
  have ok := I.ok
  have hfr : X.A.frames = some (X.env :: X.outer) := ok.frames.trans (congrArg some hs)
  have hloc : Loc X.env.scope n := .inl hjl
  refine wpAny_Try_except ?_
  refine wpAny_mono ((hb (wOwn X.K c i j D) pins (fun e s₁ => wpAny (model X.prog X.w) X.A (noteFrame e X.env) (fun _ s₂ => wpAny (model X.prog X.w) X.A (setFlight e none) (fun _ s₃ =>
    wpAny (model X.prog X.w) X.A (handleBy e X.env [.ExceptHandler (some (.Name x np)) (some n) [.Assign [.Name v px] (.Name n pq) pa] pos']) (SP X pins D) X.xe s₃) X.xe s₂) X.xe s₁) (fun u s' xx => ?_) PassesOwn.looking).run [] s σ H D (I.toTry _) h) (fun f s1 hsp => ?_) (fun e s1 he => he)
  · obtain ⟨a, B, sI, pins', σ', H', cls, d, rfl, J', nb, up, sky, na, os, ag, hex, C, dd, rfl, rfl, hyes⟩ := xx
    have J : Inv X pins σ' H' sI := Inv.ofTry J' ok
    have sky' : Sky B (X.env :: X.outer) a (Zc (.ref C) (some dd)) X.env.locals s'.heap := hs ▸ sky
    show wpAny (model X.prog X.w) X.A (noteFrame (.ref a) X.env) _ _ _
    refine Sky.land Zc.steady hfr hf sky' fun h3 fl3 up3 => ?_
    have J3 : Inv X pins σ' H' { s' with heap := h3 } := Inv.landed J nb fl3.1 (up.trans up3) os ag
    obtain ⟨oe3, vs3, he3, hz3, hd3⟩ := fl3.there
    have nfr : a ∉ frs (X.env :: X.outer) := fun hm => by
      obtain ⟨_, o', e', hnf⟩ := fl3.2.2.1.mem hm
      rw [he3] at e'
      cases e'
      exact hnf _ hd3
    have nfr' : a ∉ frs X.stack := by rw [hs]; exact nfr
    -- it is new
    have new : sI.heap.get? a = none := by
      cases q : sI.heap.get? a with
      | none => rfl
      | some o =>
        have z := nb a o q nfr'
        rw [fl3.2.1] at z
        cases z
    have nL : a ≠ X.env.locals := fun z => nfr (List.mem_filterMap.mpr ⟨X.env, List.mem_cons_self, hf.trans (congrArg some z.symm)⟩)
    have nF : a ∉ X.fs := fun hm => by
      obtain ⟨e, he, q⟩ := List.mem_filterMap.mp hm
      exact nfr (List.mem_filterMap.mpr ⟨e, List.mem_cons_of_mem _ he, q⟩)
    have new0 : X.s_0.heap.get? a = none := by
      cases q : X.s_0.heap.get? a with
      | none => rfl
      | some o =>
        have hxn : a ∉ X.ex := by rw [hxe]; exact fun z => nomatch z
        obtain ⟨o', z⟩ := J.base.there a o q hxn
        rw [new] at z
        cases z
    have ncell : ∀ y k, X.env.cells.lookup y = some k → k ≠ a := fun y k e z => by
      obtain ⟨_, o, e1, _⟩ := J.cell y k e
      rw [z, new] at e1
      cases e1
    have npin : ∀ p ∈ X.pn ++ pins, p.1 ≠ a := fun p hp z => by
      have e1 := (J.pin p hp).1
      rw [z, new] at e1
      cases e1
    have S3 := J3.suite he3 hd3 na nL nF
    refine wpAny_handleBy_cons (codeAny_handlers_test ?_) (by intro q; cases q)
    have LT : PySem.W.Looks (model X.prog X.w) h3 (typeOf (.ref a)) (.ref C) := fun A Q E s k q => wpAny_typeOf_ref (k _ _ he3) (by rw [hz3.1]; exact q)
    have LM := PySem.W.exm_one (M := model X.prog X.w) J3.kIn LT hex
    have test : ∀ {Q : Value → Shared → Prop} {E : Value → Shared → Prop}, Q c { s' with heap := h3 } → wpAny (model X.prog X.w) (X.A.mark (some (.ref a))) (eval (.Name x np) X.env) Q E { s' with heap := h3 } := fun {Q E} q => by
      rcases hc with ⟨hg, hdbg, hm | ⟨hm, hv, hnn⟩⟩
      · exact ld_glob (X := X.suite a ((a, oe3) :: (X.pn ++ pins))) S3 hg hm q hdbg
      · exact ld_blt (X := X.suite a ((a, oe3) :: (X.pn ++ pins))) S3 hg hm hv q hnn hdbg
    refine test (LM.here ?_)
    refine codeAny_handlers_suite_as ?_
    refine HandSPX.lands_againZ fl3 fun h4 fl4 up4 => ?_
    have J4 : Inv X pins σ' H' { s' with heap := h4 } := Inv.landed J nb fl4.1 ((up.trans up3).trans up4) os ag
    obtain ⟨oe4, vs4, he4, hz4, hd4⟩ := fl4.there
    have S4 := J4.suite he4 hd4 na nL nF
    refine store_ok (X := X.suite a ((a, oe4) :: (X.pn ++ pins))) (v := .ref a) S4 hN hj hloc rfl (fun s5 S5 => ?_) (.inr hjl)
    have lj : j < σ'.length := by
      have z := (List.getElem?_eq_some_iff.mp hj).1
      have w := J.len
      omega
    have su : PSs (X.suite a ((a, oe4) :: (X.pn ++ pins))) [.Assign [.Name v px] (.Name n pq) pa] (tAsg (tVar j) (gName i)) :=
      pss_one (ps_set (X := X.suite a ((a, oe4) :: (X.pn ++ pins))) hN hi hvl (pe_var hj (.inl hjl) hnd hnc) rfl hvf)
    refine wpAny_mono (su.run [] s5 _ H' { nx := fun σ6 H6 => σ6 = (σ'.set j (some (.ref a))).set i (some (.ref a)) ∧ H6 = H', rt := fun _ _ => False } S5 ⟨.ref a, List.getElem?_set_self lj, rfl, rfl⟩) (fun f s6 hsp => ?_) (fun _ _ z => False.elim z)
    cases f with
    | next =>
      obtain ⟨σ6, H6, S6, rfl, rfl⟩ := hsp
      refine gone_ok (X := X.suite a ((a, oe4) :: (X.pn ++ pins))) S6 hN hj hjl fun s7 S7 => ?_
      have pin7 := (S7.pin (a, oe4) (by simp)).1
      have J7 : Inv X pins (((σ'.set j (some (.ref a))).set i (some (.ref a))).set j none) H6 s7 := Inv.unsuite S7 ok
      exact ⟨_, _, inv_adopt J7 na new0 nL ncell npin (xcO_ok pin7 hz4 hd4), hyes a na⟩
    | brk =>
      obtain ⟨_, _, _, q⟩ := hsp
      exact q.elim
    | cont =>
      obtain ⟨_, _, _, q⟩ := hsp
      exact q.elim
    | ret u =>
      obtain ⟨_, _, _, _, _, q⟩ := hsp
      exact q.elim
  · cases f with
    | next =>
      obtain ⟨σ', H', J', q⟩ := hsp
      exact wpAny_execs_nil ⟨σ', H', Inv.ofTry J' ok, q⟩
    | brk =>
      obtain ⟨σ', H', J', q⟩ := hsp
      exact ⟨σ', H', Inv.ofTry J' ok, q⟩
    | cont =>
      obtain ⟨σ', H', J', q⟩ := hsp
      exact ⟨σ', H', Inv.ofTry J' ok, q⟩
    | ret u =>
      obtain ⟨w, σ', H', J', r, q⟩ := hsp
      exact ⟨w, σ', H', Inv.ofTry J' ok, r, q⟩
end
end TQ
namespace TQ
open PySem PySem.Spec L2 PyProof.Rows LamX NdefX
def Wno : XK := fun _ _ _ => False
section
variable {X : Cx} {G : Gx} {W : XK} {P : Pr} {GI : Gx → Prop} {σ : L2.St} {H : Hp}
theorem post_qt {α : Type} {m : List Nat} {r : E α} {S : Sto} {C : α → List Nat → Sto → Hp → Prop} (p : Post G W m H (quietE r S) C) : Post G Wno m H (r S) C := by
  unfold quietE at p
  cases e : r S with
  | bad => rw [e] at p; exact p
  | exc c d S' => rw [e] at p; exact p.elim
  | ok a S' => rw [e] at p; exact p
theorem ta_quiet {f : Tau → E (List Val)} {Q : List V → Hp → Prop} (h : tA G W (fun τ => quietE (f τ)) σ H Q) : tA G Wno f σ H Q := by
  obtain ⟨m, S, τ, s, sl, r, p⟩ := h
  exact ⟨m, S, τ, s, sl, r, post_qt p⟩
theorem tb_quiet {f : Tau → E Bool} {Q : Bool → Hp → Prop} (h : tB G W (fun τ => quietE (f τ)) σ H Q) : tB G Wno f σ H Q := by
  obtain ⟨m, S, τ, s, sl, r, p⟩ := h
  exact ⟨m, S, τ, s, sl, r, post_qt p⟩
/-- a call in a try's body -/
structure JTry (X : Cx) (G : Gx) (P : Pr) (x : Expr) (e : Ex) : Prop where
  run : ∀ (W : WX) (p1 : List (Addr × Obj)) (xe : Value → Shared → Prop), Takes (X.tr (X.pn ++ p1) xe) W → PassesOwn (model X.prog X.w) X.A X.env xe →
    PE (X.tr (X.pn ++ p1) xe) x (fun σ H Q => tE G (fun cls d H' => W cls d σ H') (fun τ => evT P τ e) σ H Q)
theorem js_tryc {x : Expr} {e : Ex} {cc cx n v : Str} {c : Value} {i j : Nat} {np px pq pa pe pos pos' : Pos} (hxe : X.ex = []) (hs : X.stack = X.env :: X.outer) (hf : X.env.frame = some X.env.locals) (hN : X.N.Nodup) (hi : X.N[i]? = some v) (hj : X.N[j]? = some n) (hij : i ≠ j) (hjl : X.env.kindOf n = some .local) (hvl : Loc X.env.scope v) (hvf : X.fn v = true ∨ X.env.scope.names.lookup v = some .local)
    (hnd : (n == ("__debug__" : Str)) = false) (hnc : (n == ("__classdict__" : Str)) = false) (hc : Names X cx c)
    (hE : ∀ c', P.isE c' cc = some true → ∀ C, G.m c' = some (.ref C) → PySem.W.exmOne X.K (.ref C) c = some true) (hX : ∀ c' w a H, P.isE c' cc = some true → ExcG G.m c' w a H → G.exc c' w a H)
    (hx : JTry X G P x e) (hsw : swapsWith x none pe.line X.env = pure false) :
    JS X G W P (.Try [.Expr x pe] [.ExceptHandler (some (.Name cx np)) (some n) [.Assign [.Name v px] (.Name n pq) pa] pos'] [] [] pos) (.tryc e cc i j) :=
  PS.imp (ps_try_own (tb := fun W D σ H => tE G (fun cls d H' => W cls d σ H') (fun τ => evT P τ e) σ H fun _ H' => D.nx σ H') hxe hs hf hN hi hj hjl hvl hvf hnd hnc hc fun W p1 xe tk pw => pss_one (PS.imp (ps_expr (hx.run W p1 xe tk pw) hsw) fun D σ H h => h)) fun D σ H h => by
    obtain ⟨m, S, τ, s, sl, r, p⟩ := h
    have p : Post G W m H (tryM P (evT P τ e) cc i j τ S) (EndC G D) := by simpa only [exS] using p
    refine ⟨m, S, τ, s, sl, .nil, ?_⟩
    show Post G _ m H (evT P τ e S) _
    unfold tryM at p
    generalize evT P τ e S = z at p
    cases z with
    | bad => exact p
    | ok v S' =>
      exact fun m' H' s' ex v' _ => p m' H' s' ex σ (sl.mono ex)
    | exc c' d S' =>
      intro m' H' cls dd s' ex x'
      obtain ⟨C, a', w, h1, h2, h3, h4, h5⟩ := x'
      subst h1
      cases q : P.isE c' cc with
      | none => simp only [q] at p; exact p.elim
      | some b =>
        cases b with
        | false => simp only [q] at p; exact p.elim
        | true =>
          simp only [q] at p
          split at p
          · rename_i hl
            refine ⟨hE c' q C h2, C, a', rfl, h3, fun a ha => ?_⟩
            have ne : ∀ {b : Addr} {o : HO}, H' b = some o → b ≠ a := fun {b o} z => ne_of_none z ha
            have ex2 : Ext m' H' m' (upd H' a (XcO C a' a)) := Ext.new ha
            have sl2 := (sl.mono ex).mono ex2
            have rv : RV G (upd H' a (XcO C a' a)) m' (.exc c' d) (.ref a) := .exc (hX _ _ _ _ q ⟨C, a', h2, upd_same, by rw [upd_ne (ne h4)]; exact h4⟩) (h5.mono ex2.ky ⟨[], by simp⟩)
            refine p m' _ (s'.new ha) (ex.trans ex2) _ ⟨by simpa using sl2.len, fun k y hk => ?_⟩
            by_cases kj : j = k
            · subst kj
              rw [List.getElem?_set_self (by simpa using hl.2)] at hk
              cases hk
            · rw [List.getElem?_set_ne kj] at hk ⊢
              by_cases ki : i = k
              · subst ki
                rw [List.getElem?_set_self hl.1] at hk
                cases hk
                exact ⟨_, List.getElem?_set_self (by rw [List.length_set, ← sl.len]; exact hl.1), rv⟩
              · rw [List.getElem?_set_ne ki] at hk
                rw [List.getElem?_set_ne ki, List.getElem?_set_ne kj]
                exact sl2.at_ k y hk
          · exact p.elim
/-! ### which calls -/
variable {k i : Nat} {x : Str} {p pos : Pos} {e : Expr} {es : List Expr} {xs : List Ex} {lamT : Nat → LI → Prop}
theorem own_tr {p1 : List (Addr × Obj)} {xe : Value → Shared → Prop} (O : OwnLk X G P) : OwnLk (X.tr (X.pn ++ p1) xe) G P := by
  cases O with
  | no a b => exact .no a b
  | blk a b c d => exact .blk a b c d
  | frm a b c d =>
    refine .frm a b c fun pins σ H s I m τ sl => ?_
    have J : Inv X (p1 ++ pins) σ H s := ⟨Cx.Ok.ofTry I.ok, I.os, I.bare, I.base, I.loc, I.cell, I.free, I.freeC, fun q hq => I.pin q (by rw [List.append_assoc]; exact hq), I.hok, I.len⟩
    exact d (p1 ++ pins) σ H s J m τ sl
theorem t_cvalG {Q : VK} {g : Tau → E (List Val)} (h : tE G W (fun τ => (ev P τ (.var i)).bind fun v => (ckF v).bind fun _ => (g τ).bind fun us => cvalE P τ v us) σ H Q) : ∃ j rs cs f, σ[i]? = some (some (.ref f)) ∧ G.clo j cs f H ∧ Cont G W [.clo j rs] [.ref f] (fun τ => (g τ).bind fun us => cvalE P τ (.clo j rs) us) (CQ G Q) σ H := by
  have h : tE G W (fun τ => (rdV τ i).bind fun v => (ckF v).bind fun _ => (g τ).bind fun us => cvalE P τ v us) σ H Q := by simpa only [ev, evv, dflt] using h
  have q := t_var (Cont.bindV (f := fun τ => rdV τ i) (g := fun τ v => (ckF v).bind fun _ => (g τ).bind fun us => cvalE P τ v us) h)
  obtain ⟨v, hv, y, q⟩ := q
  have ck : ckF y = E.pure () ∨ ckF y = E.bad := by cases y <;> first | exact .inl rfl | exact .inr rfl
  obtain ⟨e1, q⟩ := Cont.bindU (g := fun τ => (g τ).bind fun us => cvalE P τ y us) q ck
  have hy : ∃ j rs, y = .clo j rs := by
    cases y with
    | clo j rs => exact ⟨j, rs, rfl⟩
    | _ => have := congrFun e1 []; simp [ckF, E.bad, E.pure] at this
  obtain ⟨j, rs, rfl⟩ := hy
  obtain ⟨m, S, τ, s, sl, r, pp⟩ := q
  obtain ⟨w, ew, rw'⟩ := r.inv1
  simp only [List.nil_append, List.cons.injEq, and_true] at ew
  subst ew
  cases rw' with
  | clo hat hc => exact ⟨j, rs, _, _, hv, hc, m, S, τ, s, sl, .one (.clo hat hc), pp⟩
theorem jt_cval (hGc : ∀ k cs a H, G.clo k cs a H → CloG lamT k cs a H) (hL : ∀ j, LmQ X.prog X.w X.K X.mg X.base GI k j (P.lam j)) (hF : ∀ x, FvQ X.prog X.w X.K X.mg X.base GI k x (P.fn x)) (hG : GI (G.ow [])) (O : OwnLk X G P) (hr : Room k X.A) (hgd : X.A.guards = some [])
    (hN : X.N[i]? = some x) (hv : Vis X.env.scope x) (hd : (x == ("__debug__" : Str)) = false) (hcd : (x == ("__classdict__" : Str)) = false) (ha : ∀ p1 xe, PassesOwn (model X.prog X.w) X.A X.env xe → JA (X.tr (X.pn ++ p1) xe) G Wno P (e :: es) xs) (he : starEach (e :: es) X.env = (false, eval e X.env) :: starEach es X.env) (hpl : (backTo pos (starEach es X.env)).any (·.1) = false) :
    JTry X G P (.Call (.Name x p) (e :: es) [] pos) (.cval (.var i) xs) := by
  refine ⟨fun W p1 xe tk pw => ⟨fun pins s σ H Q I h => ?_⟩⟩
  obtain ⟨j, rs, cs, f, hs, hc, q⟩ := t_cvalG (g := fun τ => quietE (evAs P τ xs)) h
  refine wpAny_Call_Name_kw (thn ((pe_var (X := X.tr (X.pn ++ p1) xe) (pos := p) (i := i) hN hv hd hcd).run pins s σ H (fun v H1 => v = .ref f ∧ H1 = H) I ⟨.ref f, hs, rfl, rfl⟩) fun u s1 ⟨v, H1, I1, r1, q1⟩ => ?_)
  obtain ⟨ev', eH⟩ := q1
  subst ev'
  subst eH
  obtain rfl : u = Value.ref f := r1
  have q := ta_quiet (Cont.bindA (f := fun τ => quietE (evAs P τ xs)) (g := fun τ us => cvalE P τ (.clo j rs) us) q)
  refine PySem.W.callWith_F (fn_at I1 (hGc _ _ _ _ hc)) (thn ((ha p1 xe pw).run pos pins s1 σ _ _ I1 q) fun us s2 ⟨vs, H2, I2, r2, w⟩ => ?_) he hpl
  obtain ⟨ys, m, S, τ, sr, sl, r, pp⟩ := w
  cases r with
  | cons rv r =>
    cases rv with
    | clo hat hc2 =>
      refine ⟨fn_at I2 (hGc _ _ _ _ hc2), ?_⟩
      have z := call_own (g := goV P) (own_tr (p1 := p1) (xe := xe) O) I2 sr sl (.cons (.clo hat hc2) r) pp
      exact go_run (X := X.tr (X.pn ++ p1) xe) hL hF hG hr hgd (fun e s' c => tk e s' (XE.of_call I2 (fun _ _ _ y => y) c)) I2 r2 z
theorem jt_cval0 (hGc : ∀ k cs a H, G.clo k cs a H → CloG lamT k cs a H) (hL : ∀ j, LmQ X.prog X.w X.K X.mg X.base GI k j (P.lam j)) (hF : ∀ x, FvQ X.prog X.w X.K X.mg X.base GI k x (P.fn x)) (hG : GI (G.ow [])) (O : OwnLk X G P) (hr : Room k X.A) (hgd : X.A.guards = some [])
    (hN : X.N[i]? = some x) (hv : Vis X.env.scope x) (hd : (x == ("__debug__" : Str)) = false) (hcd : (x == ("__classdict__" : Str)) = false) : JTry X G P (.Call (.Name x p) [] [] pos) (.cval (.var i) []) := by
  refine ⟨fun W p1 xe tk pw => ⟨fun pins s σ H Q I h => ?_⟩⟩
  obtain ⟨j, rs, cs, f, hs, hc, q⟩ := t_cvalG (g := fun τ => quietE (evAs P τ [])) h
  refine wpAny_Call_Name_kw (thn ((pe_var (X := X.tr (X.pn ++ p1) xe) (pos := p) (i := i) hN hv hd hcd).run pins s σ H (fun v H1 => v = .ref f ∧ H1 = H) I ⟨.ref f, hs, rfl, rfl⟩) fun u s1 ⟨v, H1, I1, r1, q1⟩ => ?_)
  obtain ⟨ev', eH⟩ := q1
  subst ev'
  subst eH
  obtain rfl : u = Value.ref f := r1
  have q := Cont.bindA (f := fun τ => quietE (evAs P τ [])) (g := fun τ us => cvalE P τ (.clo j rs) us) q
  have q := t_nil (by simpa only [evAs] using ta_quiet q)
  obtain ⟨ys, m, S, τ, sr, sl, r, pp⟩ := q
  refine PySem.W.callWith_F0 (fn_at I1 (hGc _ _ _ _ hc)) ?_
  have z := call_own (g := goV P) (own_tr (p1 := p1) (xe := xe) O) I1 sr sl r pp
  exact go_run (X := X.tr (X.pn ++ p1) xe) (vs := []) (us := []) hL hF hG hr hgd (fun e s' c => tk e s' (XE.of_call I1 (fun _ _ _ y => y) c)) I1 .nil z
theorem jt_call {f : Addr} {fd : FuncData} {ps : List Str} (F : FnQ X.prog X.w X.K X.mg X.base GI k f fd ps (P.fn x)) (hG : GI (G.ow [])) (O : OwnLk X G P) (hr : Room k X.A) (hgd : X.A.guards = some []) (hg : Gl X x) (hm : X.mg x = some (.ref f)) (hk : PySem.W.keepIn X.K (.ref f) = true) (hb : Binds X.K fd ps [])
    (ha : ∀ p1 xe, PassesOwn (model X.prog X.w) X.A X.env xe → JA (X.tr (X.pn ++ p1) xe) G Wno P (e :: es) xs) (hl : xs.length = ps.length) (hdb : (x == ("__debug__" : Str)) = false) (he : starEach (e :: es) X.env = (false, eval e X.env) :: starEach es X.env) (hpl : (backTo pos (starEach es X.env)).any (·.1) = false) : JTry X G P (.Call (.Name x p) (e :: es) [] pos) (.call x xs) := by
  refine ⟨fun W p1 xe tk pw => ⟨fun pins s σ H Q I h => ?_⟩⟩
  refine wpAny_Call_Name_kw (ld_glob (X := X.tr (X.pn ++ p1) xe) I hg hm ?_ hdb)
  have q : tA G (fun cls d H' => W cls d σ H') (fun τ => quietE (evAs P τ xs)) σ H _ := Cont.bindA (f := fun τ => quietE (evAs P τ xs)) (g := fun τ us => callE P τ us (P.fn x)) h
  have q := ta_quiet q
  refine PySem.W.callWith_K (h₀ := X.base) I.ok.mod.kin hk (thn ((ha p1 xe pw).run pos pins s σ H _ I (t_len q)) fun us s1 ⟨vs, H1, I1, r, hv, w⟩ => ⟨I1.kIn, ?_⟩) he hpl
  obtain ⟨ys, m, S, τ, sr, sl, rr, pp⟩ := w
  simp only [List.nil_append] at rr
  have z := call_own (g := P.fn x) (own_tr (p1 := p1) (xe := xe) O) I1 sr sl rr pp
  have hy : ys.length = ps.length := by rw [← rr.length]; omega
  rw [hy] at z
  refine run_q (X := X.tr (X.pn ++ p1) xe) (args := ⟨us, []⟩) F hG hr hgd (fun e s' c => tk e s' (XE.of_call I1 (fun _ _ _ y => y) c)) I1 ?_ r z
  have zz := hb s1 us I1.kIn (by rw [List.append_nil, ← r.length]; omega)
  rw [List.append_nil] at zz
  exact zz
theorem jt_ife {t a b : Expr} {et ea eb : Ex} (hc : ∀ p1 xe, PassesOwn (model X.prog X.w) X.A X.env xe → JT (X.tr (X.pn ++ p1) xe) G Wno P t et) (h1 : JTry X G P a ea) (h2 : JTry X G P b eb) : JTry X G P (.IfExp t a b pos) (.ife et ea eb) := by
  refine ⟨fun W p1 xe tk pw => ⟨fun pins s σ H Q I h => ?_⟩⟩
  have q : tB G (fun cls d H' => W cls d σ H') (fun τ => quietE (evB P τ et)) σ H _ := Cont.bindB (f := fun τ => quietE (evB P τ et)) (g := fun τ k => if k then evT P τ ea else evT P τ eb) h
  have q := tb_quiet q
  refine (pe_ifExp (hc p1 xe pw) (h1.run W p1 xe tk pw) (h2.run W p1 xe tk pw)).run pins s σ H Q I ?_
  refine tB.mono (fun b H1 w => ?_) q
  cases b with
  | true => exact w
  | false => exact w
end
end TQ
/-! TQ13: what the check knows; its side conditions. -/
namespace TQ
open PySem L2 PyProof.Rows
structure Ck where
  N : List Str
  sc : Scope
  fnb : Str → Bool
  nomod : Str → Bool
  fns : Str → Option (List Str)
  kws : Str → List (List Str × Nat × List Nat)
  cs : Str → Bool
  cls : Str → Bool
  rs : Str → Bool
  cv : Bool
  exn : Str → Bool := fun _ => false
  lamOn : Bool := false
  qual : Str := ""
  lamB : Nat → LI → Bool := fun _ _ => false
def nostar : Expr → Bool
  | .Starred _ _ => false
  | _ => true
def baseOk : Expr → Bool
  | .Call _ _ _ _ => false
  | _ => true
def notSet : Expr → Bool
  | .Set _ _ _ => false
  | _ => true
def notSlice : Expr → Bool
  | .Slice _ _ _ _ => false
  | _ => true
def notName : Expr → Bool
  | .Name _ _ => false
  | _ => true
def notTuple : Expr → Bool
  | .Tuple _ _ _ => false
  | .List _ _ => false
  | _ => true
def notComp : Expr → Bool
  | .ListComp _ _ _ _ => false
  | .SetComp _ _ _ _ => false
  | .DictComp _ _ _ _ _ => false
  | _ => true
def plainTest : Expr → Bool
  | .UnaryOp .Not _ _ => false
  | .BoolOp _ _ _ => false
  | .IfExp _ _ _ _ => false
  | .Compare _ _ _ _ => false
  | _ => true
def okN (x : Str) : Bool := !(x == ("__debug__" : Str)) && !(x == ("__classdict__" : Str))
theorem okN_d {x : Str} (h : okN x = true) : (x == ("__debug__" : Str)) = false := by
  unfold okN at h; simp only [Bool.and_eq_true, Bool.not_eq_true'] at h; exact h.1
theorem okN_c {x : Str} (h : okN x = true) : (x == ("__classdict__" : Str)) = false := by
  unfold okN at h; simp only [Bool.and_eq_true, Bool.not_eq_true'] at h; exact h.2
theorem star_cons {e : Expr} (h : nostar e = true) (es : List Expr) (env : Env) : starEach (e :: es) env = (false, eval e env) :: starEach es env := by
  cases e <;> first | rfl | (simp [nostar] at h)
theorem star_any {pos : Pos} {env : Env} : ∀ {es : List Expr}, es.all nostar = true → (backTo pos (starEach es env)).any (·.1) = false
  | [], _ => rfl
  | e :: es, h => by
    simp only [List.all_cons, Bool.and_eq_true] at h
    rw [star_cons h.1]
    show (false || (backTo pos (starEach es env)).any (·.1)) = false
    rw [star_any h.2]; rfl
theorem star_all {pos : Pos} {env : Env} : ∀ {es : List Expr}, es.all nostar = true → (backTo pos (starEach es env)).all (fun x => !x.1) = true
  | [], _ => rfl
  | e :: es, h => by
    simp only [List.all_cons, Bool.and_eq_true] at h
    rw [star_cons h.1]
    show (!false && (backTo pos (starEach es env)).all (fun x => !x.1)) = true
    rw [star_all h.2]; rfl
theorem few_ok {pos : Pos} {env : Env} {es : List Expr} (h : es.all nostar = true) (hl : es.length < 30) : ((backTo pos (starEach es env)).all (fun x => !x.1) && (backToKw pos (keywordEach [] env)).all (fun x => x.1.isSome)
      && decide (es.length + ([] : List Keyword).length + (if ([] : List Keyword).isEmpty then 0 else 1) < 30)) = true := by
  rw [star_all h]
  simp [backToKw, keywordEach, hl]
theorem asg_cons {x : Expr} (h : nostar x = true) (xs : List Expr) (env : Env) : (assignEach (x :: xs) env) = (false, assign x env) :: assignEach xs env := by
  cases x <;> first | rfl | (simp [nostar] at h)
theorem asg_len (env : Env) : ∀ (xs : List Expr), xs.all nostar = true → (assignEach xs env).length = xs.length
  | [], _ => rfl
  | x :: xs, h => by
    simp only [List.all_cons, Bool.and_eq_true] at h
    rw [asg_cons h.1, List.length_cons, asg_len env xs h.2, List.length_cons]
theorem asg_find (env : Env) : ∀ (xs : List Expr), xs.all nostar = true → (assignEach xs env).findIdx? (·.1) = none
  | [], _ => rfl
  | x :: xs, h => by
    simp only [List.all_cons, Bool.and_eq_true] at h
    rw [asg_cons h.1, List.findIdx?_cons]
    simp [asg_find env xs h.2]
theorem base_ok {o : Expr} (h : baseOk o = true) (a : Str) (env : Env) (w : Sem Value) : attributeBase o a env w = w := by
  cases o <;> first | rfl | (simp [baseOk] at h)
theorem ix_ok {b : Expr} (h : notSlice b = true) : PlainIx b := fun o i => by
  cases b <;> first | rfl | (simp [notSlice] at h)
theorem mark_ok {b : Expr} (op : CmpOp) (h : notSet b = true) : behindInMarks op b = false := by
  cases b <;> first | rfl | (simp [notSet] at h)
theorem marks_ok {b c : Expr} (o1 o2 : CmpOp) (h : notSet c = true) : lastMarks [o1, o2] [b, c] = false := mark_ok o2 h
theorem fold_ok {e : Expr} (h : notSet e = true) (env : Env) (x : Value) : foldedSetIterable e env x = pure x := by
  cases e <;> first | rfl | (simp [notSet] at h)
theorem set_ok {i : Expr} (h : notSlice i = true) {o : Expr} {pos : Pos} {env : Env} (v : Value) : assign (.Subscript o i pos) env v = (do
      let ov ← holding [v] (eval o env)
      let iv ← holding [v, ov] (eval i env)
      standAt pos
      holding [v, ov, iv] (setItem ov iv v)
      release [v, ov, iv] []) := by
  cases i <;> first | rfl | (simp [notSlice] at h)
theorem test_ok {e : Expr} (h : plainTest e = true) (env : Env) (whole : Sem Value) : isTrue e env whole = (do let v ← whole; standAt e.pos; holding [v] (truthy v)) := by
  cases e with
  | UnaryOp op a p => cases op <;> first | rfl | (simp [plainTest] at h)
  | BoolOp _ _ _ => simp [plainTest] at h
  | IfExp _ _ _ _ => simp [plainTest] at h
  | Compare _ _ _ _ => simp [plainTest] at h
  | _ => rfl
theorem sw_nocomp {e : Expr} (h : notComp e = true) (t : Option Expr) (l : Nat) (env : Env) : swapsWith e t l env = pure false := by
  cases e <;> first | rfl | (simp [notComp] at h)
theorem sw_noname {e t : Expr} (h : notName t = true) (l : Nat) (env : Env) : swapsWith e (some t) l env = pure false := by
  cases e <;> cases t <;> first | rfl | (simp [notName] at h)
/-- does a comprehension's name swap? -/
def swB (sc scope : Scope) (t : Str) (l1 l2 : Nat) : Bool := decide (sc.kind = .function) && sc.names.lookup t == some .local && l1 == l2 && !(scope.names.any fun (n, k) => n == t && (k == .local || k == .cell))
theorem block_fn {env : Env} (h : env.scope.kind = .function) : env.blockKind = .function := by
  unfold Env.blockKind
  rw [h]; rfl
theorem sw_lc {elt : Expr} {gs : List Comprehension} {scope : Scope} {pos py : Pos} {y : Str} {l : Nat} {env : Env} (hk : env.scope.kind = .function) : swapsWith (.ListComp elt gs scope pos) (some (.Name y py)) l env = pure (swB env.scope scope y py.line pos.line) := by
  show (pure (env.blockKind == .function && env.kindOf y == some .local && py.line == pos.line && !(scope.names.any fun (n, k) => n == y && (k == .local || k == .cell))) : Sem Bool) = _
  rw [block_fn hk]
  unfold swB Env.kindOf
  rw [hk]
  rfl
/-- a, b = x, y: are the stores swapped? none: not told -/
def swT (sc : Scope) (ts vs : List Expr) : Option (Option (List Str)) :=
  if !(ts.length == 2 || ts.length == 3) || vs.length != ts.length then some none
  else if vs.any fun | .Starred .. => true | _ => false then some none
  else
    let line := (ts.head?.map (·.pos.line)).getD 0
    let names := ts.filterMap fun
      | .Name id pos => if sc.names.lookup id == some .local && pos.line == line then some id else none
      | _ => none
    if names.length != ts.length || names.eraseDups.length != names.length then some none
    else if vs.all (foldedForSure 8) then some none
    else if vs.all (constantsAlone 8) then none
    else some (some names)
theorem sw_stores {ts vs : List Expr} {kt k2 : Nat} {pt p2 : Pos} {env : Env} {r : Option (List Str)} (hk : env.scope.kind = .function) (h : swT env.scope ts vs = some r) : swappedStores [.Tuple ts kt pt] (.Tuple vs k2 p2) env = pure r := by
  unfold swT at h
  simp only [swappedStores, block_fn hk]
  have hb : (ScopeKind.function != ScopeKind.function) = false := rfl
  rw [hb, Bool.or_false]
  split at h
  · rename_i h1
    cases h
    exact if_pos h1
  · rename_i h1
    refine (if_neg h1).trans ?_
    split at h
    · rename_i h2
      cases h
      exact if_pos h2
    · rename_i h2
      refine (if_neg h2).trans ?_
      dsimp only at h
      split at h
      · rename_i h3
        cases h
        exact if_pos h3
      · rename_i h3
        refine (if_neg h3).trans ?_
        split at h
        · rename_i h4
          cases h
          exact if_pos h4
        · rename_i h4
          refine (if_neg h4).trans ?_
          split at h
          · cases h
          · rename_i h5
            cases h
            exact if_neg h5
theorem sw_none {tg x : Expr} {env : Env} (h : notTuple tg = true ∨ notTuple x = true) : swappedStores [tg] x env = pure none := by
  cases tg <;> cases x <;> first | rfl | (simp [notTuple] at h)
end TQ
/-! TQ14: the check of expressions, and that it tells the truth. -/
namespace TQ
open PySem L2 PyProof.Rows
/-- what holds in a context that the check knows by c -/
structure Good (GI : Gx → Prop) (X : Cx) (G : Gx) (W : XK) (P : Pr) (c : Ck) : Prop where
  is : IsCx X G P
  N : X.N = c.N
  nd : c.N.Nodup
  sc : X.env.scope = c.sc
  fn : X.fn = c.fnb
  calm : X.calm = true
  gd : X.A.guards = some []
  un : X.A.units + 65 < cLine
  nomod : ∀ x, c.nomod x = true → X.mg x = none
  ow : OwnLk X G P
  gi : GI (G.ow [])
  tk : Takes X (fun cls d _ H => W cls d H)
  mkx : ∀ x, c.rs x = true → ∃ C, MkBy X x C ∧ G.m x = some (.ref C)
  fo : FldOk X.K G
  clo : c.cv = true → ∃ (lamT : Nat → LI → Prop) (k : Nat), (∀ k cs a H, CloG lamT k cs a H ↔ G.clo k cs a H) ∧ (∀ j, LmQ X.prog X.w X.K X.mg X.base GI k j (P.lam j)) ∧ (∀ x, FvQ X.prog X.w X.K X.mg X.base GI k x (P.fn x)) ∧ Room k X.A
  lam : c.lamOn = true → ∃ (lamT : Nat → LI → Prop) (T : List (Addr × Str)) (cc Pt : Addr), (∀ k cs a H, CloG lamT k cs a H ↔ G.clo k cs a H) ∧ (∀ H, G.tab H ↔ LamX.Tabs T H) ∧ (∀ k L, c.lamB k L = true → lamT k L) ∧ LamX.TabB X.base X.mg cc Pt ∧ X.env.code = .ref cc ∧ c.qual = X.env.qual ∧
    (Pt, X.env.qual ++ "<lambda>") ∈ T ∧ (∀ p ∈ T, p.1 = Pt → p.2 = X.env.qual ++ "<lambda>") ∧ (∀ j n, P.own.lookup j = some n → ∃ x a, X.N[j]? = some x ∧ X.env.cells.lookup x = some a ∧ (n, a) ∈ G.own) ∧
    (∀ x, c.sc.names.lookup x = some .cell → ∃ a, X.env.cells.lookup x = some a)
  exn : ∀ x, c.exn x = true → X.ex = [] ∧ X.stack = X.env :: X.outer ∧ X.env.frame = some X.env.locals ∧ (∀ c' w a H, P.isE c' x = some true → ExcG G.m c' w a H → G.exc c' w a H) ∧ ∃ cv, X.mg x = some cv ∧ ∀ c', P.isE c' x = some true → ∀ C, G.m c' = some (.ref C) → PySem.W.exmOne X.K (.ref C) cv = some true
  pass : PassesOwn (model X.prog X.w) X.A X.env X.xe
  passes : Passes (L2.CX X.prog X.w) X W
  fns : ∀ x ps, c.fns x = some ps → ∃ k f fd, FnQ X.prog X.w X.K X.mg X.base GI k f fd ps (P.fn x) ∧ Room k X.A ∧ X.mg x = some (.ref f) ∧ PySem.W.keepIn X.K (.ref f) = true ∧ Binds X.K fd ps [] ∧ ∀ t ∈ c.kws x, KwB fd ps t.1 t.2.1 t.2.2 ∧ t.2.2.length = ps.length
  cs : ∀ x, c.cs x = true → ∃ val u v, P.cs x = some val ∧ X.mg x = some u ∧ L2.RelV v u ∧ ∀ H m, RV G H m val v
  cls : ∀ T, c.cls T = true → T ≠ "__debug__" ∧ ∃ v u, ClsN X.mg T v u
  kind : c.sc.kind = .function
/-- the check of an expression: as a value, as a test, as a test among and's, or's -/
structure Tri where
  v : Expr → Bool
  t : Expr → Bool
  w : Expr → Bool
def no : Expr → Bool := fun _ => false
/-- a value whose test is its truth -/
def tri (v : Expr → Bool) : Tri := ⟨v, fun x => plainTest x && v x, no⟩
abbrev EC := Ck → Tri
def gl (c : Ck) (x : Str) : Bool := c.sc.names.lookup x == some .globalImplicit
def vis (c : Ck) (x : Str) : Bool := c.sc.names.lookup x == some .local || c.sc.names.lookup x == some .cell || c.sc.names.lookup x == some .free
def loc (c : Ck) (x : Str) : Bool := c.sc.names.lookup x == some .local || c.sc.names.lookup x == some .cell
def Ck.blk (c : Ck) (scope : Scope) : Ck := { c with sc := relS scope c.sc, fnb := fun x => scope.names.lookup x == some .cell, rs := fun _ => false, lamOn := false, exn := fun _ => false }
def Ck.tr (c : Ck) : Ck := { c with rs := fun _ => false, exn := fun _ => false }
def cstEq : Cst → Const → Bool
  | .int i, .int j => decide (i = j)
  | .str i, .str j => decide (i = j)
  | .bl i, .bool j => decide (i = j)
  | .non, .none => true
  | _, _ => false
def vCst (k : Cst) (x : Expr) : Bool := match x with
  | .Constant d _ _ => cstEq k d
  | _ => false
def vVar (i : Nat) (c : Ck) (x : Expr) : Bool := match x with
  | .Name y _ => c.N[i]? == some y && vis c y && okN y
  | _ => false
def vGlb (g : Str) (c : Ck) (x : Expr) : Bool := match x with
  | .Name y _ => decide (g = y) && gl c y && c.cs y && okN y
  | _ => false
def vBin (o : Op2) (fa fb : Expr → Bool) (x : Expr) : Bool := match x with
  | .BinOp a op b _ => decide (op = opP o) && fa a && fb b
  | _ => false
def vNeg (fa : Expr → Bool) (x : Expr) : Bool := match x with
  | .UnaryOp .USub a _ => fa a
  | _ => false
def vNot (fa : Expr → Bool) (x : Expr) : Bool := match x with
  | .UnaryOp .Not a _ => fa a
  | _ => false
/-- the last one of and's: alone; else what is left goes to the tail -/
def vBool (op : BoolOp) (fa fb fbs : Expr → Bool) (x : Expr) : Bool := match x with
  | .BoolOp o (a :: b :: rest) pos => decide (o = op) && fa a && (match rest with
    | [] => fb b
    | r :: rs => fbs (.BoolOp o (b :: r :: rs) pos))
  | _ => false
def vIfe (fc fa fb : Expr → Bool) (x : Expr) : Bool := match x with
  | .IfExp c a b _ => fc c && fa a && fb b
  | _ => false
def vCmp (o : Cm) (fa fb : Expr → Bool) (x : Expr) : Bool := match x with
  | .Compare a [op] [b] _ => decide (op = cmP o) && fa a && fb b && notSet b
  | _ => false
def vChn (o1 o2 : Cm) (fa fb fc : Expr → Bool) (x : Expr) : Bool := match x with
  | .Compare a [p1, p2] [b, c] _ => decide (p1 = cmP o1) && decide (p2 = cmP o2) && fa a && fb b && fc c && notSet c
  | _ => false
def vLst (fs : List Expr → Bool) (x : Expr) : Bool := match x with
  | .List es _ => fs es
  | _ => false
def vTup (fs : List Expr → Bool) (x : Expr) : Bool := match x with
  | .Tuple es _ _ => fs es
  | _ => false
def vEdc (x : Expr) : Bool := match x with
  | .Dict [] [] _ => true
  | _ => false
def vCall (f : Str) (n : Nat) (fs : List Expr → Bool) (c : Ck) (x : Expr) : Bool := match x with
  | .Call (.Name g _) es [] _ => decide (f = g) && gl c f && okN f && fs es && es.all nostar && decide (es.length = n) && (match c.fns f with
    | some ps => ps.length == n
    | none => false)
  | _ => false
def kwOf : List Keyword → Option (List Str)
  | [] => some []
  | ⟨some n, _, _⟩ :: r => (kwOf r).map (n :: ·)
  | ⟨none, _, _⟩ :: _ => none
def vCallK (f : Str) (n : Nat) (q : List Nat) (fs : List Expr → Bool) (fk : List Keyword → Bool) (c : Ck) (x : Expr) : Bool := match x with
  | .Call (.Name g _) es kws _ => decide (f = g) && gl c f && okN f && fs es && es.all nostar && decide (es.length = n) && fk kws && (c.fns f).isSome && (match kwOf kws with
    | some ks => (c.kws f).contains (ks, n, q)
    | none => false)
  | _ => false
def vBif (f : Str) (fs : List Expr → Bool) (c : Ck) (x : Expr) : Bool := match x with
  | .Call (.Name g _) (e :: es) [] _ => decide (f = g) && decide (f ∈ biNames) && gl c f && c.nomod f && fs (e :: es) && (e :: es).all nostar
  | _ => false
def namesOk (c : Ck) : List Str → List Expr → Bool
  | [], [] => true
  | T :: Ts, .Name y _ :: es => decide (T = y) && gl c T && c.cls T && namesOk c Ts es
  | _, _ => false
def vIsi (Ts : List Str) (fa : Expr → Bool) (c : Ck) (x : Expr) : Bool := match x with
  | .Call (.Name g _) [a, t] [] _ => decide (g = "isinstance") && gl c g && c.nomod g && nostar a && fa a && (match t with
    | .Name T _ => decide (Ts = [T]) && gl c T && c.cls T
    | .Tuple es _ _ => namesOk c Ts es && decide (0 < Ts.length) && decide (Ts.length < 100)
    | _ => false)
  | _ => false
def mName (m : Str) : Str := if m = "popat" then "pop" else m
def vMth (m : Str) (n : Nat) (fo : Expr → Bool) (fs : List Expr → Bool) (x : Expr) : Bool := match x with
  | .Call (.Attribute o nm apos) es [] pos => decide (nm = mName m) && (apos.endLine == pos.line) && baseOk o && fo o && fs es && es.all nostar && decide (es.length < 30) &&
    (if m = "append" then decide (0 < es.length) else if m = "pop" then decide (n = 0) && decide (es.length = 0) else if m = "popat" then decide (n = 1) && decide (es.length = 1) else if m = "bit_length" then decide (n = 0) && decide (es.length = 0) else if m = "index" then decide (n = 1) && decide (es.length = 1) else if m = "count" then decide (n = 1) && decide (es.length = 1) else false)
  | _ => false
def vIx (fa fb : Expr → Bool) (x : Expr) : Bool := match x with
  | .Subscript a b _ => notSlice b && fa a && fb b
  | _ => false
def vSl (fa : Expr → Bool) (fl fu : Option Expr → Bool) (x : Expr) : Bool := match x with
  | .Subscript a (.Slice lo hi none _) _ => fa a && fl lo && fu hi
  | _ => false
/-! patterns, sources -/
mutual
def chkG (c : Ck) : Pat → Expr → Bool
  | .nm i, x => (match x with
    | .Name y _ => c.N[i]? == some y && loc c y && (c.fnb y || c.sc.names.lookup y == some .local)
    | _ => false)
  | .tup ps, x => (match x with
    | .Tuple es _ _ => es.all nostar && chkGs c ps es
    | _ => false)
def chkGs (c : Ck) : List Pat → List Expr → Bool
  | [], [] => true
  | p :: ps, e :: es => chkG c p e && chkGs c ps es
  | _, _ => false
end
def isTup : Expr → Bool
  | .Tuple _ _ _ => true
  | _ => false
/-- fs: the source's arguments -/
def chkI (c : Ck) (k : SrcK) (n : Nat) (fq : Expr → Bool) (fs : List Expr → Bool) (tg iter : Expr) : Bool := match k with
  | .seq => fq iter
  | .rng => (match iter with
    | .Call (.Name g _) [a] [] _ => decide (g = "range") && gl c g && c.nomod g && fs [a] && nostar a && decide (n = 1)
    | .Call (.Name g _) [a, b] [] _ => decide (g = "range") && gl c g && c.nomod g && fs [a, b] && nostar a && nostar b && decide (n = 2)
    | _ => false)
  | .enm => (match iter with
    | .Call (.Name g _) [a] [] _ => decide (g = "enumerate") && gl c g && c.nomod g && fs [a] && nostar a && isTup tg && decide (n = 1)
    | _ => false)
  | .zip => (match iter with
    | .Call (.Name g _) [a, b] [] _ => decide (g = "zip") && gl c g && c.nomod g && fs [a, b] && nostar a && nostar b && isTup tg && decide (n = 2)
    | _ => false)
  | .zips => false
def ownOf (N : List Str) (p : Pat) : List (Str × Nat) := p.slots.map fun i => ((N[i]?).getD "", i)
def blkB (c : Ck) (scope : Scope) (own : List (Str × Nat)) : Bool :=
  decide (scope.kind = .function) && scope.names.all (fun y => scope.names.lookup y.1 == some y.2) && own.all (fun p => c.N[p.2]? == some p.1) &&
  scope.names.all (fun y => !(y.2 == .free) || c.sc.names.lookup y.1 == some .cell || c.sc.names.lookup y.1 == some .free) &&
  scope.names.all (fun y => !(y.2 == .local || y.2 == .cell) || (own.map (·.1)).contains y.1 || !c.N.contains y.1)
/-- the tests of a comprehension: none, or one -/
def chkIfs (n : Nat) (ft : List Expr → Bool) (xs : List Expr) : Bool := ft xs && decide (xs.length = n) && decide (n ≤ 1)
def vLc (p : Pat) (k : SrcK) (n nif : Nat) (fq : Expr → Bool) (fs : List Expr → Bool) (fi : Ck → List Expr → Bool) (fe : Ck → Expr → Bool) (c : Ck) (x : Expr) : Bool := match x with
  | .ListComp elt [⟨tg, iter, xifs, a⟩] scope _ => decide (a = 0) && notSet iter && chkI c k n fq fs tg iter && blkB c scope (ownOf c.N p) && chkG (c.blk scope) p tg && chkIfs nif (fi (c.blk scope)) xifs && fe (c.blk scope) elt
  | _ => false
def vFld (f : Str) (fa : Expr → Bool) (x : Expr) : Bool := match x with
  | .Attribute a nm _ => decide (nm = f) && decide (f = sValue) && baseOk a && fa a
  | _ => false
def vCval (a : Ex) (n : Nat) (fs : List Expr → Bool) (c : Ck) (x : Expr) : Bool := match a, x with
  | .var i, .Call (.Name y _) es [] _ => c.cv && c.N[i]? == some y && vis c y && okN y && fs es && es.all nostar && decide (es.length = n)
  | _, _ => false
/-- the captured names, in the order of the closure -/
def cloNames : List (Str × NameKind) → List Str → List Str
  | [], acc => acc
  | (n, k) :: r, acc => if k == .free then cloNames r (n :: acc) else cloNames r acc
def liOf (c : Ck) (js : List Nat) (params : Arguments) (body : Expr) (scope : Scope) : LI := ⟨c.qual ++ "<lambda>", params, body, scope, params.args.map (·.arg), js.map fun j => c.N.getD j ""⟩
def noDef : Arguments → Bool
  | ⟨_, _, _, [], [], _, []⟩ => true
  | _ => false
def vLam (k : Nat) (js : List Nat) (c : Ck) (x : Expr) : Bool := match x with
  | .Lambda params body scope _ => c.lamOn && noDef params && c.lamB k (liOf c js params body scope) && decide (cloNames scope.names [] = js.map fun j => c.N.getD j "") && decide (js.map fun j => c.N.getD j "").Nodup && scope.names.all (fun y => !(y.2 == .free) || c.sc.names.lookup y.1 == some .cell)
  | _ => false
def vRgl (tp : Bool) (n : Nat) (fs : List Expr → Bool) (c : Ck) (x : Expr) : Bool := match x with
  | .Call (.Name T _) [.Call (.Name g _) [a] [] _] [] _ => decide (T = (if tp then "tuple" else "list")) && decide (g = "range") && gl c g && c.nomod g && gl c T && c.nomod T && fs [a] && nostar a && decide (n = 1)
  | .Call (.Name T _) [.Call (.Name g _) [a, b] [] _] [] _ => decide (T = (if tp then "tuple" else "list")) && decide (g = "range") && gl c g && c.nomod g && gl c T && c.nomod T && fs [a, b] && nostar a && nostar b && decide (n = 2)
  | _ => false
def vRev (fa : Expr → Bool) (x : Expr) : Bool := match x with
  | .Subscript a (.Slice none none (some (.UnaryOp .USub (.Constant (.int 1) _ _) _)) _) _ => fa a
  | _ => false
/-- an expression whose test is its truth -/
def dfB : Ex → Bool
  | .nt _ | .and _ _ | .or _ _ | .cmp _ _ _ | .chn _ _ _ _ _ => false
  | _ => true
mutual
def chkP : Ex → EC
  | .cst k, c => tri (vCst k)
  | .var i, c => tri (vVar i c)
  | .glb g, c => tri (vGlb g c)
  | .bin o a b, c => tri (vBin o (chkP a c).v (chkP b c).v)
  | .neg a, c => tri (vNeg (chkP a c).v)
  | .nt a, c => ⟨fun x => (isB a || dfB a) && vNot (chkP a c).v x, vNot (chkP a c).t, no⟩
  | .and a b, c => ⟨vBool .And (chkP a c).v (chkP b c).v (chkP b c).v, vBool .And (chkP a c).t (chkP b c).t (chkP b c).w, vBool .And (chkP a c).t (chkP b c).t (chkP b c).w⟩
  | .or a b, c => ⟨vBool .Or (chkP a c).v (chkP b c).v (chkP b c).v, vBool .Or (chkP a c).t (chkP b c).t (chkP b c).w, vBool .Or (chkP a c).t (chkP b c).t (chkP b c).w⟩
  | .ife k a b, c => tri (vIfe (chkP k c).t (chkP a c).v (chkP b c).v)
  | .cmp o a b, c => ⟨vCmp o (chkP a c).v (chkP b c).v, vCmp o (chkP a c).v (chkP b c).v, no⟩
  | .chn o1 o2 a b d, c => ⟨vChn o1 o2 (chkP a c).v (chkP b c).v (chkP d c).v, vChn o1 o2 (chkP a c).v (chkP b c).v (chkP d c).v, no⟩
  | .lst es, c => tri (vLst (chkA es c))
  | .tup es, c => tri (vTup (chkA es c))
  | .edc, _ => tri vEdc
  | .call f es, c => tri (vCall f es.length (chkA es c) c)
  | .callK f as bs q, c => tri (vCallK f as.length q (chkA as c) (chkK bs c) c)
  | .cval a es, c => tri (vCval a es.length (chkA es c) c)
  | .bif f es, c => tri (vBif f (chkA es c) c)
  | .isi a Ts, c => tri (vIsi Ts (chkP a c).v c)
  | .mth m o es, c => tri (vMth m es.length (chkP o c).v (chkA es c))
  | .fld a f, c => tri (vFld f (chkP a c).v)
  | .ix a i, c => tri (vIx (chkP a c).v (chkP i c).v)
  | .sl a lo hi, c => tri (vSl (chkP a c).v (chkO lo c) (chkO hi c))
  | .lam k js, c => tri (vLam k js c)
  | .rgl tp es, c => tri (vRgl tp es.length (chkV es c) c)
  | .rev a, c => tri (vRev (chkP a c).v)
  | .lc p k ss ifs e, c => tri (vLc p k ss.length ifs.length (chkQ ss c) (chkA ss c) (fun c' => chkL ifs c') (fun c' => (chkP e c').v) c)
def chkA : List Ex → Ck → List Expr → Bool
  | [], _, xs => (match xs with | [] => true | _ => false)
  | e :: es, c, xs => (match xs with | x :: xs => nostar x && (chkP e c).v x && chkA es c xs | [] => false)
def chkQ : List Ex → Ck → Expr → Bool
  | [], _, _ => false
  | e :: es, c, x => es.isEmpty && (chkP e c).v x
def chkL : List Ex → Ck → List Expr → Bool
  | [], _, xs => (match xs with | [] => true | _ => false)
  | e :: es, c, xs => (match xs with | x :: xs => (chkP e c).t x && chkL es c xs | [] => false)
def chkV : List Ex → Ck → List Expr → Bool
  | [], _, xs => (match xs with | [] => true | _ => false)
  | e :: es, c, xs => (match xs with | x :: xs => (chkP e c).v x && chkV es c xs | [] => false)
def chkK : List Ex → Ck → List Keyword → Bool
  | [], _, xs => (match xs with | [] => true | _ => false)
  | e :: es, c, xs => (match xs with | x :: xs => (chkP e c).v x.value && chkK es c xs | [] => false)
def chkO : Option Ex → Ck → Option Expr → Bool
  | none, _, x => x.isNone
  | some e, c, x => (match x with | some y => (chkP e c).v y | none => false)
end
end TQ
/-! TQ15: the check of expressions tells the truth. -/
namespace TQ
open PySem L2 PyProof.Rows
section
variable {GI : Gx → Prop}
def SV (GI : Gx → Prop) (e : Ex) (c : Ck) (f : Expr → Bool) : Prop := ∀ x, f x = true → ∀ {X : Cx} {G : Gx} {W : XK} {P : Pr}, Good GI X G W P c → JE X G W P x e
def ST (GI : Gx → Prop) (e : Ex) (c : Ck) (f : Expr → Bool) : Prop := ∀ x, f x = true → ∀ {X : Cx} {G : Gx} {W : XK} {P : Pr}, Good GI X G W P c → JT X G W P x e
def SW (GI : Gx → Prop) (e : Ex) (c : Ck) (f : Expr → Bool) : Prop := ∀ x, f x = true → ∀ {X : Cx} {G : Gx} {W : XK} {P : Pr}, Good GI X G W P c → JW X G W P x e
def SA (GI : Gx → Prop) (es : List Ex) (c : Ck) (f : List Expr → Bool) : Prop := ∀ xs, f xs = true → ∀ {X : Cx} {G : Gx} {W : XK} {P : Pr}, Good GI X G W P c → JA X G W P xs es
def SK (GI : Gx → Prop) (es : List Ex) (c : Ck) (f : List Keyword → Bool) : Prop := ∀ xs, f xs = true → xs.length = es.length ∧ ∀ {X : Cx} {G : Gx} {W : XK} {P : Pr}, Good GI X G W P c → JK X G W P xs es
def SO (GI : Gx → Prop) (e : Option Ex) (c : Ck) (f : Option Expr → Bool) : Prop := ∀ x, f x = true → ∀ {X : Cx} {G : Gx} {W : XK} {P : Pr}, Good GI X G W P c → JO X G W P x e
variable {X : Cx} {G : Gx} {W : XK} {P : Pr} {c : Ck}
theorem Good.gl (g : Good GI X G W P c) {x : Str} (h : gl c x = true) : Gl X x := by
  unfold TQ.gl at h
  show X.env.scope.names.lookup x = some .globalImplicit
  rw [g.sc]; simpa using h
theorem Good.vis (g : Good GI X G W P c) {x : Str} (h : vis c x = true) : Vis X.env.scope x := by
  unfold TQ.vis at h
  unfold Vis
  rw [g.sc]
  simp only [Bool.or_eq_true, beq_iff_eq] at h
  rcases h with (h | h) | h
  · exact .inl h
  · exact .inr (.inl h)
  · exact .inr (.inr h)
theorem Good.loc (g : Good GI X G W P c) {x : Str} (h : loc c x = true) : L2.Loc X.env.scope x := by
  unfold TQ.loc at h
  unfold L2.Loc
  rw [g.sc]
  simp only [Bool.or_eq_true, beq_iff_eq] at h
  exact h
theorem Good.slot (g : Good GI X G W P c) {i : Nat} {x : Str} (h : (c.N[i]? == some x) = true) : X.N[i]? = some x := by
  rw [g.N]; simpa using h
theorem Good.nodup (g : Good GI X G W P c) : X.N.Nodup := by rw [g.N]; exact g.nd
theorem dfB_ok {e : Ex} (h : dfB e = true) (P : Pr) (τ : Tau) : (evv P τ e).2 = (evv P τ e).1.bind truthE := by
  cases e <;> first | (simp [dfB] at h; done) | (simp only [evv, dflt])
theorem st_tri {e : Ex} {f : Expr → Bool} (hd : dfB e = true) (h : SV GI e c f) : ST GI e c (tri f).t := fun x hx X G W P g => by
  simp only [tri, Bool.and_eq_true] at hx
  exact j_truth g.is.K (fun τ => dfB_ok hd P τ) (h x hx.2 g) (test_ok hx.1 _)
theorem sw_no {e : Ex} : SW GI e c no := fun x hx => by simp [no] at hx
theorem sv_no {e : Ex} : SV GI e c no := fun x hx => by simp [no] at hx
theorem st_no {e : Ex} : ST GI e c no := fun x hx => by simp [no] at hx
theorem sv_cst (k : Cst) : SV GI (.cst k) c (vCst k) := fun x hx X G W P g => by
  unfold vCst at hx
  split at hx
  · unfold cstEq at hx
    split at hx
    · simp only [decide_eq_true_eq] at hx; subst hx; exact j_int
    · simp only [decide_eq_true_eq] at hx; subst hx; exact j_str
    · simp only [decide_eq_true_eq] at hx; subst hx; exact j_bl
    · exact j_non
    · cases hx
  · cases hx
theorem sv_var (i : Nat) : SV GI (.var i) c (vVar i c) := fun x hx X G W P g => by
  unfold vVar at hx
  split at hx
  · simp only [Bool.and_eq_true] at hx
    exact j_var (g.slot hx.1.1) (g.vis hx.1.2) (okN_d hx.2) (okN_c hx.2)
  · cases hx
theorem sv_glb (y : Str) : SV GI (.glb y) c (vGlb y c) := fun x hx X G W P g => by
  unfold vGlb at hx
  split at hx
  · simp only [Bool.and_eq_true, decide_eq_true_eq] at hx
    obtain ⟨⟨⟨rfl, h2⟩, h3⟩, h4⟩ := hx
    obtain ⟨val, u, v, q1, q2, q3, q4⟩ := g.cs _ h3
    exact j_glb q1 (g.gl h2) q2 q3 (fun H m => q4 H m) (okN_d h4)
  · cases hx
theorem sv_bin {o : Op2} {a b : Ex} {fa fb : Expr → Bool} (ha : SV GI a c fa) (hb : SV GI b c fb) : SV GI (.bin o a b) c (vBin o fa fb) := fun x hx X G W P g => by
  unfold vBin at hx
  split at hx
  · simp only [Bool.and_eq_true, decide_eq_true_eq] at hx
    obtain ⟨⟨rfl, h2⟩, h3⟩ := hx
    exact j_bin g.is.K (ha _ h2 g) (hb _ h3 g)
  · cases hx
theorem sv_neg {a : Ex} {fa : Expr → Bool} (ha : SV GI a c fa) : SV GI (.neg a) c (vNeg fa) := fun x hx X G W P g => by
  unfold vNeg at hx
  split at hx
  · exact j_neg (ha _ hx g)
  · cases hx
theorem sv_nt {a : Ex} {fa : Expr → Bool} (ha : SV GI a c fa) : SV GI (.nt a) c (fun x => (isB a || dfB a) && vNot fa x) := fun x hx X G W P g => by
  simp only [Bool.and_eq_true] at hx
  obtain ⟨h1, hx⟩ := hx
  unfold vNot at hx
  split at hx
  · simp only [Bool.or_eq_true] at h1
    rcases h1 with h1 | h1
    · exact j_not h1 (ha _ hx g)
    · exact j_notV g.is.K (fun τ => dfB_ok h1 P τ) (ha _ hx g)
  · cases hx
theorem st_nt {a : Ex} {fa : Expr → Bool} (ha : ST GI a c fa) : ST GI (.nt a) c (vNot fa) := fun x hx X G W P g => by
  unfold vNot at hx
  split at hx
  · exact j_notT (ha _ hx g)
  · cases hx
theorem sv_and {a b : Ex} {fa fb fbs : Expr → Bool} (ha : SV GI a c fa) (hb : SV GI b c fb) (hbs : SV GI b c fbs) : SV GI (.and a b) c (vBool .And fa fb fbs) := fun x hx X G W P g => by
  unfold vBool at hx
  split at hx
  · simp only [Bool.and_eq_true, decide_eq_true_eq] at hx
    obtain ⟨⟨rfl, h2⟩, h3⟩ := hx
    split at h3
    · exact j_and (ha _ h2 g) (j_and1 (hb _ h3 g))
    · exact j_and (ha _ h2 g) (hbs _ h3 g)
  · cases hx
theorem sv_or {a b : Ex} {fa fb fbs : Expr → Bool} (ha : SV GI a c fa) (hb : SV GI b c fb) (hbs : SV GI b c fbs) : SV GI (.or a b) c (vBool .Or fa fb fbs) := fun x hx X G W P g => by
  unfold vBool at hx
  split at hx
  · simp only [Bool.and_eq_true, decide_eq_true_eq] at hx
    obtain ⟨⟨rfl, h2⟩, h3⟩ := hx
    split at h3
    · exact j_or (ha _ h2 g) (j_or1 (hb _ h3 g))
    · exact j_or (ha _ h2 g) (hbs _ h3 g)
  · cases hx
theorem sw_and {a b : Ex} {fa fb fbs : Expr → Bool} (ha : ST GI a c fa) (hb : ST GI b c fb) (hbs : SW GI b c fbs) : SW GI (.and a b) c (vBool .And fa fb fbs) := fun x hx X G W P g => by
  unfold vBool at hx
  split at hx
  · simp only [Bool.and_eq_true, decide_eq_true_eq] at hx
    obtain ⟨⟨rfl, h2⟩, h3⟩ := hx
    split at h3
    · exact j_andW (ha _ h2 g) (j_and1W (hb _ h3 g))
    · exact j_andW (ha _ h2 g) (hbs _ h3 g)
  · cases hx
theorem sw_or {a b : Ex} {fa fb fbs : Expr → Bool} (ha : ST GI a c fa) (hb : ST GI b c fb) (hbs : SW GI b c fbs) : SW GI (.or a b) c (vBool .Or fa fb fbs) := fun x hx X G W P g => by
  unfold vBool at hx
  split at hx
  · simp only [Bool.and_eq_true, decide_eq_true_eq] at hx
    obtain ⟨⟨rfl, h2⟩, h3⟩ := hx
    split at h3
    · exact j_orW (ha _ h2 g) (j_or1W (hb _ h3 g))
    · exact j_orW (ha _ h2 g) (hbs _ h3 g)
  · cases hx
theorem SW.st {e : Ex} {f : Expr → Bool} (h : SW GI e c f) : ST GI e c f := fun x hx X G W P g => (h x hx g).pt
theorem sv_ife {k a b : Ex} {fc fa fb : Expr → Bool} (hc : ST GI k c fc) (ha : SV GI a c fa) (hb : SV GI b c fb) : SV GI (.ife k a b) c (vIfe fc fa fb) := fun x hx X G W P g => by
  unfold vIfe at hx
  split at hx
  · simp only [Bool.and_eq_true] at hx
    exact j_ife (hc _ hx.1.1 g) (ha _ hx.1.2 g) (hb _ hx.2 g)
  · cases hx
theorem sv_cmp {o : Cm} {a b : Ex} {fa fb : Expr → Bool} (ha : SV GI a c fa) (hb : SV GI b c fb) : SV GI (.cmp o a b) c (vCmp o fa fb) := fun x hx X G W P g => by
  unfold vCmp at hx
  split at hx
  · simp only [Bool.and_eq_true, decide_eq_true_eq] at hx
    obtain ⟨⟨⟨rfl, h2⟩, h3⟩, h4⟩ := hx
    exact j_cmp g.is.K g.un (ha _ h2 g) (hb _ h3 g) (mark_ok _ h4)
  · cases hx
theorem st_cmp {o : Cm} {a b : Ex} {fa fb : Expr → Bool} (ha : SV GI a c fa) (hb : SV GI b c fb) : ST GI (.cmp o a b) c (vCmp o fa fb) := fun x hx X G W P g => by
  unfold vCmp at hx
  split at hx
  · simp only [Bool.and_eq_true, decide_eq_true_eq] at hx
    obtain ⟨⟨⟨rfl, h2⟩, h3⟩, h4⟩ := hx
    exact j_cmpT g.is.K g.un (ha _ h2 g) (hb _ h3 g) (mark_ok _ h4)
  · cases hx
theorem sv_chn {o1 o2 : Cm} {a b d : Ex} {fa fb fd : Expr → Bool} (ha : SV GI a c fa) (hb : SV GI b c fb) (hd : SV GI d c fd) : SV GI (.chn o1 o2 a b d) c (vChn o1 o2 fa fb fd) := fun x hx X G W P g => by
  unfold vChn at hx
  split at hx
  · simp only [Bool.and_eq_true, decide_eq_true_eq] at hx
    obtain ⟨⟨⟨⟨⟨rfl, rfl⟩, h2⟩, h3⟩, h4⟩, h5⟩ := hx
    exact j_chn g.is.K g.un (ha _ h2 g) (hb _ h3 g) (hd _ h4 g) (marks_ok _ _ h5)
  · cases hx
theorem st_chn {o1 o2 : Cm} {a b d : Ex} {fa fb fd : Expr → Bool} (ha : SV GI a c fa) (hb : SV GI b c fb) (hd : SV GI d c fd) : ST GI (.chn o1 o2 a b d) c (vChn o1 o2 fa fb fd) := fun x hx X G W P g => by
  unfold vChn at hx
  split at hx
  · simp only [Bool.and_eq_true, decide_eq_true_eq] at hx
    obtain ⟨⟨⟨⟨⟨rfl, rfl⟩, h2⟩, h3⟩, h4⟩, h5⟩ := hx
    exact j_chnT g.is.K g.un (ha _ h2 g) (hb _ h3 g) (hd _ h4 g) (marks_ok _ _ h5)
  · cases hx
theorem sv_lst {es : List Ex} {fs : List Expr → Bool} (h : SA GI es c fs) : SV GI (.lst es) c (vLst fs) := fun x hx X G W P g => by
  unfold vLst at hx
  split at hx
  · exact j_lst (h _ hx g)
  · cases hx
theorem sv_tup {es : List Ex} {fs : List Expr → Bool} (h : SA GI es c fs) : SV GI (.tup es) c (vTup fs) := fun x hx X G W P g => by
  unfold vTup at hx
  split at hx
  · exact j_tup (h _ hx g)
  · cases hx
theorem sv_edc : SV GI .edc c vEdc := fun x hx X G W P g => by
  unfold vEdc at hx
  split at hx
  · exact j_edc
  · cases hx
theorem star_tail {e : Expr} {es : List Expr} (h : (e :: es).all nostar = true) : nostar e = true ∧ es.all nostar = true := by
  simpa only [List.all_cons, Bool.and_eq_true] using h
theorem sv_call {f : Str} {es : List Ex} {fs : List Expr → Bool} (h : SA GI es c fs) : SV GI (.call f es) c (vCall f es.length fs c) := fun x hx X G W P g => by
  unfold vCall at hx
  split at hx
  · rename_i y p xs pos
    simp only [Bool.and_eq_true, decide_eq_true_eq] at hx
    obtain ⟨⟨⟨⟨⟨⟨rfl, h2⟩, h3⟩, h4⟩, h5⟩, hn⟩, h6⟩ := hx
    split at h6
    · rename_i ps e
      obtain ⟨k, a, fd, F, hr, hm, hk, hb, _⟩ := g.fns _ ps e
      have hl : es.length = ps.length := by
        have : ps.length = es.length := by simpa using h6
        omega
      have hA := h _ h4 g
      cases xs with
      | nil =>
        cases es with
        | nil =>
          have : ps = [] := List.length_eq_zero_iff.mp hl.symm
          subst this
          exact j_call0 F g.gi g.ow hr g.gd (g.gl h2) hm hk hb g.passes (okN_d h3)
        | cons _ _ => simp at hn
      | cons x xs =>
        obtain ⟨s1, s2⟩ := star_tail h5
        exact j_call F g.gi g.ow hr g.gd (g.gl h2) hm hk hb g.passes hA hl (okN_d h3) (star_cons s1 _ _) (star_any s2)
    · cases h6
  · cases hx
theorem kw_all {env : Env} {pos : Pos} : ∀ {kws : List Keyword} {ks : List Str}, kwOf kws = some ks → (backToKw pos (keywordEach kws env)).all (·.1.isSome) = true ∧ (backToKw pos (keywordEach kws env)).filterMap (·.1) = ks ∧ (backToKw pos (keywordEach kws env)).any (·.1.isNone) = false ∧ kws.length = ks.length
  | [], ks, h => by simp [kwOf] at h; subst h; exact ⟨rfl, rfl, rfl, rfl⟩
  | ⟨some n, v, p⟩ :: r, ks, h => by
    simp only [kwOf, Option.map_eq_some_iff] at h
    obtain ⟨ks', h, rfl⟩ := h
    obtain ⟨h1, h2, h3, h4⟩ := kw_all (env := env) (pos := pos) h
    refine ⟨?_, ?_, ?_, by simp [h4]⟩
    · show (true && (backToKw pos (keywordEach r env)).all (·.1.isSome)) = true
      rw [h1]; rfl
    · show (n :: (backToKw pos (keywordEach r env)).filterMap (·.1)) = n :: ks'
      rw [h2]
    · show (false || (backToKw pos (keywordEach r env)).any (·.1.isNone)) = false
      rw [h3]; rfl
  | ⟨none, v, p⟩ :: r, ks, h => by simp [kwOf] at h
theorem sv_callK {f : Str} {as bs : List Ex} {q : List Nat} {fs : List Expr → Bool} {fk : List Keyword → Bool} (h : SA GI as c fs) (hk : SK GI bs c fk) : SV GI (.callK f as bs q) c (vCallK f as.length q fs fk c) := fun x hx X G W P g => by
  unfold vCallK at hx
  split at hx
  · rename_i y p xs kws pos
    simp only [Bool.and_eq_true, decide_eq_true_eq] at hx
    obtain ⟨⟨⟨⟨⟨⟨⟨⟨rfl, h2⟩, h3⟩, h4⟩, h5⟩, hn⟩, h6⟩, h7⟩, h8⟩ := hx
    obtain ⟨ps, e⟩ := Option.isSome_iff_exists.mp h7
    split at h8
    · rename_i ks eks
      obtain ⟨k, a, fd, F, hr, hm, hkp, hb, hkw⟩ := g.fns _ ps e
      have hin : (ks, as.length, q) ∈ c.kws f := by simpa using h8
      obtain ⟨hB, hq⟩ := hkw _ hin
      obtain ⟨w1, w2, w3, w4⟩ := kw_all (env := X.env) (pos := pos) eks
      obtain ⟨hkl, hJK⟩ := hk _ h6
      have hJK := hJK g
      have hbl : bs.length = ks.length := by omega
      have hA := h _ h4 g
      cases xs with
      | nil =>
        cases as with
        | nil => exact j_callK0 F g.gi g.ow hr g.gd (g.gl h2) hm hkp hq hB hbl g.passes hJK w1 w2 (okN_d h3) (by rw [w3]; rfl)
        | cons _ _ => simp at hn
      | cons x xs =>
        obtain ⟨s1, s2⟩ := star_tail h5
        exact j_callK F g.gi g.ow hr g.gd (g.gl h2) hm hkp hq hB hbl g.passes hA hJK w1 w2 (okN_d h3) (star_cons s1 _ _) (by rw [w3, star_any h5]; rfl)
    · cases h8
  · cases hx
theorem sv_bif {f : Str} {es : List Ex} {fs : List Expr → Bool} (h : SA GI es c fs) : SV GI (.bif f es) c (vBif f fs c) := fun x hx X G W P g => by
  unfold vBif at hx
  split at hx
  · simp only [Bool.and_eq_true, decide_eq_true_eq] at hx
    obtain ⟨⟨⟨⟨⟨rfl, h1⟩, h2⟩, h3⟩, h4⟩, h5⟩ := hx
    obtain ⟨s1, s2⟩ := star_tail h5
    exact j_bif h1 g.is.K g.calm g.gd g.un (g.gl h2) (g.nomod _ h3) (h _ h4 g) (star_cons s1 _ _) (star_any s2)
  · cases hx
theorem names_ok (g : Good GI X G W P c) : ∀ {Ts : List Str} {es : List Expr}, namesOk c Ts es = true → ∃ (cs : List V) (us : List Value), Paired (fun (T : Str) (p : V × Value) => ClsN X.mg T p.1 p.2) Ts (cs.zip us) ∧ cs.length = us.length ∧ cs.length = Ts.length ∧ Paired (fun (T : Str) (e : Expr) => (∃ q, e = .Name T q) ∧ Gl X T ∧ (T == ("__debug__" : Str)) = false) Ts es
  | [], [], _ => ⟨[], [], .nil, rfl, rfl, .nil⟩
  | [], _ :: _, h => by simp [namesOk] at h
  | T :: Ts, [], h => by simp [namesOk] at h
  | T :: Ts, e :: es, h => by
    unfold namesOk at h
    split at h
    · cases ‹_ :: _ = []›
    · rename_i e1 e2
      cases e1
      cases e2
      simp only [Bool.and_eq_true, decide_eq_true_eq] at h
      obtain ⟨⟨⟨rfl, h1⟩, h2⟩, h3⟩ := h
      obtain ⟨hd, v, u, hc⟩ := g.cls _ h2
      obtain ⟨cs, us, q1, q2, q3, q4⟩ := names_ok g h3
      exact ⟨v :: cs, u :: us, .cons hc q1, by simp [q2], by simp [q3], .cons ⟨⟨_, rfl⟩, g.gl h1, by simpa using hd⟩ q4⟩
    · cases h
theorem sv_isi {a : Ex} {Ts : List Str} {fa : Expr → Bool} (ha : SV GI a c fa) : SV GI (.isi a Ts) c (vIsi Ts fa c) := fun x hx X G W P g => by
  unfold vIsi at hx
  split at hx
  · simp only [Bool.and_eq_true, decide_eq_true_eq] at hx
    obtain ⟨⟨⟨⟨⟨rfl, h1⟩, h2⟩, h3⟩, h4⟩, h5⟩ := hx
    split at h5
    · simp only [Bool.and_eq_true, decide_eq_true_eq] at h5
      obtain ⟨⟨rfl, h6⟩, h7⟩ := h5
      obtain ⟨hd, v, u, hc⟩ := g.cls _ h7
      exact j_isi1 g.is hc (g.gl h1) (g.nomod _ h2) (g.gl h6) (by simpa using hd) (ha _ h4 g) (star_cons h3 _ _)
    · simp only [Bool.and_eq_true, decide_eq_true_eq] at h5
      obtain ⟨⟨h6, h7⟩, h8⟩ := h5
      obtain ⟨cs, us, q1, q2, q3, q4⟩ := names_ok g h6
      exact j_isiT g.is q1 q2 (by intro z; rw [z] at h7; simp at h7) (by rw [sizeLine_eq]; omega) q4 (g.gl h1) (g.nomod _ h2) (ha _ h4 g) (star_cons h3 _ _)
    · cases h5
  · cases hx
theorem sv_mth {m : Str} {o : Ex} {es : List Ex} {fo : Expr → Bool} {fs : List Expr → Bool} (ho : SV GI o c fo) (h : SA GI es c fs) : SV GI (.mth m o es) c (vMth m es.length fo fs) := fun x hx X G W P g => by
  unfold vMth at hx
  split at hx
  · rename_i xo nm apos xs pos
    simp only [Bool.and_eq_true, decide_eq_true_eq] at hx
    obtain ⟨⟨⟨⟨⟨⟨⟨rfl, h1⟩, h2⟩, h3⟩, h4⟩, h5⟩, h6⟩, h7⟩ := hx
    have hO := ho _ h3 g
    have hA := h _ h4 g
    split at h7
    · rename_i e; subst e
      simp only [decide_eq_true_eq] at h7
      cases xs with
      | nil => simp at h7
      | cons x xs =>
        obtain ⟨s1, s2⟩ := star_tail h5
        exact j_append g.is.K hO hA (base_ok h2 _ _ _) (few_ok h5 h6) h1 (star_cons s1 _ _) (star_any s2)
    · split at h7
      · rename_i e; subst e
        simp only [Bool.and_eq_true, decide_eq_true_eq] at h7
        obtain ⟨e1, e2⟩ := h7
        have : es = [] := List.length_eq_zero_iff.mp e1
        subst this
        have : xs = [] := List.length_eq_zero_iff.mp e2
        subst this
        exact j_pop0 g.is.K hO (base_ok h2 _ _ _) h1
      · split at h7
        · rename_i e; subst e
          simp only [Bool.and_eq_true, decide_eq_true_eq] at h7
          obtain ⟨e1, e2⟩ := h7
          obtain ⟨y, rfl⟩ := List.length_eq_one_iff.mp e1
          obtain ⟨z, rfl⟩ := List.length_eq_one_iff.mp e2
          obtain ⟨s1, s2⟩ := star_tail h5
          exact j_pop1 g.is.K hO hA (base_ok h2 _ _ _) (few_ok h5 h6) h1 (star_cons s1 _ _) (star_any s2)
        · split at h7
          · rename_i e; subst e
            simp only [Bool.and_eq_true, decide_eq_true_eq] at h7
            obtain ⟨e1, e2⟩ := h7
            have : es = [] := List.length_eq_zero_iff.mp e1
            subst this
            have : xs = [] := List.length_eq_zero_iff.mp e2
            subst this
            exact j_bits hO (base_ok h2 _ _ _) h1
          · split at h7
            · rename_i e; subst e
              simp only [Bool.and_eq_true, decide_eq_true_eq] at h7
              obtain ⟨e1, e2⟩ := h7
              obtain ⟨y, rfl⟩ := List.length_eq_one_iff.mp e1
              obtain ⟨z, rfl⟩ := List.length_eq_one_iff.mp e2
              obtain ⟨s1, s2⟩ := star_tail h5
              exact j_meth1 (m := "index") (by simp) PySem.F.slot_list_index PySem.F.type_list_index (mt_indexD g.un) (fun k S H o ys v vs Q s ro r p => by rw [g.is.K]; exact m_index k S H o ys v vs Q s ro r p) g.is.K hO hA (base_ok h2 _ _ _) (few_ok h5 h6) h1 (star_cons s1 _ _) (star_any s2)
            · split at h7
              · rename_i e; subst e
                simp only [Bool.and_eq_true, decide_eq_true_eq] at h7
                obtain ⟨e1, e2⟩ := h7
                obtain ⟨y, rfl⟩ := List.length_eq_one_iff.mp e1
                obtain ⟨z, rfl⟩ := List.length_eq_one_iff.mp e2
                obtain ⟨s1, s2⟩ := star_tail h5
                exact j_meth1 (m := "count") (by simp) PySem.F.slot_list_count PySem.F.type_list_count mt_lcount (fun k S H o ys v vs Q s ro r p => by rw [g.is.K]; exact m_count k S H o ys v vs Q s ro r p) g.is.K hO hA (base_ok h2 _ _ _) (few_ok h5 h6) h1 (star_cons s1 _ _) (star_any s2)
              · cases h7
  · cases hx
theorem sv_ix {a i : Ex} {fa fi : Expr → Bool} (ha : SV GI a c fa) (hi : SV GI i c fi) : SV GI (.ix a i) c (vIx fa fi) := fun x hx X G W P g => by
  unfold vIx at hx
  split at hx
  · simp only [Bool.and_eq_true] at hx
    exact j_ix g.is.K (ha _ hx.1.2 g) (hi _ hx.2 g) (ix_ok hx.1.1)
  · cases hx
theorem sv_sl {a : Ex} {lo hi : Option Ex} {fa : Expr → Bool} {fl fu : Option Expr → Bool} (ha : SV GI a c fa) (hl : SO GI lo c fl) (hu : SO GI hi c fu) : SV GI (.sl a lo hi) c (vSl fa fl fu) := fun x hx X G W P g => by
  unfold vSl at hx
  split at hx
  · simp only [Bool.and_eq_true] at hx
    exact j_sl g.is.K (ha _ hx.1.1 g) (hl _ hx.1.2 g) (hu _ hx.2 g)
  · cases hx
theorem len2 {α : Type} {l : List α} (h : l.length = 2) : ∃ a b, l = [a, b] := by
  match l, h with
  | [a, b], _ => exact ⟨a, b, rfl⟩
def SVs (GI : Gx → Prop) (es : List Ex) (c : Ck) (f : List Expr → Bool) : Prop := ∀ xs, f xs = true → ∀ {X : Cx} {G : Gx} {W : XK} {P : Pr}, Good GI X G W P c → Paired (fun (e : Ex) (x : Expr) => JE X G W P x e) es xs
theorem sv_rgl {tp : Bool} {es : List Ex} {fs : List Expr → Bool} (h : SVs GI es c fs) : SV GI (.rgl tp es) c (vRgl tp es.length fs c) := fun x hx X G W P g => by
  unfold vRgl at hx
  split at hx
  · simp only [Bool.and_eq_true, decide_eq_true_eq] at hx
    obtain ⟨⟨⟨⟨⟨⟨⟨⟨rfl, rfl⟩, h1⟩, h2⟩, h3⟩, h4⟩, h5⟩, h6⟩, h7⟩ := hx
    obtain ⟨e, rfl⟩ := List.length_eq_one_iff.mp h7
    cases h _ h5 g with
    | cons j1 _ => cases tp with
      | true => exact j_rgl1 (tp := true) g.calm (g.gl h3) (g.nomod _ h4) (g.gl h1) (g.nomod _ h2) j1 (star_cons h6 _ _)
      | false => exact j_rgl1 (tp := false) g.calm (g.gl h3) (g.nomod _ h4) (g.gl h1) (g.nomod _ h2) j1 (star_cons h6 _ _)
  · simp only [Bool.and_eq_true, decide_eq_true_eq] at hx
    obtain ⟨⟨⟨⟨⟨⟨⟨⟨⟨rfl, rfl⟩, h1⟩, h2⟩, h3⟩, h4⟩, h5⟩, h6⟩, h8⟩, h7⟩ := hx
    obtain ⟨e, f, rfl⟩ := len2 h7
    cases h _ h5 g with
    | cons j1 t => cases t with
      | cons j2 _ => cases tp with
        | true => exact j_rgl2 (tp := true) g.calm (g.gl h3) (g.nomod _ h4) (g.gl h1) (g.nomod _ h2) j1 j2 (star_cons h6 _ _) (star_cons h8 _ _) (star_any (by simp [h8]))
        | false => exact j_rgl2 (tp := false) g.calm (g.gl h3) (g.nomod _ h4) (g.gl h1) (g.nomod _ h2) j1 j2 (star_cons h6 _ _) (star_cons h8 _ _) (star_any (by simp [h8]))
  · cases hx
theorem sv_rev {a : Ex} {fa : Expr → Bool} (ha : SV GI a c fa) : SV GI (.rev a) c (vRev fa) := fun x hx X G W P g => by
  unfold vRev at hx
  split at hx
  · exact j_rev g.is.K (ha _ hx g)
  · cases hx
theorem sv_fld {a : Ex} {f : Str} {fa : Expr → Bool} (ha : SV GI a c fa) : SV GI (.fld a f) c (vFld f fa) := fun x hx X G W P g => by
  unfold vFld at hx
  split at hx
  · simp only [Bool.and_eq_true, decide_eq_true_eq] at hx
    obtain ⟨⟨⟨rfl, rfl⟩, h1⟩, h2⟩ := hx
    exact j_fld g.is.K g.fo (ha _ h2 g) (base_ok h1 _ _ _)
  · cases hx
theorem sv_cval {a : Ex} {es : List Ex} {fs : List Expr → Bool} (h : SA GI es c fs) : SV GI (.cval a es) c (vCval a es.length fs c) := fun x hx X G W P g => by
  unfold vCval at hx
  split at hx
  · rename_i i y p xs pos
    simp only [Bool.and_eq_true, decide_eq_true_eq] at hx
    obtain ⟨⟨⟨⟨⟨⟨h1, h2⟩, h3⟩, h4⟩, h5⟩, h6⟩, h7⟩ := hx
    obtain ⟨lamT, k, q1, q2, q3, q4⟩ := g.clo h1
    have hA := h _ h5 g
    cases xs with
    | nil =>
      have : es = [] := List.length_eq_zero_iff.mp h7.symm
      subst this
      exact j_cval0 (fun k cs a H z => (q1 k cs a H).mpr z) q2 q3 g.gi g.ow q4 g.gd g.passes (g.slot h2) (g.vis h3) (okN_d h4) (okN_c h4)
    | cons e xs =>
      obtain ⟨s1, s2⟩ := star_tail h6
      exact j_cval (fun k cs a H z => (q1 k cs a H).mpr z) q2 q3 g.gi g.ow q4 g.gd g.passes (g.slot h2) (g.vis h3) (okN_d h4) (okN_c h4) hA (star_cons s1 _ _) (star_any s2)
  · cases hx
theorem clo_names {cells : List (Str × Addr)} : ∀ {names : List (Str × NameKind)} {acc : List Str}, cloFrom cells names (acc.map fun n => (n, (cells.lookup n).getD 0)) = (cloNames names acc).map fun n => (n, (cells.lookup n).getD 0)
  | [], acc => rfl
  | (n, k) :: r, acc => by
    unfold cloFrom cloNames
    split
    · exact clo_names (names := r) (acc := n :: acc)
    · exact clo_names
theorem zip_self {α β : Type} (f : α → β) : ∀ l : List α, l.zip (l.map f) = l.map fun n => (n, f n)
  | [] => rfl
  | x :: l => by simp only [List.map_cons, List.zip_cons_cons, zip_self f l]
theorem sv_lam (k : Nat) (js : List Nat) : SV GI (.lam k js) c (vLam k js c) := fun x hx X G W P g => by
  unfold vLam at hx
  split at hx
  · rename_i params body scope pos
    simp only [Bool.and_eq_true, decide_eq_true_eq] at hx
    obtain ⟨⟨⟨⟨⟨h1, h2⟩, h3⟩, h4⟩, h5⟩, h6⟩ := hx
    obtain ⟨lamT, T, cc, Pt, q1, q2, q3, q4, q5, q6, q7, q8, q9, q11⟩ := g.lam h1
    have free : ∀ y ∈ scope.names, y.2 = .free → ∃ c, X.env.cells.lookup y.1 = some c := fun y hy e => by
      have z := List.all_eq_true.mp h6 y hy
      simp only [Bool.or_eq_true, Bool.not_eq_true', beq_iff_eq, beq_eq_false_iff_ne] at z
      rcases z with z | z
      · exact absurd e z
      · exact q11 _ z
    have hclo : cloFrom X.env.cells scope.names [] = (js.map fun j => c.N.getD j "").zip ((js.map fun j => c.N.getD j "").map fun n => (X.env.cells.lookup n).getD 0) := by
      rw [zip_self, ← h4]
      exact clo_names (acc := [])
    have key : ∀ {l : List Nat} {rs : List Nat}, mapO (fun j => P.own.lookup j) l = some rs → rs.length = l.length ∧ (∀ j ∈ l, ∃ x a, X.N[j]? = some x ∧ X.env.cells.lookup x = some a) ∧ ∀ p ∈ rs.zip ((l.map fun j => c.N.getD j "").map fun n => (X.env.cells.lookup n).getD 0), p ∈ G.own := by
      intro l
      induction l with
      | nil => intro rs h; simp [mapO] at h; subst h; exact ⟨rfl, by simp, by simp⟩
      | cons j l ih =>
        intro rs h
        obtain ⟨y, r', rfl, e1, e2⟩ := mapO_cons h
        obtain ⟨k1, k2, k3⟩ := ih e2
        obtain ⟨x, a, w1, w2, w3⟩ := q9 j y e1
        refine ⟨by simp [k1], fun i hi => ?_, fun p hp => ?_⟩
        · rcases List.mem_cons.mp hi with rfl | hi
          · exact ⟨x, a, w1, w2⟩
          · exact k2 i hi
        · simp only [List.map_cons, List.zip_cons_cons, List.mem_cons] at hp
          rcases hp with rfl | hp
          · have : c.N.getD j "" = x := by rw [List.getD_eq_getElem?_getD, ← g.N, w1]; rfl
            rw [this, w2]
            exact w3
          · exact k3 p hp
    refine j_lam (L := liOf c js params body scope) (T := T) (c := cc) (Pt := Pt) (lamT := lamT) (fun k cs a H z => (q1 k cs a H).mp z) q2 (q3 _ _ h3) q4 q5 (by show c.qual ++ _ = _; rw [q6]) (by show (Pt, c.qual ++ _) ∈ T; rw [q6]; exact q7) (fun p hp e => by show _ = c.qual ++ _; rw [q6]; exact q8 p hp e) ?_ free ?_
    · show defaultsOf params X.env = ([], [])
      unfold noDef at h2
      split at h2
      · rfl
      · cases h2
    · intro q10 rs hrs
      obtain ⟨k1, k2, k3⟩ := key hrs
      refine ⟨(js.map fun j => c.N.getD j "").map fun n => (X.env.cells.lookup n).getD 0, hclo, by show _ = (js.map fun j => c.N.getD j "").length; simp, ?_, by simp [k1], k3⟩
      refine List.pairwise_map.mpr (List.Pairwise.imp_of_mem ?_ h5)
      intro n n' hn hn' hne hq
      obtain ⟨j, hj, rfl⟩ := List.mem_map.mp hn
      obtain ⟨j', hj', rfl⟩ := List.mem_map.mp hn'
      obtain ⟨x, a, w1, w2⟩ := k2 j hj
      obtain ⟨x', a', w1', w2'⟩ := k2 j' hj'
      have e1 : c.N.getD j "" = x := by rw [List.getD_eq_getElem?_getD, ← g.N, w1]; rfl
      have e2 : c.N.getD j' "" = x' := by rw [List.getD_eq_getElem?_getD, ← g.N, w1']; rfl
      rw [e1, e2] at hne
      rw [e1, e2, w2, w2'] at hq
      simp only [Option.getD_some] at hq
      subst hq
      exact hne (q10 _ _ _ w2 w2')
  · cases hx
end
end TQ
/-! TQ16: patterns, sources, comprehensions; the check of expressions as a whole. -/
namespace TQ
open PySem L2 PyProof.Rows
section
variable {GI : Gx → Prop} {X : Cx} {G : Gx} {W : XK} {P : Pr} {c : Ck}
mutual
theorem chkG_ok (g : Good GI X G W P c) : ∀ {p : Pat} {x : Expr}, chkG c p x = true → JG X G x p
  | .nm i, x, h => by
    unfold chkG at h
    split at h
    · simp only [Bool.and_eq_true, Bool.or_eq_true] at h
      refine jg_name g.nodup (g.slot h.1.1) (g.loc h.1.2) ?_
      rcases h.2 with z | z
      · exact .inl (by rw [g.fn]; exact z)
      · exact .inr (by rw [g.sc]; simpa using z)
    · cases h
  | .tup ps, x, h => by
    unfold chkG at h
    split at h
    · simp only [Bool.and_eq_true] at h
      obtain ⟨h1, h2⟩ := chkGs_ok g h.2 h.1
      exact jg_tup g.is.K g.calm h1 (by rw [asg_len _ _ h.1, h2]) (asg_find _ _ h.1)
    · cases h
theorem chkGs_ok (g : Good GI X G W P c) : ∀ {ps : List Pat} {xs : List Expr}, chkGs c ps xs = true → xs.all nostar = true → JGs X G xs ps ∧ xs.length = ps.length
  | [], [], _, _ => ⟨jgs_nil, rfl⟩
  | [], _ :: _, h, _ => by simp [chkGs] at h
  | _ :: _, [], h, _ => by simp [chkGs] at h
  | p :: ps, x :: xs, h, hs => by
    simp only [chkGs, Bool.and_eq_true] at h
    obtain ⟨s1, s2⟩ := star_tail hs
    obtain ⟨h1, h2⟩ := chkGs_ok g h.2 s2
    refine ⟨jgs_cons (chkG_ok g h.1) h1 ?_, by simp [h2]⟩
    rw [asg_cons s1]; rfl
end
def SQ (GI : Gx → Prop) (es : List Ex) (c : Ck) (f : Expr → Bool) : Prop := ∀ x, f x = true → ∃ e, es = [e] ∧ ∀ {X : Cx} {G : Gx} {W : XK} {P : Pr}, Good GI X G W P c → JE X G W P x e
theorem chkI_ok (g : Good GI X G W P c) {k : SrcK} {ss : List Ex} {fq : Expr → Bool} {fs : List Expr → Bool} {tg iter : Expr} (hq : SQ GI ss c fq) (hs : SA GI ss c fs) (h : chkI c k ss.length fq fs tg iter = true) : JI X G W P tg iter k ss := by
  unfold chkI at h
  split at h
  · obtain ⟨e, rfl, hj⟩ := hq _ h
    exact ji_seq g.is.K (hj g)
  · split at h
    · simp only [Bool.and_eq_true, decide_eq_true_eq] at h
      obtain ⟨⟨⟨⟨⟨rfl, h1⟩, h2⟩, h3⟩, h4⟩, h5⟩ := h
      obtain ⟨e, rfl⟩ := List.length_eq_one_iff.mp h5
      exact ji_rng1 (hs _ h3 g) (g.gl h1) (g.nomod _ h2) (star_cons h4 _ _)
    · simp only [Bool.and_eq_true, decide_eq_true_eq] at h
      obtain ⟨⟨⟨⟨⟨⟨rfl, h1⟩, h2⟩, h3⟩, h4⟩, h5⟩, h6⟩ := h
      obtain ⟨e, f, rfl⟩ := len2 h6
      refine ji_rng2 (hs _ h3 g) (g.gl h1) (g.nomod _ h2) ?_ (star_cons h5 _ _)
      rw [star_cons h4, star_cons h5]; rfl
    · cases h
  · split at h
    · simp only [Bool.and_eq_true, decide_eq_true_eq] at h
      obtain ⟨⟨⟨⟨⟨⟨rfl, h1⟩, h2⟩, h3⟩, h4⟩, h5⟩, h6⟩ := h
      obtain ⟨e, rfl⟩ := List.length_eq_one_iff.mp h6
      unfold isTup at h5
      split at h5
      · exact ji_enm g.is.K (hs _ h3 g) (g.gl h1) (g.nomod _ h2) (star_cons h4 _ _)
      · cases h5
    · cases h
  · split at h
    · simp only [Bool.and_eq_true, decide_eq_true_eq] at h
      obtain ⟨⟨⟨⟨⟨⟨⟨rfl, h1⟩, h2⟩, h3⟩, h4⟩, h5⟩, h6⟩, h7⟩ := h
      obtain ⟨e, f, rfl⟩ := len2 h7
      unfold isTup at h6
      split at h6
      · exact ji_zip g.is.K (hs _ h3 g) (g.gl h1) (g.nomod _ h2) (star_cons h4 _ _) (star_any (by simp [h5]))
      · cases h6
    · cases h
  · cases h
theorem blkB_ok (g : Good GI X G W P c) {scope : Scope} {own : List (Str × Nat)} (h : blkB c scope own = true) : BlkOk X.N X.env.scope scope own := by
  unfold blkB at h
  simp only [Bool.and_eq_true, decide_eq_true_eq, List.all_eq_true, Bool.or_eq_true, Bool.not_eq_true', beq_iff_eq, beq_eq_false_iff_ne, Bool.or_eq_false_iff] at h
  obtain ⟨⟨⟨⟨h1, h2⟩, h3⟩, h4⟩, h5⟩ := h
  refine ⟨h1, h2, fun p hp => by rw [g.N]; exact h3 p hp, fun y hy e => ?_, fun y hy e => ?_⟩
  · rw [g.sc]
    rcases h4 y hy with (z | z) | z
    · exact absurd e z
    · exact .inl z
    · exact .inr z
  · rcases h5 y hy with (z | z) | z
    · rcases e with e | e
      · exact absurd e z.1
      · exact absurd e z.2
    · exact .inl (by simpa using z)
    · right
      rw [g.N]
      simpa using z
/-- in a comprehension's block -/
theorem Good.blk (g : Good GI X G W P c) {scope : Scope} (hk : scope.kind = .function) (s : Shared) (H : Hp) (C : Addr) (cl : List (Str × Addr)) (fp : List Addr) : Good GI (X.blk s H scope (compEnvC scope cl C X.env) fp) G W0 P.inn (c.blk scope) where
  is := ⟨g.is.K, g.is.m, g.is.is, g.is.pl, g.is.ex, g.is.look⟩
  N := g.N
  nd := g.nd
  sc := by
    show relS scope X.env.scope = relS scope c.sc
    rw [g.sc]
  fn := rfl
  calm := g.calm
  gd := g.gd
  un := g.un
  nomod := g.nomod
  ow := by
    cases g.ow with
    | no h1 h2 => exact .no h1 h2
    | blk h1 h2 hA hB => exact .blk rfl h2 hA hB
    | frm h1 hA hB hO =>
      by_cases h : P.own = []
      · refine .no h ?_
        cases e : G.own with
        | nil => rfl
        | cons p r =>
          have := hA p.1 p.2 (by rw [e]; simp)
          rw [h] at this
          simp at this
      · exact .blk rfl h hA hB
  gi := g.gi
  tk := fun u s' x => by
    obtain ⟨_, _, _, _, _, _, _, _, _, _, _, _, _, _, _, _, z⟩ := x
    exact z.elim
  mkx := fun x hx => by cases hx
  fo := g.fo
  clo := g.clo
  lam := fun h => by cases h
  exn := fun x h => by cases h
  pass := PassesOwn.never
  passes := fun pins σ H s e s' I cx => by
    obtain ⟨_, _, _, _, _, _, _, _, _, _, _, _, z⟩ := cx
    exact z.elim
  fns := g.fns
  cs := g.cs
  cls := g.cls
  kind := hk
theorem jifs {ifs : List Ex} {ft : List Expr → Bool} {xs : List Expr} {n : Nat} (g : Good GI X G W P c) (hn : ifs.length = n) (hf : ∀ xs, ft xs = true → xs.length = ifs.length → Paired (fun (e : Ex) (x : Expr) => JT X G W P x e) ifs xs) (h : chkIfs n ft xs = true) : PTs X xs (tB G W fun τ => evIf P τ ifs) := by
  unfold chkIfs at h
  simp only [Bool.and_eq_true, decide_eq_true_eq] at h
  obtain ⟨⟨h1, h2⟩, h3⟩ := h
  have hp := hf xs h1 (by omega)
  cases hp with
  | nil =>
    refine ⟨fun pins s σ H Q I hw => pts_nil.run pins s σ H Q I ?_⟩
    obtain ⟨m, S, τ, sr, sl, r, p⟩ := hw
    exact p m H sr (Ext.ref m H)
  | cons j t =>
    cases t with
    | nil =>
      refine ⟨fun pins s σ H Q I hw => (pts_one j).run pins s σ H Q I ?_⟩
      refine Eq.mp ?_ hw
      congr 1
      funext τ
      simp only [evIf]
      show ((evv P τ _).2.bind fun b => if b then E.pure true else E.pure false) = _
      have : (fun b : Bool => if b then (E.pure true : E Bool) else E.pure false) = E.pure := by funext b; cases b <;> rfl
      rw [this, bind_pure]
    | cons j2 t2 =>
      exfalso
      subst hn
      exact absurd h3 (by simp)
theorem sv_lc {p : Pat} {k : SrcK} {ss ifs : List Ex} {e : Ex} {fq : Expr → Bool} {fs : List Expr → Bool} {fi : Ck → List Expr → Bool} {fe : Ck → Expr → Bool} (hq : SQ GI ss c fq) (hs : SA GI ss c fs) (hi : ∀ c', ∀ xs, fi c' xs = true → xs.length = ifs.length → ∀ {X : Cx} {G : Gx} {W : XK} {P : Pr}, Good GI X G W P c' → Paired (fun (e : Ex) (x : Expr) => JT X G W P x e) ifs xs) (he : ∀ c', SV GI e c' (fe c')) :
    SV GI (.lc p k ss ifs e) c (vLc p k ss.length ifs.length fq fs fi fe c) := fun x hx X G W P g => by
  unfold vLc at hx
  split at hx
  · rename_i elt tg iter xifs a scope pos
    simp only [Bool.and_eq_true, decide_eq_true_eq] at hx
    obtain ⟨⟨⟨⟨⟨⟨rfl, h1⟩, h2⟩, h3⟩, h4⟩, h5⟩, h6⟩ := hx
    have bo := blkB_ok g h3
    have ho : (ownOf c.N p).map (·.2) = p.slots := by
      unfold ownOf
      rw [List.map_map]
      exact List.map_id _
    exact j_lc g.calm g.nodup (chkI_ok g hq hs h2) bo ho (fun s H C cl fp => chkG_ok (g.blk bo.kind s H C cl fp) h4)
      (fun s H C cl fp => jifs (g.blk bo.kind s H C cl fp) rfl (fun xs q ql => hi _ xs q ql (g.blk bo.kind s H C cl fp)) h5)
      (fun s H C cl fp => he _ _ h6 (g.blk bo.kind s H C cl fp)) (fold_ok h1 _)
  · cases hx
mutual
theorem chkP_ok : ∀ (e : Ex) (c : Ck), SV GI e c (chkP e c).v ∧ ST GI e c (chkP e c).t ∧ SW GI e c (chkP e c).w
  | .cst k, c => ⟨sv_cst k, st_tri rfl (sv_cst k), sw_no⟩
  | .var i, c => ⟨sv_var i, st_tri rfl (sv_var i), sw_no⟩
  | .glb y, c => ⟨sv_glb y, st_tri rfl (sv_glb y), sw_no⟩
  | .bin o a b, c => by
    have h := sv_bin (o := o) (chkP_ok a c).1 (chkP_ok b c).1
    exact ⟨h, st_tri rfl h, sw_no⟩
  | .neg a, c => by
    have h := sv_neg (chkP_ok a c).1
    exact ⟨h, st_tri rfl h, sw_no⟩
  | .nt a, c => ⟨sv_nt (chkP_ok a c).1, st_nt (chkP_ok a c).2.1, sw_no⟩
  | .and a b, c => by
    have h1 := chkP_ok a c
    have h2 := chkP_ok b c
    have hw := sw_and h1.2.1 h2.2.1 h2.2.2
    exact ⟨sv_and h1.1 h2.1 h2.1, hw.st, hw⟩
  | .or a b, c => by
    have h1 := chkP_ok a c
    have h2 := chkP_ok b c
    have hw := sw_or h1.2.1 h2.2.1 h2.2.2
    exact ⟨sv_or h1.1 h2.1 h2.1, hw.st, hw⟩
  | .ife k a b, c => by
    have h := sv_ife (chkP_ok k c).2.1 (chkP_ok a c).1 (chkP_ok b c).1
    exact ⟨h, st_tri rfl h, sw_no⟩
  | .cmp o a b, c => ⟨sv_cmp (chkP_ok a c).1 (chkP_ok b c).1, st_cmp (chkP_ok a c).1 (chkP_ok b c).1, sw_no⟩
  | .chn o1 o2 a b d, c => ⟨sv_chn (chkP_ok a c).1 (chkP_ok b c).1 (chkP_ok d c).1, st_chn (chkP_ok a c).1 (chkP_ok b c).1 (chkP_ok d c).1, sw_no⟩
  | .lst es, c => by
    have h := sv_lst (chkA_ok es c)
    exact ⟨h, st_tri rfl h, sw_no⟩
  | .tup es, c => by
    have h := sv_tup (chkA_ok es c)
    exact ⟨h, st_tri rfl h, sw_no⟩
  | .edc, c => ⟨sv_edc, st_tri rfl sv_edc, sw_no⟩
  | .call f es, c => by
    have h := sv_call (f := f) (chkA_ok es c)
    exact ⟨h, st_tri rfl h, sw_no⟩
  | .callK f as bs q, c => by
    have h := sv_callK (f := f) (q := q) (chkA_ok as c) (chkK_ok bs c)
    exact ⟨h, st_tri rfl h, sw_no⟩
  | .cval a es, c => by
    have h := sv_cval (a := a) (chkA_ok es c)
    exact ⟨h, st_tri rfl h, sw_no⟩
  | .bif f es, c => by
    have h := sv_bif (f := f) (chkA_ok es c)
    exact ⟨h, st_tri rfl h, sw_no⟩
  | .isi a Ts, c => by
    have h := sv_isi (Ts := Ts) (chkP_ok a c).1
    exact ⟨h, st_tri rfl h, sw_no⟩
  | .mth m o es, c => by
    have h := sv_mth (m := m) (chkP_ok o c).1 (chkA_ok es c)
    exact ⟨h, st_tri rfl h, sw_no⟩
  | .fld a f, c => by
    have h := sv_fld (f := f) (chkP_ok a c).1
    exact ⟨h, st_tri rfl h, sw_no⟩
  | .ix a i, c => by
    have h := sv_ix (chkP_ok a c).1 (chkP_ok i c).1
    exact ⟨h, st_tri rfl h, sw_no⟩
  | .sl a lo hi, c => by
    have h := sv_sl (chkP_ok a c).1 (chkO_ok lo c) (chkO_ok hi c)
    exact ⟨h, st_tri rfl h, sw_no⟩
  | .lam k js, c => ⟨sv_lam k js, st_tri rfl (sv_lam k js), sw_no⟩
  | .rgl tp es, c => by
    have h := sv_rgl (tp := tp) (chkV_ok es c)
    exact ⟨h, st_tri rfl h, sw_no⟩
  | .rev a, c => by
    have h := sv_rev (chkP_ok a c).1
    exact ⟨h, st_tri rfl h, sw_no⟩
  | .lc p k ss ifs e, c => by
    have h := sv_lc (p := p) (k := k) (c := c) (chkQ_ok ss c) (chkA_ok ss c) (fun c' xs q ql => chkL_ok ifs c' xs q) (fun c' => (chkP_ok e c').1)
    exact ⟨h, st_tri rfl h, sw_no⟩
theorem chkA_ok : ∀ (es : List Ex) (c : Ck), SA GI es c (chkA es c)
  | [], c => fun xs h X G W P g => by
    unfold chkA at h
    split at h
    · exact ja_nil
    · cases h
  | e :: es, c => fun xs h X G W P g => by
    unfold chkA at h
    split at h
    · simp only [Bool.and_eq_true] at h
      exact ja_cons ((chkP_ok e c).1 _ h.1.2 g) (chkA_ok es c _ h.2 g) (star_cons h.1.1 _ _)
    · cases h
theorem chkQ_ok : ∀ (es : List Ex) (c : Ck), SQ GI es c (chkQ es c)
  | [], c => fun x h => by simp [chkQ] at h
  | e :: es, c => fun x h => by
    simp only [chkQ, Bool.and_eq_true, List.isEmpty_iff] at h
    obtain ⟨rfl, h⟩ := h
    exact ⟨e, rfl, fun g => (chkP_ok e c).1 _ h g⟩
theorem chkL_ok : ∀ (es : List Ex) (c : Ck), ∀ xs, chkL es c xs = true → ∀ {X : Cx} {G : Gx} {W : XK} {P : Pr}, Good GI X G W P c → Paired (fun (e : Ex) (x : Expr) => JT X G W P x e) es xs
  | [], c => fun xs h X G W P g => by
    unfold chkL at h
    split at h
    · exact .nil
    · cases h
  | e :: es, c => fun xs h X G W P g => by
    unfold chkL at h
    split at h
    · simp only [Bool.and_eq_true] at h
      exact .cons ((chkP_ok e c).2.1 _ h.1 g) (chkL_ok es c _ h.2 g)
    · cases h
theorem chkV_ok : ∀ (es : List Ex) (c : Ck), SVs GI es c (chkV es c)
  | [], c => fun xs h X G W P g => by
    unfold chkV at h
    split at h
    · exact .nil
    · cases h
  | e :: es, c => fun xs h X G W P g => by
    unfold chkV at h
    split at h
    · simp only [Bool.and_eq_true] at h
      exact .cons ((chkP_ok e c).1 _ h.1 g) (chkV_ok es c _ h.2 g)
    · cases h
theorem chkK_ok : ∀ (es : List Ex) (c : Ck), SK GI es c (chkK es c)
  | [], c => fun xs h => by
    unfold chkK at h
    split at h
    · exact ⟨rfl, fun _ => jk_nil⟩
    · cases h
  | e :: es, c => fun xs h => by
    unfold chkK at h
    split at h
    · rename_i x xs
      simp only [Bool.and_eq_true] at h
      obtain ⟨h1, h2⟩ := chkK_ok es c _ h.2
      refine ⟨by simp [h1], fun g => ?_⟩
      obtain ⟨nm, v, p⟩ := x
      exact jk_cons ((chkP_ok e c).1 _ h.1 g) (h2 g)
    · cases h
theorem chkO_ok : ∀ (e : Option Ex) (c : Ck), SO GI e c (chkO e c)
  | none, c => fun x h X G W P g => by
    unfold chkO at h
    have : x = none := by simpa using h
    subst this
    exact jo_none
  | some e, c => fun x h X G W P g => by
    unfold chkO at h
    split at h
    · exact jo_some ((chkP_ok e c).1 _ h g)
    · cases h
end
/-- in a try's body, what raises nothing -/
theorem Good.tr (g : Good GI X G W P c) (p1 : List (Addr × Obj)) (xe : Value → Shared → Prop) (hp : PassesOwn (model X.prog X.w) X.A X.env xe) : Good GI (X.tr (X.pn ++ p1) xe) G Wno P c.tr where
  is := ⟨g.is.K, g.is.m, g.is.is, g.is.pl, g.is.ex, g.is.look⟩
  N := g.N
  nd := g.nd
  sc := g.sc
  fn := g.fn
  calm := g.calm
  gd := g.gd
  un := g.un
  nomod := g.nomod
  ow := own_tr g.ow
  gi := g.gi
  tk := fun u s' x => by
    obtain ⟨_, _, _, _, _, _, _, _, _, _, _, _, _, _, _, _, z⟩ := x
    exact z.elim
  mkx := fun x hx => by cases hx
  fo := g.fo
  clo := g.clo
  lam := g.lam
  exn := fun x h => by cases h
  pass := hp
  passes := fun pins σ H s e s' I cx => by
    obtain ⟨_, _, _, _, _, _, _, _, _, _, _, _, z⟩ := cx
    exact z.elim
  fns := g.fns
  cs := g.cs
  cls := g.cls
  kind := g.kind
/-- a try's call -/
def chkT (c : Ck) : Ex → Expr → Bool
  | .cval f es, x => vCval f es.length (chkA es c.tr) c x
  | .call f es, x => decide (0 < es.length) && vCall f es.length (chkA es c.tr) c x
  | .ife k a b, x => (match x with
    | .IfExp t y z _ => (chkP k c.tr).t t && chkT c a y && chkT c b z
    | _ => false)
  | _, _ => false
theorem chkT_ok (g : Good GI X G W P c) : ∀ (e : Ex) (x : Expr), chkT c e x = true → JTry X G P x e
  | .cval a es, x, hx => by
    unfold chkT vCval at hx
    split at hx
    · rename_i i y p xs pos
      simp only [Bool.and_eq_true, decide_eq_true_eq] at hx
      obtain ⟨⟨⟨⟨⟨⟨h1, h2⟩, h3⟩, h4⟩, h5⟩, h6⟩, h7⟩ := hx
      obtain ⟨lamT, k, q1, q2, q3, q4⟩ := g.clo h1
      cases xs with
      | nil =>
        have : es = [] := List.length_eq_zero_iff.mp h7.symm
        subst this
        exact jt_cval0 (fun k cs a H z => (q1 k cs a H).mpr z) q2 q3 g.gi g.ow q4 g.gd (g.slot h2) (g.vis h3) (okN_d h4) (okN_c h4)
      | cons e xs =>
        obtain ⟨s1, s2⟩ := star_tail h6
        exact jt_cval (fun k cs a H z => (q1 k cs a H).mpr z) q2 q3 g.gi g.ow q4 g.gd (g.slot h2) (g.vis h3) (okN_d h4) (okN_c h4) (fun p1 xe hp => chkA_ok es c.tr _ h5 (g.tr p1 xe hp)) (star_cons s1 _ _) (star_any s2)
    · cases hx
  | .call f es, x, hx => by
    unfold chkT vCall at hx
    simp only [Bool.and_eq_true, decide_eq_true_eq] at hx
    obtain ⟨h0, hx⟩ := hx
    split at hx
    · rename_i y p xs pos
      simp only [Bool.and_eq_true, decide_eq_true_eq] at hx
      obtain ⟨⟨⟨⟨⟨⟨rfl, h2⟩, h3⟩, h4⟩, h5⟩, hn⟩, h6⟩ := hx
      split at h6
      · rename_i ps e
        obtain ⟨k, a, fd, F, hr, hm, hk, hb, _⟩ := g.fns _ ps e
        have hl : es.length = ps.length := by
          have : ps.length = es.length := by simpa using h6
          omega
        cases xs with
        | nil => simp at hn; omega
        | cons x xs =>
          obtain ⟨s1, s2⟩ := star_tail h5
          exact jt_call F g.gi g.ow hr g.gd (g.gl h2) hm hk hb (fun p1 xe hp => chkA_ok es c.tr _ h4 (g.tr p1 xe hp)) hl (okN_d h3) (star_cons s1 _ _) (star_any s2)
      · cases h6
    · cases hx
  | .ife k a b, x, hx => by
    unfold chkT at hx
    split at hx
    · simp only [Bool.and_eq_true] at hx
      exact jt_ife (fun p1 xe hp => (chkP_ok k c.tr).2.1 _ hx.1.1 (g.tr p1 xe hp)) (chkT_ok g a _ hx.1.2) (chkT_ok g b _ hx.2)
    · cases hx
end
end TQ
/-! TQ17: the check of statements. -/
namespace TQ
open PySem L2 PyProof.Rows
/-- name = [..] where the comprehension's own store is used -/
def sSwap (p : Pat) (c : Ck) (tg x : Expr) (l : Nat) : Bool := match p, tg, x with
  | .nm i, .Name y py, .ListComp _ _ scope xp => swB c.sc scope y py.line xp.line && c.N[i]? == some y && c.sc.names.lookup y == some .local
  | _, _, _ => false
/-- .. where it is a store like any other -/
def sPlain (c : Ck) (tg x : Expr) : Bool := match tg, x with
  | .Name y py, .ListComp _ _ scope xp => !swB c.sc scope y py.line xp.line
  | tg, x => notComp x || notName tg
def tupOf : Expr → Option (List Expr)
  | .Tuple es _ _ => some es
  | _ => none
def sNoTup (c : Ck) (tg x : Expr) : Bool := notTuple tg || notTuple x || (match tg, x with
  | .Tuple ts _ _, .Tuple vs _ _ => swT c.sc ts vs == some none
  | _, _ => false)
def isLc : Ex → Bool
  | .lc _ _ _ _ _ => true
  | _ => false
def sAsg (p : Pat) (e : Ex) (f : Expr → Bool) (c : Ck) (x : Stmt) : Bool := match x with
  | .Assign [tg] v pos => nostar tg && f v && chkG c p tg && ((sPlain c tg v && sNoTup c tg v) || (isLc e && sSwap p c tg v pos.line))
  | _ => false
def sPar (i j : Nat) (fs : List Expr → Bool) (c : Ck) (x : Stmt) : Bool := match x with
  | .Assign [.Tuple [.Name y py, .Name z pz] _ _] (.Tuple [a, b] _ _) _ => c.N[i]? == some y && c.N[j]? == some z && i != j && c.sc.names.lookup y == some .local && c.sc.names.lookup z == some .local && fs [a, b] && (swT c.sc [.Name y py, .Name z pz] [a, b] == some (some [y, z]))
  | _ => false
def sPar3 (i j l : Nat) (fs : List Expr → Bool) (c : Ck) (x : Stmt) : Bool := match x with
  | .Assign [.Tuple [.Name y py, .Name z pz, .Name w pw] _ _] (.Tuple [a, b, d] _ _) _ => c.N[i]? == some y && c.N[j]? == some z && c.N[l]? == some w && i != j && i != l && j != l && c.sc.names.lookup y == some .local && c.sc.names.lookup z == some .local && c.sc.names.lookup w == some .local && fs [a, b, d] && (swT c.sc [.Name y py, .Name z pz, .Name w pw] [a, b, d] == some (some [y, z, w]))
  | _ => false
def sSetI (fo fj fv : Expr → Bool) (x : Stmt) : Bool := match x with
  | .Assign [.Subscript o j _] v _ => fo o && fj j && fv v && notSlice j
  | _ => false
def sEx (f : Expr → Bool) (x : Stmt) : Bool := match x with
  | .Expr e _ => f e && notComp e
  | _ => false
def sRet (f : Expr → Bool) (x : Stmt) : Bool := match x with
  | .Return (some e) _ => f e
  | _ => false
def sRetN (x : Stmt) : Bool := match x with
  | .Return none _ => true
  | _ => false
def sIfe (fc : Expr → Bool) (fa fb : List Stmt → Bool) (x : Stmt) : Bool := match x with
  | .If c a b _ => fc c && fa a && fb b
  | _ => false
def sFr (p : Pat) (k : SrcK) (n : Nat) (fq : Expr → Bool) (fs : List Expr → Bool) (fb : List Stmt → Bool) (c : Ck) (x : Stmt) : Bool := match x with
  | .For tg iter b [] _ => notSet iter && chkI c k n fq fs tg iter && chkG c p tg && fb b
  | _ => false
def sWhl (fc : Expr → Bool) (fb : List Stmt → Bool) (x : Stmt) : Bool := match x with
  | .While c b [] _ => fc c && fb b
  | _ => false
def sRse (cc : Str) (f : Expr → Bool) (c : Ck) (x : Stmt) : Bool := match x with
  | .Raise (some (.Call (.Name y _) [e] [] _)) none _ => decide (y = cc) && gl c y && c.rs y && f e && nostar e
  | _ => false
def sTry (f : Expr → Bool) (cc : Str) (i j : Nat) (c : Ck) (x : Stmt) : Bool := match x with
  | .Try [.Expr e _] [.ExceptHandler (some (.Name y _)) (some n) [.Assign [.Name v _] (.Name n' _) _] _] [] [] _ => f e && notComp e && decide (y = cc) && gl c y && c.exn y && !(y == ("__debug__" : Str)) && decide (n' = n) && okN n && decide (i ≠ j) && c.N[i]? == some v && c.N[j]? == some n && c.sc.names.lookup n == some .local && loc c v && (c.fnb v || c.sc.names.lookup v == some .local)
  | _ => false
def sPass : Stmt → Bool
  | .Pass _ => true
  | _ => false
def sBrk : Stmt → Bool
  | .Break _ => true
  | _ => false
def sCnt : Stmt → Bool
  | .Continue _ => true
  | _ => false
mutual
def chkS (c : Ck) : Sm → Stmt → Bool
  | .asg p e => sAsg p e (chkP e c).v c
  | .par i j a b => sPar i j (chkA [a, b] c) c
  | .par3 i j l a b d => sPar3 i j l (chkA [a, b, d] c) c
  | .aug _ _ _ => fun _ => false
  | .setI o j e => sSetI (chkP o c).v (chkP j c).v (chkP e c).v
  | .ex e => sEx (chkP e c).v
  | .ret e => sRet (chkP e c).v
  | .retN => sRetN
  | .ife k a b => sIfe (chkP k c).t (chkSs c a) (chkSs c b)
  | .fr p k ss b => sFr p k ss.length (chkQ ss c) (chkA ss c) (chkSs c b) c
  | .whl _ k b => sWhl (chkP k c).t (chkSs c b)
  | .rse cc e => sRse cc (chkP e c).v c
  | .tryc e cc i j => sTry (chkT c e) cc i j c
  | .pass => sPass
  | .brk => sBrk
  | .cnt => sCnt
def chkSs (c : Ck) : List Sm → List Stmt → Bool
  | [], xs => (match xs with | [] => true | _ => false)
  | s :: r, xs => (match xs with | x :: xs => chkS c s x && chkSs c r xs | [] => false)
end
section
variable {GI : Gx → Prop} {X : Cx} {G : Gx} {W : XK} {P : Pr} {c : Ck}
def SS (GI : Gx → Prop) (s : Sm) (c : Ck) (f : Stmt → Bool) : Prop := ∀ x, f x = true → ∀ {X : Cx} {G : Gx} {W : XK} {P : Pr}, Good GI X G W P c → JS X G W P x s
def SSs (GI : Gx → Prop) (s : List Sm) (c : Ck) (f : List Stmt → Bool) : Prop := ∀ x, f x = true → ∀ {X : Cx} {G : Gx} {W : XK} {P : Pr}, Good GI X G W P c → JSs X G W P x s
theorem sole {tg x : Expr} {l : Nat} {env : Env} : swapsWithSole [tg] x l env = swapsWith x (some tg) l env := rfl
theorem plain_ok (g : Good GI X G W P c) {tg x : Expr} (h : sPlain c tg x = true) (l : Nat) : swapsWithSole [tg] x l X.env = pure false := by
  rw [sole]
  unfold sPlain at h
  split at h
  · rw [sw_lc (by rw [g.sc]; exact g.kind), g.sc]
    simp only [Bool.not_eq_true'] at h
    rw [h]
  · simp only [Bool.or_eq_true] at h
    rcases h with h | h
    · exact sw_nocomp h _ _ _
    · exact sw_noname h _ _
theorem notup_ok (g : Good GI X G W P c) {tg x : Expr} (h : sNoTup c tg x = true) : swappedStores [tg] x X.env = pure none := by
  unfold sNoTup at h
  simp only [Bool.or_eq_true] at h
  rcases h with (h | h) | h
  · exact sw_none (.inl h)
  · exact sw_none (.inr h)
  · split at h
    · exact sw_stores (by rw [g.sc]; exact g.kind) (by rw [g.sc]; simpa using h)
    · cases h
theorem ss_asg {p : Pat} {e : Ex} {f : Expr → Bool} (he : SV GI e c f) (hl : ∀ q k ss ifs e', e = .lc q k ss ifs e' → f = vLc q k ss.length ifs.length (chkQ ss c) (chkA ss c) (fun c' => chkL ifs c') (fun c' => (chkP e' c').v) c) : SS GI (.asg p e) c (sAsg p e f c) := fun x hx X G W P g => by
  unfold sAsg at hx
  split at hx
  · rename_i tg v pos
    simp only [Bool.and_eq_true, Bool.or_eq_true] at hx
    obtain ⟨⟨⟨h1, h2⟩, h3⟩, h4 | ⟨h5, h6⟩⟩ := hx
    · exact js_asg (he _ h2 g) (chkG_ok g h3) (plain_ok g h4.1 _) (notup_ok g h4.2) (by rw [asg_cons h1]; rfl)
    · unfold sSwap at h6
      split at h6
      · rename_i i y py elt gens scope xp
        simp only [Bool.and_eq_true, beq_iff_eq] at h6
        obtain ⟨⟨s1, s2⟩, s3⟩ := h6
        unfold isLc at h5
        split at h5
        · rename_i q k ss ifs e'
          have hf := hl q k ss ifs e' rfl
          rw [hf] at h2
          unfold vLc at h2
          split at h2
          · rename_i elt' tg' iter xifs a scope' pos' heq
            cases heq
            simp only [Bool.and_eq_true, decide_eq_true_eq] at h2
            obtain ⟨⟨⟨⟨⟨⟨rfl, q1⟩, q2⟩, q3⟩, q4⟩, q5⟩, q6⟩ := h2
            have bo := blkB_ok g q3
            have ho : (ownOf c.N q).map (·.2) = q.slots := by
              unfold ownOf
              rw [List.map_map]
              exact List.map_id _
            have hy : X.N[i]? = some y := by rw [g.N]; exact s2
            have hyl : X.env.scope.names.lookup y = some .local := by rw [g.sc]; exact s3
            have hsw : swapsWith (.ListComp elt [⟨tg', iter, xifs, 0⟩] scope xp) (some (.Name y py)) pos.line X.env = pure true := by
              rw [sw_lc (by rw [g.sc]; exact g.kind), g.sc, s1]
            exact js_asgLc (own := []) g.calm g.nodup hy hyl hsw (ps_lc g.calm g.nodup hy hyl hsw (chkI_ok g (chkQ_ok ss c) (chkA_ok ss c) q2) bo ho (fun s H C cl fp => chkG_ok (g.blk bo.kind s H C cl fp) q4)
              (fun s H C cl fp => jifs (g.blk bo.kind s H C cl fp) rfl (fun xs w wl => chkL_ok ifs _ xs w (g.blk bo.kind s H C cl fp)) q5)
              (fun s H C cl fp => (chkP_ok e' _).1 _ q6 (g.blk bo.kind s H C cl fp)) (fold_ok q1 _))
          · cases h2
        · cases h5
      · cases h6
  · cases hx
theorem ss_par {i j : Nat} {a b : Ex} {fs : List Expr → Bool} (h : SA GI [a, b] c fs) : SS GI (.par i j a b) c (sPar i j fs c) := fun x hx X G W P g => by
  unfold sPar at hx
  split at hx
  · simp only [Bool.and_eq_true, beq_iff_eq, bne_iff_ne, ne_eq] at hx
    obtain ⟨⟨⟨⟨⟨⟨h1, h2⟩, h3⟩, h4⟩, h5⟩, h6⟩, h7⟩ := hx
    exact js_par g.calm g.nodup (by rw [g.N]; exact h1) (by rw [g.N]; exact h2) h3 (by rw [g.sc]; exact h4) (by rw [g.sc]; exact h5) (h _ h6 g) (sw_stores (by rw [g.sc]; exact g.kind) (by rw [g.sc]; exact h7)) (sole.trans (sw_nocomp rfl _ _ _))
  · cases hx
theorem ss_par3 {i j l : Nat} {a b d : Ex} {fs : List Expr → Bool} (h : SA GI [a, b, d] c fs) : SS GI (.par3 i j l a b d) c (sPar3 i j l fs c) := fun x hx X G W P g => by
  unfold sPar3 at hx
  split at hx
  · simp only [Bool.and_eq_true, beq_iff_eq, bne_iff_ne, ne_eq] at hx
    obtain ⟨⟨⟨⟨⟨⟨⟨⟨⟨⟨h1, h2⟩, h3⟩, h4⟩, h5⟩, h6⟩, h7⟩, h8⟩, h9⟩, h10⟩, h11⟩ := hx
    exact js_par3 g.calm g.nodup (by rw [g.N]; exact h1) (by rw [g.N]; exact h2) (by rw [g.N]; exact h3) h4 h5 h6 (by rw [g.sc]; exact h7) (by rw [g.sc]; exact h8) (by rw [g.sc]; exact h9) (h _ h10 g) (sw_stores (by rw [g.sc]; exact g.kind) (by rw [g.sc]; exact h11)) (sole.trans (sw_nocomp rfl _ _ _))
  · cases hx
theorem ss_setI {o j e : Ex} {fo fj fv : Expr → Bool} (ho : SV GI o c fo) (hj : SV GI j c fj) (hv : SV GI e c fv) : SS GI (.setI o j e) c (sSetI fo fj fv) := fun x hx X G W P g => by
  unfold sSetI at hx
  split at hx
  · simp only [Bool.and_eq_true] at hx
    obtain ⟨⟨⟨h1, h2⟩, h3⟩, h4⟩ := hx
    exact js_setI (ho _ h1 g) (hj _ h2 g) (hv _ h3 g) (sole.trans (sw_noname rfl _ _)) (sw_none (.inl rfl)) (fun w => set_ok h4 w) (by rw [asg_cons rfl]; rfl)
  · cases hx
theorem ss_ex {e : Ex} {f : Expr → Bool} (he : SV GI e c f) : SS GI (.ex e) c (sEx f) := fun x hx X G W P g => by
  unfold sEx at hx
  split at hx
  · simp only [Bool.and_eq_true] at hx
    exact js_ex (he _ hx.1 g) (sw_nocomp hx.2 _ _ _)
  · cases hx
theorem ss_ret {e : Ex} {f : Expr → Bool} (he : SV GI e c f) : SS GI (.ret e) c (sRet f) := fun x hx X G W P g => by
  unfold sRet at hx
  split at hx
  · exact js_ret (he _ hx g)
  · cases hx
mutual
theorem chkS_ok : ∀ (s : Sm) (c : Ck), SS GI s c (chkS c s)
  | .asg p e, c => ss_asg (chkP_ok e c).1 (fun q k ss ifs e' h => by subst h; rfl)
  | .par i j a b, c => ss_par (chkA_ok [a, b] c)
  | .par3 i j l a b d, c => ss_par3 (chkA_ok [a, b, d] c)
  | .aug _ _ _, c => fun x hx => by simp [chkS] at hx
  | .setI o j e, c => ss_setI (chkP_ok o c).1 (chkP_ok j c).1 (chkP_ok e c).1
  | .ex e, c => ss_ex (chkP_ok e c).1
  | .ret e, c => ss_ret (chkP_ok e c).1
  | .retN, c => fun x hx X G W P g => by
    simp only [chkS] at hx
    unfold sRetN at hx
    split at hx
    · exact js_retN
    · cases hx
  | .ife k a b, c => fun x hx X G W P g => by
    simp only [chkS] at hx
    unfold sIfe at hx
    split at hx
    · simp only [Bool.and_eq_true] at hx
      exact js_ife ((chkP_ok k c).2.1 _ hx.1.1 g) (chkSs_ok a c _ hx.1.2 g) (chkSs_ok b c _ hx.2 g)
    · cases hx
  | .fr p k ss b, c => fun x hx X G W P g => by
    simp only [chkS] at hx
    unfold sFr at hx
    split at hx
    · simp only [Bool.and_eq_true] at hx
      obtain ⟨⟨⟨h1, h2⟩, h3⟩, h4⟩ := hx
      exact js_for g.pass g.calm (chkI_ok g (chkQ_ok ss c) (chkA_ok ss c) h2) (chkG_ok g h3) (chkSs_ok b c _ h4 g) (fold_ok h1 _)
    · cases hx
  | .whl f k b, c => fun x hx X G W P g => by
    simp only [chkS] at hx
    unfold sWhl at hx
    split at hx
    · simp only [Bool.and_eq_true] at hx
      exact js_whl g.pass ((chkP_ok k c).2.1 _ hx.1 g) (chkSs_ok b c _ hx.2 g)
    · cases hx
  | .rse cc e, c => fun x hx X G W P g => by
    simp only [chkS] at hx
    unfold sRse at hx
    split at hx
    · simp only [Bool.and_eq_true, decide_eq_true_eq] at hx
      obtain ⟨⟨⟨⟨rfl, h1⟩, h2⟩, h3⟩, h4⟩ := hx
      obtain ⟨C, m1, m2⟩ := g.mkx _ h2
      exact js_rse g.calm g.tk m1 m2 (g.gl h1) ((chkP_ok e c).1 _ h3 g) (star_cons h4 _ _)
    · cases hx
  | .tryc e cc i j, c => fun x hx X G W P g => by
    simp only [chkS] at hx
    unfold sTry at hx
    split at hx
    · simp only [Bool.and_eq_true, Bool.or_eq_true, Bool.not_eq_true', decide_eq_true_eq, beq_iff_eq] at hx
      obtain ⟨⟨⟨⟨⟨⟨⟨⟨⟨⟨⟨⟨⟨h1, h2⟩, rfl⟩, h4⟩, h5⟩, h6⟩, rfl⟩, h8⟩, h9⟩, h10⟩, h11⟩, h12⟩, h13⟩, h14⟩ := hx
      obtain ⟨q1, q2, q3, q4, cv, q5, q6⟩ := g.exn _ h5
      exact js_tryc q1 q2 q3 g.nodup (by rw [g.N]; exact h10) (by rw [g.N]; exact h11) h9 (by unfold Env.kindOf; rw [g.sc]; exact h12) (g.loc h13) (h14.imp (fun z => by rw [g.fn]; exact z) fun z => by rw [g.sc]; exact z) (okN_d h8) (okN_c h8) ⟨g.gl h4, h6, .inl q5⟩ q6 q4 (chkT_ok g e _ h1) (sw_nocomp h2 _ _ _)
    · cases hx
  | .pass, c => fun x hx X G W P g => by
    simp only [chkS] at hx
    unfold sPass at hx
    split at hx
    · exact js_pass
    · cases hx
  | .brk, c => fun x hx X G W P g => by
    simp only [chkS] at hx
    unfold sBrk at hx
    split at hx
    · exact js_brk
    · cases hx
  | .cnt, c => fun x hx X G W P g => by
    simp only [chkS] at hx
    unfold sCnt at hx
    split at hx
    · exact js_cnt
    · cases hx
theorem chkSs_ok : ∀ (s : List Sm) (c : Ck), SSs GI s c (chkSs c s)
  | [], c => fun x hx X G W P g => by
    unfold chkSs at hx
    split at hx
    · exact jss_nil
    · cases hx
  | s :: r, c => fun x hx X G W P g => by
    unfold chkSs at hx
    split at hx
    · simp only [Bool.and_eq_true] at hx
      exact jss_cons (chkS_ok s c _ hx.1 g) (chkSs_ok r c _ hx.2 g)
    · cases hx
end
end
end TQ
/-! TQ18: the head: the defs, and what else is asked of the heap behind the top. -/
namespace TQ
open PySem PySem.Spec PyProof.Rows L2
abbrev AlX : Type := Bool × List He.FnW
def obsX (ex : PySem.W.Frag → Bool) (fn : List He.DefD) (K : PySem.W.Frag) : AlX := (ex K && fn.all fun d => d.ok K, fn.map fun d => He.fnW K d.at_)
def valX (fn : List He.DefD) : AlX := (true, fn.map He.DefD.val)
def SaysX (ex : PySem.W.Frag → Bool) (fn : List He.DefD) (K : PySem.W.Frag) : Prop := obsX ex fn K = valX fn
def obsXG (n : Nat) (ex : PySem.W.Frag → Bool) (fn : List He.DefD) (g : Addr → Option Obj) : AlX := obsX ex fn (He.frG g (He.asD g n))
def hookX (n : Nat) (ex : PySem.W.Frag → Bool) (fn : List He.DefD) : PySem.W.Hook where
  α := AlX
  obs := fun s => obsXG n ex fn s.heap.get?
  val := fun _ => valX fn
  says := fun _ h => ∃ K : PySem.W.Frag, K.In h ∧ SaysX ex fn K
  of := fun _ _ e => ⟨_, He.frG_in, e⟩
  keeps := fun _ _ _ ⟨K, hK, c⟩ k => ⟨K, PySem.W.Frag.In.keeps hK k, c⟩
theorem obsXG_eq {n : Nat} {ex : PySem.W.Frag → Bool} {fn : List He.DefD} {g : Addr → Option Obj} {s : Shared} (h : ∀ a, g a = s.heap.get? a) : obsXG n ex fn g = (hookX n ex fn).obs s := by
  have e : g = s.heap.get? := funext h
  rw [e] <;> rfl
section
variable {ex : PySem.W.Frag → Bool} {fn : List He.DefD} {K : PySem.W.Frag}
theorem SaysX.fact (c : SaysX ex fn K) : ex K = true := (He.ba (show (ex K && fn.all fun d => d.ok K) = true from congrArg (fun z : AlX => z.1) c)).1
theorem SaysX.def_ (c : SaysX ex fn K) (i : Nat) {d : He.DefD} (h : fn[i]? = some d) : ∃ fd, FunD K d.name d.qual d.params d.body d.scope (d.dvs K) (d.kws K) (He.fAd K d.at_) fd := by
  have c2 := (He.ba (show (ex K && fn.all fun d => d.ok K) = true from congrArg (fun z : AlX => z.1) c)).2
  have e : fn.map (fun d => He.fnW K d.at_) = fn.map He.DefD.val := congrArg (fun z : AlX => z.2) c
  have e2 : (fn.map fun d => He.fnW K d.at_)[i]? = (fn.map He.DefD.val)[i]? := by rw [e]
  rw [List.getElem?_map, List.getElem?_map, h] at e2
  exact He.DefD.funD (Option.some.inj e2) (List.all_eq_true.mp c2 d (List.mem_of_getElem? h))
end
/-- the def at the i-th row of the text -/
def defAt (p : Program) (i : Nat) : He.DefD := match p.main.body.getD i (.Pass ⟨0, 0, 0, 0⟩) with
  | .FunctionDef name args body _ _ _ scope _ _ _ => ⟨(name, none), name, name, args, body, scope, [], []⟩
  | _ => ⟨("", none), "", "", ⟨[], [], none, [], [], none, []⟩, [], ⟨.function, [], false, false, []⟩, [], []⟩
end TQ
/-! TQ30: a frame's cells, from what the frame holds. -/
namespace TQ
open PySem L2 PyProof.Rows
theorem objs_at {h : Heap} : ∀ {cs : List Addr}, (∀ c ∈ cs, ∃ o, h.get? c = some o) → ∃ F : List (Addr × Obj), F.map (·.1) = cs ∧ ∀ p ∈ F, h.get? p.1 = some p.2
  | [], _ => ⟨[], rfl, fun p hp => nomatch hp⟩
  | c :: cs, k => by
    obtain ⟨o, ho⟩ := k c (by simp)
    obtain ⟨F, h1, h2⟩ := objs_at fun d hd => k d (List.mem_cons_of_mem _ hd)
    refine ⟨(c, o) :: F, by simp [h1], fun p hp => ?_⟩
    rcases List.mem_cons.mp hp with rfl | hp
    · exact ho
    · exact h2 p hp
theorem own_at {X : Cx} {G : Gx} {P : Pr} (Es : List (Nat × Nat × Addr)) (hP : P.own = Es.map fun e => (e.1, e.2.1)) (hG : G.own = Es.map fun e => (e.2.1, e.2.2)) (hN : ∀ e ∈ Es, ∃ x, X.N[e.1]? = some x ∧ X.env.cells.lookup x = some e.2.2 ∧ (X.env.kindOf x = some .cell ∨ X.env.kindOf x = some .free))
    (nd : ∀ e ∈ Es, ∀ e' ∈ Es, e.2.2 = e'.2.2 → e.2.1 = e'.2.1) (hb : ∀ e ∈ Es, e.2.2 ∉ frs X.stack ∧ X.base.get? e.2.2 = none) : OwnAt X G P := by
  intro pins σ H s I m τ sl
  obtain ⟨F, f1, f2⟩ := objs_at (h := s.heap) (cs := Es.map (·.2.2)) fun c hc => by
    obtain ⟨e, he, rfl⟩ := List.mem_map.mp hc
    obtain ⟨x, _, h2, _⟩ := hN e he
    obtain ⟨v, o, ho, _⟩ := I.cell x _ h2
    exact ⟨o, ho⟩
  have ofF : ∀ {c : Addr} {o : Obj}, F.lookup c = some o → s.heap.get? c = some o ∧ ∃ e ∈ Es, e.2.2 = c := fun {c o} h => by
    refine ⟨f2 _ (lk_mem h), ?_⟩
    have : c ∈ Es.map (·.2.2) := by rw [← f1]; exact List.mem_map.mpr ⟨_, lk_mem h, rfl⟩
    obtain ⟨e, he, q⟩ := List.mem_map.mp this
    exact ⟨e, he, q⟩
  have toF : ∀ e ∈ Es, ∃ o, F.lookup e.2.2 = some o := fun e he => lk_has (by rw [f1]; exact List.mem_map.mpr ⟨e, he, rfl⟩)
  have no : ∀ c o, F.lookup c = some o → H c = none := fun c o h => by
    obtain ⟨_, e, he, rfl⟩ := ofF h
    obtain ⟨x, _, h2, _⟩ := hN e he
    exact I.freeC x _ h2
  refine ⟨F, ⟨fun b o h => (ofF h).1, no⟩, ⟨no, fun n c h => ?_, fun c o h => ?_, fun n c h => ?_, fun n n' c h h' => ?_, fun i n h => ?_⟩, fun b o h => ?_⟩
  · rw [hG] at h
    obtain ⟨e, he, q⟩ := List.mem_map.mp h
    cases q
    exact toF e he
  · obtain ⟨_, e, he, rfl⟩ := ofF h
    exact ⟨e.2.1, by rw [hG]; exact List.mem_map.mpr ⟨e, he, rfl⟩⟩
  · rw [hG] at h
    obtain ⟨e, he, q⟩ := List.mem_map.mp h
    cases q
    exact ⟨e.1, by rw [hP]; exact List.mem_map.mpr ⟨e, he, rfl⟩⟩
  · rw [hG] at h h'
    obtain ⟨e, he, q⟩ := List.mem_map.mp h
    obtain ⟨e', he', q'⟩ := List.mem_map.mp h'
    cases q
    simp only [Prod.mk.injEq] at q'
    rw [← q'.1]
    exact nd e he e' he' q'.2.symm
  · rw [hP] at h
    obtain ⟨e, he, q⟩ := List.mem_map.mp h
    cases q
    obtain ⟨o, ho⟩ := toF e he
    refine ⟨e.2.2, o, by rw [hG]; exact List.mem_map.mpr ⟨e, he, rfl⟩, ho, fun v hv => ?_⟩
    obtain ⟨w, hw, rw'⟩ := sl.at_ _ v hv
    obtain ⟨x, x1, x2, x3⟩ := hN e he
    obtain ⟨mm, _, hl⟩ := I.loc
    obtain ⟨u, ru, lk⟩ := hl _ x w x1 hw (x3.elim (fun z => .inr (.inl z)) fun z => .inr (.inr z))
    rcases lk with ⟨z, _⟩ | ⟨_, c, hc, o', ho', hd⟩
    · rcases x3 with y | y <;> (rw [y] at z; cases z)
    · rw [x2] at hc
      cases hc
      rw [(ofF ho).1] at ho'
      cases ho'
      exact ⟨u, w, hd, ru, rw'⟩
  · obtain ⟨_, e, he, rfl⟩ := ofF h
    exact hb e he
end TQ
/-! TQ31: a body that ends with a return. -/
namespace TQ
open PySem L2 PyProof.Rows
theorem snoc_eq {env : Env} {st : Stmt} : ∀ {b : List Stmt}, execs (b ++ [st]) env = (do match ← execs b env with | .next => execs [st] env | f => pure f)
  | [] => by
    show execs [st] env = (pure Flow.next >>= fun f => match f with | .next => execs [st] env | f => pure f)
    rw [LawfulMonad.pure_bind]
  | x :: b => by
    rw [List.cons_append, execs_cons, execs_cons, LawfulMonad.bind_assoc]
    congr 1
    funext f
    cases f with
    | next => exact snoc_eq
    | _ => rw [LawfulMonad.pure_bind]
end TQ
/-! TQ32: a def's frame with cells: the entry. -/
namespace TQ
open PySem L2 PyProof.Rows
/-- the places n, n + 1, .. with the cells cs -/
def ownG : Nat → List Addr → List (Nat × Addr)
  | _, [] => []
  | n, c :: cs => (n, c) :: ownG (n + 1) cs
section
variable {G : Gx} {H : Hp} {m : List Nat} {S : Sto}
theorem ownG_ix : ∀ {cs : List Addr} {n k : Nat} {c : Addr}, (k, c) ∈ ownG n cs → ∃ j, cs[j]? = some c ∧ k = n + j
  | d :: cs, n, k, c, h => by
    unfold ownG at h
    rcases List.mem_cons.mp h with e | h
    · cases e; exact ⟨0, rfl, rfl⟩
    · obtain ⟨j, h1, h2⟩ := ownG_ix h
      exact ⟨j + 1, by simpa using h1, by omega⟩
theorem ix_ownG : ∀ {cs : List Addr} {n j : Nat} {c : Addr}, cs[j]? = some c → (n + j, c) ∈ ownG n cs
  | d :: cs, n, 0, c, h => by simp at h; subst h; unfold ownG; exact List.mem_cons_self
  | d :: cs, n, j + 1, c, h => by
    unfold ownG
    refine List.mem_cons_of_mem _ ?_
    have := ix_ownG (n := n + 1) (show cs[j]? = some c by simpa using h)
    rw [show n + (j + 1) = n + 1 + j by omega]
    exact this
theorem SR.enterD (s : SR G H m S) (ho : G.own = []) (cs : List Addr) : SR (G.ow (ownG S.length cs)) H (m ++ cs.map cA) (S ++ List.replicate cs.length dcell) := by
  have lm : m.length = S.length := s.len
  have low : ∀ {i b : Nat}, i < S.length → (m ++ cs.map cA)[i]? = some b → m[i]? = some b := fun {i b} hl h => by
    rw [List.getElem?_append_left (by omega)] at h; exact h
  have hi : ∀ {i b : Nat}, ¬ i < S.length → (m ++ cs.map cA)[i]? = some b → ∃ c, cs[i - S.length]? = some c ∧ b = cA c := fun {i b} hl h => by
    rw [List.getElem?_append_right (by omega), List.getElem?_map, lm] at h
    cases q : cs[i - S.length]? with
    | none => rw [q] at h; cases h
    | some c => rw [q] at h; exact ⟨c, rfl, (Option.some.inj h).symm⟩
  refine ⟨by simp [lm], fun i j a h1 h2 => ?_, fun n xs e => ?_, s.tab, fun p hp => ?_, fun i j c h1 h2 n1 n2 => ?_⟩
  · by_cases l1 : i < S.length
    · by_cases l2 : j < S.length
      · exact s.nd i j a (low l1 h1) (low l2 h2)
      · obtain ⟨_, _, z⟩ := hi l2 h2; exact (lA_cA z).elim
    · obtain ⟨_, _, z⟩ := hi l1 h1; exact (lA_cA z).elim
  · by_cases hl : n < S.length
    · rw [List.getElem?_append_left hl] at e
      obtain ⟨b, b1, q⟩ := s.at_ n xs e
      refine ⟨b, pre_get b1, ?_⟩
      cases q with
      | lst h r => exact .lst h (r.mono (Ky.refl H) ⟨_, rfl⟩).ow
      | cel h r => exact .cel h (r.imp id fun ⟨u, w, a, b, c⟩ => ⟨u, w, a, b, (c.mono (Ky.refl H) ⟨_, rfl⟩).ow⟩)
      | own h => rw [ho] at h; cases h
      | gone => exact .gone
    · rw [List.getElem?_append_right (by omega), List.getElem?_replicate] at e
      split at e
      · rename_i hj
        cases e
        have hc : cs[n - S.length]? = some cs[n - S.length] := List.getElem?_eq_getElem hj
        refine ⟨cA cs[n - S.length], by rw [List.getElem?_append_right (by omega), List.getElem?_map, lm, hc]; rfl, .own (x := .dead) ?_⟩
        have := ix_ownG (n := S.length) hc
        rw [show S.length + (n - S.length) = n by omega] at this
        exact this
      · cases e
  · obtain ⟨k, c⟩ := p
    obtain ⟨j, h1, rfl⟩ := ownG_ix hp
    show (m ++ cs.map cA)[S.length + j]? = some (cA c)
    rw [List.getElem?_append_right (by omega), List.getElem?_map, show S.length + j - m.length = j by omega, h1]; rfl
  · have key : ∀ {i : Nat}, (m ++ cs.map cA)[i]? = some (cA c) → (∀ d, (i, d) ∉ (G.ow (ownG S.length cs)).own) → i < S.length := fun {i} h n => by
      refine Decidable.byContradiction fun hl => ?_
      obtain ⟨d, hd, _⟩ := hi hl h
      have := ix_ownG (n := S.length) hd
      rw [show S.length + (i - S.length) = i by omega] at this
      exact n d this
    have l1 := key h1 n1
    have l2 := key h2 n2
    exact s.ndc i j c (low l1 h1) (low l2 h2) (by rw [ho]; exact fun _ z => nomatch z) (by rw [ho]; exact fun _ z => nomatch z)
end
end TQ
/-! TQ33: a def whose frame has cells. -/
namespace TQ
open PySem L2 PyProof.Rows
/-- slot, place, address -/
def triples (ca : Nat → Addr) : List Nat → Nat → List (Nat × Nat × Addr)
  | [], _ => []
  | i :: r, n => (i, n, ca i) :: triples ca r (n + 1)
theorem tri_pl (ca : Nat → Addr) : ∀ (cs : List Nat) (n : Nat), (triples ca cs n).map (fun e => (e.1, e.2.1)) = places cs n
  | [], _ => rfl
  | i :: r, n => by simp only [triples, places, List.map_cons, tri_pl ca r (n + 1)]
theorem tri_ow (ca : Nat → Addr) : ∀ (cs : List Nat) (n : Nat), (triples ca cs n).map (fun e => (e.2.1, e.2.2)) = ownG n (cs.map ca)
  | [], _ => rfl
  | i :: r, n => by simp only [triples, ownG, List.map_cons, tri_ow ca r (n + 1)]
theorem tri_ix {ca : Nat → Addr} : ∀ {cs : List Nat} {n : Nat} {e : Nat × Nat × Addr}, e ∈ triples ca cs n → ∃ j, cs[j]? = some e.1 ∧ e.2.1 = n + j ∧ e.2.2 = ca e.1
  | i :: r, n, e, h => by
    unfold triples at h
    rcases List.mem_cons.mp h with rfl | h
    · exact ⟨0, rfl, rfl, rfl⟩
    · obtain ⟨j, h1, h2, h3⟩ := tri_ix h
      exact ⟨j + 1, by simpa using h1, by omega, h3⟩
theorem own_atD {X : Cx} {G : Gx} {P : Pr} {cs : List Nat} {n0 : Nat} {ca : Nat → Addr} (hP : P.own = places cs n0) (hG : G.own = ownG n0 (cs.map ca)) (hN : ∀ i ∈ cs, ∃ x, X.N[i]? = some x ∧ X.env.cells.lookup x = some (ca i) ∧ X.env.kindOf x = some .cell ∧ X.fn x = true)
    (hfr : X.stack = X.env :: X.outer ∧ X.env.frame = some X.env.locals) (ndN : X.N.Nodup) (nd : cs.Nodup) : OwnAt X G P := by
  intro pins σ H s I m τ sl
  have mem : ∀ {e : Nat × Nat × Addr}, e ∈ triples ca cs n0 → e.1 ∈ cs := fun {e} h => by
    obtain ⟨j, h1, _⟩ := tri_ix h
    exact List.mem_of_getElem? h1
  refine own_at (triples ca cs n0) (by rw [hP, tri_pl]) (by rw [hG, tri_ow]) (fun e he => ?_) (fun e he e' he' q => ?_) (fun e he => ?_) pins σ H s I m τ sl
  · obtain ⟨j, h1, h2, h3⟩ := tri_ix he
    obtain ⟨x, x1, x2, x3, _⟩ := hN _ (mem he)
    exact ⟨x, x1, by rw [h3]; exact x2, .inl x3⟩
  · obtain ⟨j, h1, h2, h3⟩ := tri_ix he
    obtain ⟨j', h1', h2', h3'⟩ := tri_ix he'
    obtain ⟨x, x1, x2, _⟩ := hN _ (mem he)
    obtain ⟨y, y1, y2, _⟩ := hN _ (mem he')
    rw [h3, h3'] at q
    rw [← q] at y2
    have := I.ok.inj x y _ x2 y2
    subst this
    obtain ⟨l1, e1⟩ := List.getElem?_eq_some_iff.mp x1
    obtain ⟨l2, e2⟩ := List.getElem?_eq_some_iff.mp y1
    have e3 : e.1 = e'.1 := (List.getElem_inj ndN).mp (e1.trans e2.symm)
    obtain ⟨l3, e4⟩ := List.getElem?_eq_some_iff.mp h1
    obtain ⟨l4, e5⟩ := List.getElem?_eq_some_iff.mp h1'
    have e6 : j = j' := (List.getElem_inj nd).mp (by rw [e4, e5, e3])
    omega
  · obtain ⟨j, h1, h2, h3⟩ := tri_ix he
    obtain ⟨x, x1, x2, _, x4⟩ := hN _ (mem he)
    rw [h3]
    have ge := I.ok.cab x _ x4 x2
    refine ⟨fun z => ?_, ?_⟩
    · rw [hfr.1] at z
      unfold frs at z
      rw [List.filterMap_cons, hfr.2] at z
      rcases List.mem_cons.mp z with z | z
      · exact I.cne x _ x2 z
      · obtain ⟨_, o, ho, _⟩ := I.ok.funs.mem z
        exact absurd (Nat.lt_of_lt_of_le (Heap.lt_size ho) ge) (Nat.lt_irrefl _)
    · cases q : X.base.get? (ca e.1) with
      | none => rfl
      | some o => exact absurd (Nat.lt_of_lt_of_le (Heap.lt_size q) (Nat.le_trans I.ok.bsz ge)) (Nat.lt_irrefl _)
section
variable {H H' : Hp} {m m' : List Nat} {F : List (Addr × Obj)} {P : Program} {w : World} {fs : List Addr} {h B : Heap}
theorem un_new (hok : HOk P w H h) (hF : ∀ b o, F.lookup b = some o → ¬ b < h.objs.size) (un : Un fs [] H H' h B) : Un fs [] H (plus H' F) h B := by
  have out : ∀ {b : Addr} {o : Obj}, h.get? b = some o → F.lookup b = none := fun {b o} e => by
    rcases lk_cases F b with ⟨o', z⟩ | z
    · exact absurd (Heap.lt_size e) (hF b o' z)
    · exact z
  have out2 : ∀ {b : Addr} {o : HO}, H b = some o → F.lookup b = none := fun {b o} e => by
    rcases lk_cases F b with ⟨o', z⟩ | z
    · exact absurd (hok b o e).lt (hF b o' z)
    · exact z
  refine ⟨un.keep, un.slot, fun b o e n hx => ?_, un.there, fun b xs e => ?_, fun b o u e => ?_, fun b ps e => ?_⟩
  · rw [plus_out (out e)]; exact un.free b o e n hx
  · rw [plus_out (out2 e)]; exact un.tups b xs e
  · rw [plus_out (out2 e)]; exact un.frzs b o u e
  · obtain ⟨more, q⟩ := un.tbls b ps e
    exact ⟨more, by rw [plus_out (out2 e)]; exact q⟩
end
end TQ
/-! TQ34: THE RULE for a def whose frame has cells. -/
namespace TQ
open PySem L2 PyProof.Rows
/-- a def called, its end told by ourselves -/
theorem run_ofX {CX : CXT} {P : Program} {w : World} {K : PySem.W.Frag} {mg : Str → Option Value} {base : Heap} {k : Nat} {f : Addr} {name qual : Str} {params : Arguments} {body : List Stmt} {scope : Scope} {dV kV doc pm cdv ct oc : Value} {an od : Option Addr}
    {osl : Array (Option Value)} {N ps : List Str} (lk : K.lookup f = some ⟨oc, od, .func (PySem.W.fnOf name qual params body scope dV kV doc pm an cdv ct), osl⟩) (hcd : PySem.W.codeIn K cdv qual = true) (S : FnScope N ps scope)
    {A : Around} {outer : List Env} {s : Shared} {H : Hp} {args : Args} {us : List Value} {vs : List V} {Q : VK} {E : XK} (hr : Room (k + 1) A) (e0 : Env0 P w K mg base A outer s H) (hb : BindsTo s (PySem.W.fnOf name qual params body scope dV kV doc pm an cdv ct) args (ps.zip us)) (r : Vals vs us) (hl : vs.length = ps.length)
    (hbody : Room k (A.deeper (envOfC qual scope s.heap.objs.size f cdv)) → ∀ s1, (∀ c v, s1.heap.IsCell c v → s.heap.objs.size ≤ c → s.heap.get? c = none) → Inv (cxOf CX P w K mg base N qual scope f cdv A outer s H E) [] (L2.start N vs) H s1 →
      wpAny (model P w) (A.deeper (envOfC qual scope s.heap.objs.size f cdv)) (execs body (envOfC qual scope s.heap.objs.size f cdv)) (fun fl s' => match fl with
        | .ret u => CE outer P w H s Q u s'
        | .next => CE outer P w H s Q .none s'
        | _ => False) (cxOf CX P w K mg base N qual scope f cdv A outer s H E).xe s1) :
    codeAny (model P w) A (.call (.ref f) args) (CR CX outer P w H s Q E) s := by
  have KX : K.In s.heap := e0.mod.kin.keeps fun b o e => (e0.bs b o e).1
  have lim : s.heap.NoLimit := e0.mod.nolimit.keeps fun b o e => (e0.bs b o e).1
  have hkind : ∀ y ∈ ps.zip us, scope.names.lookup y.1 = some .local ∨ (scope.names.lookup y.1 = some .cell ∧ ((cellsFrom (s.heap.objs.size + 1) scope.names []).lookup y.1).isSome = true) := fun ⟨n, v⟩ hy => by
    rcases S.par n (List.of_mem_zip hy).1 with q | q
    · exact .inl q
    · exact .inr ⟨q, PySem.W.cellsFrom_some _ _ _ (.inl q)⟩
  refine codeAny_call_function hr.depth (KX _ _ lk) rfl S.co S.gen rfl (PySem.W.codeRec_of KX hcd) (hb _ _ _ _ ?_)
  refine wpAny_newFunctionEnv_cells S.kind hkind fun env he s1 x => ?_
  subst he
  refine ⟨lim.keeps x.toInCall.keep, codeAny_func ?_⟩
  have I : Inv (cxOf CX P w K mg base N qual scope f cdv A outer s H E) [] (L2.start N vs) H s1 := inv_start S hr.hd e0 hl r x
  refine wpAny_mono (hbody (hr.deeper _) s1 (fun c v _ ge => ?_) I) (fun fl s' hs => ?_) fun e s' hs => hs
  · cases q : s.heap.get? c with
    | none => rfl
    | some o => exact absurd (Nat.lt_of_lt_of_le (Heap.lt_size q) ge) (Nat.lt_irrefl _)
  · cases fl with
    | ret u => exact hs
    | next => exact hs
    | brk => exact False.elim hs
    | cont => exact False.elim hs
section
variable {G : Gx} {W : XK} {H H' : Hp} {m m' : List Nat} {S S' : Sto} {cs : List Nat} {ca : Nat → Addr} {own : List (Nat × Nat)} {c : Str} {d : Val}
theorem places_ns : ∀ {cs : List Nat} {n0 n : Nat}, n ∈ (places cs n0).map (·.2) → n0 ≤ n
  | i :: r, n0, n, h => by
    simp only [places, List.map_cons, List.mem_cons] at h
    rcases h with rfl | h
    · exact Nat.le_refl _
    · have := places_ns h; omega
theorem own_of_place {n : Nat} : ∀ {cs : List Nat} {n0 : Nat}, n ∈ (places cs n0).map (·.2) → ∃ c, (n, c) ∈ ownG n0 (cs.map ca)
  | i :: r, n0, h => by
    simp only [places, List.map_cons, List.mem_cons, ownG] at h ⊢
    rcases h with rfl | h
    · exact ⟨_, .inl rfl⟩
    · obtain ⟨c, hc⟩ := own_of_place h
      exact ⟨c, .inr hc⟩
theorem place_of_own {n : Nat} {c : Addr} : ∀ {cs : List Nat} {n0 : Nat}, (n, c) ∈ ownG n0 (cs.map ca) → n ∈ (places cs n0).map (·.2)
  | i :: r, n0, h => by
    simp only [places, List.map_cons, List.mem_cons, ownG] at h ⊢
    rcases h with h | h
    · cases h; exact .inl rfl
    · exact .inr (place_of_own h)
/-- the first places stay -/
theorem gm_pre {ns k : List Nat} (h : ∀ n ∈ ns, m.length ≤ n) : ∃ k', gm ns (m ++ k) = m ++ k' ∧ ∀ b ∈ k', b ∈ k ∨ b = gA := by
  refine ⟨(gm ns (m ++ k)).drop m.length, ?_, fun b hb => ?_⟩
  · refine List.ext_getElem? fun i => ?_
    by_cases hl : i < m.length
    · rw [gm_out (fun z => by have := h i z; omega), List.getElem?_append_left hl, List.getElem?_append_left hl]
    · rw [List.getElem?_append_right (by omega), List.getElem?_drop]
      congr 1; omega
  · obtain ⟨i, hi⟩ := List.mem_iff_getElem?.mp hb
    rw [List.getElem?_drop] at hi
    by_cases hb' : b = gA
    · exact .inr hb'
    · have q := (gm_back (k := []) hb' (by simpa using hi)).1
      rw [List.append_nil, List.getElem?_append_right (by omega)] at q
      exact .inl (List.mem_of_getElem? q)
theorem bury_eq {own : List (Nat × Nat)} (h : own ≠ []) : bury own S = buryN (own.map (·.2)) (S.map (hideL (own.map (·.2)))) := by
  cases own with
  | nil => exact absurd rfl h
  | cons a b => rfl
/-- the frame is left, its cells put away -/
theorem leave_bury (hc : cs ≠ []) (ho : G.own = []) (ml : m.length = S.length) (hn : ∀ i ∈ cs, H (ca i) = none) (s : SR (G.ow (ownG S.length (cs.map ca))) H' m' S') (e : Ext (m ++ (cs.map ca).map cA) H m' H') :
    ∃ m2, SR G H' m2 (bury (places cs S.length) S') ∧ Ext m H m2 H' ∧ ∀ x v, RV (G.ow (ownG S.length (cs.map ca))) H' m' x v → RV G H' m2 (hideV (places cs S.length) x) v := by
  have hA : ∀ n c, (n, c) ∈ (G.ow (ownG S.length (cs.map ca))).own → n ∈ (places cs S.length).map (·.2) := fun n c h => place_of_own h
  have hB : ∀ n ∈ (places cs S.length).map (·.2), ∃ c, (n, c) ∈ (G.ow (ownG S.length (cs.map ca))).own := fun n h => own_of_place h
  have hm := own_ns s hB
  have z := s.bury hA hB
  have z : SR (G.ow []) H' (gm ((places cs S.length).map (·.2)) m') (buryN ((places cs S.length).map (·.2)) (S'.map (hideL ((places cs S.length).map (·.2))))) := z
  rw [ow_nil ho] at z
  have hp : places cs S.length ≠ [] := by
    cases cs with
    | nil => exact absurd rfl hc
    | cons a b => simp [places]
  refine ⟨gm ((places cs S.length).map (·.2)) m', by rw [bury_eq hp]; exact z, ⟨?_, fun a o h n => e.keep a o h (n.imp id fun n q => ?_), e.lst⟩, fun x v r => ?_⟩
  · obtain ⟨k, rfl, hk⟩ := e.pre
    rw [List.append_assoc]
    obtain ⟨k', h1, h2⟩ := gm_pre (m := m) (k := (cs.map ca).map cA ++ k) (ns := (places cs S.length).map (·.2)) fun n hn => by rw [ml]; exact places_ns hn
    refine ⟨k', h1, fun a ha => ?_⟩
    have key : ∀ {b : Nat}, b ≠ gA → b ∈ k' → (b ∈ (cs.map ca).map cA ∨ b ∈ k) := fun {b} nb hb => by
      rcases h2 b hb with q | q
      · exact List.mem_append.mp q
      · exact absurd q nb
    rcases ha with ha | ha
    · rcases key (fun z => lA_gA z) ha with q | q
      · obtain ⟨c, _, q⟩ := List.mem_map.mp q
        exact (lA_cA q.symm).elim
      · exact hk a (.inl q)
    · rcases key (fun z => cA_gA z) ha with q | q
      · obtain ⟨c, hc', q⟩ := List.mem_map.mp q
        rw [← cA_inj q]
        obtain ⟨i, hi, rfl⟩ := List.mem_map.mp hc'
        exact hn i hi
      · exact hk a (.inr q)
  · rcases List.mem_append.mp q with q | q
    · exact n q
    · obtain ⟨c, _, q⟩ := List.mem_map.mp q
      exact (lA_cA q.symm).elim
  · have q := r.gone hm
    have q := q.wo
    unfold hideV
    exact q
end
section
variable {prg : Program} {w : World} {K : PySem.W.Frag} {mg : Str → Option Value} {base : Heap} {GI : Gx → Prop} {k : Nat} {f : Addr} {N ps : List Str}
/-- where a frame's cells lie -/
def cellA (scope : Scope) (N : List Str) (n : Nat) (i : Nat) : Addr := ((cellsFrom (n + 1) scope.names []).lookup (N.getD i "")).getD 0
/-- how the rows of a body end: with a return, or not -/
inductive Tail (X : Cx) (G : Gx) (W : XK) (P : Pr) : List Stmt → Option Ex → List Stmt → Prop where
  | none {b : List Stmt} : Tail X G W P b none b
  | ret {b : List Stmt} {x : Expr} {e : Ex} {pos : Pos} : JE X G W P x e → Tail X G W P b (some e) (b ++ [.Return (some x) pos])
theorem fnqc_of {name qual : Str} {params : Arguments} {body init : List Stmt} {scope : Scope} {dV kV doc pm cdv ct oc : Value} {an od : Option Addr} {osl : Array (Option Value)} {P : Pr} {d : Df} (lk : K.lookup f = some ⟨oc, od, .func (PySem.W.fnOf name qual params body scope dV kV doc pm an cdv ct), osl⟩) (hcd : PySem.W.codeIn K cdv qual = true)
    (S : FnScope N ps scope) (hd : d.size = N.length) (hp : d.pars = ps.length) (hc : d.cells ≠ []) (hcn : d.cells.Nodup) (hck : ∀ i ∈ d.cells, ∃ x, N[i]? = some x ∧ scope.names.lookup x = some .cell)
    (hbody : ∀ (G : Gx), GI G → G.own = [] → ∀ (A : Around) (outer : List Env) (s : Shared) (H : Hp) (W : XK) (n0 : Nat), Room k (A.deeper (envOfC qual scope s.heap.objs.size f cdv)) → A.guards = some [] →
      OwnAt (cxOf (L2.CX prg w) prg w K mg base N qual scope f cdv A outer s H W) (G.ow (ownG n0 (d.cells.map (cellA scope N s.heap.objs.size)))) { P with own := places d.cells n0, blk := false } →
      JSs (cxOf (L2.CX prg w) prg w K mg base N qual scope f cdv A outer s H W) (G.ow (ownG n0 (d.cells.map (cellA scope N s.heap.objs.size)))) W { P with own := places d.cells n0, blk := false } init d.body ∧
      Tail (cxOf (L2.CX prg w) prg w K mg base N qual scope f cdv A outer s H W) (G.ow (ownG n0 (d.cells.map (cellA scope N s.heap.objs.size)))) W { P with own := places d.cells n0, blk := false } init d.fin body) :
    FnQ prg w K mg base GI (k + 1) f (PySem.W.fnOf name qual params body scope dV kV doc pm an cdv ct) ps (runDf P d) := by
  refine ⟨fun G hG ho A outer s H args us vs Q W hr hgd e0 hb r h => ?_⟩
  obtain ⟨m, St, xs, sr, rx, hx, p⟩ := h
  have hl : vs.length = ps.length := by rw [rx.length, hx]
  refine run_ofX lk hcd S hr e0 hb r hl fun hr' s1 _ I => ?_
  unfold runDf at p
  split at p
  case isFalse => exact p.elim
  rename_i hz
  generalize hX : cxOf (L2.CX prg w) prg w K mg base N qual scope f cdv A outer s H W = X at *
  have hXe : X.env = envOfC qual scope s.heap.objs.size f cdv := by rw [← hX]; rfl
  have hXN : X.N = N := by rw [← hX]; rfl
  have hXf : X.fn = fun _ => true := by rw [← hX]; rfl
  have hXs : X.stack = X.env :: X.outer ∧ X.env.frame = some X.env.locals := by rw [← hX]; exact ⟨rfl, rfl⟩
  have hXo : X.outer = outer := by rw [← hX]; rfl
  have hXh : X.s_0 = s := by rw [← hX]; rfl
  have hXH : X.H_0 = H := by rw [← hX]; rfl
  have hXA : X.A = A.deeper (envOfC qual scope s.heap.objs.size f cdv) := by rw [← hX]; rfl
  have hXp : X.prog = prg ∧ X.w = w := by rw [← hX]; exact ⟨rfl, rfl⟩
  have hcs : ∀ i ∈ d.cells, ∃ x, N[i]? = some x ∧ (cellsFrom (s.heap.objs.size + 1) scope.names []).lookup x = some (cellA scope N s.heap.objs.size i) ∧ scope.names.lookup x = some .cell := fun i hi => by
    obtain ⟨x, x1, x2⟩ := hck i hi
    obtain ⟨c, hc⟩ := cell_has (n := s.heap.objs.size + 1) x2
    refine ⟨x, x1, ?_, x2⟩
    unfold cellA
    rw [List.getD_eq_getElem?_getD, x1]
    simp only [Option.getD_some]
    rw [hc]; rfl
  have hge : ∀ i ∈ d.cells, s.heap.objs.size ≤ cellA scope N s.heap.objs.size i := fun i hi => by
    obtain ⟨x, x1, x2, _⟩ := hcs i hi
    have q := I.ok.cab x (cellA scope N s.heap.objs.size i) (by rw [hXf]) (by rw [hXe]; exact x2)
    rw [hXh] at q
    exact q
  have hnone : ∀ i ∈ d.cells, s.heap.get? (cellA scope N s.heap.objs.size i) = none := fun i hi => by
    cases q : s.heap.get? (cellA scope N s.heap.objs.size i) with
    | none => rfl
    | some o => exact absurd (Nat.lt_of_lt_of_le (Heap.lt_size q) (hge i hi)) (Nat.lt_irrefl _)
  have hHn : ∀ i ∈ d.cells, H (cellA scope N s.heap.objs.size i) = none := fun i hi => by
    cases q : H (cellA scope N s.heap.objs.size i) with
    | none => rfl
    | some o =>
      have := (e0.hok _ _ q).lt
      exact absurd (Nat.lt_of_lt_of_le this (hge i hi)) (Nat.lt_irrefl _)
  generalize hca : cellA scope N s.heap.objs.size = ca at *
  have hO : OwnAt X (G.ow (ownG St.length (d.cells.map ca))) { P with own := places d.cells St.length, blk := false } :=
    own_atD (cs := d.cells) (n0 := St.length) (ca := ca) rfl rfl (fun i hi => by
      obtain ⟨x, x1, x2, x3⟩ := hcs i hi
      exact ⟨x, by rw [hXN]; exact x1, by rw [hXe]; exact x2, by rw [hXe]; unfold Env.kindOf; exact x3, by rw [hXf]⟩) hXs (by rw [hXN]; exact S.nd) hcn
  obtain ⟨JB, JT⟩ := hbody G hG ho A outer s H W St.length hr' hgd (by rw [hX, hca]; exact hO)
  rw [hX, hca] at JB JT
  have p : Post G W m H (endDf { P with own := places d.cells St.length, blk := false } (places d.cells St.length) d.fin (exSs { P with own := places d.cells St.length, blk := false } d.body (xs.map some ++ List.replicate (d.size - d.pars) none) (St ++ List.replicate d.cells.length dcell))) (CQ G Q) := by
    cases q : d.cells with
    | nil => exact absurd q hc
    | cons a b => rw [q] at p; exact p
  generalize hP' : ({ P with own := places d.cells St.length, blk := false } : Pr) = P' at *
  have sr1 := sr.enterD ho (d.cells.map ca)
  rw [List.length_map] at sr1
  have ml : m.length = St.length := sr.len
  have e1 : ∀ {m' H'}, Ext (m ++ (d.cells.map ca).map cA) H m' H' → Ext m H m' H' := fun {m' H'} e => by
    refine ⟨?_, fun a o h n => e.keep a o h (n.imp id fun n q => ?_), e.lst⟩
    · obtain ⟨k, rfl, hk⟩ := e.pre
      refine ⟨(d.cells.map ca).map cA ++ k, by simp, fun a ha => ?_⟩
      have key : a ∈ d.cells.map ca ∨ (lA a ∈ k ∨ cA a ∈ k) := by
        rcases ha with ha | ha
        · rcases List.mem_append.mp ha with q | q
          · obtain ⟨c, _, q⟩ := List.mem_map.mp q
            exact (lA_cA q.symm).elim
          · exact .inr (.inl q)
        · rcases List.mem_append.mp ha with q | q
          · obtain ⟨c, hc', q⟩ := List.mem_map.mp q
            rw [← cA_inj q]; exact .inl hc'
          · exact .inr (.inr q)
      rcases key with q | q
      · obtain ⟨i, hi, rfl⟩ := List.mem_map.mp q
        exact hHn i hi
      · exact hk a q
    · rcases List.mem_append.mp q with q | q
      · exact n q
      · obtain ⟨c, _, q⟩ := List.mem_map.mp q
        exact (lA_cA q.symm).elim
  -- an exception that leaves
  have exc : ∀ {cc : Str} {dd : Val} {S' : Sto}, Post G W m H (.exc cc (hideV (places d.cells St.length) dd) (bury (places d.cells St.length) S')) (CQ G Q) → ∀ {m1 : List Nat} {H1 : Hp}, Ext (m ++ (d.cells.map ca).map cA) H m1 H1 → ∀ (C : Val → List Nat → Sto → Hp → Prop), Post (G.ow (ownG St.length (d.cells.map ca))) W m1 H1 (.exc cc dd S' : R Val) C := by
    intro cc dd S' hp m1 H1 ex C m' H' cls dd' s' e' x
    obtain ⟨m2, s2, e2, rr⟩ := leave_bury (G := G) hc ho ml hHn s' (ex.trans e')
    obtain ⟨C', a, w', h1, h2, h3, h4, h5⟩ := x
    exact hp m2 H' cls dd' s2 e2 ⟨C', a, w', h1, h2, h3, h4, rr _ _ h5⟩
  -- what is wanted behind the last return
  let QF : L2.St → VK := fun σ' v H2 => ∃ m2 S2 τ x, SR (G.ow (ownG St.length (d.cells.map ca))) H2 m2 S2 ∧ SL (G.ow (ownG St.length (d.cells.map ca))) H2 m2 τ σ' ∧ Ext (m ++ (d.cells.map ca).map cA) H m2 H2 ∧ RV (G.ow (ownG St.length (d.cells.map ca))) H2 m2 x v ∧
    ∀ mm HH, SR G HH mm (sync (places d.cells St.length) τ S2) → Ext m H mm HH → ∀ vv, RV G HH mm x vv → Q vv HH
  let D : Ends := { nx := fun σ' H2 => match d.fin with
      | none => Q .non H2
      | some e => tE (G.ow (ownG St.length (d.cells.map ca))) W (fun τ => ev P' τ e) σ' H2 (QF σ'), rt := Q }
  have wD : tS (G.ow (ownG St.length (d.cells.map ca))) W (exSs P' d.body) D (L2.start N vs) H := by
    refine ⟨m ++ (d.cells.map ca).map cA, St ++ List.replicate d.cells.length dcell, xs.map some ++ List.replicate (d.size - d.pars) none, sr1, ?_, .nil, ?_⟩
    · have e : d.size - d.pars = N.length - xs.length := by omega
      rw [e]
      exact sl_start ((rx.mono (Ky.refl H) ⟨_, rfl⟩).ow) (by omega)
    · generalize exSs P' d.body (xs.map some ++ List.replicate (d.size - d.pars) none) (St ++ List.replicate d.cells.length dcell) = z at p
      cases z with
      | bad => exact p.elim
      | exc cc dd S' =>
        intro m' H' cls dd' s' e' x
        exact exc (C := fun _ _ _ _ => True) p (Ext.ref _ _) m' H' cls dd' s' e' x
      | ok q S' =>
        obtain ⟨fl, τ1⟩ := q
        intro m1 H1 s1' ex1
        cases fl with
        | bk => exact p.elim
        | ct => exact p.elim
        | rt v =>
          intro x rv
          obtain ⟨m2, s2, e2, rr⟩ := leave_bury (G := G) hc ho ml hHn s1' ex1
          exact p m2 H1 s2 e2 x (rr _ _ rv)
        | nx =>
          intro σ' sl'
          unfold endDf at p
          show match d.fin with | none => _ | some e => _
          cases hf : d.fin with
          | none =>
            rw [hf] at p
            obtain ⟨m2, s2, e2, rr⟩ := leave_bury (G := G) hc ho ml hHn s1' ex1
            exact p m2 H1 s2 e2 .non .non
          | some e =>
            rw [hf] at p
            have p : Post G W m H (finDf (places d.cells St.length) τ1 (ev P' τ1 e S')) (CQ G Q) := p
            refine ⟨m1, S', τ1, s1', sl', .nil, ?_⟩
            show Post _ W m1 H1 (ev P' τ1 e S') _
            generalize ev P' τ1 e S' = z at p
            cases z with
            | bad => exact p.elim
            | exc cc dd S2 => exact exc p ex1 _
            | ok v S2 =>
              intro m2 H2 s2 ex2 vv rv
              exact ⟨m2, S2, τ1, v, s2, sl'.mono ex2, ex1.trans ex2, rv, fun mm HH s3 ex3 vv' rv' => p mm HH s3 ex3 vv' rv'⟩
  have CEof : ∀ {σ' : L2.St} {H2 : Hp} {v : V} {u : Value} {s' : Shared}, Inv X [] σ' H2 s' → L2.RelV v u → Q v H2 → CE outer prg w H s Q u s' := fun {σ' H2 v u s'} J rv q => by
    have j1 := J.os
    have j2 := J.base
    have j3 := J.hok
    have hex : X.ex = [] := by rw [← hX]; rfl
    rw [hXh] at j1
    rw [hXh, hXH, hex] at j2
    unfold Cx.fs at j2
    rw [hXo] at j2
    rw [hXp.1, hXp.2] at j3
    exact ⟨v, H2, j1, J.bare, j2, j3, rv, q⟩
  have CEf : ∀ {σ' : L2.St} {H2 : Hp} {v : V} {u : Value} {s' : Shared}, Inv X [] σ' H2 s' → L2.RelV v u → QF σ' v H2 → CE outer prg w H s Q u s' := fun {σ' H2 v u s'} J rv q => by
    obtain ⟨m2, S2, τ, x, q1, q2, q3, q4, q5⟩ := q
    obtain ⟨F, c, L, hf⟩ := hO [] σ' H2 s' J m2 τ q2
    have j1 := J.os
    have j2 := J.base
    have j3 := J.hok
    have hex : X.ex = [] := by rw [← hX]; rfl
    rw [hXh] at j1
    rw [hXh, hXH, hex] at j2
    unfold Cx.fs at j2
    rw [hXo] at j2
    rw [hXp.1, hXp.2] at j3
    have hF : ∀ b o, F.lookup b = some o → ¬ b < s.heap.objs.size := fun b o e => by
      obtain ⟨n, hn⟩ := L.ofF b o e
      obtain ⟨j, hj, _⟩ := ownG_ix hn
      rw [List.getElem?_map] at hj
      cases q : d.cells[j]? with
      | none => rw [q] at hj; cases hj
      | some i =>
        rw [q] at hj
        have hj : ca i = b := Option.some.inj hj
        rw [← hj]
        exact Nat.not_lt_of_le (hge i (List.mem_of_getElem? q))
    have hFH : ∀ {b : Addr} {o : HO}, H b = some o → F.lookup b = none := fun {b o} e => by
      rcases lk_cases F b with ⟨o', z⟩ | z
      · exact absurd (e0.hok b o e).lt (hF b o' z)
      · exact z
    refine ⟨v, plus H2 F, j1, J.bare, un_new e0.hok hF j2, plus_ok c j3, rv, q5 m2 (plus H2 F) ?_ ?_ v ?_⟩
    · have z := q1.track L
      rw [← hP'] at z
      have z : SR (G.ow []) (plus H2 F) m2 (sync ({ P with own := places d.cells St.length, blk := false } : Pr).own τ S2) := z
      rw [ow_nil ho] at z
      exact z
    · have e2 := e1 q3
      refine ⟨?_, fun a o h n => ?_, fun a xs h => ?_⟩
      · exact e2.pre
      · have z := hFH h
        rcases e2.keep a o h n with y | ⟨ps, qs, y1, y2⟩
        · exact .inl (by rw [plus_out z]; exact y)
        · exact .inr ⟨ps, qs, y1, by rw [plus_out z]; exact y2⟩
      · obtain ⟨ys, y⟩ := e2.lst a xs h
        exact ⟨ys, by rw [plus_out (hFH h)]; exact y⟩
    · exact (q4.mono (ky_plus L.no) ⟨[], by simp⟩).wo
  have key : ∀ (b : List Stmt), b = init → wpAny (model prg w) (A.deeper (envOfC qual scope s.heap.objs.size f cdv)) (execs b (envOfC qual scope s.heap.objs.size f cdv)) (SP X [] D) X.xe s1 := fun b hb => by
    subst hb
    have q := JB.run [] s1 (L2.start N vs) H D I wD
    rw [hXp.1, hXp.2, hXA, hXe] at q
    exact q
  generalize hb2 : body = b2 at JT ⊢
  generalize hfin : d.fin = fin at JT
  cases JT with
  | none =>
    refine wpAny_mono (key _ rfl) (fun fl s' hs => ?_) fun e s' hs => hs
    cases fl with
    | ret u =>
      obtain ⟨v, σ', H2, J, rv, q⟩ := hs
      exact CEof J rv q
    | next =>
      obtain ⟨σ', H2, J, q⟩ := hs
      have q : (match d.fin with | none => Q .non H2 | some e => tE (G.ow (ownG St.length (d.cells.map ca))) W (fun τ => ev P' τ e) σ' H2 (QF σ')) := q
      rw [hfin] at q
      exact CEof (v := V.non) J rfl q
    | brk => obtain ⟨_, _, _, q⟩ := hs; exact q.elim
    | cont => obtain ⟨_, _, _, q⟩ := hs; exact q.elim
  | ret hx =>
    rename_i x e pos
    rw [snoc_eq]
    refine wpAny_bind (wpAny_mono (key _ rfl) (fun fl s' hs => ?_) fun e s' hs => hs)
    cases fl with
    | ret u =>
      obtain ⟨v, σ', H2, J, rv, q⟩ := hs
      exact wpAny_pure (CEof J rv q)
    | brk => obtain ⟨_, _, _, q⟩ := hs; exact q.elim
    | cont => obtain ⟨_, _, _, q⟩ := hs; exact q.elim
    | next =>
      obtain ⟨σ', H2, J, q⟩ := hs
      have q : (match d.fin with | none => Q .non H2 | some e => tE (G.ow (ownG St.length (d.cells.map ca))) W (fun τ => ev P' τ e) σ' H2 (QF σ')) := q
      rw [hfin] at q
      have z := hx.run [] s' σ' H2 (QF σ') J q
      rw [hXp.1, hXp.2, hXA, hXe] at z
      refine wpAny_execs_cons (wpAny_Return_some (wpAny_mono z (fun u s2 hs2 => ?_) fun e s' hs => hs))
      obtain ⟨v, H3, J3, rv, q3⟩ := hs2
      exact CEf J3 rv q3
end
end TQ
/-! TQ35: the law's call from outside, by a promise FnQ. -/
namespace TQ
open PySem PySem.Spec PyProof.Rows L2 LamX
/-- what is tracked at the law's entry: the script (unless the written part has it), the tables of codes -/
def H0 (K : PySem.W.Frag) (T : List Addr) (a : Addr) (ob : Obj) (xs : List V) : Hp := fun b =>
  if b ∈ T then some (.tbl #[]) else if b = a ∧ (K.lookup a).isNone = true then some (.frz ob (.lst xs)) else none
theorem H0_tab {K : PySem.W.Frag} {T : List Addr} {a b : Addr} {ob : Obj} {xs : List V} (h : b ∈ T) : H0 K T a ob xs b = some (.tbl #[]) := by
  unfold H0; rw [if_pos h]
theorem H0_inv {K : PySem.W.Frag} {T : List Addr} {a b : Addr} {ob : Obj} {xs : List V} {u : HO} (h : H0 K T a ob xs b = some u) : (b ∈ T ∧ u = .tbl #[]) ∨ (b ∉ T ∧ b = a ∧ K.lookup a = none ∧ u = .frz ob (.lst xs)) := by
  unfold H0 at h
  split at h
  · rename_i z
    exact .inl ⟨z, (Option.some.inj h).symm⟩
  · rename_i z
    split at h
    · rename_i y
      exact .inr ⟨z, y.1, by simpa using y.2, (Option.some.inj h).symm⟩
    · cases h
theorem rv_ints {G : Gx} {H : Hp} {m : List Nat} : ∀ ns : List Int, RVL G H m (ns.map Val.int) (ns.map V.int)
  | [] => .nil
  | n :: ns => .cons .int (rv_ints ns)
theorem law_endQ {P : Program} {w : World} {K : PySem.W.Frag} {mg mb : Str → Option Value} {GI : Gx → Prop} {k : Nat} {fa a : Addr} {cs : List (Addr × Addr)} {fd : FuncData} {x : Str} {g : List Val → E Val} {s1 : Shared} {vs : List Value} {ns : List Int} {G : Gx}
    (KX : K.In s1.heap) (hns : s1.heap.Ns mainGlobals mg) (hb : s1.heap.Ns builtinsNs mb) (hbb : ∀ x : Str, x ≠ "__name__" → mb x = bootBuiltins x) (hlim : s1.heap.NoLimit) (hg : s1.gens = #[])
    (hT : ∀ p ∈ cs, s1.heap.get? p.2 = some { cls := .none, data := .fields #[] }) (nT : ∀ p ∈ cs, K.lookup p.2 = none) (hC : ∀ p ∈ cs, PySem.W.CodeHd s1.heap p.1 p.2)
    (hbm : ∃ (bm : Addr) (ob : Obj), mg "__builtins__" = some (.ref bm) ∧ bm ≠ builtinsNs ∧ s1.heap.get? bm = some ob ∧ ob.cls = .type "module" ∧ ob.dict = some builtinsNs ∧ ob.data = .plain)
    (ha : s1.heap.get? a = some { cls := .type "list", data := .seq vs.toArray }) (hi : IntsAre vs ns) (hl : ns.length ≤ sizeLine) (hr : Room k callerA)
    (hG : GI G) (hGo : G.own = []) (hGK : G.K = K) (htab : ∀ H : Hp, (∀ p ∈ cs, H p.2 = some (.tbl #[])) → G.tab H)
    (F : ∀ base : Heap, K.In base → base.Ns mainGlobals mg → (∀ p ∈ cs, TabB base mg p.1 p.2) → FnQ P w K mg base GI k fa fd [x] g) (hbind : ∀ (s : Shared) (u : Value), BindsTo s fd ⟨[u], []⟩ [(x, u)])
    (hrun : ∃ S', g [.scr (ns.map .int)] [] = .ok (.bl true) S') :
    codeAny (model P w) callerA (.call (.ref fa) ⟨[.ref a], []⟩) (fun r s' => r = .ok (.ret (.bool true)) ∧ OldK s1.heap s'.heap ∧ s'.os = s1.os ∧ AllBare s'.gens) s1 := by
  have rv := vals_ints hi
  have lenV := hi.length
  generalize hTT : cs.map (·.2) = T
  have inT : ∀ p ∈ cs, p.2 ∈ T := fun p hp => by rw [← hTT]; exact List.mem_map.mpr ⟨p, hp, rfl⟩
  have ofT : ∀ b ∈ T, ∃ p ∈ cs, p.2 = b := fun b hb => by
    rw [← hTT] at hb
    exact List.mem_map.mp hb
  have getT : ∀ b ∈ T, s1.heap.get? b = some { cls := .none, data := .fields #[] } := fun b hb => by
    obtain ⟨p, hp, rfl⟩ := ofT b hb
    exact hT p hp
  have aT : a ∉ T := fun z => by
    have q := congrArg Obj.data (Option.some.inj ((getT a z).symm.trans ha))
    cases q
  generalize hOb : ({ cls := .type "list", data := .seq vs.toArray } : Obj) = ob at ha
  generalize hH : H0 K T a ob (ns.map V.int) = H
  have hobd : ob.data = .seq vs.toArray := by rw [← hOb]
  have trk : ∀ {b : Addr} {u : HO}, H b = some u → ∃ o, s1.heap.get? b = some o ∧ K.lookup b = none ∧ ((∃ us n, o.data = .seq us n) ∨ o.data = .fields #[]) := fun {b u} e => by
    rw [← hH] at e
    rcases H0_inv e with ⟨z, _⟩ | ⟨_, z, y, _⟩
    · obtain ⟨p, hp, rfl⟩ := ofT b z
      exact ⟨_, hT p hp, nT p hp, .inr rfl⟩
    · subst z
      exact ⟨ob, ha, y, .inl ⟨_, _, hobd⟩⟩
  have noH : ∀ {b : Addr} {o : Obj}, s1.heap.get? b = some o → (∀ us n, o.data ≠ .seq us n) → o.data ≠ .fields #[] → H b = none := fun {b o} e h1 h2 => by
    cases q : H b with
    | none => rfl
    | some u =>
      obtain ⟨o', e', _, z⟩ := trk q
      cases Option.some.inj (e.symm.trans e')
      rcases z with ⟨us, n, z⟩ | z
      · exact (h1 _ _ z).elim
      · exact (h2 z).elim
  have hok : HOk P w H s1.heap := fun b u e => by
    rw [← hH] at e
    rcases H0_inv e with ⟨z, rfl⟩ | ⟨_, rfl, _, rfl⟩
    · exact getT b z
    · exact ⟨ha, by rw [List.length_map]; exact hl, vs, _, rv, by rw [ha, ← hOb]⟩
  have toB : ∀ {b : Addr} {o : Obj}, s1.heap.get? b = some o → H b = none → (hidT s1.heap H).get? b = some o := fun e n => hidT_get e n
  have dct : ∀ {b : Addr} {o : Obj} {es : Array DictEntry} {ep : Nat}, s1.heap.get? b = some o → o.data = .dict es ep → H b = none := fun {b o es ep} e d =>
    noH e (fun us n z => by rw [d] at z; cases z) fun z => by rw [d] at z; cases z
  have nsB : ∀ {b : Addr} {m : Str → Option Value}, s1.heap.Ns b m → (hidT s1.heap H).Ns b m := fun {b m} ⟨o, es, ep, e, d, r⟩ => ⟨o, es, ep, toB e (dct e d), d, r⟩
  have hKB : K.In (hidT s1.heap H) := fun b o e => toB (KX b o e) (by
    cases q : H b with
    | none => rfl
    | some u =>
      obtain ⟨_, _, z, _⟩ := trk q
      rw [e] at z
      cases z)
  have hMo : L2.Mod K mg (hidT s1.heap H) := ⟨hKB, nsB hns, ⟨mb, nsB hb, hbb⟩, let ⟨mc, q1, q2⟩ := hlim; ⟨mc, nsB q1, q2⟩⟩
  have hTB : ∀ p ∈ cs, TabB (hidT s1.heap H) mg p.1 p.2 := fun p hp => by
    refine ⟨?_, ?_, fun z => ?_⟩
    · have c := hC p hp
      obtain ⟨o, us, file, tf, flags, tg, inF, text, tt, e1, r1, r2, r3, rest⟩ := c
      refine ⟨o, us, file, tf, flags, tg, inF, text, tt, toB e1 (noH e1 (fun ws n z => ?_) fun z => ?_), r1, r2, r3, rest⟩
      · rw [r2] at z; cases z
      · rw [r2] at z; cases z; simp at r3
    · obtain ⟨bm, o, b1, b2, b3, b4, b5, b6⟩ := hbm
      have n1 : bm ≠ mainGlobals := fun q => by
        obtain ⟨o', es, ep, e, d, _⟩ := hns
        rw [← q, b3] at e
        cases e
        rw [b6] at d
        cases d
      have n2 : bm ≠ p.2 := fun q => by
        have e := hT p hp
        rw [← q, b3] at e
        cases e
        cases b6
      refine ⟨bm, o, b1, b2, n1, n2, toB b3 (noH b3 (fun ws n z => ?_) fun z => ?_), b4, b5, b6⟩
      · rw [b6] at z; cases z
      · rw [b6] at z; cases z
    · obtain ⟨o, es, ep, e, d, _⟩ := hns
      rw [z, hT p hp] at e
      cases e
      cases d
  have e0 : Env0 P w K mg (hidT s1.heap H) callerA [] s1 H := ⟨rfl, hMo, fun b o e => of_hidT e, Nat.le_of_eq (hidT_size _ _), trivial, (fun b hb => nomatch (show b ∈ ([] : List Addr) from hb)), hok, .of_eq hg⟩
  have hsc : ScrAt G H a (ns.map V.int) := by
    cases q : K.lookup a with
    | none =>
      refine .inl ⟨ob, ?_⟩
      rw [← hH]
      unfold H0
      rw [if_neg aT, if_pos ⟨rfl, by rw [q]; rfl⟩]
    | some o =>
      have e := KX a o q
      rw [ha] at e
      cases e
      subst hOb
      exact .inr (.inr ⟨_, vs.toArray, _, by rw [hGK]; exact q, rfl, rfl, rfl, by rw [List.size_toArray, lenV]; exact hl, by simpa using rv⟩)
  obtain ⟨S', hS'⟩ := hrun
  have run := (F _ hKB (nsB hns) hTB).run G hG hGo callerA [] s1 H ⟨[.ref a], []⟩ [.ref a] [.ref a] (fun v _ => v = .bl true) (fun _ _ _ => False) hr rfl e0 (hbind s1 (.ref a)) (.cons rfl .nil)
    ⟨[], [], [.scr (ns.map .int)], ⟨rfl, (fun i j b h => by simp at h), (fun n xs h => by simp at h), htab H fun p hp => by rw [← hH]; exact H0_tab (inT p hp), (fun p hp => by rw [hGo] at hp; cases hp), fun i j c h => by simp at h⟩,
      .cons (.scr hsc (rv_ints ns)) .nil, rfl, by
        rw [hS']
        intro m' H' sr ex v rv'
        cases rv'
        rfl⟩
  refine codeAny_mono run fun r s' h => ?_
  cases r with
  | error e =>
    obtain ⟨_, _, _, _, _, _, _, _, _, _, _, _, z⟩ := h
    exact z.elim
  | ok fl =>
    cases fl with
    | next => exact False.elim h
    | brk => exact False.elim h
    | cont => exact False.elim h
    | ret u =>
      obtain ⟨v, H', os, bare, un, hok', r', q⟩ := h
      have q : v = .bl true := q
      subst q
      obtain rfl : u = Value.bool true := r'
      have grown : ∀ b ∈ T, ∃ more : Array Value, s'.heap.get? b = some { cls := .none, data := .fields more } := fun b hb => by
        obtain ⟨more, z⟩ := un.tbls b #[] (by rw [← hH]; exact H0_tab hb)
        exact ⟨_, hok' b _ z⟩
      have stay : ∀ b o, b ∉ T → s1.heap.get? b = some o → s'.heap.get? b = some o := fun b o nb e => by
        cases q : H b with
        | none => exact un.keep b o e q (fun z => nomatch (show b ∈ ([] : List Addr) from z)) (by simp)
        | some u =>
          rw [← hH] at q
          rcases H0_inv q with ⟨z, _⟩ | ⟨_, rfl, _, rfl⟩
          · exact absurd z nb
          · have z2 := un.frzs _ ob _ (by rw [← hH]; exact q)
            have e2 := (hok' _ _ z2).1
            rw [ha] at e
            cases e
            exact e2
      refine ⟨rfl, ⟨fun b o e => ?_, fun b o e => ?_⟩, os, bare⟩
      · by_cases hb : b ∈ T
        · obtain ⟨more, hm⟩ := grown b hb
          obtain ⟨p, hp, rfl⟩ := ofT b hb
          rw [hT p hp] at e
          cases e
          exact .inr (.inl ⟨((hC p hp).tab (hT p hp)).isCodeTable, rfl, #[], more, rfl, by rw [Array.empty_append]; exact hm⟩)
        · exact .inl (stay b o hb e)
      · by_cases hb : b ∈ T
        · obtain ⟨more, hm⟩ := grown b hb
          exact ⟨_, hm⟩
        · exact ⟨o, stay b o hb e⟩
/-- the walk of a law's row -/
theorem walkQ {l : PySem.W.OpenLaw} {n k : Nat} {q : Program} {loose : List Str} {XP : (Str → Option Value) → Heap → Prop} {YP : World → Heap → Prop} {d : DefRec} {x : Str}
    (hn : l.most = some n) (hn2 : n ≤ sizeLine) (hdf : d.params.defaults = []) (hr : Room k callerA) (g : List Val → E Val)
    (F : ∀ (w : World) (mg : Str → Option Value) (fa : Addr) (h : Heap), YP w h → h.Ns mainGlobals mg → mg d.name = some (.ref fa) → ∃ (K : PySem.W.Frag) (fd : FuncData) (cs : List (Addr × Addr)) (GI : Gx → Prop) (G : Gx), K.In h ∧ GI G ∧ G.own = [] ∧ G.K = K ∧ (∀ H : Hp, (∀ p ∈ cs, H p.2 = some (.tbl #[])) → G.tab H) ∧
      (∀ p ∈ cs, h.get? p.2 = some { cls := .none, data := .fields #[] }) ∧ (∀ p ∈ cs, K.lookup p.2 = none) ∧ (∀ p ∈ cs, PySem.W.CodeHd h p.1 p.2) ∧ (∀ (s : Shared) (u : Value), BindsTo s fd ⟨[u], []⟩ [(x, u)]) ∧
      ∀ base : Heap, K.In base → base.Ns mainGlobals mg → (∀ p ∈ cs, TabB base mg p.1 p.2) → FnQ l.prog w K mg base GI k fa fd [x] g)
    (hrun : ∀ ns : List Int, ns.length ≤ n → (∀ z ∈ ns, Builtin.Int.intBits z ≤ 1048576) → ∃ S', g [.scr (ns.map .int)] [] = .ok (.bl true) S') :
    PySem.W.WalkO q loose XP YP l.row.toRowW d [] (fun f vs => PySem.call f vs) := by
  refine Att.attach_callB hn hdf fun w s₀ s₁ mg mb fa o pm cd doc a vs ns G Y ho hd hcd hmg hobj hints hlen hbits hg => ?_
  obtain ⟨K, fd, cs, GI, Gh, KX, q1, q2, q3, q4, hT, nT, hC, hb, hF⟩ := F w mg fa _ Y G.T.g hmg
  exact law_endQ KX G.T.g G.T.b G.T.builtins G.T.nolimit hg hT nT hC G.T.bmain hobj hints (Nat.le_trans hlen hn2) hr q1 q2 q3 q4 hF hb (hrun ns hlen hbits)
end TQ
/-! TQ36: the class of an own exception that holds a value. -/
namespace TQ
open PySem PySem.Spec PySem.Calls PyProof.Rows L2 PySem.W
/-- what isinstance asks of the class -/
structure XisC (K : Frag) (D : Addr) : Prop where
  ga : findIn K (.ref D) "__getattribute__" = some (some (.builtin "BaseException.__getattribute__"))
  gg : findIn K (.ref D) "__getattr__" = some none
  ex : subIn K (.ref D) (.type "BaseException") = some true
  hd : hasDictIn K D = true
  cl : findIn K (.ref D) "__class__" = some (some (.builtin "object.__class__"))
  gt : specialIn K (.builtin "object.__class__") "__get__" = some (some (.builtin "getset_descriptor.__get__"))
  tk : takesIn K (.builtin "object.__class__") = some true
  ob : mroIn K D (.type "object") = some true
theorem find_data {K : Frag} {C : Addr} {od : Option Obj} {nm : Str} {a g : Value} (h1 : (clsIn K C).isSome = true) (h2 : findIn K (.ref C) nm = some (some a)) (h3 : specialIn K a "__get__" = some (some g)) (h4 : takesIn K a = some true) : findObj K C od nm = some (.bind g a) := by
  obtain ⟨c, e⟩ := Option.isSome_iff_exists.mp h1
  simp [findObj, e, h2, h3, h4]
section
variable {prog : Program} {w : World} {A : Around} {E : Value → Shared → Prop} {s : Shared} {K : Frag} {x D : Addr} {ox : Obj} {od : Option Obj}
theorem isSome_cls (h : hasDictIn K D = true) : (clsIn K D).isSome = true := by
  obtain ⟨c, e, _⟩ := any_some h
  exact Option.isSome_iff_exists.mpr ⟨c, e⟩
theorem ask_class (T : XisC K D) {Q : Option Value → Shared → Prop} (X : K.In s.heap) (I : PySem.W.InstAt s.heap x ox D od) (hq : Q (some (.ref D)) { s with toks := s.toks + 1 }) : wpAny (model prog w) A (getAttr? (.ref x) "__class__") Q E s := by
  have found := find_data (od := od) (isSome_cls T.hd) T.cl T.gt T.tk
  obtain ⟨hp, gs, dr, t, os⟩ := s
  have LT := I.type (M := model prog w)
  have La := looks_findIn (M := model prog w) X T.ga
  have Lb := looks_findIn (M := model prog w) X T.gg
  have Lc := looks_find (M := model prog w) X I found
  have Ls : Looks (model prog w) hp (isInstance (.ref x) (.type "BaseException")) true := LT.andThen (looks_subIn X T.ex)
  have n1 : (Value.builtin "BaseException.__getattribute__" == Value.builtin "object.__getattribute__") = false := by decide +kernel
  have n2 : (onTheHeap (Value.ref D) && Value.builtin "BaseException.__getattribute__" == Value.builtin "object.__getattribute__") = false := by rw [n1]; rfl
  unfold getAttr? getAttrBy? getAttrBy
  refine wpAny_bind (wpAny_mkText (wpAny_bind (wpAny_attempt (wpAny_holding (wpAny_bind (LT.at (wpAny_bind (La.at ?_))))))))
  show wpAny _ _ (ite _ _ _) _ _ _
  rw [n2, if_neg Bool.false_ne_true]
  unfold getAttrByItsOwn hookBefore
  refine wpAny_bind ?_
  rw [if_pos (show onTheHeap (Value.ref D) = true from rfl)]
  refine Lb.at ?_
  refine wpAny_bind (wpAny_attempt (wpAny_holding ?_))
  unfold callGetattribute
  rw [show (false && onTheHeap (Value.builtin "BaseException.__getattribute__")) = false from rfl, if_neg Bool.false_ne_true]
  unfold boundAndCalled
  rw [PySem.F.excAttr_ValueError.ga.bind (.ref x)]
  refine wpAny_bind (wpAny_pure ?_)
  show wpAny _ _ (call (.builtin "BaseException.__getattribute__") [.ref x, .str "__class__" t]) _ _ _
  refine wpAny_call (codeAny_call_builtin PySem.F.excAttr_ValueError.ga.plain PySem.F.entry_bexc_ga ?_)
  refine @check_slot (model prog w) _ _ ⟨hp, gs, dr, t + 1, os⟩ "BaseException.__getattribute__" "BaseException" "__getattribute__" (.ref x) [.str "__class__" t] [] _ (by decide +kernel) (by decide +kernel) Ls (PySem.F.args_bexc_ga (.ref x) (.str "__class__" t)) ?_
  unfold Builtin.«object.__getattribute__»
  refine wpAny_bind (wpAny_of_eq (a := ((Value.ref x : Value), [Value.str "__class__" t])) (by first | rfl | (simp only [slotArgs]; rfl)) ?_)
  refine wpAny_bind (wpAny_pure (wpAny_bind (LT.at (wpAny_bind (Lc.at ?_)))))
  show wpAny _ _ (holding [Value.builtin "object.__class__"] (call (.builtin "getset_descriptor.__get__") [.builtin "object.__class__", .ref x, .ref D]) >>= ret) _ _ _
  refine wpAny_bind (wpAny_holding (wpAny_call (class_get (s := ⟨hp, gs, dr, t + 1, os⟩) (ox := ox) (od := od) X I T.ob ?_)))
  refine wpAny_pure ?_
  show wpAny _ _ (handedOut (.ref D)) _ _ _
  rw [handedOut_of (v := .ref D) rfl]
  first
    | exact wpAny_pure (wpAny_pure hq)
    | exact wpAny_pure hq
    | exact wpAny_pure (wpAny_bind (wpAny_pure (wpAny_pure hq)))
theorem kit_own (T : XisC K D) : KitX K (.ref x) (.ref D) (fun h => ∃ ox od, PySem.W.InstAt h x ox D od) where
  ty := fun _ _ _ ⟨_, _, I⟩ => I.type
  it := fun _ _ X _ => by
    obtain ⟨c, e⟩ := Option.isSome_iff_exists.mp (isSome_cls T.hd)
    unfold clsIn at e
    split at e
    · rename_i o1 o2 o3 o4 ho
      intro A' Q' E' s' k q
      unfold isType loadHead
      exact wpAny_bind (wpAny_loadPart (k _ _ (X _ _ ho)) (wpAny_pure q))
    · cases e
  ne := fun h tp dd its n sl X htp => by
    obtain ⟨c, e⟩ := Option.isSome_iff_exists.mp (isSome_cls T.hd)
    refine Bool.eq_false_iff.mpr fun q => ?_
    obtain rfl : D = tp := Value.ref.inj (beq_iff_eq.mp q)
    unfold clsIn at e
    split at e
    · rename_i o1 o2 o3 o4 ho
      cases (X _ _ ho).symm.trans htp
    · cases e
  ca := fun X ⟨_, _, I⟩ k => ask_class T X I k
end
/-- isinstance of exceptions that are held -/
theorem excLook_of {K : Frag} {G : Gx} (he : ∀ c w a H, G.exc c w a H → ExcG G.m c w a H) (hT : ∀ c w a H C, G.exc c w a H → G.m c = some (.ref C) → XisC K C) : ExcLook K G := by
  intro P w H h cc d a hK hok hx
  obtain ⟨C, dd, h1, h2, h3⟩ := he _ _ _ _ hx
  obtain ⟨oe, vs, e1, e2, e3⟩ := xcO_at hok h2
  have hd : ObjOk P w H h dd (.xd [(sValue, d)]) := hok dd _ h3
  obtain ⟨mA, hns, _⟩ := hd
  obtain ⟨od, ho, _⟩ := lookIn_ns hns
  refine ⟨C, _, h1, kit_own (hT _ _ _ _ _ hx h1), oe, some od, e1, e2.1, ?_, ?_⟩
  · unfold PySem.W.notCls; rw [e3] <;> rfl
  · rw [e2.2]; exact ho
end TQ
/-! TQ37: what is read off the heap behind the top about exceptions. -/
namespace TQ
open PySem PySem.Spec PyProof.Rows L2 PySem.W
theorem bAnd {a b : Bool} (h : (a && b) = true) : a = true ∧ b = true := Bool.and_eq_true_iff.mp h
def xisB (K : Frag) (D : Addr) : Bool :=
  decide (findIn K (.ref D) "__getattribute__" = some (some (.builtin "BaseException.__getattribute__"))) && (decide (findIn K (.ref D) "__getattr__" = some none) && (decide (subIn K (.ref D) (.type "BaseException") = some true) && (hasDictIn K D && (decide (findIn K (.ref D) "__class__" = some (some (.builtin "object.__class__"))) &&
    (decide (specialIn K (.builtin "object.__class__") "__get__" = some (some (.builtin "getset_descriptor.__get__"))) && (decide (takesIn K (.builtin "object.__class__") = some true) && decide (mroIn K D (.type "object") = some true)))))))
theorem xisB_ok {K : Frag} {D : Addr} (h : xisB K D = true) : XisC K D := by
  unfold xisB at h
  simp only [Bool.and_eq_true, decide_eq_true_eq] at h
  obtain ⟨h1, h2, h3, h4, h5, h6, h7, h8⟩ := h
  exact ⟨h1, h2, h3, h4, h5, h6, h7, h8⟩
theorem xisB_f {K : Frag} {D : Addr} (h : xisB K D = true) : XfC K D := by
  have T := xisB_ok h
  exact ⟨T.ga, T.gg, T.ex, T.hd⟩
def oexB (K : Frag) (C : Addr) : Bool := (match K.lookup C with
  | some ⟨.type t, _, .cls cd, sl⟩ => decide (t = "type") && (match cd.mro, sl.toList with
    | .ref C' :: bm, [_, _, _, _, some (.builtin n), _] => decide (C' = C) && (decide (n = "ValueError.__new__") && (!cd.hasDel && (cd.hasDict && HandSPX.refsVE bm)))
    | _, _ => false)
  | _ => false) && (decide (findIn K (.ref C) "__setattr__" = some (some (.builtin "object.__setattr__"))) && (decide (subIn K (.ref C) (.type "BaseException") = some true) && (decide (typeIn K (.ref C) = some (.type "type")) && keepIn K (.ref C))))
theorem oexB_ok {K : Frag} {C : Addr} (h : oexB K C = true) : OexC K C := by
  unfold oexB at h
  obtain ⟨h0, h⟩ := bAnd h
  simp only [Bool.and_eq_true, decide_eq_true_eq] at h
  obtain ⟨h1, h2, h3, h4⟩ := h
  refine ⟨?_, h1, h2, h3, h4⟩
  split at h0
  · rename_i t dd cd sl e
    obtain ⟨ht, h0⟩ := bAnd h0
    split at h0
    · rename_i C' bm k0 k1 k2 k3 n k5 hm hs
      simp only [Bool.and_eq_true, decide_eq_true_eq, Bool.not_eq_true'] at h0
      obtain ⟨q1, q2, q3, q4, q5⟩ := h0
      have ht := of_decide_eq_true ht
      subst q1 q2 ht
      obtain ⟨nm, bs, mro, ns, qn, hd, sn, sub, ab, col, del⟩ := cd
      dsimp only at hm q3 q4
      subst hm q3 q4
      have hsl : sl = #[k0, k1, k2, k3, some (.builtin "ValueError.__new__"), k5] := by
        rw [← Array.toList_inj, hs]
      subst hsl
      exact ⟨nm, qn, ns, bs, bm, sn, sub, ab, col, dd, k0, k1, k2, k3, k5, e, q5⟩
    · cases h0
  · cases h0
def iniCB (K : Frag) (D C : Addr) (fld : Str) : Bool := oexB K C && (decide (mroIn K C (.ref D) = some true) && (decide (ks_superIn K C D "__init__" = some (some (.builtin "ValueError.__init__"))) && (decide (subIn K (.ref C) (.type "ValueError") = some true) && decide (findIn K (.ref C) fld = some none))))
theorem iniCB_ok {K : Frag} {D C : Addr} {fld : Str} (h : iniCB K D C fld = true) : IniC K D C fld := by
  unfold iniCB at h
  obtain ⟨h0, h⟩ := bAnd h
  simp only [Bool.and_eq_true, decide_eq_true_eq] at h
  obtain ⟨h1, h2, h3, h4⟩ := h
  exact ⟨oexB_ok h0, h1, h2, h3, h4⟩
/-! ### __init__ -/
abbrev IniV : Type := Option (Str × Str × Arguments × FuncBody × Scope × Addr × List Str × Addr)
/-- the function at f -/
def iniW (K : Frag) (f : Addr) : IniV := match K.lookup f with
  | some ⟨_, _, .func fd, _⟩ => some (fd.name, fd.qualname, fd.params, fd.body, fd.scope, fd.globals, fd.closure.map (·.1), fd.builtins)
  | _ => none
def iniS (p : Program) : Stmt := match p.main.body.getD 1 (.Pass ⟨0, 0, 0, 0⟩) with
  | .ClassDef _ _ _ body _ _ _ _ _ _ _ => body.getD 0 (.Pass ⟨0, 0, 0, 0⟩)
  | _ => .Pass ⟨0, 0, 0, 0⟩
def iniQ : Str := "PayError.__init__"
def iniV (p : Program) : IniV := some ("__init__", iniQ, defArgs (iniS p), .stmts (defBody (iniS p)), defScope (iniS p), mainGlobals, ["__class__"], builtinsNs)
def iniB (p : Program) (K : Frag) (D f : Addr) : Bool := (match K.lookup f with
  | some ⟨_, _, .func fd, _⟩ => codeIn K fd.code iniQ && ((match fd.code with
      | .ref c => (match K.lookup c with
        | some ⟨_, _, .fields vs, _⟩ => (match (vs[2]? : Option Value) with
          | some (.str x _) => (p.main.file : Str) == x
          | _ => false)
        | _ => false)
      | _ => false) && ((match fd.closure with
      | [(_, cc)] => (match K.lookup cc with
        | some ⟨_, _, .cell (some (.ref D')), _⟩ => decide (D' = D)
        | _ => false)
      | _ => false) && (match fd.defaults with
      | .ref T => (match K.lookup T with
        | some ⟨_, _, .seq its _, _⟩ => decide (its.size = 1)
        | _ => false)
      | _ => false)))
  | _ => false) && ((clsIn K D).isSome && (decide (nsIn K cStatics "thirdparty.any" = some none) && decide (typeIn K (.ref f) = some (.type "function"))))
/-- what the text says of __init__ -/
structure IniT (p : Program) (q0 q1 q2 q3 q4 q5 q6 q7 q8 q9 : Pos) : Prop where
  body : defBody (iniS p) = iniBody "self" "value" sValue q0 q1 q2 q3 q4 q5 q6 q7 q8 q9
  ps : ∃ ar : Arg, ((defArgs (iniS p)).posonlyargs ++ (defArgs (iniS p)).args).head? = some ar ∧ ar.arg = "self"
  htop : (p.main.scope.names.lookup ("super" : Str)).isSome = false
  hks : (defScope (iniS p)).names.lookup ("super" : Str) = some .globalImplicit
  hkc : (defScope (iniS p)).names.lookup ("__class__" : Str) = some .free
  hka : (defScope (iniS p)).names.lookup ("self" : Str) = some .local
  hkv : (defScope (iniS p)).names.lookup ("value" : Str) = some .local
  hcell : ∀ y ∈ (defScope (iniS p)).names, y.2 ≠ .cell
  hco : (defScope (iniS p)).isCoroutine = false
  hgen : (defScope (iniS p)).isGenerator = false
  hk : (defScope (iniS p)).kind = .function
  line : (q2.endLine == q4.line) = true
  bind : ∀ (T : Addr) (kV doc pm : Value) (an : Option Addr) (cdv ct : Value) (cc : Addr) (u v : Value) (its : List Value), its.length = 1 → ∃ k, bindArgs (ksFn "__init__" iniQ (defArgs (iniS p)) (defBody (iniS p)) (defScope (iniS p)) (.ref T) kV doc pm an cdv ct cc) ⟨[u, v], []⟩ = seqItems? (.ref T) >>= k ∧ k (some its.toArray) = (pure [(("self" : Str), u), (("value" : Str), v)] : Sem (List (Str × Value)))
/-- exceptions of the class C may be made -/
theorem mkBy_of {p : Program} {X : Cx} {x : Str} {C D f : Addr} {q0 q1 q2 q3 q4 q5 q6 q7 q8 q9 : Pos} {k : Nat} (T : IniT p q0 q1 q2 q3 q4 q5 q6 q7 q8 q9) (hp : X.prog = p) (hw : iniW X.K f = iniV p) (hb : iniB p X.K D f = true) (hs : X.mg "super" = none) (TC : IniC X.K D C sValue) (iC : findIn X.K (.ref C) "__init__" = some (some (.ref f)))
    (hr : Room (k + 1) X.A) (hm : X.mg x = some (.ref C)) (hdb : (x == ("__debug__" : Str)) = false) : MkBy X x C := by
  subst hp
  unfold iniB at hb
  obtain ⟨h0, h⟩ := bAnd hb
  simp only [Bool.and_eq_true, decide_eq_true_eq] at h
  obtain ⟨hD, hany, hty⟩ := h
  cases lk : X.K.lookup f with
  | none => rw [lk] at h0; cases h0
  | some o =>
    obtain ⟨oc, od, dt, osl⟩ := o
    rw [lk] at h0
    cases dt with
    | func fd =>
      have ew : iniW X.K f = some (fd.name, fd.qualname, fd.params, fd.body, fd.scope, fd.globals, fd.closure.map (·.1), fd.builtins) := by unfold iniW; rw [lk]
      rw [hw] at ew
      unfold iniV at ew
      simp only [Option.some.injEq, Prod.mk.injEq] at ew
      obtain ⟨e1, e2, e3, e4, e5, e6, e7, e8⟩ := ew
      obtain ⟨h1, g1⟩ := bAnd h0
      obtain ⟨h2, g2⟩ := bAnd g1
      obtain ⟨h3, h4⟩ := bAnd g2
      clear h0 g1 g2 hb hw
      obtain ⟨n1, n2, n3, n4, n5, n6, n7, n8, n9, n10, n11, n12, n13, n14, n15⟩ := fd
      dsimp only at e1 e2 e3 e4 e5 e6 e7 e8 h1 h2 h3 h4
      subst e1 e2 e3 e4 e5 e6 e8
      split at h2
      · rename_i cda
        split at h2
        · rename_i ccl cdd vs ccs el
          split at h2
          · rename_i file tf ef
            split at h3
            · rename_i cc
              simp only [List.map_cons, List.map_nil, List.cons.injEq, and_true] at e7
              subst e7
              split at h3
              · rename_i cl cld D' csl ecell
                have hDD := of_decide_eq_true h3
                subst hDD
                split at h4
                · rename_i T0
                  split at h4
                  · rename_i tc td its tn tsl eT
                    have hsz := of_decide_eq_true h4
                    have ini : IniK X.prog X.K X.mg f D' cc cda "__init__" iniQ "self" "value" sValue (defArgs (iniS X.prog)) (defScope (iniS X.prog)) (.ref T0) n9 n10 n11 n14 oc n12 od osl q0 q1 q2 q3 q4 q5 q6 q7 q8 q9 := by
                      refine ⟨by rw [lk, ← T.body], h1, T.ps, ⟨ccl, cdd, vs, ccs, file, tf, el, ef, h2⟩, ⟨cl, cld, csl, ecell⟩, Option.isSome_iff_exists.mp hD, hs, T.htop, T.hks, T.hkc, T.hka, T.hkv, by decide +kernel, T.hcell, T.hco, T.hgen, T.hk, hany, by decide +kernel, by decide +kernel, fun _ => rfl, fun _ => rfl, fun env => ⟨plainOf (.Call (.Name "super" q0) [] [] q1) env, ?_⟩⟩
                      show (attributeBase (.Call (.Name "super" q0) [] [] q1) "__init__" env (eval (.Call (.Name "super" q0) [] [] q1) env) >>= fun ov => standAt q2.atName >>= fun _ => methodCall (.Call (.Name "super" q0) [] [] q1) "__init__" q2 q4 env ov _ (backTo q4 (starEach [.Name "value" q3] env)) []) = _
                      congr 1
                      funext ov
                      congr 1
                      funext _
                      exact mcall_line rfl T.line
                    intro e te p' pos hg he hst
                    refine pmk_ini (mgE := fun _ => none) ini TC iC hty (fun s us hK hl => ?_) hr hg hm he hdb hst rfl
                    rw [List.append_nil] at hl ⊢
                    match us, hl with
                    | [u, v], _ =>
                      obtain ⟨k', b1, b2⟩ := T.bind T0 n9 n10 n11 n12 (.ref cda) n14 cc u v its.toList (by rw [Array.length_toList]; exact hsz)
                      refine BindsTo.of_looks fun M => ?_
                      have b1 : bindArgs (ksFn "__init__" iniQ (defArgs (iniS X.prog)) (iniBody "self" "value" sValue q0 q1 q2 q3 q4 q5 q6 q7 q8 q9) (defScope (iniS X.prog)) (.ref T0) n9 n10 n11 n12 (.ref cda) n14 cc) ⟨[u, v], []⟩ = seqItems? (.ref T0) >>= k' := by rw [← T.body]; exact b1
                      rw [b1]
                      refine looks_items hK eT rfl ?_
                      rw [Array.toArray_toList] at b2
                      exact .of_pure b2
                  · cases h4
                · cases h4
              · cases h3
            · cases h3
          · cases h2
        · cases h2
      · cases h2
    | _ => cases h0
end TQ
/-! TQ38: a law's text as data; the layers of the evaluator; what is asked of the heap; the check. -/
namespace TQ
open PySem PySem.Spec PyProof.Rows L2 LamX
/-- a def: name, row of the text, parameters, slots -/
structure Fe where
  name : String
  row : Nat
  ps : List String
  N : List String
  d : Df
structure LawD where
  prog : Program
  fe : List Fe
  lms : List Lm
  base : String
  own : List String
  nums : List (String × Int)
  tups : List (String × List Int)
  frees : List String
  kws : List (String × List String × Nat × List Nat)
  mks : List String
abbrev sS (x : String) : Str := PySem.Str.ofString x
section
variable (D : LawD)
def LawD.find (x : Str) : Option Fe := D.fe.find? fun e => decide (sS e.name = x)
def LawD.isOwn (x : Str) : Bool := D.own.any fun y => decide (sS y = x)
def isPl (x : Str) : Bool := (["NoneType", "bool", "int", "str", "list", "tuple", "dict"] : List String).any fun y => decide (sS y = x)
def LawD.isE (t T : Str) : Option Bool :=
  if D.isOwn T then (if D.isOwn t then some (decide (t = T) || decide (T = sS D.base)) else if isPl t then some false else none)
  else if T = "ValueError" then (if D.isOwn t then some true else if isPl t then some false else none) else none
def LawD.cs (x : Str) : Option Val := match D.nums.find? fun p => decide (sS p.1 = x) with
  | some p => some (.int p.2)
  | none => (D.tups.find? fun p => decide (sS p.1 = x)).map fun p => .tup (p.2.map .int)
/-- k layers -/
def PL : Nat → Pr
  | 0 => ⟨fun _ _ => E.bad, fun _ _ _ _ => E.bad, D.cs, D.isE, [], false⟩
  | k + 1 => ⟨fun x vs => match D.find x with
      | some e => runDf (PL k) e.d vs
      | none => E.bad, fun j rs cs us => match D.lms[j]? with
      | some l => runLm (PL k) l rs cs us
      | none => E.bad, D.cs, D.isE, [], false⟩
def LawD.nomod (x : Str) : Bool := D.frees.any fun y => decide (sS y = x)
def LawD.fns (x : Str) : Option (List Str) := (D.find x).map fun e => e.ps.map sS
def LawD.kwsOf (x : Str) : List (List Str × Nat × List Nat) := (D.kws.filter fun p => decide (sS p.1 = x)).map fun p => (p.2.1.map sS, p.2.2.1, p.2.2.2)
def LawD.clsB (x : Str) : Bool := D.isOwn x || (["int", "bool", "str", "list", "tuple", "ValueError"] : List String).any fun y => decide (sS y = x)
/-- in a lambda -/
def ckL (L : LI) : Ck := { N := L.ps ++ L.fr, sc := L.scope, fnb := fun _ => false, nomod := D.nomod, fns := D.fns, kws := D.kwsOf, cs := fun x => (D.cs x).isSome, cls := D.clsB, rs := fun _ => false, cv := true }
def okPar (params : Arguments) (ps : List Str) : Bool := match params with
  | ⟨[], as, none, [], [], none, []⟩ => decide (as.map (·.arg) = ps)
  | _ => false
def LawD.lamB (j : Nat) (L : LI) : Bool := match D.lms[j]? with
  | none => false
  | some l => NdefX.nscB (L.ps ++ L.fr) L.ps L.fr L.scope && okPar L.params L.ps && decide (L.ps.length ≤ 1) && decide (l.pars = L.ps.length) && decide (l.caps = L.fr.length) && (chkP l.body (ckL D L)).v L.body
def ckD (e : Fe) : Ck := { N := e.N.map sS, sc := (defAt D.prog e.row).scope, fnb := fun _ => true, nomod := D.nomod, fns := D.fns, kws := D.kwsOf, cs := fun x => (D.cs x).isSome, cls := D.clsB, rs := D.isOwn, cv := true, exn := fun x => decide (x = sS D.base), lamOn := D.mks.contains e.name, qual := sS e.name ++ ".<locals>.", lamB := D.lamB }
def scB (N ps : List Str) (sc : Scope) : Bool := decide (sc.kind = .function) && (!sc.isCoroutine && (!sc.isGenerator && (decide N.Nodup && (decide (N.take ps.length = ps) && (ps.all (fun x => decide (sc.names.lookup x = some .local) || decide (sc.names.lookup x = some .cell)) && sc.names.all fun y => !decide (y.2 = .free))))))
theorem scB_ok {N ps : List Str} {sc : Scope} (h : scB N ps sc = true) : FnScope N ps sc := by
  unfold scB at h
  simp only [Bool.and_eq_true, decide_eq_true_eq, Bool.not_eq_true', List.all_eq_true, Bool.or_eq_true, decide_eq_false_iff_not] at h
  obtain ⟨h1, h2, h3, h4, h5, h6, h7⟩ := h
  exact ⟨h1, h2, h3, h4, h5, h6, h7⟩
def lastRet (f : Expr → Bool) (b : List Stmt) : Bool := match b.getLast? with
  | some (.Return (some x) _) => f x
  | _ => false
/-- the check of a def -/
def chkD (e : Fe) : Bool := decide (sS e.name = (defAt D.prog e.row).name) && (decide (sS e.name = (defAt D.prog e.row).qual) && (decide (e.d.size = e.N.length) && (decide (e.d.pars = e.ps.length) && (scB (e.N.map sS) (e.ps.map sS) (defAt D.prog e.row).scope &&
  (if e.d.cells.isEmpty then chkSs (ckD D e) e.d.body (defAt D.prog e.row).body
   else decide e.d.cells.Nodup && (e.d.cells.all (fun i => match (e.N.map sS)[i]? with
      | some x => decide ((defAt D.prog e.row).scope.names.lookup x = some .cell)
      | none => false) && (match e.d.fin with
      | none => chkSs (ckD D e) e.d.body (defAt D.prog e.row).body
      | some x => chkSs (ckD D e) e.d.body (defAt D.prog e.row).body.dropLast && lastRet (chkP x (ckD D e)).v (defAt D.prog e.row).body)))))))
/-! ### what the heap must tell -/
abbrev gaS (K : PySem.W.Frag) (x : String) : Addr := He.ga K (sS x)
def fI (K : PySem.W.Frag) : Addr := He.ma K (gaS K D.base) "__init__"
/-- the tables of the defs that make lambdas -/
def LawD.tb (K : PySem.W.Frag) : List (Addr × Str) := D.mks.map fun n => ((He.cT K (sS n, none)).2, sS n ++ ".<locals>." ++ "<lambda>")
structure Facts (K : PySem.W.Frag) (mg : Str → Option Value) : Prop where
  fn : ∀ e ∈ D.fe, ∃ fd, FunD K (sS e.name) (sS e.name) (defAt D.prog e.row).params (defAt D.prog e.row).body (defAt D.prog e.row).scope [] [] (gaS K e.name) fd ∧ mg (sS e.name) = some (.ref (gaS K e.name))
  free : ∀ x ∈ D.frees, mg (sS x) = none
  nums : ∀ p ∈ D.nums, ∃ t, mg (sS p.1) = some (.int p.2 t)
  tups : ∀ p ∈ D.tups, mg (sS p.1) = some (.ref (gaS K p.1)) ∧ ∀ H : Hp, SqT K H (gaS K p.1) (p.2.map V.int)
  own : ∀ c ∈ D.own, mg (sS c) = some (.ref (gaS K c)) ∧ xisB K (gaS K c) = true ∧ PySem.W.findIn K (.ref (gaS K c)) sValue = some none ∧ iniCB K (gaS K D.base) (gaS K c) sValue = true ∧ PySem.W.findIn K (.ref (gaS K c)) "__init__" = some (some (.ref (fI D K))) ∧ PySem.W.exmOne K (.ref (gaS K c)) (.ref (gaS K D.base)) = some true
  bs : D.base ∈ D.own
  is : IsOk K mg D.isE
  ini : iniW K (fI D K) = iniV D.prog ∧ iniB D.prog K (gaS K D.base) (fI D K) = true
  init : ∃ q0 q1 q2 q3 q4 q5 q6 q7 q8 q9, IniT D.prog q0 q1 q2 q3 q4 q5 q6 q7 q8 q9
  sup : "super" ∈ D.frees
  plain : ∀ T, plainT T = true → mg T = none
  ve : mg "ValueError" = none
  nd : (D.mks.map fun n => (He.cT K (sS n, none)).2).Nodup
  code : ∀ n ∈ D.mks, ∀ (oc : Value) (od : Option Addr) (fd : FuncData) (osl : Array (Option Value)), K.lookup (gaS K n) = some ⟨oc, od, .func fd, osl⟩ → fd.code = .ref (He.cT K (sS n, none)).1
  dbg : ∀ T, D.clsB T = true → T ≠ "__debug__"
  bnd : ∀ e ∈ D.fe, ∀ (kV doc pm : Value) (an : Option Addr) (cdv ct : Value) (us : List Value), us.length = e.ps.length → bindArgs (PySem.W.fnOf (sS e.name) (sS e.name) (defAt D.prog e.row).params (defAt D.prog e.row).body (defAt D.prog e.row).scope .none kV doc pm an cdv ct) ⟨us, []⟩ = pure ((e.ps.map sS).zip us)
  kwb : ∀ e ∈ D.fe, ∀ t ∈ D.kwsOf (sS e.name), (∀ (kV doc pm : Value) (an : Option Addr) (cdv ct : Value), KwB (PySem.W.fnOf (sS e.name) (sS e.name) (defAt D.prog e.row).params (defAt D.prog e.row).body (defAt D.prog e.row).scope .none kV doc pm an cdv ct) (e.ps.map sS) t.1 t.2.1 t.2.2) ∧ t.2.2.length = e.ps.length
  chk : ∀ e ∈ D.fe, chkD D e = true
/-! ### the ghosts -/
theorem tabs_ext {T : List (Addr × Str)} {H H' : Hp} (h : ∀ b o, H b = some o → (Kep o ∨ ∃ ps, o = .tbl ps) → H' b = some o) (t : Tabs T H) : Tabs T H' := fun p hp => by
  obtain ⟨ps, h1, h2, h3⟩ := t p hp
  refine ⟨ps, h _ _ h1 (.inr ⟨ps, rfl⟩), h2, fun pos cv hc => ?_⟩
  obtain ⟨c, e1, e2⟩ := h3 pos cv hc
  exact ⟨c, e1, h _ _ e2 (.inl True.intro)⟩
def GX (K : PySem.W.Frag) (mg : Str → Option Value) : Gx where
  K := K
  m := mg
  exc := fun c w a H => D.isOwn c = true ∧ ExcG mg c w a H
  clo := CloG fun j L => D.lamB j L = true
  own := []
  exc_ky := fun k h => ⟨h.1, excG_ky k h.2⟩
  clo_ky := cloG_ky
  tab := Tabs (D.tb K)
  tab_ext := tabs_ext
def GIx (K : PySem.W.Frag) (mg : Str → Option Value) (G : Gx) : Prop := G.ow [] = GX D K mg
theorem gi_eq {K : PySem.W.Frag} {mg : Str → Option Value} {G : Gx} (h : GIx D K mg G) (ho : G.own = []) : G = GX D K mg := by
  unfold GIx at h
  rw [ow_nil ho] at h
  exact h
end
end TQ
/-! TQ39: every layer keeps its promises. -/
namespace TQ
open PySem PySem.Spec PyProof.Rows L2 LamX
section
variable {D : LawD} {w : World} {K : PySem.W.Frag} {mg : Str → Option Value} {base : Heap}
theorem find_mem {x : Str} {e : Fe} (h : D.find x = some e) : e ∈ D.fe ∧ sS e.name = x := by
  unfold LawD.find at h
  exact ⟨List.mem_of_find?_eq_some h, by simpa using List.find?_some h⟩
theorem own_mem {x : Str} (h : D.isOwn x = true) : ∃ c ∈ D.own, sS c = x := by
  unfold LawD.isOwn at h
  obtain ⟨c, h1, h2⟩ := List.any_eq_true.mp h
  exact ⟨c, h1, of_decide_eq_true h2⟩
theorem mem_own {c : String} (h : c ∈ D.own) : D.isOwn (sS c) = true := by
  unfold LawD.isOwn
  exact List.any_eq_true.mpr ⟨c, h, decide_eq_true rfl⟩
theorem isE_own (hb : D.base ∈ D.own) {t : Str} (h : D.isE t (sS D.base) = some true) : D.isOwn t = true := by
  unfold LawD.isE at h
  rw [if_pos (mem_own hb)] at h
  split at h
  · assumption
  · split at h <;> cases h
abbrev Gw (D : LawD) (K : PySem.W.Frag) (mg : Str → Option Value) (o : List (Nat × Addr)) : Gx := (GX D K mg).ow o
theorem ftl {o : List (Nat × Addr)} (F : Facts D K mg) : FldOk K (Gw D K mg o) := ⟨fun c w a H h => h.2, fun c C w a H h hm => by
  obtain ⟨x, hx, rfl⟩ := own_mem h.1
  obtain ⟨h1, h2, h3, _⟩ := F.own x hx
  have hm : mg (sS x) = some (.ref C) := hm
  rw [h1] at hm
  cases hm
  exact ⟨xisB_f h2, h3⟩⟩
theorem isCx_of {X : Cx} {P : Pr} {o : List (Nat × Addr)} (F : Facts D K mg) (hK : X.K = K) (hm : X.mg = mg) (hP : P.isE = D.isE) : IsCx X (Gw D K mg o) P := by
  subst hK hm
  refine ⟨rfl, rfl, by rw [hP]; exact F.is, F.plain, fun c w a H h => ?_, excLook_of (fun c w a H h => h.2) fun c w a H C h hm => ?_⟩
  · obtain ⟨_, C, dd, h1, _⟩ := h
    exact ⟨C, h1⟩
  · obtain ⟨x, hx, rfl⟩ := own_mem h.1
    obtain ⟨h1, h2, _⟩ := F.own x hx
    have hm : X.mg (sS x) = some (.ref C) := hm
    rw [h1] at hm
    cases hm
    exact xisB_ok h2
theorem cls_of (F : Facts D K mg) {T : Str} (h : D.clsB T = true) : T ≠ "__debug__" ∧ ∃ v u, ClsN mg T v u := by
  refine ⟨F.dbg T h, ?_⟩
  unfold LawD.clsB at h
  simp only [Bool.or_eq_true] at h
  rcases h with h | h
  · obtain ⟨c, hc, rfl⟩ := own_mem h
    exact ⟨_, _, .own _ (F.own c hc).1⟩
  · simp only [List.any_cons, List.any_nil, Bool.or_false, Bool.or_eq_true, decide_eq_true_eq] at h
    rcases h with rfl | rfl | rfl | rfl | rfl | rfl
    · exact ⟨_, _, .ty "int" (F.plain _ (by decide +kernel)) PyProof.Rows.boot_int (by decide +kernel)⟩
    · exact ⟨_, _, .ty "bool" (F.plain _ (by decide +kernel)) boot_bool (by decide +kernel)⟩
    · exact ⟨_, _, .ty "str" (F.plain _ (by decide +kernel)) boot_str (by decide +kernel)⟩
    · exact ⟨_, _, .ty "list" (F.plain _ (by decide +kernel)) PyProof.Rows.boot_list (by decide +kernel)⟩
    · exact ⟨_, _, .ty "tuple" (F.plain _ (by decide +kernel)) PyProof.Rows.boot_tuple (by decide +kernel)⟩
    · exact ⟨_, _, .ty "ValueError" F.ve (by decide +kernel) (by decide +kernel)⟩
theorem rvl_ints {G : Gx} {H : Hp} {m : List Nat} : ∀ ns : List Int, RVL G H m (ns.map Val.int) (ns.map V.int)
  | [] => .nil
  | n :: ns => .cons .int (rvl_ints ns)
theorem cs_of {o : List (Nat × Addr)} (F : Facts D K mg) {x : Str} (h : (D.cs x).isSome = true) : ∃ val u v, D.cs x = some val ∧ mg x = some u ∧ L2.RelV v u ∧ ∀ H m, RV (Gw D K mg o) H m val v := by
  unfold LawD.cs at h ⊢
  cases e : D.nums.find? fun p => decide (sS p.1 = x) with
  | some p =>
    have hp := List.mem_of_find?_eq_some e
    have hx : sS p.1 = x := by simpa using List.find?_some e
    subst hx
    obtain ⟨t, ht⟩ := F.nums p hp
    exact ⟨_, _, .int p.2, rfl, ht, ⟨t, rfl⟩, fun _ _ => .int⟩
  | none =>
    rw [e] at h
    cases e2 : D.tups.find? fun p => decide (sS p.1 = x) with
    | none => simp only [e2] at h; cases h
    | some p =>
      have hp := List.mem_of_find?_eq_some e2
      have hx : sS p.1 = x := by simpa using List.find?_some e2
      subst hx
      obtain ⟨h1, h2⟩ := F.tups p hp
      exact ⟨.tup (p.2.map .int), _, .ref (gaS K p.1), rfl, h1, rfl, fun H m => .tup (h2 H) (rvl_ints _)⟩
theorem nomod_of (F : Facts D K mg) {x : Str} (h : D.nomod x = true) : mg x = none := by
  unfold LawD.nomod at h
  obtain ⟨c, h1, h2⟩ := List.any_eq_true.mp h
  rw [← of_decide_eq_true h2]
  exact F.free c h1
/-- what is shown of a layer -/
structure Snd (D : LawD) (w : World) (K : PySem.W.Frag) (mg : Str → Option Value) (base : Heap) (k : Nat) : Prop where
  fn : ∀ e ∈ D.fe, D.find (sS e.name) = some e → ∃ fd, FunD K (sS e.name) (sS e.name) (defAt D.prog e.row).params (defAt D.prog e.row).body (defAt D.prog e.row).scope [] [] (gaS K e.name) fd ∧ FnQ D.prog w K mg base (GIx D K mg) (k + 1) (gaS K e.name) fd (e.ps.map sS) ((PL D k).fn (sS e.name))
  lam : ∀ j, LmQ D.prog w K mg base (GIx D K mg) (k + 1) j ((PL D k).lam j)
  val : ∀ x, FvQ D.prog w K mg base (GIx D K mg) (k + 1) x ((PL D k).fn x)
theorem binds_of (F : Facts D K mg) {e : Fe} (he : e ∈ D.fe) {fd : FuncData} (h : FunD K (sS e.name) (sS e.name) (defAt D.prog e.row).params (defAt D.prog e.row).body (defAt D.prog e.row).scope [] [] (gaS K e.name) fd) : Binds K fd (e.ps.map sS) [] :=
  h.bindsN fun kV doc pm an cdv ct us hl => F.bnd e he kV doc pm an cdv ct us (by rw [hl, List.length_map])
theorem fns_of (F : Facts D K mg) {k : Nat} (S : Snd D w K mg base k) {A : Around} (hr : Room (k + 1) A) {x : Str} {ps : List Str} (h : D.fns x = some ps) :
    ∃ k' f fd, FnQ D.prog w K mg base (GIx D K mg) k' f fd ps ((PL D k).fn x) ∧ Room k' A ∧ mg x = some (.ref f) ∧ PySem.W.keepIn K (.ref f) = true ∧ Binds K fd ps [] ∧ ∀ t ∈ D.kwsOf x, KwB fd ps t.1 t.2.1 t.2.2 ∧ t.2.2.length = ps.length := by
  unfold LawD.fns at h
  obtain ⟨e, e1, rfl⟩ := Option.map_eq_some_iff.mp h
  obtain ⟨he, rfl⟩ := find_mem e1
  obtain ⟨fd, h1, h2⟩ := S.fn e he e1
  obtain ⟨_, _, hm⟩ := F.fn e he
  refine ⟨k + 1, _, fd, h2, hr, hm, h1.kp, binds_of F he h1, fun t ht => ?_⟩
  obtain ⟨q1, q2⟩ := F.kwb e he t ht
  obtain ⟨oc, od, dV, kV, doc, pm, an, cdv, ct, osl, rfl, lk, hcd, hD, hK⟩ := h1.ex
  refine ⟨?_, by rw [q2, List.length_map]⟩
  rcases hD with ⟨_, rfl⟩ | ⟨z, _⟩
  · exact q1 kV doc pm an cdv ct
  · exact absurd rfl z
theorem mkx_of (F : Facts D K mg) {X : Cx} {k : Nat} (hp : X.prog = D.prog) (hK : X.K = K) (hm : X.mg = mg) (hr : Room (k + 1) X.A) {x : Str} (h : D.isOwn x = true) : MkBy X x (He.ga K x) ∧ mg x = some (.ref (He.ga K x)) := by
  obtain ⟨c, hc, rfl⟩ := own_mem h
  obtain ⟨h1, h2, h3, h4, h5, h6⟩ := F.own c hc
  obtain ⟨q0, q1, q2, q3, q4, q5, q6, q7, q8, q9, T⟩ := F.init
  subst hK hm
  refine ⟨mkBy_of T hp (by rw [F.ini.1]) F.ini.2 (F.free _ F.sup) (iniCB_ok h4) h5 hr h1 ?_, h1⟩
  have := F.dbg (sS c) (by unfold LawD.clsB; rw [h]; rfl)
  simpa using this
end
end TQ
/-! TQ40: binding; the soundness of all layers. -/
namespace TQ
open PySem PySem.Spec PyProof.Rows L2 LamX
theorem lk_zip : ∀ {ns : List Str} {us : List Value}, ns.Nodup → us.length = ns.length → (ns.filterMap fun n => ((ns.zip us).lookup n).map fun v => (n, v)) = ns.zip us
  | [], [], _, _ => rfl
  | [], _ :: _, _, h => by simp at h
  | _ :: _, [], _, h => by simp at h
  | n :: ns, u :: us, nd, h => by
    have nd' := List.nodup_cons.mp nd
    have ih := lk_zip (us := us) nd'.2 (by simpa using h)
    rw [List.zip_cons_cons, List.filterMap_cons]
    simp only [List.lookup, beq_self_eq_true, Option.map_some]
    congr 1
    refine Eq.trans ?_ ih
    have key : ∀ l : List Str, (∀ m ∈ l, m ≠ n) → (l.filterMap fun m => (((n, u) :: ns.zip us).lookup m).map fun v => (m, v)) = l.filterMap fun m => ((ns.zip us).lookup m).map fun v => (m, v) := by
      intro l
      induction l with
      | nil => intro _; rfl
      | cons m l ih =>
        intro h
        have : (m == n) = false := by simpa using h m List.mem_cons_self
        rw [List.filterMap_cons, List.filterMap_cons, ih fun x hx => h x (List.mem_cons_of_mem _ hx)]
        simp only [List.lookup, this]
    exact key ns fun m hm e => nd'.1 (e ▸ hm)
theorem lk_some : ∀ {ns : List Str} {us : List Value}, us.length = ns.length → ∀ n ∈ ns, ((ns.zip us).lookup n).isNone = false
  | n :: ns, u :: us, h, m, hm => by
    rw [List.zip_cons_cons]
    by_cases e : m = n
    · subst e; simp [List.lookup]
    · have : (m == n) = false := by simpa using e
      simp only [List.lookup, this]
      exact lk_some (by simpa using h) m (by simpa [e] using hm)
theorem bind_simple {fd : FuncData} {as : List Arg} {us : List Value} (hp : fd.params = ⟨[], as, none, [], [], none, []⟩) (hd : fd.defaults = .none) (nd : (as.map (·.arg)).Nodup) (hl : us.length = as.length) : bindArgs fd ⟨us, []⟩ = pure ((as.map (·.arg)).zip us) := by
  have e1 : seqItems? Value.none = pure none := rfl
  have hf : (List.filter (fun n => (List.lookup n ((as.map (·.arg)).zip us)).isNone) (as.map (·.arg))) = [] := by
    rw [List.filter_eq_nil_iff]
    intro n hn
    rw [lk_some (by simpa using hl) n hn]
    simp
  unfold bindArgs
  simp only [hp, hd, e1, LawfulMonad.pure_bind, List.map_nil, List.nil_append, List.forIn_nil, List.length_map, Option.getD_none, Option.isNone_none, List.append_nil, hl]
  have ht : List.take (as.length - (List.drop ((#[] : Array Value).toList.length - as.length) (#[] : Array Value).toList).length) (as.map (·.arg)) = as.map (·.arg) := by simp [List.take_of_length_le]
  rw [ht, hf]
  simp only [gt_iff_lt, Nat.lt_irrefl, decide_false, Bool.false_and, List.isEmpty_nil, Bool.not_true, Bool.false_eq_true, if_false, List.drop_nil, List.zip_nil_right, List.forIn_nil, LawfulMonad.pure_bind, lk_zip nd (by simpa using hl)]
theorem okPar_eq {params : Arguments} {ps : List Str} (h : okPar params ps = true) : ∃ as, params = ⟨[], as, none, [], [], none, []⟩ ∧ as.map (·.arg) = ps := by
  unfold okPar at h
  split at h
  · rename_i as
    exact ⟨as, rfl, of_decide_eq_true h⟩
  · cases h
section
variable {D : LawD} {w : World} {K : PySem.W.Frag} {mg : Str → Option Value} {base : Heap} {k : Nat}
theorem lamB_ok {j : Nat} {L : LI} (h : D.lamB j L = true) : ∃ l, D.lms[j]? = some l ∧ NdefX.NScope (L.ps ++ L.fr) L.ps L.fr L.scope ∧ LamB L ∧ l.pars = L.ps.length ∧ l.caps = L.fr.length ∧ (chkP l.body (ckL D L)).v L.body = true := by
  unfold LawD.lamB at h
  cases e : D.lms[j]? with
  | none => rw [e] at h; cases h
  | some l =>
    rw [e] at h
    simp only [Bool.and_eq_true, decide_eq_true_eq] at h
    obtain ⟨⟨⟨⟨⟨h1, h2⟩, h3⟩, h4⟩, h5⟩, h6⟩ := h
    have S := NdefX.nscope_by h1
    refine ⟨l, rfl, S, ?_, h4, h5, h6⟩
    intro cl c' pm ctv us hl
    obtain ⟨as, e1, e2⟩ := okPar_eq h2
    have nd : (as.map (·.arg)).Nodup := by rw [e2]; exact (List.nodup_append.mp S.nd).1
    have := bind_simple (fd := PySem.W.kla_fn "<lambda>" L.qual L.params L.body L.scope cl pm (.ref c') ctv) (as := as) (us := us) e1 rfl nd (by rw [hl, ← e2, List.length_map])
    rw [this, e2]
theorem good_lam (F : Facts D K mg) (S : Snd D w K mg base k) {L : LI} {j : Nat} (hB : D.lamB j L = true) {rs : List Nat} {cs : List Addr} {f c' : Addr} {A : Around} {outer : List Env} {sh : Shared} {H : Hp} {W : XK} {l : Lm} (hl : l.pars = L.ps.length)
    (hout : ∀ c ∈ cs, c ∉ frs (NdefX.envF (L.nf cs c') f sh.heap.objs.size :: outer) ∧ base.get? c = none) (nd : cs.Nodup) (hc : cs.length = L.fr.length) (hrs : rs.length = cs.length) (hr : Room (k + 1) (A.deeper (NdefX.envF (L.nf cs c') f sh.heap.objs.size))) (hg : A.guards = some []) :
    Good (GIx D K mg) (NdefX.ncx (L2.CX D.prog w) D.prog w K mg base (L.ps ++ L.fr) (L.nf cs c') f A outer sh H W) (Gw D K mg (rs.zip cs)) W { PL D k with own := lamOwn l.pars rs, blk := false } (ckL D L) := by
  obtain ⟨l', el, Sc, _⟩ := lamB_ok hB
  have hPe : ∀ n, (PL D n).isE = D.isE := fun n => by cases n <;> rfl
  have hPc : ∀ n, (PL D n).cs = D.cs := fun n => by cases n <;> rfl
  have nfr : L.fr.Nodup := (List.nodup_append.mp Sc.nd).2.1
  have tk : Takes (NdefX.ncx (L2.CX D.prog w) D.prog w K mg base (L.ps ++ L.fr) (L.nf cs c') f A outer sh H W) (fun cls d _ H => W cls d H) := takes_of rfl rfl rfl rfl
  have hun := hr.un
  refine {
    is := isCx_of F rfl rfl (hPe k)
    N := rfl
    nd := Sc.nd
    sc := rfl
    fn := rfl
    calm := rfl
    gd := hg
    un := by
      have z : (A.deeper (NdefX.envF (L.nf cs c') f sh.heap.objs.size)).units + 16 * (k + 1) + 200 < cLine := hun
      show (A.deeper (NdefX.envF (L.nf cs c') f sh.heap.objs.size)).units + 65 < cLine
      omega
    nomod := fun x h => nomod_of F h
    ow := ?_
    gi := rfl
    tk := tk
    mkx := fun x hx => by cases hx
    fo := ftl F
    clo := fun _ => ⟨_, k + 1, fun _ _ _ _ => Iff.rfl, S.lam, S.val, hr⟩
    lam := fun h => by cases h
    exn := fun x h => by cases h
    pass := passes_of rfl
    passes := passes_call tk fun _ _ _ _ h => h
    fns := fun x ps h => fns_of F S hr h
    cs := fun x h => by
      show ∃ val u v, (PL D k).cs x = some val ∧ _
      rw [hPc]
      exact cs_of F h
    cls := fun T h => cls_of F h
    kind := Sc.kind }
  refine .frm rfl (fun n c h => ?_) (fun n h => ?_) ?_
  · obtain ⟨i, h1, _⟩ := zip_ix (show (n, c) ∈ rs.zip cs from h)
    exact List.mem_map.mpr ⟨_, ix_lamOwn h1, rfl⟩
  · obtain ⟨p, hp, rfl⟩ := List.mem_map.mp h
    obtain ⟨i, h1, _⟩ := lamOwn_ix (show (p.1, p.2) ∈ lamOwn l.pars rs from hp)
    have li := (List.getElem?_eq_some_iff.mp h1).1
    exact ⟨cs[i]'(by omega), ix_zip h1 (List.getElem?_eq_getElem (by omega))⟩
  · have tri : ∀ (rs : List Nat) (cs : List Addr) (p : Nat), rs.length = cs.length → ∃ Es : List (Nat × Nat × Addr), lamOwn p rs = Es.map (fun e => (e.1, e.2.1)) ∧ rs.zip cs = Es.map (fun e => (e.2.1, e.2.2)) ∧ ∀ e ∈ Es, ∃ i, cs[i]? = some e.2.2 ∧ rs[i]? = some e.2.1 ∧ e.1 = p + i := by
      intro rs
      induction rs with
      | nil => intro cs p _; exact ⟨[], rfl, rfl, fun _ h => nomatch h⟩
      | cons r rs ih =>
        intro cs p h
        cases cs with
        | nil => simp at h
        | cons c cs =>
          obtain ⟨Es, q1, q2, q3⟩ := ih cs (p + 1) (by simpa using h)
          refine ⟨(p, r, c) :: Es, by simp [lamOwn, q1], by simp [q2], fun e he => ?_⟩
          rcases List.mem_cons.mp he with rfl | he
          · exact ⟨0, rfl, rfl, rfl⟩
          · obtain ⟨i, a1, a2, a3⟩ := q3 e he
            exact ⟨i + 1, by simpa using a1, by simpa using a2, by omega⟩
    obtain ⟨Es, e1, e2, e3⟩ := tri rs cs l.pars hrs
    refine own_at Es e1 e2 (fun e he => ?_) (fun e he e' he' q => ?_) fun e he => ?_
    · obtain ⟨i, a1, a2, a3⟩ := e3 e he
      have li := (List.getElem?_eq_some_iff.mp a1).1
      have fi : L.fr[i]? = some (L.fr[i]'(by omega)) := List.getElem?_eq_getElem (by omega)
      refine ⟨L.fr[i]'(by omega), ?_, ?_, .inr ?_⟩
      · show (L.ps ++ L.fr)[e.1]? = _
        rw [a3, hl, List.getElem?_append_right (by omega), show L.ps.length + i - L.ps.length = i by omega]
        exact fi
      · show (L.fr.zip cs).lookup _ = _
        obtain ⟨d, hd⟩ := mem_lookup (ix_zip fi a1)
        have hd2 := PySem.mem_of_lookup hd
        obtain ⟨j', b1, b2⟩ := zip_ix hd2
        have : i = j' := by
          obtain ⟨w1, v1⟩ := List.getElem?_eq_some_iff.mp fi
          obtain ⟨w2, v2⟩ := List.getElem?_eq_some_iff.mp b1
          exact (List.getElem_inj nfr).mp (v1.trans v2.symm)
        subst this
        rw [a1] at b2
        rw [hd, ← b2]
      · exact Sc.frk _ (List.getElem_mem _)
    · obtain ⟨i, a1, a2, _⟩ := e3 e he
      obtain ⟨i', b1, b2, _⟩ := e3 e' he'
      rw [q] at a1
      obtain ⟨w1, v1⟩ := List.getElem?_eq_some_iff.mp a1
      obtain ⟨w2, v2⟩ := List.getElem?_eq_some_iff.mp b1
      have : i = i' := (List.getElem_inj nd).mp (v1.trans v2.symm)
      subst this
      rw [a2] at b2
      exact Option.some.inj b2
    · obtain ⟨i, a1, _, _⟩ := e3 e he
      exact hout _ (List.mem_of_getElem? a1)
end
end TQ
/-! TQ41: the step from layer to layer. -/
namespace TQ
open PySem PySem.Spec PyProof.Rows L2 LamX
section
variable {D : LawD} {w : World} {K : PySem.W.Frag} {mg : Str → Option Value} {base : Heap} {k : Nat}
/-- the code objects with tables -/
def LawD.tabs (D : LawD) (K : PySem.W.Frag) : List (Addr × Addr) := D.mks.map fun n => He.cT K (sS n, none)
theorem lk_memN {β : Type} : ∀ {l : List (Nat × β)} {j : Nat} {n : β}, l.lookup j = some n → (j, n) ∈ l
  | (i, m) :: l, j, n, h => by
    by_cases e : j = i
    · subst e
      simp [List.lookup] at h
      subst h
      exact List.mem_cons_self
    · have : (j == i) = false := by simpa using e
      simp only [List.lookup, this] at h
      exact List.mem_cons_of_mem _ (lk_memN h)
theorem places_lk {cs : List Nat} {n0 j n : Nat} (h : (places cs n0).lookup j = some n) : j ∈ cs ∧ ∀ ca : Nat → Addr, (n, ca j) ∈ ownG n0 (cs.map ca) := by
  have hm := lk_memN h
  rw [← tri_pl (fun _ => 0)] at hm
  obtain ⟨e, he, q⟩ := List.mem_map.mp hm
  cases q
  obtain ⟨i, h1, h2, _⟩ := tri_ix he
  refine ⟨List.mem_of_getElem? h1, fun ca => ?_⟩
  have : (cs.map ca)[i]? = some (ca e.1) := by rw [List.getElem?_map, h1]; rfl
  have := ix_ownG (n := n0) this
  rw [h2]
  exact this
theorem good_def (F : Facts D K mg) (S : Snd D w K mg base k) (hTB : ∀ p ∈ D.tabs K, TabB base mg p.1 p.2) {e : Fe} (he : e ∈ D.fe) {cdv : Value} (hcd : D.mks.contains e.name = true → cdv = .ref (He.cT K (sS e.name, none)).1) (Sc : FnScope (e.N.map sS) (e.ps.map sS) (defAt D.prog e.row).scope)
    (hck : ∀ i ∈ e.d.cells, ∃ x, (e.N.map sS)[i]? = some x ∧ (defAt D.prog e.row).scope.names.lookup x = some .cell)
    {A : Around} {outer : List Env} {s : Shared} {H : Hp} {W : XK} {n0 : Nat} {o : List (Nat × Addr)} {P : Pr} (hP : P = { PL D k with own := places e.d.cells n0, blk := false }) (ho : o = ownG n0 (e.d.cells.map (cellA (defAt D.prog e.row).scope (e.N.map sS) s.heap.objs.size)))
    (hr : Room (k + 1) (A.deeper (envOfC (sS e.name) (defAt D.prog e.row).scope s.heap.objs.size (gaS K e.name) cdv))) (hg : A.guards = some [])
    (hO : OwnLk (cxOf (L2.CX D.prog w) D.prog w K mg base (e.N.map sS) (sS e.name) (defAt D.prog e.row).scope (gaS K e.name) cdv A outer s H W) (Gw D K mg o) P) :
    Good (GIx D K mg) (cxOf (L2.CX D.prog w) D.prog w K mg base (e.N.map sS) (sS e.name) (defAt D.prog e.row).scope (gaS K e.name) cdv A outer s H W) (Gw D K mg o) W P (ckD D e) := by
  have hPe : ∀ n, (PL D n).isE = D.isE := fun n => by cases n <;> rfl
  have hPc : ∀ n, (PL D n).cs = D.cs := fun n => by cases n <;> rfl
  have tk : Takes (cxOf (L2.CX D.prog w) D.prog w K mg base (e.N.map sS) (sS e.name) (defAt D.prog e.row).scope (gaS K e.name) cdv A outer s H W) (fun cls d _ H => W cls d H) := takes_of rfl rfl rfl rfl
  have hun := hr.un
  subst hP
  refine {
    is := isCx_of F rfl rfl (hPe k)
    N := rfl
    nd := Sc.nd
    sc := rfl
    fn := rfl
    calm := rfl
    gd := hg
    un := by
      have z : (A.deeper (envOfC (sS e.name) (defAt D.prog e.row).scope s.heap.objs.size (gaS K e.name) cdv)).units + 16 * (k + 1) + 200 < cLine := hun
      show (A.deeper (envOfC (sS e.name) (defAt D.prog e.row).scope s.heap.objs.size (gaS K e.name) cdv)).units + 65 < cLine
      omega
    nomod := fun x h => nomod_of F h
    ow := hO
    gi := rfl
    tk := tk
    mkx := fun x hx => ⟨_, mkx_of F rfl rfl rfl hr hx⟩
    fo := ftl F
    clo := fun _ => ⟨_, k + 1, fun _ _ _ _ => Iff.rfl, S.lam, S.val, hr⟩
    lam := fun h => ?_
    exn := fun x h => ?_
    pass := passes_of rfl
    passes := passes_call tk fun _ _ _ _ h => h
    fns := fun x ps h => fns_of F S hr h
    cs := fun x h => by
      show ∃ val u v, (PL D k).cs x = some val ∧ _
      rw [hPc]
      exact cs_of F h
    cls := fun T h => cls_of F h
    kind := Sc.kind }
  · have hm : D.mks.contains e.name = true := h
    have hmem : e.name ∈ D.mks := by simpa using hm
    refine ⟨_, D.tb K, (He.cT K (sS e.name, none)).1, (He.cT K (sS e.name, none)).2, fun _ _ _ _ => Iff.rfl, fun _ => Iff.rfl, fun _ _ z => z, hTB _ (List.mem_map.mpr ⟨e.name, hmem, rfl⟩), hcd hm, rfl, List.mem_map.mpr ⟨e.name, hmem, rfl⟩, fun p hp q => ?_, fun j n hj => ?_, fun x hx => cell_has hx⟩
    · obtain ⟨n, hn, rfl⟩ := List.mem_map.mp hp
      have : n = e.name := by
        obtain ⟨i, hi⟩ := List.mem_iff_getElem?.mp hn
        obtain ⟨j, hj⟩ := List.mem_iff_getElem?.mp hmem
        obtain ⟨li, ei⟩ := List.getElem?_eq_some_iff.mp hi
        obtain ⟨lj, ej⟩ := List.getElem?_eq_some_iff.mp hj
        have q : (He.cT K (sS n, none)).2 = (He.cT K (sS e.name, none)).2 := q
        have : i = j := by
          refine (List.getElem_inj F.nd (h₀ := by simpa using li) (h₁ := by simpa using lj)).mp ?_
          rw [List.getElem_map, List.getElem_map, ei, ej, q]
        subst this
        rw [← ei, ← ej]
      subst this
      rfl
    · obtain ⟨hj1, hj2⟩ := places_lk (show (places e.d.cells n0).lookup j = some n from hj)
      obtain ⟨x, x1, x2⟩ := hck j hj1
      obtain ⟨c, hc⟩ := cell_has (n := s.heap.objs.size + 1) x2
      refine ⟨x, c, x1, hc, ?_⟩
      have z := hj2 (cellA (defAt D.prog e.row).scope (e.N.map sS) s.heap.objs.size)
      rw [← ho] at z
      have : cellA (defAt D.prog e.row).scope (e.N.map sS) s.heap.objs.size j = c := by
        unfold cellA
        rw [List.getD_eq_getElem?_getD, x1]
        simp only [Option.getD_some]
        rw [hc]; rfl
      rw [this] at z
      exact z
  · have hx : x = sS D.base := of_decide_eq_true h
    subst hx
    obtain ⟨h1, h2, h3, h4, h5, h6⟩ := F.own D.base F.bs
    refine ⟨rfl, rfl, rfl, fun c' w a H q z => ⟨?_, z⟩, _, h1, fun c' q C hC => ?_⟩
    · have q : (PL D k).isE c' (sS D.base) = some true := q
      rw [hPe] at q
      exact isE_own F.bs q
    · have q : (PL D k).isE c' (sS D.base) = some true := q
      rw [hPe] at q
      obtain ⟨y, hy, rfl⟩ := own_mem (isE_own F.bs q)
      obtain ⟨y1, _, _, _, _, y6⟩ := F.own y hy
      have hC : mg (sS y) = some (.ref C) := hC
      rw [y1] at hC
      cases hC
      exact y6
theorem last_ret {f : Expr → Bool} {b : List Stmt} (h : lastRet f b = true) : ∃ x pos, b = b.dropLast ++ [.Return (some x) pos] ∧ f x = true := by
  unfold lastRet at h
  split at h
  · rename_i x pos e
    refine ⟨x, pos, ?_, h⟩
    obtain ⟨l, hl⟩ := List.getLast?_eq_some_iff.mp e
    rw [hl, List.dropLast_concat]
  · cases h
theorem snd_zero : Snd D w K mg base 0 ↔ ∀ e ∈ D.fe, D.find (sS e.name) = some e → ∃ fd, FunD K (sS e.name) (sS e.name) (defAt D.prog e.row).params (defAt D.prog e.row).body (defAt D.prog e.row).scope [] [] (gaS K e.name) fd := by
  constructor
  · intro S e he hf
    obtain ⟨fd, h, _⟩ := S.fn e he hf
    exact ⟨fd, h⟩
  · intro h
    refine ⟨fun e he hf => ?_, ?_, ?_⟩
    · obtain ⟨fd, h1⟩ := h e he hf
      refine ⟨fd, h1, ⟨?_⟩⟩
      intro G hG ho A outer s H args us vs Q W hr hgd e0 hb r hh
      obtain ⟨m, S, xs, _, _, _, p⟩ := hh
      exact (show False from p).elim
    · intro j G hG ho A outer sh H m S rs cs f cvs xs vs us Q W hr hgd e0 s hat hcl hv r rr p
      exact (show False from p).elim
    · intro x G hG ho A outer sh H m S f xs vs us Q W hr hgd e0 s hm r rr p
      exact (show False from p).elim
theorem snd_succ (F : Facts D K mg) (hTB : ∀ p ∈ D.tabs K, TabB base mg p.1 p.2) (S : Snd D w K mg base k) : Snd D w K mg base (k + 1) := by
  have fnk : ∀ e ∈ D.fe, D.find (sS e.name) = some e → ∃ fd, FunD K (sS e.name) (sS e.name) (defAt D.prog e.row).params (defAt D.prog e.row).body (defAt D.prog e.row).scope [] [] (gaS K e.name) fd ∧ FnQ D.prog w K mg base (GIx D K mg) (k + 1 + 1) (gaS K e.name) fd (e.ps.map sS) ((PL D (k + 1)).fn (sS e.name)) := by
    intro e he hf
    obtain ⟨fd, h1, hm⟩ := F.fn e he
    refine ⟨fd, h1, ?_⟩
    have hc := F.chk e he
    unfold chkD at hc
    obtain ⟨c1, hc⟩ := bAnd hc
    obtain ⟨c2, hc⟩ := bAnd hc
    obtain ⟨c3, hc⟩ := bAnd hc
    obtain ⟨c4, hc⟩ := bAnd hc
    obtain ⟨c5, hc⟩ := bAnd hc
    have c3 := of_decide_eq_true c3
    have c4 := of_decide_eq_true c4
    have Sc := scB_ok c5
    obtain ⟨oc, od, dV, kV, doc, pm, an, cdv, ct, osl, rfl, lk, hcd, _, _⟩ := h1.ex
    have hcode : D.mks.contains e.name = true → cdv = .ref (He.cT K (sS e.name, none)).1 := fun h => F.code e.name (by simpa using h) _ _ _ _ lk
    have eP : (PL D (k + 1)).fn (sS e.name) = runDf (PL D k) e.d := by
      show (fun vs => match D.find (sS e.name) with | some e => runDf (PL D k) e.d vs | none => E.bad) = _
      rw [hf]
    rw [eP]
    split at hc
    · rename_i hz
      have hz : e.d.cells = [] := by simpa using hz
      refine fnq_of lk hcd Sc (by rw [c3, List.length_map]) (by rw [c4, List.length_map]) hz fun G hG ho A outer s H W hr hgd => ?_
      have hGe := gi_eq D hG ho
      subst hGe
      have g := good_def (H := H) (W := W) (outer := outer) (s := s) (n0 := 0) (o := []) F S hTB he hcode Sc (fun i hi => by rw [hz] at hi; cases hi) (P := { PL D k with own := [], blk := false }) (by rw [hz]; rfl) (by rw [hz]; rfl) hr hgd (.no rfl rfl)
      exact chkSs_ok e.d.body (ckD D e) _ hc g
    · rename_i hz
      obtain ⟨d1, hc⟩ := bAnd hc
      obtain ⟨d2, hc⟩ := bAnd hc
      have hck : ∀ i ∈ e.d.cells, ∃ x, (e.N.map sS)[i]? = some x ∧ (defAt D.prog e.row).scope.names.lookup x = some .cell := fun i hi => by
        have z := List.all_eq_true.mp d2 i hi
        cases q : (e.N.map sS)[i]? with
        | none => rw [q] at z; cases z
        | some x => rw [q] at z; exact ⟨x, rfl, of_decide_eq_true z⟩
      have hne : e.d.cells ≠ [] := fun z => hz (by rw [z]; rfl)
      refine fnqc_of (init := match e.d.fin with | none => (defAt D.prog e.row).body | some _ => (defAt D.prog e.row).body.dropLast) lk hcd Sc (by rw [c3, List.length_map]) (by rw [c4, List.length_map]) hne (of_decide_eq_true d1) hck fun G hG ho A outer s H W n0 hr hgd hO => ?_
      have hGe := gi_eq D hG ho
      subst hGe
      have g := good_def (n0 := n0) (o := ownG n0 (e.d.cells.map (cellA (defAt D.prog e.row).scope (e.N.map sS) s.heap.objs.size))) (H := H) (W := W) (outer := outer) (s := s) F S hTB he hcode Sc hck rfl rfl hr hgd (.frm rfl (fun n c h => place_of_own h) (fun n h => own_of_place h) hO)
      cases hf' : e.d.fin with
      | none =>
        rw [hf'] at hc
        exact ⟨chkSs_ok e.d.body (ckD D e) _ hc g, .none⟩
      | some x =>
        rw [hf'] at hc
        obtain ⟨z1, z2⟩ := bAnd hc
        obtain ⟨y, pos, hb, hy⟩ := last_ret z2
        refine ⟨chkSs_ok e.d.body (ckD D e) _ z1 g, ?_⟩
        have t : Tail _ (Gw D K mg _) W _ (defAt D.prog e.row).body.dropLast (some x) ((defAt D.prog e.row).body.dropLast ++ [.Return (some y) pos]) := .ret ((chkP_ok x (ckD D e)).1 y hy g)
        rw [← hb] at t
        exact t
  refine ⟨fnk, fun j => ?_, fun x => ?_⟩
  · cases el : D.lms[j]? with
    | none =>
      intro G hG ho A outer sh H m S rs cs f cvs xs vs us Q W hr hgd e0 s hat hcl hv r rr p
      have e : (PL D (k + 1)).lam j rs cvs xs S = .bad := by
        show (match D.lms[j]? with | some l => runLm (PL D k) l rs cvs xs | none => E.bad) S = _
        rw [el]; rfl
      rw [e] at p
      exact (show False from p).elim
    | some l =>
      have e : (PL D (k + 1)).lam j = runLm (PL D k) l := by
        show (fun rs cs us => match D.lms[j]? with | some l => runLm (PL D k) l rs cs us | none => E.bad) = _
        rw [el]
      rw [e]
      refine lmq_of (lamT := fun j L => D.lamB j L = true) (l := l) (fun G hG k' cs a H z => ?_) (fun L hB => ?_) fun L hB G hG ho rs cs f c' A outer sh H W1 hout nd hl hrs hr hgd => ?_
      · have hG' : G.ow [] = GX D K mg := hG
        have z : (G.ow []).clo k' cs a H := z
        rw [hG'] at z
        exact z
      · obtain ⟨l', e1, q1, q2, q3, q4, q5⟩ := lamB_ok hB
        rw [el] at e1
        cases e1
        exact ⟨q1, q2, q3, q4⟩
      · obtain ⟨l', e1, q1, q2, q3, q4, q5⟩ := lamB_ok hB
        rw [el] at e1
        cases e1
        have hGe := gi_eq D hG ho
        subst hGe
        exact (chkP_ok l.body (ckL D L)).1 _ q5 (good_lam F S hB q3 hout nd hl hrs hr hgd)
  · cases ex : D.find x with
    | none =>
      intro G hG ho A outer sh H m S f xs vs us Q W hr hgd e0 s hm r rr p
      have e : (PL D (k + 1)).fn x xs S = .bad := by
        show (match D.find x with | some e => runDf (PL D k) e.d xs | none => E.bad) S = _
        rw [ex]; rfl
      rw [e] at p
      exact (show False from p).elim
    | some e =>
      obtain ⟨he, rfl⟩ := find_mem ex
      obtain ⟨fd, h1, h2⟩ := fnk e he ex
      obtain ⟨_, _, hm⟩ := F.fn e he
      refine fvq_of h2 (fun G hG a z => ?_) (fun s us hK hl => ?_) fun xs S h => ?_
      · have hG' : G.ow [] = GX D K mg := hG
        have z : (G.ow []).m (sS e.name) = some (.ref a) := z
        rw [hG'] at z
        have z : mg (sS e.name) = some (.ref a) := z
        rw [hm] at z
        cases z
        rfl
      · have z := binds_of F he h1 s us hK (by rw [List.append_nil]; exact hl)
        rw [List.append_nil] at z
        exact z
      · have eP : (PL D (k + 1)).fn (sS e.name) = runDf (PL D k) e.d := by
          show (fun vs => match D.find (sS e.name) with | some e => runDf (PL D k) e.d vs | none => E.bad) = _
          rw [ex]
        rw [eP] at h
        unfold runDf at h
        split at h
        · rename_i q
          have hc := F.chk e he
          unfold chkD at hc
          obtain ⟨_, hc⟩ := bAnd hc
          obtain ⟨_, hc⟩ := bAnd hc
          obtain ⟨_, hc⟩ := bAnd hc
          obtain ⟨c4, _⟩ := bAnd hc
          rw [q.1, of_decide_eq_true c4, List.length_map]
        · exact absurd rfl h
theorem snd_all (F : Facts D K mg) (hTB : ∀ p ∈ D.tabs K, TabB base mg p.1 p.2) : ∀ k, Snd D w K mg base k
  | 0 => snd_zero.mpr fun e he _ => by
    obtain ⟨fd, h, _⟩ := F.fn e he
    exact ⟨fd, h⟩
  | k + 1 => snd_succ F hTB (snd_all F hTB k)
end
end TQ
/-! TQ42: the facts, read off the heap behind the top by one Bool. -/
namespace TQ
open PySem PySem.Spec PyProof.Rows L2 LamX
section
variable (D : LawD)
def KY (g : Addr → Option Obj) (n : Nat) : PySem.W.Frag := He.frT g (cStatics :: He.asD g n)
def plains : List String := ["NoneType", "bool", "int", "str", "list", "tuple", "dict"]
def ownB (K : PySem.W.Frag) (c : String) : Bool := (He.Fa.glo (sS c)).ok K && (xisB K (gaS K c) && (decide (PySem.W.findIn K (.ref (gaS K c)) sValue = some none) && (iniCB K (gaS K D.base) (gaS K c) sValue && (decide (PySem.W.findIn K (.ref (gaS K c)) "__init__" = some (some (.ref (fI D K)))) && decide (PySem.W.exmOne K (.ref (gaS K c)) (.ref (gaS K D.base)) = some true)))))
def isOB (K : PySem.W.Frag) : Bool := (D.own.all fun t => D.own.all fun T => decide (PySem.W.kitOne K (.ref (gaS K t)) (.ref (gaS K T)) = some (decide (sS t = sS T) || decide (sS T = sS D.base)))) && ((plains.all fun t => D.own.all fun T => decide (PySem.W.kitOne K (.type t) (.ref (gaS K T)) = some false)) &&
  ((D.own.all fun t => decide (PySem.W.kitOne K (.ref (gaS K t)) (.type "ValueError") = some true)) && plains.all fun t => decide (PySem.W.kitOne K (.type t) (.type "ValueError") = some false)))
def exY (K : PySem.W.Frag) : Bool := (D.frees.all fun x => (He.Fa.free (sS x)).ok K) && ((D.nums.all fun p => (He.Fa.int (sS p.1) p.2).ok K) && ((D.tups.all fun p => (He.Fa.glo (sS p.1)).ok K && He.tupB K (sS p.1) (p.2.map He.Dv.int)) && ((D.own.all fun c => ownB D K c) && (isOB D K && (iniB D.prog K (gaS K D.base) (fI D K) &&
  ((D.fe.all fun e => (He.Fa.glo (sS e.name)).ok K && (defAt D.prog e.row).ok K) && (decide (D.mks.map fun n => (He.cT K (sS n, none)).2).Nodup && D.mks.all fun n => (match K.lookup (gaS K n) with
    | some ⟨_, _, .func fd, _⟩ => (match fd.code with
      | .ref c => decide (c = (He.cT K (sS n, none)).1)
      | _ => false)
    | _ => false))))))))
abbrev AlY : Type := Bool × List He.FnW × IniV
def obsY (n : Nat) (g : Addr → Option Obj) : AlY := (exY D (KY g n) && He.tabsB g (D.mks.map fun n => (sS n, none)) (KY g n), D.fe.map fun e => He.fnW (KY g n) (sS e.name, none), iniW (KY g n) (fI D (KY g n)))
def valY : AlY := (true, D.fe.map fun e => (defAt D.prog e.row).val, iniV D.prog)
/-- what is told -/
structure SaysY (h : Heap) (K : PySem.W.Frag) : Prop where
  ex : exY D K = true
  fn : D.fe.map (fun e => He.fnW K (sS e.name, none)) = D.fe.map fun e => (defAt D.prog e.row).val
  ini : iniW K (fI D K) = iniV D.prog
  hd : ∀ n ∈ D.mks, PySem.W.codeHdIn K (He.cT K (sS n, none)).1 (He.cT K (sS n, none)).2 = true
  out : ∀ n ∈ D.mks, K.lookup (He.cT K (sS n, none)).2 = none
  empty : ∀ n ∈ D.mks, h.get? (He.cT K (sS n, none)).2 = some { cls := .none, data := .fields #[] }
theorem saysY_of {n : Nat} {h : Heap} (e : obsY D n h.get? = valY D) : SaysY D h (KY h.get? n) := by
  have e1 : (exY D (KY h.get? n) && He.tabsB h.get? (D.mks.map fun n => (sS n, none)) (KY h.get? n)) = true := congrArg (fun z : AlY => z.1) e
  have e2 := congrArg (fun z : AlY => z.2.1) e
  have e3 := congrArg (fun z : AlY => z.2.2) e
  obtain ⟨h1, h2⟩ := bAnd e1
  have key : ∀ m ∈ D.mks, PySem.W.codeHdIn (KY h.get? n) (He.cT (KY h.get? n) (sS m, none)).1 (He.cT (KY h.get? n) (sS m, none)).2 = true ∧ ∃ o, h.get? (He.cT (KY h.get? n) (sS m, none)).2 = some o ∧ He.emptyTab o = true := fun m hm => by
    obtain ⟨h3, h4⟩ := bAnd (List.all_eq_true.mp h2 (sS m, none) (List.mem_map.mpr ⟨m, hm, rfl⟩))
    refine ⟨h3, ?_⟩
    cases q : h.get? (He.cT (KY h.get? n) (sS m, none)).2 with
    | none => rw [q] at h4; cases h4
    | some o => rw [q] at h4; exact ⟨o, rfl, h4⟩
  refine ⟨h1, e2, e3, fun m hm => (key m hm).1, fun m hm => ?_, fun m hm => ?_⟩
  · obtain ⟨_, o, q, z⟩ := key m hm
    exact He.frT_none q z
  · obtain ⟨_, o, q, z⟩ := key m hm
    rw [q, He.emptyTab_eq z]
def hookY (n : Nat) : PySem.W.Hook where
  α := AlY
  obs := fun s => obsY D n s.heap.get?
  val := fun _ => valY D
  says := fun _ h => ∃ K : PySem.W.Frag, K.In h ∧ SaysY D h K
  of := fun _ _ e => ⟨_, He.frT_in, saysY_of D e⟩
  keeps := fun _ _ _ ⟨K, hK, c⟩ k => ⟨K, PySem.W.Frag.In.keeps hK k, ⟨c.ex, c.fn, c.ini, c.hd, c.out, fun n hn => k _ _ (c.empty n hn)⟩⟩
theorem obsY_eq {n : Nat} {g : Addr → Option Obj} {s : Shared} (h : ∀ a, g a = s.heap.get? a) : obsY D n g = (hookY D n).obs s := by
  have e : g = s.heap.get? := funext h
  rw [e] <;> rfl
/-- one call with keywords binds -/
def KwOne (e : Fe) (p : String × List String × Nat × List Nat) : Prop := ∀ (kV doc pm : Value) (an : Option Addr) (cdv ct : Value), KwB (PySem.W.fnOf (sS e.name) (sS e.name) (defAt D.prog e.row).params (defAt D.prog e.row).body (defAt D.prog e.row).scope .none kV doc pm an cdv ct) (e.ps.map sS) (p.2.1.map sS) p.2.2.1 p.2.2.2
def KwAll : List (String × List String × Nat × List Nat) → Prop
  | [] => True
  | p :: r => (∃ (i : Nat) (e : Fe), D.fe[i]? = some e ∧ sS e.name = sS p.1 ∧ KwOne D e p ∧ p.2.2.2.length = e.ps.length) ∧ KwAll r
theorem kwAll_mem {p : String × List String × Nat × List Nat} : ∀ {l : List (String × List String × Nat × List Nat)}, KwAll D l → p ∈ l → ∃ (i : Nat) (e : Fe), D.fe[i]? = some e ∧ sS e.name = sS p.1 ∧ KwOne D e p ∧ p.2.2.2.length = e.ps.length
  | q :: r, h, hp => by
    rcases List.mem_cons.mp hp with rfl | hp
    · exact h.1
    · exact kwAll_mem h.2 hp
/-- what is known of the text alone -/
structure Stat : Prop where
  chk : D.fe.all (fun e => chkD D e && okPar (defAt D.prog e.row).params (e.ps.map sS)) = true
  fr : ((["super", "ValueError"] ++ plains : List String).all fun x => D.frees.contains x) = true
  ow : (D.own.contains D.base && D.own.all fun c => !isPl (sS c) && !decide (sS c = "__debug__") && !decide (sS c = "ValueError")) = true
  init : ∃ q0 q1 q2 q3 q4 q5 q6 q7 q8 q9, IniT D.prog q0 q1 q2 q3 q4 q5 q6 q7 q8 q9
  ndn : decide (D.fe.map fun e => sS e.name).Nodup = true
  kwx : KwAll D D.kws
variable {D}
theorem Stat.kwb (T : Stat D) : ∀ e ∈ D.fe, ∀ t ∈ D.kwsOf (sS e.name), (∀ (kV doc pm : Value) (an : Option Addr) (cdv ct : Value), KwB (PySem.W.fnOf (sS e.name) (sS e.name) (defAt D.prog e.row).params (defAt D.prog e.row).body (defAt D.prog e.row).scope .none kV doc pm an cdv ct) (e.ps.map sS) t.1 t.2.1 t.2.2) ∧ t.2.2.length = e.ps.length := by
  intro e he t ht
  unfold LawD.kwsOf at ht
  obtain ⟨p, hp, rfl⟩ := List.mem_map.mp ht
  obtain ⟨hp, hn⟩ := List.mem_filter.mp hp
  have hn := of_decide_eq_true hn
  obtain ⟨i, e', h1, h2, h3, h4⟩ := kwAll_mem D T.kwx hp
  obtain ⟨j, hj⟩ := List.mem_iff_getElem?.mp he
  obtain ⟨li, ei⟩ := List.getElem?_eq_some_iff.mp h1
  obtain ⟨lj, ej⟩ := List.getElem?_eq_some_iff.mp hj
  have : i = j := by
    refine (List.getElem_inj (of_decide_eq_true T.ndn) (h₀ := by simpa using li) (h₁ := by simpa using lj)).mp ?_
    rw [List.getElem_map, List.getElem_map, ei, ej, h2, hn]
  subst this
  have : e' = e := by rw [← ei, ← ej]
  subst this
  exact ⟨h3, h4⟩
theorem pl_cases {t : Str} (h : isPl t = true) : ∃ n ∈ plains, sS n = t := by
  unfold isPl at h
  obtain ⟨n, h1, h2⟩ := List.any_eq_true.mp h
  exact ⟨n, h1, of_decide_eq_true h2⟩
theorem ty_pl {mg : Str → Option Value} {t : Str} {tv : Value} (h : TyN mg t tv) : ∃ n ∈ plains, sS n = t ∧ tv = .type n := by
  cases h <;> exact ⟨_, by decide, rfl, rfl⟩
theorem sS_inj {a b : String} (ha : a ∈ plains) (hb : b ∈ plains) (h : sS a = sS b) : a = b := by
  have : ∀ a ∈ plains, ∀ b ∈ plains, sS a = sS b → a = b := by decide +kernel
  exact this a ha b hb h
theorem facts_of (T : Stat D) {K : PySem.W.Frag} {h : Heap} {mg : Str → Option Value} (hK : K.In h) (G : h.Ns mainGlobals mg) (c : SaysY D h K) : Facts D K mg := by
  have hx := c.ex
  unfold exY at hx
  obtain ⟨x1, hx⟩ := bAnd hx
  obtain ⟨x2, hx⟩ := bAnd hx
  obtain ⟨x3, hx⟩ := bAnd hx
  obtain ⟨x4, hx⟩ := bAnd hx
  obtain ⟨x5, hx⟩ := bAnd hx
  obtain ⟨x6, hx⟩ := bAnd hx
  obtain ⟨x7, hx⟩ := bAnd hx
  obtain ⟨x8, x9⟩ := bAnd hx
  have free : ∀ x ∈ D.frees, mg (sS x) = none := fun x hx => He.free_ok hK G (List.all_eq_true.mp x1 x hx)
  have fr : ∀ x ∈ (["super", "ValueError"] ++ plains : List String), x ∈ D.frees := fun x hx => by
    have := List.all_eq_true.mp T.fr x hx
    simpa using this
  have chkE : ∀ e ∈ D.fe, chkD D e = true ∧ okPar (defAt D.prog e.row).params (e.ps.map sS) = true := fun e he => bAnd (List.all_eq_true.mp T.chk e he)
  obtain ⟨ow1, ow2⟩ := bAnd T.ow
  have own : ∀ c ∈ D.own, _ := fun c hc => List.all_eq_true.mp x4 c hc
  have own2 : ∀ t : Str, D.isOwn t = true → isPl t = false ∧ t ≠ "__debug__" ∧ t ≠ "ValueError" := fun t ht => by
    obtain ⟨c, hc, rfl⟩ := own_mem ht
    have := List.all_eq_true.mp ow2 c hc
    simp only [Bool.and_eq_true, Bool.not_eq_true', decide_eq_false_iff_not] at this
    exact ⟨this.1.1, this.1.2, this.2⟩
  have mgown : ∀ c ∈ D.own, mg (sS c) = some (.ref (gaS K c)) := fun c hc => by
    have z := own c hc
    unfold ownB at z
    exact He.glo_ok hK G (bAnd z).1
  have ve : mg "ValueError" = none := free "ValueError" (fr _ (by simp))
  have pln : ∀ n ∈ plains, mg (sS n) = none := fun n hn => free n (fr n (by simp [hn]))
  have nameE : ∀ e ∈ D.fe, sS e.name = (defAt D.prog e.row).name ∧ sS e.name = (defAt D.prog e.row).qual := fun e he => by
    have z := (chkE e he).1
    unfold chkD at z
    obtain ⟨z1, z⟩ := bAnd z
    obtain ⟨z2, _⟩ := bAnd z
    exact ⟨of_decide_eq_true z1, of_decide_eq_true z2⟩
  refine ⟨fun e he => ?_, free, fun p hp => He.int_ok hK G (List.all_eq_true.mp x2 p hp), fun p hp => ?_, fun c' hc => ?_, by simpa using ow1, ?_, ⟨c.ini, x6⟩, T.init, fr _ (by simp), fun t ht => ?_, ve, of_decide_eq_true x8, fun n hn oc od fd osl lk => ?_, fun t ht => ?_, fun e he kV doc pm an cdv ct us hl => ?_, T.kwb, fun e he => (chkE e he).1⟩
  · obtain ⟨g1, g2⟩ := bAnd (List.all_eq_true.mp x7 e he)
    obtain ⟨n1, n2⟩ := nameE e he
    have ew : He.fnW K (sS e.name, none) = (defAt D.prog e.row).val := by
      obtain ⟨i, hi⟩ := List.mem_iff_getElem?.mp he
      have := congrArg (fun l => l[i]?) c.fn
      simp only [List.getElem?_map, hi, Option.map_some, Option.some.injEq] at this
      exact this
    have eat : (defAt D.prog e.row).at_ = (sS e.name, none) ∧ (defAt D.prog e.row).dfl = [] ∧ (defAt D.prog e.row).kwd = [] := by
      rw [n1]
      unfold defAt
      split <;> exact ⟨rfl, rfl, rfl⟩
    rw [← eat.1] at ew
    obtain ⟨fd, z⟩ := He.DefD.funD ew g2
    unfold He.DefD.dvs He.DefD.kws at z
    rw [eat.1, eat.2.1, eat.2.2, ← n1, ← n2] at z
    exact ⟨fd, z, He.glo_ok hK G g1⟩
  · obtain ⟨g1, g2⟩ := bAnd (List.all_eq_true.mp x3 p hp)
    refine ⟨He.glo_ok hK G g1, fun H => ?_⟩
    have z := He.tupB_ok g2 H
    rw [List.map_map] at z
    exact z
  · have z := own c' hc
    unfold ownB at z
    obtain ⟨z1, z⟩ := bAnd z
    obtain ⟨z2, z⟩ := bAnd z
    obtain ⟨z3, z⟩ := bAnd z
    obtain ⟨z4, z⟩ := bAnd z
    obtain ⟨z5, z6⟩ := bAnd z
    exact ⟨He.glo_ok hK G z1, z2, of_decide_eq_true z3, z4, of_decide_eq_true z5, of_decide_eq_true z6⟩
  · unfold isOB at x5
    obtain ⟨y1, x5⟩ := bAnd x5
    obtain ⟨y2, x5⟩ := bAnd x5
    obtain ⟨y3, y4⟩ := bAnd x5
    intro t T' b hb cc u hcl
    unfold LawD.isE at hb
    split at hb
    · rename_i hT
      obtain ⟨T0, hT0, rfl⟩ := own_mem hT
      have hu : u = .ref (gaS K T0) := by
        cases hcl with
        | ty n h1 h2 h3 => rw [mgown T0 hT0] at h1; cases h1
        | own C h1 => rw [mgown T0 hT0] at h1; cases h1; rfl
      subst hu
      split at hb
      · rename_i ht
        obtain ⟨t0, ht0, rfl⟩ := own_mem ht
        cases hb
        refine ⟨fun tv hty => ?_, fun C hC => ?_⟩
        · obtain ⟨n, hn, q, _⟩ := ty_pl hty
          have := (own2 _ ht).1
          rw [← q] at this
          have z : isPl (sS n) = true := by unfold isPl; exact List.any_eq_true.mpr ⟨n, hn, decide_eq_true rfl⟩
          rw [z] at this; cases this
        · rw [mgown t0 ht0] at hC
          cases hC
          exact of_decide_eq_true (List.all_eq_true.mp (List.all_eq_true.mp y1 t0 ht0) T0 hT0)
      · split at hb
        · rename_i hp
          cases hb
          obtain ⟨n, hn, rfl⟩ := pl_cases hp
          refine ⟨fun tv hty => ?_, fun C hC => ?_⟩
          · obtain ⟨n', hn', q, rfl⟩ := ty_pl hty
            have := sS_inj hn' hn q
            subst this
            exact of_decide_eq_true (List.all_eq_true.mp (List.all_eq_true.mp y2 n' hn') T0 hT0)
          · rw [pln n hn] at hC; cases hC
        · cases hb
    · split at hb
      · rename_i hTv
        subst hTv
        have hu : u = .type "ValueError" := by
          cases hcl with
          | ty n h1 h2 h3 =>
            have : bootBuiltins "ValueError" = some (.type "ValueError") := by decide +kernel
            rw [this] at h2
            exact (Option.some.inj h2).symm
          | own C h1 => rw [ve] at h1; cases h1
        subst hu
        split at hb
        · rename_i ht
          obtain ⟨t0, ht0, rfl⟩ := own_mem ht
          cases hb
          refine ⟨fun tv hty => ?_, fun C hC => ?_⟩
          · obtain ⟨n, hn, q, _⟩ := ty_pl hty
            have := (own2 _ ht).1
            rw [← q] at this
            have z : isPl (sS n) = true := by unfold isPl; exact List.any_eq_true.mpr ⟨n, hn, decide_eq_true rfl⟩
            rw [z] at this; cases this
          · rw [mgown t0 ht0] at hC
            cases hC
            exact of_decide_eq_true (List.all_eq_true.mp y3 t0 ht0)
        · split at hb
          · rename_i hp
            cases hb
            obtain ⟨n, hn, rfl⟩ := pl_cases hp
            refine ⟨fun tv hty => ?_, fun C hC => ?_⟩
            · obtain ⟨n', hn', q, rfl⟩ := ty_pl hty
              have := sS_inj hn' hn q
              subst this
              exact of_decide_eq_true (List.all_eq_true.mp y4 n' hn')
            · rw [pln n hn] at hC; cases hC
          · cases hb
      · cases hb
  · unfold plainT at ht
    simp only [Bool.or_eq_true, decide_eq_true_eq] at ht
    rcases ht with (((rfl | rfl) | rfl) | rfl) | rfl
    · exact pln "int" (by decide)
    · exact pln "bool" (by decide)
    · exact pln "str" (by decide)
    · exact pln "list" (by decide)
    · exact pln "tuple" (by decide)
  · have z := List.all_eq_true.mp x9 n hn
    rw [lk] at z
    have z : (match fd.code with | .ref c => decide (c = (He.cT K (sS n, none)).1) | _ => false) = true := z
    cases q2 : fd.code with
    | ref c => rw [q2] at z; rw [of_decide_eq_true z]
    | _ => rw [q2] at z; cases z
  · unfold LawD.clsB at ht
    simp only [Bool.or_eq_true] at ht
    rcases ht with ht | ht
    · exact (own2 _ ht).2.1
    · simp only [List.any_cons, List.any_nil, Bool.or_false, Bool.or_eq_true, decide_eq_true_eq] at ht
      rcases ht with rfl | rfl | rfl | rfl | rfl | rfl <;> decide +kernel
  · obtain ⟨as, e1, e2⟩ := okPar_eq (chkE e he).2
    have z := (chkE e he).1
    unfold chkD at z
    obtain ⟨_, z⟩ := bAnd z
    obtain ⟨_, z⟩ := bAnd z
    obtain ⟨_, z⟩ := bAnd z
    obtain ⟨_, z⟩ := bAnd z
    obtain ⟨z, _⟩ := bAnd z
    have Sc := scB_ok z
    have nd : (as.map (·.arg)).Nodup := by
      rw [e2, ← Sc.pre]
      exact Sc.nd.sublist (List.take_sublist _ _)
    have := bind_simple (fd := PySem.W.fnOf (sS e.name) (sS e.name) (defAt D.prog e.row).params (defAt D.prog e.row).body (defAt D.prog e.row).scope .none kV doc pm an cdv ct) (as := as) (us := us) e1 rfl nd (by
      have := congrArg List.length e2
      rw [List.length_map, List.length_map] at this
      omega)
    rw [this, e2]
/-- for the walk -/
theorem facts_walk (T : Stat D) {w : World} {mg : Str → Option Value} {fa : Addr} {h : Heap} {kk : Nat} {e : Fe} (he : D.find "law" = some e) (hp : e.ps = ["script"]) (Y : ∃ K : PySem.W.Frag, K.In h ∧ SaysY D h K) (G : h.Ns mainGlobals mg) (hmg : mg ("law" : Str) = some (.ref fa)) :
    ∃ (K : PySem.W.Frag) (fd : FuncData) (cs : List (Addr × Addr)) (GI : Gx → Prop) (G : Gx), K.In h ∧ GI G ∧ G.own = [] ∧ G.K = K ∧ (∀ H : Hp, (∀ p ∈ cs, H p.2 = some (.tbl #[])) → G.tab H) ∧
      (∀ p ∈ cs, h.get? p.2 = some { cls := .none, data := .fields #[] }) ∧ (∀ p ∈ cs, K.lookup p.2 = none) ∧ (∀ p ∈ cs, PySem.W.CodeHd h p.1 p.2) ∧ (∀ (s : Shared) (u : Value), BindsTo s fd ⟨[u], []⟩ [("script", u)]) ∧
      ∀ base : Heap, K.In base → base.Ns mainGlobals mg → (∀ p ∈ cs, TabB base mg p.1 p.2) → FnQ D.prog w K mg base GI (kk + 1) fa fd ["script"] ((PL D kk).fn "law") := by
  obtain ⟨K, hK, c⟩ := Y
  have F := facts_of T hK G c
  obtain ⟨hm, hn⟩ := find_mem he
  obtain ⟨fd, h1, h2⟩ := F.fn e hm
  have hfa : fa = gaS K e.name := by
    rw [hn, hmg] at h2
    cases h2; rfl
  refine ⟨K, fd, D.tabs K, GIx D K mg, GX D K mg, hK, rfl, rfl, rfl, fun H hH => ?_, fun p hp => ?_, fun p hp => ?_, fun p hp => ?_, fun s u => ?_, fun base hB hG hTB => ?_⟩
  · intro p hp
    obtain ⟨n, hn, rfl⟩ := List.mem_map.mp hp
    exact TabS.nil (hH _ (List.mem_map.mpr ⟨n, hn, rfl⟩))
  · obtain ⟨n, hn, rfl⟩ := List.mem_map.mp hp
    exact c.empty n hn
  · obtain ⟨n, hn, rfl⟩ := List.mem_map.mp hp
    exact c.out n hn
  · obtain ⟨n, hn, rfl⟩ := List.mem_map.mp hp
    exact PySem.W.codeHd_of_K hK (c.hd n hn)
  · have := h1.bindsA (ps := e.ps.map sS) (fun kV doc pm an cdv ct us hl => F.bnd e hm kV doc pm an cdv ct us (by rw [hl, List.length_map])) s [u] (by rw [hp]; rfl)
    rw [hp] at this
    exact this
  · obtain ⟨fd', g1, g2⟩ := (snd_all (w := w) (base := base) F hTB kk).fn e hm (by rw [hn]; exact he)
    have efd : fd' = fd := by
      obtain ⟨_, _, _, _, _, _, _, _, _, _, _, l1, _⟩ := g1.ex
      obtain ⟨_, _, _, _, _, _, _, _, _, _, _, l2, _⟩ := h1.ex
      rw [l1] at l2
      cases l2
      rfl
    subst efd
    rw [hfa]
    rw [hn, hp] at g2
    exact g2
end
end TQ
/-! TQ50: the evaluator's steps, as weakest preconditions. -/
namespace TQ
open PySem L2
def Ok {α : Type} (r : R α) (Q : α → Sto → Prop) : Prop := match r with
  | .ok a S => Q a S
  | _ => False
section
variable {α β : Type} {P : Pr} {τ : Tau} {S : Sto}
@[simp] theorem ok_ok {a : α} {Q : α → Sto → Prop} : Ok (.ok a S) Q ↔ Q a S := Iff.rfl
@[simp] theorem ok_exc {c : Str} {d : Val} {Q : α → Sto → Prop} : Ok (.exc c d S) Q ↔ False := Iff.rfl
@[simp] theorem ok_bad {Q : α → Sto → Prop} : Ok .bad Q ↔ False := Iff.rfl
theorem Ok.mono {r : R α} {Q Q' : α → Sto → Prop} (h : Ok r Q) (k : ∀ a S, Q a S → Q' a S) : Ok r Q' := by
  cases r with
  | ok a S => exact k _ _ h
  | exc c d S => exact h
  | bad => exact h
theorem Ok.ex {r : R α} {Q : α → Sto → Prop} (h : Ok r Q) : ∃ a S, r = .ok a S ∧ Q a S := by
  cases r with
  | ok a S => exact ⟨a, S, rfl, h⟩
  | exc c d S => exact h.elim
  | bad => exact h.elim
@[simp] theorem ok_bind {m : E α} {f : α → E β} {Q : β → Sto → Prop} : Ok ((m.bind f) S) Q ↔ Ok (m S) fun a S1 => Ok (f a S1) Q := by
  unfold E.bind
  cases m S <;> exact Iff.rfl
@[simp] theorem ok_pure {a : α} {Q : α → Sto → Prop} : Ok (E.pure a S) Q ↔ Q a S := Iff.rfl
@[simp] theorem ok_ebad {Q : α → Sto → Prop} : Ok (E.bad S) Q ↔ False := Iff.rfl
@[simp] theorem ok_getO {o : Option α} {Q : α → Sto → Prop} : Ok (getO o S) Q ↔ ∃ a, o = some a ∧ Q a S := by
  cases o with
  | none => simp [getO]
  | some a => simp [getO]
@[simp] theorem ok_ite {c : Prop} [Decidable c] {x y : R α} {Q : α → Sto → Prop} : Ok (if c then x else y) Q ↔ if c then Ok x Q else Ok y Q := by split <;> exact Iff.rfl
@[simp] theorem ok_iteE {c : Prop} [Decidable c] {x y : E α} {Q : α → Sto → Prop} : Ok ((if c then x else y) S) Q ↔ if c then Ok (x S) Q else Ok (y S) Q := by split <;> exact Iff.rfl
@[simp] theorem ok_oki {i : Int} {Q : Val → Sto → Prop} : Ok (oki i S) Q ↔ Q (.int i) S := Iff.rfl
@[simp] theorem ok_okb {b : Bool} {Q : Val → Sto → Prop} : Ok (okb b S) Q ↔ Q (.bl b) S := Iff.rfl
@[simp] theorem okw_alloc {xs : List Val} {Q : Val → Sto → Prop} : Ok (alloc xs S) Q ↔ lineOk xs.length = true ∧ Q (.ref S.length) (S ++ [xs]) := by
  unfold alloc
  split <;> simp_all
@[simp] theorem ok_mkTup {xs : List Val} {Q : Val → Sto → Prop} : Ok (mkTup xs S) Q ↔ lineOk xs.length = true ∧ Q (.tup xs) S := by
  unfold mkTup
  split <;> simp_all
@[simp] theorem ok_boolE {v : Val} {Q : Bool → Sto → Prop} : Ok (boolE v S) Q ↔ ∃ b, v = .bl b ∧ Q b S := by
  cases v <;> simp [boolE]
@[simp] theorem ok_truth {v : Val} {Q : Bool → Sto → Prop} : Ok (truthE v S) Q ↔ ∃ b, truthS S v = some b ∧ Q b S := by
  simp [truthE]
@[simp] theorem ok_intO {v : Val} {Q : Option Int → Sto → Prop} : Ok (intO v S) Q ↔ ∃ i, v = .int i ∧ Q (some i) S := by
  cases v <;> simp [intO]
/-! expressions -/
variable {Q : Val → Sto → Prop} {QB : Bool → Sto → Prop} {QA : List Val → Sto → Prop}
@[simp] theorem w_cst {c : Cst} : Ok (ev P τ (.cst c) S) Q ↔ Q (cstV c) S := by simp [ev, evv, dflt]
@[simp] theorem w_var {i : Nat} : Ok (ev P τ (.var i) S) Q ↔ ∃ v, (τ[i]?).getD none = some v ∧ Q v S := by simp [ev, evv, dflt, rdV]
@[simp] theorem w_glb {x : Str} : Ok (ev P τ (.glb x) S) Q ↔ ∃ v, P.cs x = some v ∧ Q v S := by simp [ev, evv, dflt]
@[simp] theorem w_bin {o : Op2} {a b : Ex} : Ok (ev P τ (.bin o a b) S) Q ↔ Ok (ev P τ a S) fun x S1 => Ok (ev P τ b S1) fun y S2 => Ok (op2 o x y S2) Q := by simp [ev, evv, dflt, two]
@[simp] theorem w_neg {a : Ex} : Ok (ev P τ (.neg a) S) Q ↔ Ok (ev P τ a S) fun x S1 => Ok (negE x S1) Q := by simp [ev, evv, dflt]
@[simp] theorem w_nt {a : Ex} : Ok (ev P τ (.nt a) S) Q ↔ Ok (evB P τ a S) fun b S1 => Q (.bl (!b)) S1 := by simp [ev, evB, evv, both]
@[simp] theorem w_and {a b : Ex} : Ok (ev P τ (.and a b) S) Q ↔ Ok (ev P τ a S) fun v S1 => ∃ c, v = .bl c ∧ if c = true then Ok (ev P τ b S1) Q else Q (.bl false) S1 := by simp [ev, evv]
@[simp] theorem w_or {a b : Ex} : Ok (ev P τ (.or a b) S) Q ↔ Ok (ev P τ a S) fun v S1 => ∃ c, v = .bl c ∧ if c = true then Q (.bl true) S1 else Ok (ev P τ b S1) Q := by simp [ev, evv]
@[simp] theorem w_ife {c a b : Ex} : Ok (ev P τ (.ife c a b) S) Q ↔ Ok (evB P τ c S) fun k S1 => if k = true then Ok (ev P τ a S1) Q else Ok (ev P τ b S1) Q := by simp [ev, evB, evv, dflt]
@[simp] theorem w_cmp {o : Cm} {a b : Ex} : Ok (ev P τ (.cmp o a b) S) Q ↔ Ok (ev P τ a S) fun x S1 => Ok (ev P τ b S1) fun y S2 => ∃ r, cmpS o S2 x y = some r ∧ Q (.bl r) S2 := by simp [ev, evv, both, cmpE, cmp2]
@[simp] theorem w_chn {o1 o2 : Cm} {a b c : Ex} : Ok (ev P τ (.chn o1 o2 a b c) S) Q ↔ Ok (ev P τ a S) fun x S1 => Ok (ev P τ b S1) fun y S2 => ∃ r, cmpS o1 S2 x y = some r ∧ if r = true then Ok (ev P τ c S2) fun z S3 => ∃ r, cmpS o2 S3 y z = some r ∧ Q (.bl r) S3 else Q (.bl false) S2 := by simp [ev, evv, both, chnE, cmp2]
@[simp] theorem w_lst {es : List Ex} : Ok (ev P τ (.lst es) S) Q ↔ Ok (evAs P τ es S) fun vs S1 => lineOk vs.length = true ∧ Q (.ref S1.length) (S1 ++ [vs]) := by simp [ev, evv, dflt]
@[simp] theorem w_tup {es : List Ex} : Ok (ev P τ (.tup es) S) Q ↔ Ok (evAs P τ es S) fun vs S1 => lineOk vs.length = true ∧ Q (.tup vs) S1 := by simp [ev, evv, dflt]
@[simp] theorem w_edc : Ok (ev P τ .edc S) Q ↔ Q .edc S := by simp [ev, evv, dflt]
theorem w_callO {f : Str} {es : List Ex} : Ok (ev P τ (.call f es) S) Q ↔ Ok (evAs P τ es S) fun vs S1 => Ok (callE P τ vs (P.fn f) S1) Q := by simp [ev, evv, dflt]
theorem callE_no (ho : P.own = []) {vs : List Val} {m : List Val → E Val} : callE P τ vs m S = m vs S := by
  unfold callE
  rw [ho]
  cases P.blk <;> rfl
@[simp] theorem w_call {f : Str} {es : List Ex} (ho : P.own = []) : Ok (ev P τ (.call f es) S) Q ↔ Ok (evAs P τ es S) fun vs S1 => Ok (P.fn f vs S1) Q := by simp [ev, evv, dflt, callE_no ho]
@[simp] theorem w_callK {f : Str} {as bs : List Ex} {q : List Nat} (ho : P.own = []) : Ok (ev P τ (.callK f as bs q) S) Q ↔ Ok (evAs P τ as S) fun us S1 => Ok (evAs P τ bs S1) fun ws S2 => ∃ vs, mapO (fun i => (us ++ ws)[i]?) q = some vs ∧ Ok (P.fn f vs S2) Q := by simp [ev, evv, dflt, callE_no ho]
theorem w_callKO {f : Str} {as bs : List Ex} {q : List Nat} : Ok (ev P τ (.callK f as bs q) S) Q ↔ Ok (evAs P τ as S) fun us S1 => Ok (evAs P τ bs S1) fun ws S2 => ∃ vs, mapO (fun i => (us ++ ws)[i]?) q = some vs ∧ Ok (callE P τ vs (P.fn f) S2) Q := by simp [ev, evv, dflt]
@[simp] theorem w_bif {f : Str} {es : List Ex} : Ok (ev P τ (.bif f es) S) Q ↔ Ok (evAs P τ es S) fun vs S1 => Ok (biE f vs S1) Q := by simp [ev, evv, dflt]
@[simp] theorem w_isi {a : Ex} {T : List Str} : Ok (ev P τ (.isi a T) S) Q ↔ Ok (ev P τ a S) fun v S1 => ∃ b, isiAny P v T = some b ∧ Q (.bl b) S1 := by
  simp only [ev, evv, dflt, ok_bind]
  constructor
  · intro h
    refine h.mono fun v S1 q => ?_
    unfold isiE at q
    split at q
    · exact ⟨_, ‹_›, q⟩
    · exact q.elim
  · intro h
    refine h.mono fun v S1 q => ?_
    obtain ⟨b, e, q⟩ := q
    unfold isiE
    rw [e]
    exact q
@[simp] theorem w_mth {m : Str} {o : Ex} {es : List Ex} : Ok (ev P τ (.mth m o es) S) Q ↔ Ok (ev P τ o S) fun x S1 => Ok (ckM m x S1) fun _ S2 => Ok (evAs P τ es S2) fun vs S3 => Ok (mthE m x vs S3) Q := by simp [ev, evv, dflt]
@[simp] theorem w_fld {a : Ex} {f : Str} : Ok (ev P τ (.fld a f) S) Q ↔ Ok (ev P τ a S) fun v S1 => Ok (fldE v f S1) Q := by simp [ev, evv, dflt]
@[simp] theorem w_ix {a i : Ex} : Ok (ev P τ (.ix a i) S) Q ↔ Ok (ev P τ a S) fun x S1 => Ok (ev P τ i S1) fun j S2 => Ok (ixE x j S2) Q := by simp [ev, evv, dflt, two]
@[simp] theorem w_sl {a : Ex} {lo hi : Option Ex} : Ok (ev P τ (.sl a lo hi) S) Q ↔ Ok (ev P τ a S) fun x S1 => Ok (evOp P τ lo S1) fun l S2 => Ok (evOp P τ hi S2) fun h S3 => Ok (slE x l h S3) Q := by simp [ev, evv, dflt]
@[simp] theorem w_op0 {QO : Option Int → Sto → Prop} : Ok (evOp P τ none S) QO ↔ QO none S := by simp [evOp]
@[simp] theorem w_op1 {QO : Option Int → Sto → Prop} {e : Ex} : Ok (evOp P τ (some e) S) QO ↔ Ok (ev P τ e S) fun v S1 => ∃ i, v = .int i ∧ QO (some i) S1 := by simp [evOp]
@[simp] theorem w_lam {k : Nat} {js : List Nat} : Ok (ev P τ (.lam k js) S) Q ↔ Ok (lamE P k js S) Q := by simp [ev, evv, dflt]
@[simp] theorem w_rgl {tp : Bool} {es : List Ex} : Ok (ev P τ (.rgl tp es) S) Q ↔ Ok (evAs P τ es S) fun vs S1 => Ok (rgE tp vs S1) Q := by simp [ev, evv, dflt]
@[simp] theorem w_rev {a : Ex} : Ok (ev P τ (.rev a) S) Q ↔ Ok (ev P τ a S) fun v S1 => Ok (revE v S1) Q := by simp [ev, evv, dflt]
@[simp] theorem w_cval {f : Ex} {es : List Ex} : Ok (ev P τ (.cval f es) S) Q ↔ Ok (ev P τ f S) fun v S1 => Ok (ckF v S1) fun _ S2 => Ok (evAs P τ es S2) fun us S3 => Ok (cvalE P τ v us S3) Q := by simp [ev, evv, dflt]
@[simp] theorem w_nil : Ok (evAs P τ [] S) QA ↔ QA [] S := by simp [evAs]
@[simp] theorem w_cons {e : Ex} {es : List Ex} : Ok (evAs P τ (e :: es) S) QA ↔ Ok (ev P τ e S) fun v S1 => Ok (evAs P τ es S1) fun vs S2 => QA (v :: vs) S2 := by simp [evAs]
/-! tests -/
theorem wB_df {e : Ex} (h : dfB e = true) : Ok (evB P τ e S) QB ↔ Ok (ev P τ e S) fun v S1 => ∃ b, truthS S1 v = some b ∧ QB b S1 := by
  unfold evB
  rw [dfB_ok h]
  simp
@[simp] theorem wB_cst {c : Cst} : Ok (evB P τ (.cst c) S) QB ↔ Ok (ev P τ (.cst c) S) fun v S1 => ∃ b, truthS S1 v = some b ∧ QB b S1 := wB_df rfl
@[simp] theorem wB_var {i : Nat} : Ok (evB P τ (.var i) S) QB ↔ Ok (ev P τ (.var i) S) fun v S1 => ∃ b, truthS S1 v = some b ∧ QB b S1 := wB_df rfl
@[simp] theorem wB_call {f : Str} {es : List Ex} : Ok (evB P τ (.call f es) S) QB ↔ Ok (ev P τ (.call f es) S) fun v S1 => ∃ b, truthS S1 v = some b ∧ QB b S1 := wB_df rfl
@[simp] theorem wB_callK {f : Str} {as bs : List Ex} {q : List Nat} : Ok (evB P τ (.callK f as bs q) S) QB ↔ Ok (ev P τ (.callK f as bs q) S) fun v S1 => ∃ b, truthS S1 v = some b ∧ QB b S1 := wB_df rfl
@[simp] theorem wB_bif {f : Str} {es : List Ex} : Ok (evB P τ (.bif f es) S) QB ↔ Ok (ev P τ (.bif f es) S) fun v S1 => ∃ b, truthS S1 v = some b ∧ QB b S1 := wB_df rfl
@[simp] theorem wB_isi {a : Ex} {T : List Str} : Ok (evB P τ (.isi a T) S) QB ↔ Ok (ev P τ (.isi a T) S) fun v S1 => ∃ b, truthS S1 v = some b ∧ QB b S1 := wB_df rfl
@[simp] theorem wB_ife {c a b : Ex} : Ok (evB P τ (.ife c a b) S) QB ↔ Ok (ev P τ (.ife c a b) S) fun v S1 => ∃ b, truthS S1 v = some b ∧ QB b S1 := wB_df rfl
@[simp] theorem wB_ix {a i : Ex} : Ok (evB P τ (.ix a i) S) QB ↔ Ok (ev P τ (.ix a i) S) fun v S1 => ∃ b, truthS S1 v = some b ∧ QB b S1 := wB_df rfl
@[simp] theorem wB_nt {a : Ex} : Ok (evB P τ (.nt a) S) QB ↔ Ok (evB P τ a S) fun b S1 => QB (!b) S1 := by simp [evB, evv, both]
@[simp] theorem wB_and {a b : Ex} : Ok (evB P τ (.and a b) S) QB ↔ Ok (evB P τ a S) fun c S1 => if c = true then Ok (evB P τ b S1) QB else QB false S1 := by simp [evB, evv]
@[simp] theorem wB_or {a b : Ex} : Ok (evB P τ (.or a b) S) QB ↔ Ok (evB P τ a S) fun c S1 => if c = true then QB true S1 else Ok (evB P τ b S1) QB := by simp [evB, evv]
@[simp] theorem wB_cmp {o : Cm} {a b : Ex} : Ok (evB P τ (.cmp o a b) S) QB ↔ Ok (ev P τ a S) fun x S1 => Ok (ev P τ b S1) fun y S2 => ∃ r, cmpS o S2 x y = some r ∧ QB r S2 := by simp [evB, ev, evv, both, cmpE, cmp2]
@[simp] theorem wB_chn {o1 o2 : Cm} {a b c : Ex} : Ok (evB P τ (.chn o1 o2 a b c) S) QB ↔ Ok (ev P τ a S) fun x S1 => Ok (ev P τ b S1) fun y S2 => ∃ r, cmpS o1 S2 x y = some r ∧ if r = true then Ok (ev P τ c S2) fun z S3 => ∃ r, cmpS o2 S3 y z = some r ∧ QB r S3 else QB false S2 := by simp [evB, ev, evv, both, chnE, cmp2]
/-! statements -/
variable {QS : Fl × Tau → Sto → Prop}
@[simp] theorem s_nil : Ok (exSs P [] τ S) QS ↔ QS (.nx, τ) S := by simp [exSs]
@[simp] theorem s_cons {s : Sm} {r : List Sm} : Ok (exSs P (s :: r) τ S) QS ↔ Ok (exS P s τ S) fun p S1 => match p.1 with | .nx => Ok (exSs P r p.2 S1) QS | f => QS (f, p.2) S1 := by
  simp only [exSs, seqM, ok_bind]
  refine ⟨fun h => h.mono fun p S1 q => ?_, fun h => h.mono fun p S1 q => ?_⟩ <;> (obtain ⟨f, t⟩ := p; cases f <;> exact q)
@[simp] theorem s_asg {i : Nat} {e : Ex} : Ok (exS P (.asg (.nm i) e) τ S) QS ↔ Ok (ev P τ e S) fun v S1 => i < τ.length ∧ QS (.nx, τ.set i (some v)) S1 := by
  simp only [exS, ok_bind, ok_getO, bindP]
  refine ⟨fun h => h.mono fun v S1 q => ?_, fun h => h.mono fun v S1 q => ?_⟩
  · obtain ⟨t, e, q⟩ := q
    split at e
    · cases e; exact ⟨‹_›, q⟩
    · cases e
  · rw [if_pos q.1]; exact ⟨_, rfl, q.2⟩
@[simp] theorem s_asgP {ps : List Pat} {e : Ex} : Ok (exS P (.asg (.tup ps) e) τ S) QS ↔ Ok (ev P τ e S) fun v S1 => ∃ τ', bindP (.tup ps) v τ = some τ' ∧ QS (.nx, τ') S1 := by simp [exS]
@[simp] theorem s_par {i j : Nat} {a b : Ex} : Ok (exS P (.par i j a b) τ S) QS ↔ Ok (ev P τ a S) fun v S1 => Ok (ev P τ b S1) fun w S2 => (i < τ.length ∧ j < τ.length) ∧ QS (.nx, (τ.set i (some v)).set j (some w)) S2 := by
  simp only [exS, ok_bind, ok_iteE, ok_pure, ok_ebad]
  refine ⟨fun h => h.mono fun v S1 q => q.mono fun w S2 q => ?_, fun h => h.mono fun v S1 q => q.mono fun w S2 q => ?_⟩
  · split at q
    · exact ⟨‹_›, q⟩
    · exact q.elim
  · rw [if_pos q.1]; exact q.2
@[simp] theorem s_par3 {i j l : Nat} {a b c : Ex} : Ok (exS P (.par3 i j l a b c) τ S) QS ↔ Ok (ev P τ a S) fun u S1 => Ok (ev P τ b S1) fun v S2 => Ok (ev P τ c S2) fun w S3 => (i < τ.length ∧ j < τ.length ∧ l < τ.length) ∧ QS (.nx, ((τ.set i (some u)).set j (some v)).set l (some w)) S3 := by
  simp only [exS, ok_bind, ok_iteE, ok_pure, ok_ebad]
  refine ⟨fun h => h.mono fun v S1 q => q.mono fun w S2 q => q.mono fun x S3 q => ?_, fun h => h.mono fun v S1 q => q.mono fun w S2 q => q.mono fun x S3 q => ?_⟩
  · split at q
    · exact ⟨‹_›, q⟩
    · exact q.elim
  · rw [if_pos q.1]; exact q.2
@[simp] theorem s_setI {o j e : Ex} : Ok (exS P (.setI o j e) τ S) QS ↔ Ok (ev P τ e S) fun v S1 => Ok (ev P τ o S1) fun x S2 => Ok (ev P τ j S2) fun k S3 => Ok (setE x k v S3) fun _ S4 => QS (.nx, τ) S4 := by simp [exS]
@[simp] theorem s_ex {e : Ex} : Ok (exS P (.ex e) τ S) QS ↔ Ok (ev P τ e S) fun _ S1 => QS (.nx, τ) S1 := by simp [exS]
@[simp] theorem s_ret {e : Ex} : Ok (exS P (.ret e) τ S) QS ↔ Ok (ev P τ e S) fun v S1 => QS (.rt v, τ) S1 := by simp [exS]
@[simp] theorem s_retN : Ok (exS P .retN τ S) QS ↔ QS (.rt .non, τ) S := by simp [exS]
@[simp] theorem s_ife {c : Ex} {a b : List Sm} : Ok (exS P (.ife c a b) τ S) QS ↔ Ok (evB P τ c S) fun k S1 => if k = true then Ok (exSs P a τ S1) QS else Ok (exSs P b τ S1) QS := by simp [exS]
@[simp] theorem s_pass : Ok (exS P .pass τ S) QS ↔ QS (.nx, τ) S := by simp [exS]
@[simp] theorem s_brk : Ok (exS P .brk τ S) QS ↔ QS (.bk, τ) S := by simp [exS]
@[simp] theorem s_cnt : Ok (exS P .cnt τ S) QS ↔ QS (.ct, τ) S := by simp [exS]
/-! ### comprehensions, loops -/
theorem comp_rule {c : Src} {n : Nat} {step : Val → E (Option Val)} (I : Nat → List Val → Sto → Prop) {QL : List Val → Sto → Prop} (hlen : ∀ i acc S, i ≤ n → I i acc S → c.len S = some n)
    (hstep : ∀ i acc S, i < n → I i acc S → ∃ v, c.get S i = some v ∧ Ok (step v S) fun o S1 => I (i + 1) (acc ++ o.toList) S1) (hend : ∀ acc S, I n acc S → QL acc S) :
    ∀ (k : Nat) (acc : List Val) (S : Sto), k ≤ n → I (n - k) acc S → Ok (compE c n step k S) fun r S1 => QL (acc ++ r) S1
  | 0, acc, S, _, h => by
    unfold compE
    rw [if_pos (hlen (n - 0) acc S (by omega) h)]
    simp only [ok_ok, List.append_nil]
    exact hend acc S (by simpa using h)
  | k + 1, acc, S, hk, h => by
    unfold compE
    rw [if_pos (hlen _ acc S (by omega) h)]
    obtain ⟨v, e, q⟩ := hstep (n - (k + 1)) acc S (by omega) h
    rw [e]
    simp only [ok_bind]
    refine q.mono fun o S1 q => ?_
    have e2 : n - (k + 1) + 1 = n - k := by omega
    rw [e2] at q
    refine (comp_rule I hlen hstep hend k _ S1 (by omega) q).mono fun r S2 q => ?_
    cases o with
    | none => simpa [consO] using q
    | some x => simpa [consO] using q
/-- [e for p in ..] -/
theorem w_lc {p : Pat} {k : SrcK} {ss ifs : List Ex} {e : Ex} (I : Src → Nat → Nat → List Val → Sto → Prop)
    (h0 : Ok (evAs P τ ss S) fun vs S1 => ∃ c n, mkSrc k vs = some c ∧ c.len S1 = some n ∧ I c n 0 [] S1)
    (hlen : ∀ c n i acc S, i ≤ n → I c n i acc S → c.len S = some n)
    (hstep : ∀ c n i acc S, i < n → I c n i acc S → ∃ v τ', c.get S i = some v ∧ bindP p v (wipeT p.slots τ) = some τ' ∧ Ok (evIf P.inn τ' ifs S) fun b S1 => if b = true then Ok (ev P.inn τ' e S1) fun x S2 => I c n (i + 1) (acc ++ [x]) S2 else I c n (i + 1) acc S1)
    (hend : ∀ c n acc S, I c n n acc S → lineOk acc.length = true ∧ Q (.ref S.length) (S ++ [acc])) : Ok (ev P τ (.lc p k ss ifs e) S) Q := by
  have z : Ok ((evAs P τ ss).bind (fun vs => (getO (mkSrc k vs)).bind fun c => fun S => match c.len S with
      | some n => ((quietE (compE c n (fun d => (getO (bindP p d (wipeT p.slots τ))).bind fun τ' => (evIf P.inn τ' ifs).bind fun b => if b then (evv P.inn τ' e).1.bind fun v => E.pure (some v) else E.pure none) n)).bind alloc) S
      | none => .bad) S) Q := by
    rw [ok_bind]
    refine h0.mono fun vs S1 q => ?_
    obtain ⟨c, n, e1, e2, q⟩ := q
    rw [ok_bind, ok_getO]
    refine ⟨c, e1, ?_⟩
    rw [e2]
    simp only [ok_bind]
    have key := comp_rule (QL := fun acc S => lineOk acc.length = true ∧ Q (.ref S.length) (S ++ [acc])) (step := fun d => (getO (bindP p d (wipeT p.slots τ))).bind fun τ' => (evIf P.inn τ' ifs).bind fun b => if b then (evv P.inn τ' e).1.bind fun v => E.pure (some v) else E.pure none) (I c n) (hlen c n) (fun i acc S hi h => ?_) (hend c n) n [] S1 (Nat.le_refl n) (by simpa using q)
    · unfold quietE
      obtain ⟨r, S2, e3, q3⟩ := key.ex
      rw [e3]
      simpa using q3
    · obtain ⟨v, τ', e3, e4, q⟩ := hstep c n i acc S hi h
      refine ⟨v, e3, ?_⟩
      simp only [ok_bind, ok_getO]
      refine ⟨τ', e4, q.mono fun b S1 q => ?_⟩
      cases b with
      | true => simpa using q
      | false => simpa using q
  have e : ev P τ (.lc p k ss ifs e) = lcE (evAs P τ ss) k fun d => (getO (bindP p d (wipeT p.slots τ))).bind fun τ' => (evIf P.inn τ' ifs).bind fun b => if b then (evv P.inn τ' e).1.bind fun v => E.pure (some v) else E.pure none := by simp only [ev, evv, dflt]
  rw [e]
  exact z
@[simp] theorem w_if0 : Ok (evIf P τ [] S) QB ↔ QB true S := by simp [evIf]
@[simp] theorem w_if1 {e : Ex} : Ok (evIf P τ [e] S) QB ↔ Ok (evB P τ e S) fun b S1 => QB b S1 := by
  simp only [evIf, ok_bind]
  refine ⟨fun h => h.mono fun b S1 q => ?_, fun h => h.mono fun b S1 q => ?_⟩ <;> cases b <;> simpa using q
/-- for p in ..: -/
theorem loop_rule {p : Pat} {body : MS} {c : Src} {n : Nat} (I : Nat → Tau → Sto → Prop) (hlen : ∀ i τ S, i ≤ n → I i τ S → c.len S = some n)
    (hstep : ∀ i τ S, i < n → I i τ S → ∃ v τ', c.get S i = some v ∧ bindP p v τ = some τ' ∧ Ok (body τ' S) fun q S1 => match q.1 with
      | .nx => I (i + 1) q.2 S1
      | .ct => I (i + 1) q.2 S1
      | .bk => QS (.nx, q.2) S1
      | .rt v => QS (.rt v, q.2) S1) (hend : ∀ τ S, I n τ S → QS (.nx, τ) S) : ∀ (k : Nat) (τ : Tau) (S : Sto), k ≤ n → I (n - k) τ S → Ok (loopM p body c n k τ S) QS
  | 0, τ, S, _, h => by
    unfold loopM
    rw [if_pos (hlen (n - 0) τ S (by omega) h)]
    exact hend τ S (by simpa using h)
  | k + 1, τ, S, hk, h => by
    unfold loopM
    rw [if_pos (hlen _ τ S (by omega) h)]
    obtain ⟨v, τ', e1, e2, q⟩ := hstep (n - (k + 1)) τ S (by omega) h
    rw [e1]
    simp only [e2, ok_bind]
    refine q.mono fun r S1 q => ?_
    obtain ⟨f, t⟩ := r
    have e3 : n - (k + 1) + 1 = n - k := by omega
    cases f with
    | nx => exact loop_rule I hlen hstep hend k t S1 (by omega) (by rw [← e3]; exact q)
    | ct => exact loop_rule I hlen hstep hend k t S1 (by omega) (by rw [← e3]; exact q)
    | bk => exact q
    | rt v => exact q
theorem s_fr {p : Pat} {k : SrcK} {ss : List Ex} {b : List Sm} (I : Src → Nat → Nat → Tau → Sto → Prop) (h0 : Ok (evAs P τ ss S) fun vs S1 => ∃ c n, mkSrc k vs = some c ∧ c.len S1 = some n ∧ I c n 0 τ S1) (hlen : ∀ c n i τ S, i ≤ n → I c n i τ S → c.len S = some n)
    (hstep : ∀ c n i τ S, i < n → I c n i τ S → ∃ v τ', c.get S i = some v ∧ bindP p v τ = some τ' ∧ Ok (exSs P b τ' S) fun q S1 => match q.1 with
      | .nx => I c n (i + 1) q.2 S1
      | .ct => I c n (i + 1) q.2 S1
      | .bk => QS (.nx, q.2) S1
      | .rt v => QS (.rt v, q.2) S1) (hend : ∀ c n τ S, I c n n τ S → QS (.nx, τ) S) : Ok (exS P (.fr p k ss b) τ S) QS := by
  have z : Ok ((evAs P τ ss).bind (fun vs => (getO (mkSrc k vs)).bind fun c => fun S => match c.len S with
      | some n => loopM p (exSs P b) c n n τ S
      | none => .bad) S) QS := by
    rw [ok_bind]
    refine h0.mono fun vs S1 q => ?_
    obtain ⟨c, n, e1, e2, q⟩ := q
    rw [ok_bind, ok_getO]
    refine ⟨c, e1, ?_⟩
    rw [e2]
    exact loop_rule (I c n) (hlen c n) (hstep c n) (hend c n) n τ S1 (Nat.le_refl n) (by simpa using q)
  have e : exS P (.fr p k ss b) τ = srcE (evAs P τ ss) k fun c n => loopM p (exSs P b) c n n τ := by simp only [exS]
  rw [e]
  exact z
/-- while: I with a measure -/
theorem while_rule {c : Tau → E Bool} {body : MS} (I : Nat → Tau → Sto → Prop) (hstep : ∀ m τ S, I m τ S → Ok (c τ S) fun b S1 => if b = true then Ok (body τ S1) fun q S2 => (match q.1 with
      | .nx => ∃ m', m' < m ∧ I m' q.2 S2
      | .ct => ∃ m', m' < m ∧ I m' q.2 S2
      | .bk => QS (.nx, q.2) S2
      | .rt v => QS (.rt v, q.2) S2) else QS (.nx, τ) S1) : ∀ (k m : Nat) (τ : Tau) (S : Sto), m < k → I m τ S → Ok (whileM c body k τ S) QS
  | 0, m, τ, S, hk, _ => by omega
  | k + 1, m, τ, S, hk, h => by
    unfold whileM
    simp only [ok_bind]
    refine (hstep m τ S h).mono fun b S1 q => ?_
    cases b with
    | false => simpa using q
    | true =>
      simp only [if_true] at q ⊢
      rw [ok_bind]
      refine q.mono fun r S2 q => ?_
      obtain ⟨f, t⟩ := r
      cases f with
      | nx => obtain ⟨m', h1, h2⟩ := q; exact while_rule I hstep k m' t S2 (by omega) h2
      | ct => obtain ⟨m', h1, h2⟩ := q; exact while_rule I hstep k m' t S2 (by omega) h2
      | bk => exact q
      | rt v => exact q
theorem s_whl {fu : Tau → Sto → Nat} {c : Ex} {b : List Sm} (I : Nat → Tau → Sto → Prop) (m : Nat) (h0 : I m τ S) (hm : m < fu τ S) (hstep : ∀ m τ S, I m τ S → Ok (evB P τ c S) fun k S1 => if k = true then Ok (exSs P b τ S1) fun q S2 => (match q.1 with
      | .nx => ∃ m', m' < m ∧ I m' q.2 S2
      | .ct => ∃ m', m' < m ∧ I m' q.2 S2
      | .bk => QS (.nx, q.2) S2
      | .rt v => QS (.rt v, q.2) S2) else QS (.nx, τ) S1) : Ok (exS P (.whl fu c b) τ S) QS := by
  have e : exS P (.whl fu c b) τ = fun S => whileM (fun τ => evB P τ c) (exSs P b) (fu τ S) τ S := by simp only [exS]
  rw [e]
  exact while_rule I hstep _ m τ S hm h0
/-! ### defs -/
theorem w_run {d : Df} {vs : List Val} (hc : d.cells = []) (hl : vs.length = d.pars) (hz : d.pars ≤ d.size) (h : Ok (exSs { P with own := [], blk := false } d.body (vs.map some ++ List.replicate (d.size - d.pars) none) S) fun p S1 => match p.1 with
    | .rt v => Q v S1
    | .nx => Q .non S1
    | _ => False) : Ok (runDf P d vs S) Q := by
  unfold runDf
  rw [if_pos ⟨hl, hz⟩, hc]
  obtain ⟨p, S1, e, q⟩ := h.ex
  simp only [e]
  obtain ⟨f, t⟩ := p
  cases f <;> exact q
end
section
variable {D : LawD} {k : Nat}
theorem fn_eq {x : Str} {e : Fe} (h : D.find x = some e) : (PL D (k + 1)).fn x = runDf (PL D k) e.d := by
  show (fun vs => match D.find x with | some e => runDf (PL D k) e.d vs | none => E.bad) = _
  rw [h]
@[simp] theorem own_PL : (PL D k).own = [] := by cases k <;> rfl
@[simp] theorem blk_PL : (PL D k).blk = false := by cases k <;> rfl
@[simp] theorem cs_PL : (PL D k).cs = D.cs := by cases k <;> rfl
@[simp] theorem isE_PL : (PL D k).isE = D.isE := by cases k <;> rfl
@[simp] theorem eta_PL : ({ PL D k with own := [], blk := false } : Pr) = PL D k := by cases k <;> rfl
@[simp] theorem inn_own {P : Pr} : P.inn.own = P.own := rfl
@[simp] theorem inn_fn {P : Pr} : P.inn.fn = P.fn := rfl
@[simp] theorem inn_cs {P : Pr} : P.inn.cs = P.cs := rfl
@[simp] theorem inn_isE {P : Pr} : P.inn.isE = P.isE := rfl
end
end TQ
/-! TQ51: values as data, what a call keeps; whole numbers. -/
namespace TQ
open PySem L2
/-- the data that a value is, without the places M -/
def rp (M : List Nat) (S : Sto) : Nat → Val → Option D
  | 0, _ => none
  | _ + 1, .non => some .none
  | _ + 1, .bl b => some (.bool b)
  | _ + 1, .int i => some (.int i)
  | _ + 1, .str x => some (.str x)
  | n + 1, .tup xs => (mapO (rp M S n) xs).map .tuple
  | n + 1, .ref k => if k ∈ M then none else match S[k]? with
    | some xs => (mapO (rp M S n) xs).map .list
    | none => none
  | _ + 1, .edc => some (.dict [])
  | _ + 1, _ => none
/-- what was there, but for M and cells, is there -/
structure Fr (M : List Nat) (S S' : Sto) : Prop where
  len : S.length ≤ S'.length
  at_ : ∀ k xs, k ∉ M → S[k]? = some xs → (∀ r, xs ≠ .cmark :: r) → S'[k]? = some xs
theorem Fr.refl (M : List Nat) (S : Sto) : Fr M S S := ⟨Nat.le_refl _, fun _ _ _ h _ => h⟩
theorem Fr.trans {M : List Nat} {S S1 S2 : Sto} (a : Fr M S S1) (b : Fr M S1 S2) : Fr M S S2 := ⟨Nat.le_trans a.len b.len, fun k xs n h c => b.at_ k xs n (a.at_ k xs n h c) c⟩
theorem Fr.app {M : List Nat} {S : Sto} (T : Sto) : Fr M S (S ++ T) := ⟨by simp, fun k xs _ h _ => by rw [List.getElem?_append_left (List.getElem?_eq_some_iff.mp h).1]; exact h⟩
theorem Fr.set {M : List Nat} {S : Sto} {k : Nat} (h : k ∈ M) (xs : List Val) : Fr M S (S.set k xs) := ⟨by simp, fun j ys n e _ => by rw [List.getElem?_set_ne (by intro z; subst z; exact n h)]; exact e⟩
theorem Fr.mono {M M' : List Nat} {S S' : Sto} (h : Fr M S S') (k : ∀ j ∈ M, j ∈ M') : Fr M' S S' := ⟨h.len, fun j xs n e c => h.at_ j xs (fun z => n (k j z)) e c⟩
theorem Fr.appR {M : List Nat} {S S1 : Sto} (h : Fr M S S1) (T : Sto) : Fr M S (S1 ++ T) := h.trans (Fr.app T)
theorem Fr.cell {M : List Nat} {S : Sto} {k : Nat} {x y : Val} (h : S[k]? = some [.cmark, x]) : Fr M S (S.set k [.cmark, y]) := ⟨by simp, fun j ys n e c => by
  by_cases hj : k = j
  · subst hj; rw [h] at e; cases e; exact absurd rfl (c [x])
  · rw [List.getElem?_set_ne hj]; exact e⟩
theorem Fr.get {M : List Nat} {S S' : Sto} (h : Fr M S S') {k : Nat} {xs : List Val} (n : k ∉ M) (e : S[k]? = some xs) (c : ∀ r, xs ≠ .cmark :: r) : S'[k]? = some xs := h.at_ k xs n e c
theorem mapO_nc {M : List Nat} {S : Sto} {n : Nat} {xs : List Val} {ds : List D} (h : mapO (rp M S n) xs = some ds) : ∀ r, xs ≠ .cmark :: r := fun r e => by
  subst e
  have : rp M S n .cmark = none := by cases n <;> rfl
  simp [mapO, this] at h
theorem mapO_imp {α β : Type} {f g : α → Option β} : ∀ {xs : List α} {ys : List β}, (∀ x ∈ xs, ∀ y, f x = some y → g x = some y) → mapO f xs = some ys → mapO g xs = some ys
  | [], ys, _, h => h
  | x :: xs, ys, k, h => by
    obtain ⟨y, ys', rfl, e1, e2⟩ := mapO_cons h
    have := mapO_imp (fun z hz => k z (List.mem_cons_of_mem _ hz)) e2
    simp [mapO, k x (by simp) y e1, this]
theorem rp_fr {M : List Nat} {S S' : Sto} (F : Fr M S S') : ∀ (n : Nat) (v : Val) (d : D), rp M S n v = some d → rp M S' n v = some d
  | n + 1, v, d, h => by
    cases v <;> first | exact h | skip
    · rename_i xs
      simp only [rp, Option.map_eq_some_iff] at h ⊢
      obtain ⟨ds, e, rfl⟩ := h
      exact ⟨ds, mapO_imp (fun x _ y => rp_fr F n x y) e, rfl⟩
    · rename_i k
      simp only [rp] at h ⊢
      split at h
      · cases h
      · rename_i hk
        rw [if_neg hk]
        split at h
        · rename_i xs e
          simp only [Option.map_eq_some_iff] at h
          obtain ⟨ds, e2, rfl⟩ := h
          rw [F.at_ k xs hk e (mapO_nc e2)]
          simp only [Option.map_eq_some_iff]
          exact ⟨ds, mapO_imp (fun x _ y => rp_fr F n x y) e2, rfl⟩
        · cases h
theorem rp_sub {M M' : List Nat} {S : Sto} (k : ∀ j ∈ M', j ∈ M) : ∀ (n : Nat) (v : Val) (d : D), rp M S n v = some d → rp M' S n v = some d
  | n + 1, v, d, h => by
    cases v <;> first | exact h | skip
    · rename_i xs
      simp only [rp, Option.map_eq_some_iff] at h ⊢
      obtain ⟨ds, e, rfl⟩ := h
      exact ⟨ds, mapO_imp (fun x _ y => rp_sub k n x y) e, rfl⟩
    · rename_i j
      simp only [rp] at h ⊢
      split at h
      · cases h
      · rename_i hk
        rw [if_neg (fun z => hk (k _ z))]
        split at h
        · rename_i xs e
          simp only [Option.map_eq_some_iff] at h ⊢
          obtain ⟨ds, e2, rfl⟩ := h
          exact ⟨ds, mapO_imp (fun x _ y => rp_sub k n x y) e2, rfl⟩
        · cases h
theorem rp_up {M : List Nat} {S : Sto} : ∀ (n : Nat) (v : Val) (d : D), rp M S n v = some d → rp M S (n + 1) v = some d
  | n + 1, v, d, h => by
    cases v <;> first | exact h | skip
    · rename_i xs
      simp only [rp, Option.map_eq_some_iff] at h
      obtain ⟨ds, e, rfl⟩ := h
      show (mapO (rp M S (n + 1)) xs).map PyData.tuple = _
      rw [mapO_imp (fun x _ y => rp_up n x y) e]; rfl
    · rename_i j
      simp only [rp] at h
      split at h
      · cases h
      · rename_i hk
        show (if j ∈ M then none else match S[j]? with | some xs => (mapO (rp M S (n + 1)) xs).map PyData.list | none => none) = _
        rw [if_neg hk]
        split at h
        · rename_i xs e
          simp only [Option.map_eq_some_iff] at h
          obtain ⟨ds, e2, rfl⟩ := h
          rw [mapO_imp (fun x _ y => rp_up n x y) e2]; rfl
        · cases h
theorem rp_le {M : List Nat} {S : Sto} {n m : Nat} {v : Val} {d : D} (h : rp M S n v = some d) (k : n ≤ m) : rp M S m v = some d := by
  induction m with
  | zero => cases n with
    | zero => exact h
    | succ n => omega
  | succ m ih =>
    by_cases e : n = m + 1
    · subst e; exact h
    · exact rp_up m v d (ih (by omega))
theorem rp_deep {M : List Nat} {S : Sto} : ∀ (n : Nat) (v : Val) (d : D), rp M S n v = some d → deepV n S v = some d
  | n + 1, v, d, h => by
    cases v <;> first | exact h | skip
    all_goals first
      | (rename_i xs
         simp only [rp, Option.map_eq_some_iff] at h
         obtain ⟨ds, e, rfl⟩ := h
         simp only [deepV, Option.map_eq_some_iff]
         exact ⟨ds, mapO_imp (fun x _ y => rp_deep n x y) e, rfl⟩)
      | (rename_i j
         simp only [rp] at h
         split at h
         · cases h
         · split at h
           · rename_i xs e
             simp only [Option.map_eq_some_iff] at h
             obtain ⟨ds, e2, rfl⟩ := h
             simp only [deepV, e, Option.map_eq_some_iff]
             exact ⟨ds, mapO_imp (fun x _ y => rp_deep n x y) e2, rfl⟩
           · cases h)
      | (simp [rp] at h)
theorem dp_rp {M : List Nat} {S : Sto} {n : Nat} {v : Val} {d : D} (h : rp M S n v = some d) (k : n ≤ 64) : dp S v = some d := rp_deep 64 v d (rp_le h k)
theorem rp_ref {M : List Nat} {S : Sto} {n k : Nat} {xs : List Val} {ds : List D} (hk : k ∉ M) (e : S[k]? = some xs) (h : mapO (rp M S n) xs = some ds) : rp M S (n + 1) (.ref k) = some (.list ds) := by
  simp only [rp, if_neg hk, e, h, Option.map_some]
theorem rp_tup {M : List Nat} {S : Sto} {n : Nat} {xs : List Val} {ds : List D} (h : mapO (rp M S n) xs = some ds) : rp M S (n + 1) (.tup xs) = some (.tuple ds) := by
  simp only [rp, h, Option.map_some]
/-! ### whole numbers -/
theorem log2_le {n k : Nat} (h : n < 2 ^ k) : n.log2 ≤ k := by
  by_cases z : n = 0
  · subst z; simp
  · exact Nat.le_of_lt ((Nat.log2_lt z).mpr h)
theorem mul_ok {i j : Int} (hi : i.natAbs < 2 ^ 200) (hj : j.natAbs < 2 ^ 200) : mulOk i j = true := by
  unfold mulOk
  have h1 := log2_le hi
  have h2 := log2_le hj
  exact decide_eq_true (by omega)
theorem mul_small {i j : Int} (h1 : -(2 ^ 100) < i) (h2 : i < 2 ^ 100) (h3 : -(2 ^ 100) < j) (h4 : j < 2 ^ 100) : mulOk i j = true :=
  mul_ok (by omega) (by omega)
theorem div_small {j : Int} (h1 : 0 < j) (h2 : j < 2 ^ 100) : divOk j = true := by
  unfold divOk
  have : j.natAbs.log2 ≤ 100 := log2_le (by omega)
  exact decide_eq_true ⟨h1, by omega⟩
@[simp] theorem op_add {i j : Int} {S : Sto} {Q : Val → Sto → Prop} : Ok (op2 .add (.int i) (.int j) S) Q ↔ Q (.int (i + j)) S := Iff.rfl
@[simp] theorem op_sub {i j : Int} {S : Sto} {Q : Val → Sto → Prop} : Ok (op2 .sub (.int i) (.int j) S) Q ↔ Q (.int (i - j)) S := Iff.rfl
@[simp] theorem op_mul {i j : Int} {S : Sto} {Q : Val → Sto → Prop} : Ok (op2 .mul (.int i) (.int j) S) Q ↔ mulOk i j = true ∧ Q (.int (i * j)) S := by
  show Ok ((if mulOk i j = true then oki (i * j) S else .bad)) Q ↔ _
  split <;> simp_all
@[simp] theorem op_div {i j : Int} {S : Sto} {Q : Val → Sto → Prop} : Ok (op2 .fdiv (.int i) (.int j) S) Q ↔ divOk j = true ∧ Q (.int (i / j)) S := by
  show Ok ((if divOk j = true then oki (i / j) else E.bad) S) Q ↔ _
  split <;> simp_all
@[simp] theorem op_mod {i j : Int} {S : Sto} {Q : Val → Sto → Prop} : Ok (op2 .mod (.int i) (.int j) S) Q ↔ 0 < j ∧ Q (.int (i % j)) S := by
  show Ok ((if decide (0 < j) = true then oki (i % j) else E.bad) S) Q ↔ _
  simp only [decide_eq_true_eq]
  split
  · simp_all
  · simp only [ok_ebad, false_iff]; exact fun z => absurd z.1 ‹_›
@[simp] theorem op_pow {i j : Int} {S : Sto} {Q : Val → Sto → Prop} : Ok (op2 .pow (.int i) (.int j) S) Q ↔ powOk i j = true ∧ Q (.int (i ^ j.toNat)) S := by
  show Ok ((if powOk i j = true then oki (i ^ j.toNat) else E.bad) S) Q ↔ _
  split <;> simp_all
@[simp] theorem op_cat {a b : Nat} {S : Sto} {Q : Val → Sto → Prop} : Ok (op2 .add (.ref a) (.ref b) S) Q ↔ ∃ xs ys, S[a]? = some xs ∧ S[b]? = some ys ∧ lineOk (xs ++ ys).length = true ∧ Q (.ref S.length) (S ++ [xs ++ ys]) := by
  show Ok (match S[a]?, S[b]? with | some xs, some ys => alloc (xs ++ ys) S | _, _ => .bad) Q ↔ _
  cases S[a]? <;> cases S[b]? <;> simp
@[simp] theorem bi_len {vs : List Val} : biE "len" vs = biLen vs := rfl
@[simp] theorem bi_abs {vs : List Val} : biE "abs" vs = biAbs vs := rfl
@[simp] theorem bi_int {vs : List Val} : biE "int" vs = biInt vs := rfl
@[simp] theorem bi_max {vs : List Val} : biE "max" vs = biMax vs := rfl
@[simp] theorem bi_min {vs : List Val} : biE "min" vs = biMin vs := rfl
@[simp] theorem bi_sum {vs : List Val} : biE "sum" vs = biSum vs := rfl
@[simp] theorem bi_all {vs : List Val} : biE "all" vs = biAll vs := rfl
@[simp] theorem bi_any {vs : List Val} : biE "any" vs = biAny vs := rfl
@[simp] theorem bi_list {vs : List Val} : biE "list" vs = biList vs := rfl
@[simp] theorem bi_tuple {vs : List Val} : biE "tuple" vs = biTuple vs := rfl
@[simp] theorem bi_repr {vs : List Val} : biE "repr" vs = biRepr vs := rfl
@[simp] theorem bi_sorted {vs : List Val} : biE "sorted" vs = biSorted vs := rfl
section
variable {S : Sto} {Q : Val → Sto → Prop}
@[simp] theorem len_ok {v : Val} : Ok (biLen [v] S) Q ↔ ∃ n : Nat, lenS S v = some n ∧ Q (.int n) S := by
  unfold biLen
  cases h : lenS S v <;> simp [h]
@[simp] theorem int_ok {i : Int} : Ok (biInt [.int i] S) Q ↔ Q (.int i) S := Iff.rfl
@[simp] theorem abs_ok {i : Int} : Ok (biAbs [.int i] S) Q ↔ Q (.int (if i < 0 then -i else i)) S := Iff.rfl
@[simp] theorem max2_ok {i j : Int} : Ok (biMax [.int i, .int j] S) Q ↔ Q (.int (if j > i then j else i)) S := Iff.rfl
@[simp] theorem ix_ok' {a : Val} {k : Int} {xs : List Val} (h : seqOf S a = some xs) : Ok (ixE a (.int k) S) Q ↔ ∃ v, L2.atI xs k = some v ∧ Q v S := by
  unfold ixE
  simp only [h, ok_getO]
@[simp] theorem seq_ref {n : Nat} : seqOf S (.ref n) = S[n]? := rfl
@[simp] theorem seq_scr {xs : List Val} : seqOf S (.scr xs) = some xs := rfl
@[simp] theorem seq_tup {xs : List Val} : seqOf S (.tup xs) = some xs := rfl
@[simp] theorem items_ref {n : Nat} : itemsOf S (.ref n) = S[n]? := rfl
@[simp] theorem items_scr {xs : List Val} : itemsOf S (.scr xs) = some xs := rfl
end
end TQ
/-! TQ60: the evaluator on data, with no store; draws come from a stream. -/
namespace TQ
open PySem L2
/-- what a value is: handed on, a slot's own list, a list just made -/
inductive Fg where
  | pl | ow | fr
  deriving DecidableEq
inductive Pv where
  | d (x : D) (f : Fg)
  | gen
abbrev Env := List (Option Pv)
/-- the draws to come, how many may be drawn -/
structure Om where
  s : Nat → Int
  n : Nat
inductive PR (α : Type) where
  | ok (a : α) (o : Om)
  | exc (c : Str) (d : D) (o : Om)
  | bad
abbrev PM (α : Type) := Om → PR α
def PM.bind {α β : Type} (m : PM α) (f : α → PM β) : PM β := fun o => match m o with
  | .ok a o' => f a o'
  | .exc c d o' => .exc c d o'
  | .bad => .bad
def PM.pure {α : Type} (a : α) : PM α := fun o => .ok a o
def PM.bad {α : Type} : PM α := fun _ => .bad
def pO {α : Type} (x : Option α) : PM α := match x with
  | some a => PM.pure a
  | none => PM.bad
/-- handed on -/
def nb : Pv → Option D
  | .d x .pl => some x
  | .d x .fr => some x
  | _ => none
/-- looked at -/
def lk : Pv → Option D
  | .d x _ => some x
  | _ => none
def fgOf : D → Fg
  | .list _ => .fr
  | _ => .pl
def mkP (x : D) : Pv := .d x .pl
def mkF (x : D) : Pv := .d x (fgOf x)
def dOk (d : D) : Bool := d.canLay0 && decide (d.depth ≤ 60)
def intsD : List D → Option (List Int)
  | [] => some []
  | .int i :: r => (intsD r).map (i :: ·)
  | _ :: _ => none
def boolsD : List D → Option (List Bool)
  | [] => some []
  | .bool i :: r => (boolsD r).map (i :: ·)
  | _ :: _ => none
def opIntD (o : Op2) (i j : Int) : Option D := match o with
  | .add => some (.int (i + j))
  | .sub => some (.int (i - j))
  | .mul => if mulOk i j then some (.int (i * j)) else none
  | .fdiv => if divOk j then some (.int (i / j)) else none
  | .mod => if decide (0 < j) then some (.int (i % j)) else none
  | .pow => if powOk i j then some (.int (i ^ j.toNat)) else none
def opD (o : Op2) (a b : D) : Option D := match a, b with
  | .int i, .int j => opIntD o i j
  | .str x, .str y => match o with
    | .add => if lineOk (x.length + y.length) then some (.str (x ++ y)) else none
    | _ => none
  | .tuple xs, .tuple ys => match o with
    | .add => if xs.length = 0 ∨ ys.length = 0 then none else if lineOk (xs ++ ys).length then some (.tuple (xs ++ ys)) else none
    | _ => none
  | .list xs, .list ys => match o with
    | .add => if lineOk (xs ++ ys).length then some (.list (xs ++ ys)) else none
    | _ => none
  | .list xs, .int k => match o with
    | .mul => if in63 k && lineOk (xs.length * k.toNat) && lineOk (List.replicate k.toNat xs).flatten.length then some (.list (List.replicate k.toNat xs).flatten) else none
    | _ => none
  | _, _ => none
def eqD (a b : D) : Option Bool := if dOk a && dOk b then some (PyData.eqv a b) else none
def inD (a b : D) : Option Bool := match a, b with
  | .str x, .str y => some (!(Builtin.Str.occurrences y x 0 y.length 1).isEmpty)
  | a, .list es => if dOk a && dOk (.list es) then some (es.any fun z => PyData.eqv z a) else none
  | _, _ => none
def isNoneD : D → Bool
  | .none => true
  | _ => false
def cmpD (o : Cm) (a b : D) : Option Bool := match o with
  | .eq => eqD a b
  | .ne => (eqD a b).map not
  | .inn => inD a b
  | .nin => (inD a b).map not
  | .isN => match b with | .none => some (isNoneD a) | _ => none
  | .notN => match b with | .none => some (!isNoneD a) | _ => none
  | o => match a, b with
    | .int i, .int j => some (cmpI o i j)
    | _, _ => none
def truthD : D → Option Bool
  | .none => some false
  | .bool b => some b
  | .int i => some (i != 0)
  | .str x => if lineOk x.length then some (x.length != 0) else none
  | .list xs => some (xs.length != 0)
  | _ => none
def seqD : D → Option (List D)
  | .list xs => some xs
  | .tuple xs => some xs
  | _ => none
def listD : D → Option (List D)
  | .list xs => some xs
  | _ => none
def ixD (a i : D) : Option D := match i with
  | .int k => (match a with
    | .list xs => L2.atI xs k
    | .tuple xs => L2.atI xs k
    | .str x => if lineOk x.length then (L2.atI x.cps.toList k).map fun c => .str ⟨#[c]⟩ else none
    | _ => none)
  | _ => none
def slD (a : D) (lo hi : Option Int) : Option D := match a with
  | .list xs => if lineOk (cutL xs lo hi).length then some (.list (cutL xs lo hi)) else none
  | .tuple xs => if HT.sIx xs.length 0 lo = 0 ∧ HT.sIx xs.length xs.length hi = xs.length then none else some (.tuple (cutL xs lo hi))
  | _ => none
def lenD : D → Option Nat
  | .tuple xs => some xs.length
  | .list xs => some xs.length
  | .str x => if lineOk x.length then some x.length else none
  | _ => none
def maxD : List D → Option D
  | [.int i, .int j] => some (.int (if j > i then j else i))
  | [.list xs] => match intsD xs with
    | some (i :: is) => some (.int (gtL is i))
    | _ => none
  | _ => none
def minD : List D → Option D
  | [.int i, .int j] => some (.int (if j < i then j else i))
  | [.list xs] => match intsD xs with
    | some (i :: is) => some (.int (lsL is i))
    | _ => none
  | _ => none
def mrg {α : Type} (le : α → α → Bool) : Nat → List α → List α → List α
  | 0, xs, _ => xs
  | _ + 1, [], ys => ys
  | _ + 1, x :: xs, [] => x :: xs
  | n + 1, x :: xs, y :: ys => if le x y then x :: mrg le n xs (y :: ys) else y :: mrg le n (x :: xs) ys
theorem mrg_eq {α : Type} {le : α → α → Bool} : ∀ (n : Nat) (xs ys : List α), xs.length + ys.length < n → mrg le n xs ys = List.merge xs ys le
  | n + 1, [], ys, _ => by simp [mrg]
  | n + 1, x :: xs, [], _ => by simp [mrg]
  | n + 1, x :: xs, y :: ys, h => by
    rw [List.merge]
    simp only [mrg]
    rw [mrg_eq n xs (y :: ys) (by simp at h ⊢; omega), mrg_eq n (x :: xs) ys (by simp at h ⊢; omega)]
def msrt {α : Type} (le : α → α → Bool) : Nat → List α → List α
  | 0, xs => xs
  | _ + 1, [] => []
  | _ + 1, [a] => [a]
  | n + 1, a :: b :: xs => mrg le (xs.length + 3) (msrt le n (List.splitAt ((xs.length + 2 + 1) / 2) (a :: b :: xs)).1) (msrt le n (List.splitAt ((xs.length + 2 + 1) / 2) (a :: b :: xs)).2)
theorem msrt_eq {α : Type} {le : α → α → Bool} : ∀ (n : Nat) (xs : List α), xs.length ≤ n → msrt le n xs = xs.mergeSort le
  | 0, [], _ => by simp [msrt]
  | n + 1, [], _ => by simp [msrt]
  | n + 1, [a], _ => by simp [msrt]
  | n + 1, a :: b :: xs, h => by
    rw [List.mergeSort]
    simp only [msrt, List.MergeSort.Internal.splitInTwo, List.length_cons]
    simp only [List.length_cons] at h
    have h1 : (List.splitAt ((xs.length + 2 + 1) / 2) (a :: b :: xs)).1.length ≤ n := by
      simp [List.splitAt_eq]; omega
    have h2 : (List.splitAt ((xs.length + 2 + 1) / 2) (a :: b :: xs)).2.length ≤ n := by
      simp [List.splitAt_eq]; omega
    rw [msrt_eq n _ h1, msrt_eq n _ h2]
    rw [mrg_eq _ _ _ (by simp [List.splitAt_eq]; omega)]
def sortD (ds : List D) : List D := msrt (PySem.W.dataLe false id) ds.length ds
theorem sortD_eq {ds : List D} : sortD ds = ds.mergeSort (PySem.W.dataLe false id) := msrt_eq _ _ (Nat.le_refl _)
def oneD (f : D → Option D) : List D → Option D
  | [x] => f x
  | _ => none
def biD (f : Str) (vs : List D) : Option D :=
  if f = "len" then oneD (fun x => (lenD x).map fun n => .int (n : Nat)) vs
  else if f = "abs" then oneD (fun x => match x with | .int i => some (.int (if i < 0 then -i else i)) | _ => none) vs
  else if f = "int" then oneD (fun x => match x with | .int i => some (.int i) | .bool b => some (.int (if b then 1 else 0)) | _ => none) vs
  else if f = "max" then maxD vs
  else if f = "min" then minD vs
  else if f = "sum" then oneD (fun x => ((listD x).bind intsD).map fun is => .int is.sum) vs
  else if f = "all" then oneD (fun x => ((listD x).bind boolsD).map fun is => .bool (is.all id)) vs
  else if f = "any" then oneD (fun x => ((listD x).bind boolsD).map fun is => .bool (is.any id)) vs
  else if f = "list" then oneD (fun x => match seqD x with | some xs => if lineOk xs.length then some (.list xs) else none | none => none) vs
  else if f = "tuple" then oneD (fun x => match x with | .tuple xs => some (.tuple xs) | .list xs => if lineOk xs.length then some (.tuple xs) else none | _ => none) vs
  else if f = "repr" then oneD (fun d => if d.showable && lineOk d.shown.length && decide (d.depth ≤ 60) && (!d.hasDict || isEmpD d) then some (.str d.shown) else none) vs
  else if f = "sorted" then oneD (fun x => match x with | .list ds => if sortOk ds && lineOk ds.length then some (.list (sortD ds)) else none | _ => none) vs
  else none
def rgD2 (tp : Bool) (a b : Int) : Option D := if in62 a && in62 b && decide ((b - a).toNat ≤ 2 ^ 24) then (let xs := (List.range (b - a).toNat).map fun i => PyData.int (a + (i : Nat)); some (if tp then .tuple xs else .list xs)) else none
def rgD (tp : Bool) : List D → Option D
  | [.int n] => rgD2 tp 0 n
  | [.int a, .int b] => rgD2 tp a b
  | _ => none
def revD : D → Option D
  | .list xs => if lineOk xs.length then some (.list xs.reverse) else none
  | _ => none
def mthD (m : Str) (o : D) (vs : List D) : Option D :=
  if m = "bit_length" then (match o, vs with | .int i, [] => some (.int (Builtin.Int.intBits i : Nat)) | _, _ => none)
  else if m = "index" then (match o, vs with | .list ds, [d] => if dOk (.list ds) && dOk d then (firstD d ds).map fun j => .int (j : Nat) else none | _, _ => none)
  else if m = "count" then (match o, vs with | .list ds, [.int k] => (intsD ds).map fun is => .int (is.count k : Nat) | _, _ => none)
  else none
def ckMD (m : Str) (x : D) : Option Unit := match x with
  | .int _ => if m = "bit_length" then some () else none
  | .list _ => if m = "index" ∨ m = "count" then some () else none
  | _ => none
def typD : D → Option Str
  | .none => some "NoneType" | .bool _ => some "bool" | .int _ => some "int" | .str _ => some "str" | .list _ => some "list" | .tuple _ => some "tuple" | .dict [] => some "dict"
  | _ => none
structure PP where
  fn : Str → List Pv → PM D
  cs : Str → Option D
  isE : Str → Str → Option Bool
  fuel : Env → Nat
def isiD (P : PP) (v : D) : List Str → Option Bool
  | [] => some false
  | T :: r => match (match typD v with
    | some t => if plainT T then some (isiT t T) else P.isE t T
    | none => none) with
    | some true => some true
    | some false => isiD P v r
    | none => none
/-- what is walked -/
def srcD (k : SrcK) (vs : List D) : Option (List D) := match k, vs with
  | .seq, [v] => seqD v
  | .rng, [.int n] => if in62 n then some ((List.range n.toNat).map fun (i : Nat) => PyData.int ((0 : Int) + (i : Int))) else none
  | .rng, [.int a, .int b] => if in62 a && in62 b then some ((List.range (b - a).toNat).map fun (i : Nat) => PyData.int (a + (i : Int))) else none
  | .enm, [.list xs] => some ((xs.zip (List.range xs.length)).map fun q => .tuple [.int ((q.2 : Nat) : Int), q.1])
  | .zip, [.list xs, .list ys] => some ((xs.zip ys).map fun q => .tuple [q.1, q.2])
  | .zips, [.list xs, .list ys] => if xs.length = ys.length then some ((xs.zip ys).map fun q => .tuple [q.1, q.2]) else none
  | _, _ => none
@[simp] def wipeE : List Nat → Env → Env
  | [], τ => τ
  | i :: r, τ => (wipeE r τ).set i none
mutual
@[simp] def bindD : Pat → D → Env → Option Env
  | .nm i, v, τ => if i < τ.length then some (τ.set i (some (mkP v))) else none
  | .tup ps, v, τ => match v with
    | .tuple vs => bindDs ps vs τ
    | _ => none
@[simp] def bindDs : List Pat → List D → Env → Option Env
  | [], [], τ => some τ
  | p :: ps, v :: vs, τ => match bindD p v τ with
    | some τ' => bindDs ps vs τ'
    | none => none
  | _, _, _ => none
end
def compP (step : D → PM (Option D)) : List D → PM (List D)
  | [] => PM.pure []
  | x :: xs => (step x).bind fun o => (compP step xs).bind fun r => PM.pure (consO o r)
def quietP {α : Type} (m : PM α) : PM α := fun o => match m o with
  | .exc _ _ _ => .bad
  | r => r
def lstP (xs : List D) : PM Pv := if lineOk xs.length then PM.pure (.d (.list xs) .fr) else PM.bad
def tupP (xs : List D) : PM Pv := if lineOk xs.length then PM.pure (mkP (.tuple xs)) else PM.bad
def pdf (m : PM Pv) : PM Pv × PM Bool := (m, m.bind fun v => pO ((lk v).bind truthD))
def pbo (m : PM Bool) : PM Pv × PM Bool := (m.bind fun k => PM.pure (mkP (.bool k)), m)
def boolP (v : Pv) : PM Bool := match v with
  | .d (.bool b) _ => PM.pure b
  | _ => PM.bad
def intP (v : Pv) : PM (Option Int) := match v with
  | .d (.int i) _ => PM.pure (some i)
  | _ => PM.bad
def one1 (v : Pv) (f : D → Option D) : PM Pv := pO (((lk v).bind f).map mkF)
def two1 (v w : Pv) (f : D → D → Option D) : PM Pv := pO (((lk v).bind fun x => (lk w).bind fun y => f x y).map mkF)
def many1 (vs : List Pv) (f : List D → Option D) : PM Pv := pO (((mapO lk vs).bind f).map mkF)
def cmpP (o : Cm) (v w : Pv) : PM Bool := pO ((lk v).bind fun x => (lk w).bind fun y => cmpD o x y)
/-- an item of a list that is a slot's own is handed on -/
def ixP (v w : Pv) : PM Pv := pO (((lk v).bind fun x => (lk w).bind fun y => ixD x y).map mkP)
def argP : Pv → Option Pv
  | .gen => some .gen
  | v => (nb v).map mkP
@[simp] def cstD : Cst → D
  | .non => .none | .bl b => .bool b | .int i => .int i | .str x => .str x
mutual
def pvv (P : PP) (τ : Env) : Ex → PM Pv × PM Bool
  | .cst c => pdf (PM.pure (mkP (cstD c)))
  | .var i => pdf (pO ((τ[i]?).getD none))
  | .glb x => pdf (pO ((P.cs x).map mkP))
  | .bin o a b => pdf ((pvv P τ a).1.bind fun x => (pvv P τ b).1.bind fun y => two1 x y (opD o))
  | .neg a => pdf ((pvv P τ a).1.bind fun x => one1 x fun d => match d with | .int i => some (.int (-i)) | _ => none)
  | .nt a => pbo ((pvv P τ a).2.bind fun b => PM.pure (!b))
  | .and a b => ((pvv P τ a).1.bind fun v => (boolP v).bind fun c => if c then (pvv P τ b).1 else PM.pure (mkP (.bool false)), (pvv P τ a).2.bind fun c => if c then (pvv P τ b).2 else PM.pure false)
  | .or a b => ((pvv P τ a).1.bind fun v => (boolP v).bind fun c => if c then PM.pure (mkP (.bool true)) else (pvv P τ b).1, (pvv P τ a).2.bind fun c => if c then PM.pure true else (pvv P τ b).2)
  | .ife c a b => pdf ((pvv P τ c).2.bind fun k => if k then (pvv P τ a).1 else (pvv P τ b).1)
  | .cmp o a b => pbo ((pvv P τ a).1.bind fun x => (pvv P τ b).1.bind fun y => cmpP o x y)
  | .chn o1 o2 a b c => pbo ((pvv P τ a).1.bind fun x => (pvv P τ b).1.bind fun y => (cmpP o1 x y).bind fun k => if k then (pvv P τ c).1.bind fun z => cmpP o2 y z else PM.pure false)
  | .lst es => pdf ((pAs P τ es).bind fun vs => (pO (mapO nb vs)).bind lstP)
  | .tup es => pdf ((pAs P τ es).bind fun vs => (pO (mapO nb vs)).bind tupP)
  | .edc => pdf (PM.pure (mkP (.dict [])))
  | .call f es => pdf ((pAs P τ es).bind fun vs => (pO (mapO argP vs)).bind fun us => (P.fn f us).bind fun d => PM.pure (mkP d))
  | .callK f as bs q => pdf ((pAs P τ as).bind fun vs => (pAs P τ bs).bind fun ws => (pO (mapO argP (vs ++ ws))).bind fun us => (pO (mapO (fun i => us[i]?) q)).bind fun us => (P.fn f us).bind fun d => PM.pure (mkP d))
  | .cval _ _ => pdf PM.bad
  | .bif f es => pdf ((pAs P τ es).bind fun vs => many1 vs (biD f))
  | .isi a T => pdf ((pvv P τ a).1.bind fun v => pO (((lk v).bind fun d => isiD P d T).map fun b => mkP (.bool b)))
  | .mth m o es => pdf ((pvv P τ o).1.bind fun x => (pO ((lk x).bind (ckMD m))).bind fun _ => (pAs P τ es).bind fun vs => pO (((lk x).bind fun d => (mapO lk vs).bind fun ds => mthD m d ds).map mkP))
  | .fld _ _ => pdf PM.bad
  | .ix a i => pdf ((pvv P τ a).1.bind fun x => (pvv P τ i).1.bind fun y => ixP x y)
  | .sl a lo hi => pdf ((pvv P τ a).1.bind fun x => (pOp P τ lo).bind fun l => (pOp P τ hi).bind fun h => one1 x fun d => slD d l h)
  | .lam _ _ => pdf PM.bad
  | .rgl tp es => pdf ((pAs P τ es).bind fun vs => many1 vs (rgD tp))
  | .rev a => pdf ((pvv P τ a).1.bind fun x => one1 x revD)
  | .lc p k ss ifs e => pdf ((pAs P τ ss).bind fun vs => (pO ((mapO lk vs).bind (srcD k))).bind fun xs => (quietP (compP (fun d => (pO (bindD p d (wipeE p.slots τ))).bind fun τ' => (pIf P τ' ifs).bind fun b => if b then (pvv P τ' e).1.bind fun v => (pO (nb v)).bind fun x => PM.pure (some x) else PM.pure none) xs)).bind lstP)
def pOp (P : PP) (τ : Env) : Option Ex → PM (Option Int)
  | none => PM.pure none
  | some e => (pvv P τ e).1.bind intP
def pAs (P : PP) (τ : Env) : List Ex → PM (List Pv)
  | [] => PM.pure []
  | e :: es => (pvv P τ e).1.bind fun v => (pAs P τ es).bind fun vs => PM.pure (v :: vs)
def pIf (P : PP) (τ : Env) : List Ex → PM Bool
  | [] => PM.pure true
  | e :: es => (pvv P τ e).2.bind fun b => if b then pIf P τ es else PM.pure false
end
abbrev pv (P : PP) (τ : Env) (e : Ex) : PM Pv := (pvv P τ e).1
abbrev pvB (P : PP) (τ : Env) (e : Ex) : PM Bool := (pvv P τ e).2
/-! ### which slots a value is handed on from -/
mutual
@[simp] def rtV : Ex → List Nat
  | .var i => [i]
  | .bin _ a b => brV a ++ brV b
  | .neg a => brV a
  | .nt a => brV a
  | .and a b => rtV a ++ rtV b
  | .or a b => rtV a ++ rtV b
  | .ife c a b => brV c ++ rtV a ++ rtV b
  | .cmp _ a b => brV a ++ brV b
  | .chn _ _ a b c => brV a ++ brV b ++ brV c
  | .lst es => rtL es
  | .tup es => rtL es
  | .call _ es => rtL es
  | .callK _ as bs _ => rtL as ++ rtL bs
  | .bif _ es => brL es
  | .isi a _ => brV a
  | .mth _ o es => brV o ++ brL es
  | .ix a i => brV a ++ brV i
  | .sl a lo hi => brV a ++ brO lo ++ brO hi
  | .rgl _ es => brL es
  | .rev a => brV a
  | .lc _ _ ss ifs e => brL ss ++ brL ifs ++ rtV e
  | _ => []
@[simp] def brV : Ex → List Nat
  | .var _ => []
  | .bin _ a b => brV a ++ brV b
  | .neg a => brV a
  | .nt a => brV a
  | .and a b => rtV a ++ rtV b
  | .or a b => rtV a ++ rtV b
  | .ife c a b => brV c ++ rtV a ++ rtV b
  | .cmp _ a b => brV a ++ brV b
  | .chn _ _ a b c => brV a ++ brV b ++ brV c
  | .lst es => rtL es
  | .tup es => rtL es
  | .call _ es => rtL es
  | .callK _ as bs _ => rtL as ++ rtL bs
  | .bif _ es => brL es
  | .isi a _ => brV a
  | .mth _ o es => brV o ++ brL es
  | .ix a i => brV a ++ brV i
  | .sl a lo hi => brV a ++ brO lo ++ brO hi
  | .rgl _ es => brL es
  | .rev a => brV a
  | .lc _ _ ss ifs e => brL ss ++ brL ifs ++ rtV e
  | _ => []
@[simp] def brO : Option Ex → List Nat
  | none => []
  | some e => brV e
@[simp] def rtL : List Ex → List Nat
  | [] => []
  | e :: es => rtV e ++ rtL es
@[simp] def brL : List Ex → List Nat
  | [] => []
  | e :: es => brV e ++ brL es
end
/-- a slot's own list is its own no more -/
def disO : Option Pv → Option Pv
  | some (.d x .ow) => some (.d x .pl)
  | o => o
@[simp] def dis : List Nat → Env → Env
  | [], τ => τ
  | i :: r, τ => (dis r τ).set i (disO (((dis r τ)[i]?).getD none))
/-- what a slot holds when it is set -/
def hold : Pv → Option Pv
  | .d x .pl => some (.d x .pl)
  | .d x .fr => some (.d x .ow)
  | .d _ .ow => none
  | .gen => some .gen
@[simp] def setP (i : Nat) (v : Pv) (τ : Env) : Option Env := if i < τ.length then (hold v).map fun h => τ.set i (some h) else none
@[simp] def setN (i : Nat) (v : Pv) (τ : Env) : Option Env := if i < τ.length then (nb v).map fun x => τ.set i (some (mkP x)) else none
inductive FlP where
  | nx | bk | ct
  | rt (d : D)
abbrev PS := Env → PM (FlP × Env)
def seqP (m r : PS) : PS := fun τ => (m τ).bind fun p => match p.1 with
  | .nx => r p.2
  | f => PM.pure (f, p.2)
def loopP (p : Pat) (body : PS) : List D → PS
  | [] => fun τ => PM.pure (.nx, τ)
  | x :: xs => fun τ => (pO (bindD p x τ)).bind fun τ' => (body τ').bind fun q => match q.1 with
    | .nx => loopP p body xs q.2
    | .ct => loopP p body xs q.2
    | .bk => PM.pure (.nx, q.2)
    | .rt v => PM.pure (.rt v, q.2)
def whileP (c : Env → PM Bool) (body : PS) : Nat → PS
  | 0 => fun _ => PM.bad
  | k + 1 => fun τ => (c τ).bind fun b => if b then (body τ).bind fun q => match q.1 with
      | .nx => whileP c body k q.2
      | .ct => whileP c body k q.2
      | .bk => PM.pure (.nx, q.2)
      | .rt v => PM.pure (.rt v, q.2)
    else PM.pure (.nx, τ)
def asgP (p : Pat) (v : Pv) (τ : Env) : PM (FlP × Env) := match p with
  | .nm i => (pO (setP i v τ)).bind fun τ' => PM.pure (.nx, τ')
  | .tup ps => (pO ((nb v).bind fun d => bindD (.tup ps) d τ)).bind fun τ' => PM.pure (.nx, τ')
def owS (i : Nat) (τ : Env) : Option Unit := match (τ[i]?).getD none with
  | some (.d (.list _) .ow) => some ()
  | _ => none
/-- l.append(e) for a slot's own list -/
def appP (i : Nat) (v : Pv) (τ : Env) : PM (FlP × Env) := match (τ[i]?).getD none, nb v with
  | some (.d (.list xs) .ow), some x => if xs.length < sizeLine then PM.pure (.nx, τ.set i (some (.d (.list (xs ++ [x])) .ow))) else PM.bad
  | _, _ => PM.bad
def setIP (i : Nat) (j v : Pv) (τ : Env) : PM (FlP × Env) := match (τ[i]?).getD none, lk j, nb v with
  | some (.d (.list xs) .ow), some (.int k), some x => (match L2.ixN xs.length k with
    | some n => PM.pure (.nx, τ.set i (some (.d (.list (xs.set n x)) .ow)))
    | none => PM.bad)
  | _, _, _ => PM.bad
def notL : D → Bool
  | .list _ => false
  | _ => true
mutual
def pxS (P : PP) : Sm → PS
  | .asg p e => fun τ => (pv P (dis (rtV e) τ) e).bind fun v => asgP p v (dis (rtV e) τ)
  | .par i j a b => fun τ => (pv P (dis (rtV a ++ rtV b) τ) a).bind fun v => (pv P (dis (rtV a ++ rtV b) τ) b).bind fun w => (pO ((setN i v (dis (rtV a ++ rtV b) τ)).bind (setN j w))).bind fun τ' => PM.pure (.nx, τ')
  | .par3 i j l a b c => fun τ => (pv P (dis (rtV a ++ rtV b ++ rtV c) τ) a).bind fun u => (pv P (dis (rtV a ++ rtV b ++ rtV c) τ) b).bind fun v => (pv P (dis (rtV a ++ rtV b ++ rtV c) τ) c).bind fun w => (pO ((setN i u (dis (rtV a ++ rtV b ++ rtV c) τ)).bind fun τ' => (setN j v τ').bind (setN l w))).bind fun τ' => PM.pure (.nx, τ')
  | .aug i o e => fun τ => (pO ((τ[i]?).getD none)).bind fun x => (pv P (dis (rtV e) τ) e).bind fun y => (pO ((nb x).bind fun a => (nb y).bind fun b => (opD o a b).bind fun r => if notL r then setN i (mkP r) (dis (rtV e) τ) else none)).bind fun τ' => PM.pure (.nx, τ')
  | .setI o j e => fun τ => match o with
    | .var i => (pO (owS i (dis (rtV e) τ))).bind fun _ => (pv P (dis (rtV e) τ) e).bind fun v => (pv P (dis (rtV e) τ) j).bind fun k => setIP i k v (dis (rtV e) τ)
    | _ => PM.bad
  | .ex e => fun τ => match e with
    | .mth m (.var i) [a] => if m = "append" then (pO (owS i (dis (rtV a) τ))).bind fun _ => (pv P (dis (rtV a) τ) a).bind fun v => appP i v (dis (rtV a) τ) else (pv P (dis (rtV e) τ) e).bind fun _ => PM.pure (.nx, dis (rtV e) τ)
    | e => (pv P (dis (rtV e) τ) e).bind fun _ => PM.pure (.nx, dis (rtV e) τ)
  | .ret e => fun τ => (pv P (dis (rtV e) τ) e).bind fun v => (pO (nb v)).bind fun d => PM.pure (.rt d, dis (rtV e) τ)
  | .retN => fun τ => PM.pure (.rt .none, τ)
  | .ife c a b => fun τ => (pvB P (dis (brV c) τ) c).bind fun k => if k then pxSs P a (dis (brV c) τ) else pxSs P b (dis (brV c) τ)
  | .fr p k ss b => fun τ => (pAs P (dis (rtL ss) τ) ss).bind fun vs => (pO ((mapO nb vs).bind (srcD k))).bind fun xs => loopP p (pxSs P b) xs (dis (rtL ss) τ)
  | .whl _ c b => fun τ => whileP (fun τ => pvB P τ c) (pxSs P b) (P.fuel (dis (brV c) τ)) (dis (brV c) τ)
  | .rse c e => fun τ => (pv P (dis (rtV e) τ) e).bind fun v => (pO (nb v)).bind fun d => fun o => .exc c d o
  | .tryc _ _ _ _ => fun _ => PM.bad
  | .pass => fun τ => PM.pure (.nx, τ)
  | .brk => fun τ => PM.pure (.bk, τ)
  | .cnt => fun τ => PM.pure (.ct, τ)
def pxSs (P : PP) : List Sm → PS
  | [] => fun τ => PM.pure (.nx, τ)
  | s :: r => seqP (pxS P s) (pxSs P r)
end
def runP (P : PP) (d : Df) (vs : List Pv) : PM D := if d.cells.isEmpty && decide (vs.length = d.pars ∧ d.pars ≤ d.size) then (pxSs P d.body (vs.map some ++ List.replicate (d.size - d.pars) none)).bind fun p => match p.1 with
  | .rt v => PM.pure v
  | .nx => PM.pure .none
  | _ => PM.bad
else PM.bad
/-- a draw below l -/
def drawP (vs : List Pv) : PM D := match vs with
  | [.gen, .d (.int l) .pl] => fun o => if 1 ≤ l ∧ l < 2 ^ 200 ∧ o.n ≠ 0 then .ok (.int (o.s 0 % l)) ⟨fun i => o.s (i + 1), o.n - 1⟩ else .bad
  | _ => PM.bad
def csP (D : LawD) (x : Str) : Option TQ.D := (D.cs x).bind fun v => rp [] [] 3 v
/-- the defs on data, in layers -/
def QL (D : LawD) (rn : Str) (fu : Env → Nat) : Nat → PP
  | 0 => ⟨fun _ _ => PM.bad, csP D, D.isE, fu⟩
  | k + 1 => ⟨fun x => if x = rn then (if k = 0 then fun _ => PM.bad else drawP) else match D.find x with
    | some e => runP (QL D rn fu k) e.d
    | none => fun _ => PM.bad, csP D, D.isE, fu⟩
end TQ
/-! TQ61: values and the data that they are; simulation. -/
namespace TQ
open PySem L2
/-! ### stores -/
/-- no closure stands in it -/
def Pn (xs : List Val) : Prop := ∀ ns, hideL ns xs = xs
def Kx (cl A : List Nat) (S S' : Sto) : Prop := S.length ≤ S'.length ∧ ∀ (k : Nat) (xs : List Val), S[k]? = some xs → k ∉ A → hideL cl xs = xs → S'[k]? = some xs
theorem Kx.refl {A : List Nat} {S : Sto} : Kx cl A S S := ⟨Nat.le_refl _, fun _ _ h _ _ => h⟩
theorem Kx.app {A : List Nat} {S : Sto} (T : Sto) : Kx cl A S (S ++ T) := ⟨by simp, fun k xs h _ _ => by rw [List.getElem?_append_left (List.getElem?_eq_some_iff.mp h).1]; exact h⟩
theorem Kx.set {A : List Nat} {S : Sto} {k : Nat} (h : k ∈ A) (xs : List Val) : Kx cl A S (S.set k xs) := ⟨by simp, fun j ys e n _ => by rw [List.getElem?_set_ne (by intro z; subst z; exact n h)]; exact e⟩
theorem Kx.trans {A A' : List Nat} {S S1 S2 : Sto} (h : Kx cl A S S1) (h' : Kx cl A' S1 S2) (k : ∀ j ∈ A', j ∈ A ∨ S.length ≤ j) : Kx cl A S S2 :=
  ⟨Nat.le_trans h.1 h'.1, fun j xs e n p => h'.2 j xs (h.2 j xs e n p) (fun z => (k j z).elim n (fun q => by have := (List.getElem?_eq_some_iff.mp e).1; omega)) p⟩
theorem Kx.mono {A A' : List Nat} {S S' : Sto} (h : Kx cl A S S') (k : ∀ j ∈ A, j ∈ A') : Kx cl A' S S' := ⟨h.1, fun j xs e n p => h.2 j xs e (fun z => n (k j z)) p⟩
theorem Kx.get {A : List Nat} {S S' : Sto} (h : Kx cl A S S') {k : Nat} {xs : List Val} (e : S[k]? = some xs) (n : k ∉ A) (p : Pn xs) : S'[k]? = some xs := h.2 k xs e n (p _)
theorem Kx.getC {A : List Nat} {S S' : Sto} (h : Kx cl A S S') {k : Nat} {xs : List Val} (e : S[k]? = some xs) (n : k ∉ A) (p : hideL cl xs = xs) : S'[k]? = some xs := h.2 k xs e n p
theorem rp_hide {M : List Nat} {S : Sto} {ns : List Nat} : ∀ (n : Nat) (v : Val) (d : D), rp M S n v = some d → hide ns v = v
  | n + 1, v, d, h => by
    cases v <;> first | rfl | (simp [rp] at h; done) | skip
    rename_i xs
    simp only [rp, Option.map_eq_some_iff] at h
    obtain ⟨ds, e, _⟩ := h
    have key : ∀ (xs : List Val) (ds : List D), mapO (rp M S n) xs = some ds → hideL ns xs = xs := by
      intro xs
      induction xs with
      | nil => intro _ _; rfl
      | cons x xs ih =>
        intro ds e
        obtain ⟨y, ys, rfl, e1, e2⟩ := mapO_cons e
        show hide ns x :: hideL ns xs = _
        rw [rp_hide n x y e1, ih ys e2]
    show Val.tup (hideL ns xs) = _
    rw [key xs ds e]
theorem mapO_pn {M : List Nat} {S : Sto} {n : Nat} : ∀ {xs : List Val} {ds : List D}, mapO (rp M S n) xs = some ds → Pn xs
  | [], _, _, ns => rfl
  | x :: xs, ds, e, ns => by
    obtain ⟨y, ys, rfl, e1, e2⟩ := mapO_cons e
    show hide ns x :: hideL ns xs = _
    rw [rp_hide n x y e1, mapO_pn e2 ns]
/-! ### data -/
def Rp (M : List Nat) (S : Sto) (v : Val) (d : D) : Prop := ∃ n, rp M S n v = some d
inductive RpL (M : List Nat) (S : Sto) : List Val → List D → Prop where
  | nil : RpL M S [] []
  | cons {v : Val} {vs : List Val} {d : D} {ds : List D} : Rp M S v d → RpL M S vs ds → RpL M S (v :: vs) (d :: ds)
theorem RpL.of {M : List Nat} {S : Sto} {n : Nat} : ∀ {vs : List Val} {ds : List D}, mapO (rp M S n) vs = some ds → RpL M S vs ds
  | [], ds, h => by cases h; exact .nil
  | v :: vs, ds, h => by
    obtain ⟨d, ds', rfl, e1, e2⟩ := mapO_cons h
    exact .cons ⟨n, e1⟩ (RpL.of e2)
theorem mapO_up {M : List Nat} {S : Sto} {n m : Nat} {vs : List Val} {ds : List D} (h : mapO (rp M S n) vs = some ds) (k : n ≤ m) : mapO (rp M S m) vs = some ds := mapO_imp (fun x _ y e => rp_le e k) h
theorem RpL.to {M : List Nat} {S : Sto} {vs : List Val} {ds : List D} (h : RpL M S vs ds) : ∃ n, mapO (rp M S n) vs = some ds := by
  induction h with
  | nil => exact ⟨0, rfl⟩
  | cons a _ ih =>
    obtain ⟨n, e⟩ := a
    obtain ⟨m, e'⟩ := ih
    refine ⟨max n m, ?_⟩
    simp only [mapO, rp_le e (Nat.le_max_left n m), mapO_up e' (Nat.le_max_right n m)]
theorem RpL.pn {M : List Nat} {S : Sto} {vs : List Val} {ds : List D} (h : RpL M S vs ds) : Pn vs := h.to.elim fun n e => mapO_pn e
theorem Rp.hide {M : List Nat} {S : Sto} {v : Val} {d : D} (h : Rp M S v d) (ns : List Nat) : TQ.hide ns v = v := h.elim fun n e => rp_hide n v d e
theorem RpL.len {M : List Nat} {S : Sto} {vs : List Val} {ds : List D} (h : RpL M S vs ds) : vs.length = ds.length := by
  induction h with
  | nil => rfl
  | cons _ _ ih => simp [ih]
theorem RpL.app {M : List Nat} {S : Sto} {vs ws : List Val} {ds es : List D} (h : RpL M S vs ds) (k : RpL M S ws es) : RpL M S (vs ++ ws) (ds ++ es) := by
  induction h with
  | nil => exact k
  | cons a _ ih => exact .cons a ih
theorem RpL.snoc {M : List Nat} {S : Sto} {vs : List Val} {ds : List D} {v : Val} {d : D} (h : RpL M S vs ds) (k : Rp M S v d) : RpL M S (vs ++ [v]) (ds ++ [d]) := h.app (.cons k .nil)
theorem RpL.rev {M : List Nat} {S : Sto} {vs : List Val} {ds : List D} (h : RpL M S vs ds) : RpL M S vs.reverse ds.reverse := by
  induction h with
  | nil => exact .nil
  | cons a _ ih => simp only [List.reverse_cons]; exact ih.snoc a
theorem RpL.take {M : List Nat} {S : Sto} {vs : List Val} {ds : List D} (h : RpL M S vs ds) : ∀ n, RpL M S (vs.take n) (ds.take n) := by
  induction h with
  | nil => intro n; simp; exact .nil
  | cons a _ ih => intro n; cases n with
    | zero => exact .nil
    | succ n => exact .cons a (ih n)
theorem RpL.drop {M : List Nat} {S : Sto} {vs : List Val} {ds : List D} (h : RpL M S vs ds) : ∀ n, RpL M S (vs.drop n) (ds.drop n) := by
  induction h with
  | nil => intro n; simp; exact .nil
  | cons a b ih => intro n; cases n with
    | zero => exact .cons a b
    | succ n => exact ih n
theorem RpL.cut {M : List Nat} {S : Sto} {vs : List Val} {ds : List D} (h : RpL M S vs ds) (lo hi : Option Int) : RpL M S (cutL vs lo hi) (cutL ds lo hi) := by
  unfold cutL; rw [h.len]; exact (h.drop _).take _
theorem RpL.at_ {M : List Nat} {S : Sto} {vs : List Val} {ds : List D} (h : RpL M S vs ds) : ∀ {i : Nat} {d : D}, ds[i]? = some d → ∃ v, vs[i]? = some v ∧ Rp M S v d := by
  induction h with
  | nil => intro i d e; simp at e
  | cons a _ ih => intro i d e; cases i with
    | zero => simp at e; subst e; exact ⟨_, rfl, a⟩
    | succ i => simpa using ih (by simpa using e)
theorem RpL.set {M : List Nat} {S : Sto} {vs : List Val} {ds : List D} {v : Val} {d : D} (h : RpL M S vs ds) (k : Rp M S v d) : ∀ i, RpL M S (vs.set i v) (ds.set i d) := by
  induction h with
  | nil => intro i; exact .nil
  | cons a b ih => intro i; cases i with
    | zero => exact .cons k b
    | succ i => exact .cons a (ih i)
theorem RpL.rep {M : List Nat} {S : Sto} {vs : List Val} {ds : List D} (h : RpL M S vs ds) : ∀ n : Nat, RpL M S (List.replicate n vs).flatten (List.replicate n ds).flatten
  | 0 => .nil
  | n + 1 => by simp only [List.replicate_succ, List.flatten_cons]; exact h.app (RpL.rep h n)
theorem atI_len {α β : Type} {xs : List α} {ys : List β} (h : xs.length = ys.length) (k : Int) : (∀ {y : β}, L2.atI ys k = some y → ∃ i : Nat, ys[i]? = some y ∧ L2.atI xs k = xs[i]?) := by
  intro y e
  unfold L2.atI at e ⊢
  rw [h]
  cases hj : L2.ixN ys.length k with
  | none => rw [hj] at e; cases e
  | some j => rw [hj] at e; exact ⟨j, e, rfl⟩
theorem RpL.atI {M : List Nat} {S : Sto} {vs : List Val} {ds : List D} (h : RpL M S vs ds) {k : Int} {d : D} (e : L2.atI ds k = some d) : ∃ v, L2.atI vs k = some v ∧ Rp M S v d := by
  obtain ⟨i, e1, e2⟩ := atI_len h.len k e
  obtain ⟨v, e3, r⟩ := h.at_ e1
  exact ⟨v, by rw [e2]; exact e3, r⟩
/-! inversions -/
section
variable {M : List Nat} {S : Sto} {v : Val}
theorem Rp.none (h : Rp M S v .none) : v = .non := by
  obtain ⟨n, h⟩ := h; cases n <;> cases v <;> simp [rp] at h <;> (first | rfl | (split at h <;> (try split at h) <;> simp at h))
theorem Rp.bl {b : Bool} (h : Rp M S v (.bool b)) : v = .bl b := by
  obtain ⟨n, h⟩ := h; cases n <;> cases v <;> simp [rp] at h <;> (first | (subst h; rfl) | (split at h <;> (try split at h) <;> simp at h))
theorem Rp.int {b : Int} (h : Rp M S v (.int b)) : v = .int b := by
  obtain ⟨n, h⟩ := h; cases n <;> cases v <;> simp [rp] at h <;> (first | (subst h; rfl) | (split at h <;> (try split at h) <;> simp at h))
theorem Rp.str {b : Str} (h : Rp M S v (.str b)) : v = .str b := by
  obtain ⟨n, h⟩ := h; cases n <;> cases v <;> simp [rp] at h <;> (first | (subst h; rfl) | (split at h <;> (try split at h) <;> simp at h))
theorem Rp.dict {b : List (D × D)} (h : Rp M S v (.dict b)) : v = .edc ∧ b = [] := by
  obtain ⟨n, h⟩ := h; cases n <;> cases v <;> simp [rp] at h <;> (first | exact ⟨rfl, h.symm⟩ | (subst h; exact ⟨rfl, rfl⟩) | (split at h <;> (try split at h) <;> simp at h))
theorem Rp.tup {ds : List D} (h : Rp M S v (.tuple ds)) : ∃ xs, v = .tup xs ∧ RpL M S xs ds := by
  obtain ⟨n, h⟩ := h
  cases n <;> cases v <;> simp only [rp] at h <;> (try cases h)
  · simp only [Option.map_eq_some_iff] at h
    obtain ⟨ds', e, z⟩ := h
    cases z
    exact ⟨_, rfl, RpL.of e⟩
  · split at h
    · cases h
    · split at h
      · simp only [Option.map_eq_some_iff] at h; obtain ⟨_, _, z⟩ := h; cases z
      · cases h
theorem Rp.lst {ds : List D} (h : Rp M S v (.list ds)) : ∃ k xs, v = .ref k ∧ k ∉ M ∧ S[k]? = some xs ∧ RpL M S xs ds := by
  obtain ⟨n, h⟩ := h
  cases n <;> cases v <;> simp only [rp] at h <;> (try cases h)
  · simp only [Option.map_eq_some_iff] at h; obtain ⟨_, _, z⟩ := h; cases z
  · split at h
    · cases h
    · rename_i hk
      split at h
      · rename_i xs e
        simp only [Option.map_eq_some_iff] at h; obtain ⟨ds', e2, z⟩ := h; cases z
        exact ⟨_, _, rfl, hk, e, RpL.of e2⟩
      · cases h
theorem Rp.mkT {xs : List Val} {ds : List D} (h : RpL M S xs ds) : Rp M S (.tup xs) (.tuple ds) := by
  obtain ⟨n, e⟩ := h.to
  exact ⟨n + 1, rp_tup e⟩
theorem Rp.mkL {k : Nat} {xs : List Val} {ds : List D} (hk : k ∉ M) (e : S[k]? = some xs) (h : RpL M S xs ds) : Rp M S (.ref k) (.list ds) := by
  obtain ⟨n, e'⟩ := h.to
  exact ⟨n + 1, rp_ref hk e e'⟩
end
/-- as the store moves on -/
theorem rp_kx {M M' A : List Nat} {S S' : Sto} (K : Kx cl A S S') (h1 : ∀ k ∈ A, k ∈ M) (h2 : ∀ k ∈ M', k ∈ M ∨ S.length ≤ k) : ∀ (n : Nat) (v : Val) (d : D), rp M S n v = some d → rp M' S' n v = some d
  | n + 1, v, d, h => by
    cases v <;> first | exact h | skip
    · rename_i xs
      simp only [rp, Option.map_eq_some_iff] at h ⊢
      obtain ⟨ds, e, rfl⟩ := h
      exact ⟨ds, mapO_imp (fun x _ y => rp_kx K h1 h2 n x y) e, rfl⟩
    · rename_i k
      simp only [rp] at h ⊢
      split at h
      · cases h
      · rename_i hk
        split at h
        · rename_i xs e
          have hl : k < S.length := (List.getElem?_eq_some_iff.mp e).1
          rw [if_neg (fun z => (h2 k z).elim hk (fun q => by omega)), K.get e (fun z => hk (h1 k z)) (by simp only [Option.map_eq_some_iff] at h; obtain ⟨ds, e2, _⟩ := h; exact mapO_pn e2)]
          simp only [Option.map_eq_some_iff] at h ⊢
          obtain ⟨ds, e2, rfl⟩ := h
          exact ⟨ds, mapO_imp (fun x _ y => rp_kx K h1 h2 n x y) e2, rfl⟩
        · cases h
theorem Rp.kx' {M M' A : List Nat} {S S' : Sto} {v : Val} {d : D} (h : Rp M S v d) (K : Kx cl A S S') (h1 : ∀ k ∈ A, k ∈ M) (h2 : ∀ k ∈ M', k ∈ M ∨ S.length ≤ k) : Rp M' S' v d := h.elim fun n e => ⟨n, rp_kx K h1 h2 n v d e⟩
theorem Rp.kx {M A : List Nat} {S S' : Sto} {v : Val} {d : D} (h : Rp M S v d) (K : Kx cl A S S') (h1 : ∀ k ∈ A, k ∈ M) : Rp M S' v d := h.kx' K h1 fun k z => .inl z
theorem Rp.sub {M M' : List Nat} {S : Sto} {v : Val} {d : D} (h : Rp M S v d) (k : ∀ j ∈ M', j ∈ M) : Rp M' S v d := h.elim fun n e => ⟨n, rp_sub k n v d e⟩
theorem RpL.kx' {M M' A : List Nat} {S S' : Sto} {v : List Val} {d : List D} (h : RpL M S v d) (K : Kx cl A S S') (h1 : ∀ k ∈ A, k ∈ M) (h2 : ∀ k ∈ M', k ∈ M ∨ S.length ≤ k) : RpL M' S' v d := by
  induction h with
  | nil => exact .nil
  | cons a _ ih => exact .cons (a.kx' K h1 h2) ih
theorem RpL.kx {M A : List Nat} {S S' : Sto} {v : List Val} {d : List D} (h : RpL M S v d) (K : Kx cl A S S') (h1 : ∀ k ∈ A, k ∈ M) : RpL M S' v d := h.kx' K h1 fun k z => .inl z
theorem RpL.sub {M M' : List Nat} {S : Sto} {v : List Val} {d : List D} (h : RpL M S v d) (k : ∀ j ∈ M', j ∈ M) : RpL M' S v d := by
  induction h with
  | nil => exact .nil
  | cons a _ ih => exact .cons (a.sub k) ih
/-! depth -/
theorem mapO_mem {α β : Type} {f g : α → Option β} : ∀ {xs : List α} {ys : List β}, (∀ x ∈ xs, ∀ y ∈ ys, f x = some y → g x = some y) → mapO f xs = some ys → mapO g xs = some ys
  | [], ys, _, h => h
  | x :: xs, ys, k, h => by
    obtain ⟨y, ys', rfl, e1, e2⟩ := mapO_cons h
    have := mapO_mem (fun z hz w hw => k z (List.mem_cons_of_mem _ hz) w (List.mem_cons_of_mem _ hw)) e2
    simp [mapO, k x (by simp) y (by simp) e1, this]
theorem depth_mem : ∀ {ds : List D} {d : D}, d ∈ ds → d.depth ≤ PyData.depthAll ds
  | x :: r, d, h => by
    simp only [PyData.depthAll]
    rcases List.mem_cons.mp h with rfl | h
    · exact Nat.le_max_left _ _
    · exact Nat.le_trans (depth_mem h) (Nat.le_max_right _ _)
theorem rp_low {M : List Nat} {S : Sto} : ∀ (m n : Nat) (v : Val) (d : D), rp M S n v = some d → d.depth < m → rp M S m v = some d
  | m + 1, n + 1, v, d, h, k => by
    cases v <;> first | exact h | skip
    · rename_i xs
      simp only [rp, Option.map_eq_some_iff] at h ⊢
      obtain ⟨ds, e, rfl⟩ := h
      simp only [PyData.depth] at k
      exact ⟨ds, mapO_mem (fun x _ y hy e' => rp_low m n x y e' (by have := depth_mem hy; omega)) e, rfl⟩
    · rename_i j
      simp only [rp] at h ⊢
      split at h
      · cases h
      · rename_i hk
        rw [if_neg hk]
        split at h
        · rename_i xs e
          simp only [Option.map_eq_some_iff] at h ⊢
          obtain ⟨ds, e2, rfl⟩ := h
          simp only [PyData.depth] at k
          exact ⟨ds, mapO_mem (fun x _ y hy e' => rp_low m n x y e' (by have := depth_mem hy; omega)) e2, rfl⟩
        · cases h
theorem Rp.dp {M : List Nat} {S : Sto} {v : Val} {d : D} (h : Rp M S v d) (k : d.depth ≤ 60) : dp S v = some d := by
  obtain ⟨n, e⟩ := h
  exact dp_rp (rp_low 64 n v d e (by omega)) (by omega)
theorem RpL.dp {M : List Nat} {S : Sto} {vs : List Val} {ds : List D} (h : RpL M S vs ds) (k : ∀ d ∈ ds, d.depth ≤ 60) : mapO (TQ.dp S) vs = some ds := by
  induction h with
  | nil => rfl
  | cons a _ ih =>
    simp only [mapO, a.dp (k _ (by simp)), ih (fun d hd => k d (List.mem_cons_of_mem _ hd))]
/-- a value that is looked at -/
def Lk (B : List Nat) (S : Sto) (v : Val) (x : D) : Prop := match x with
  | .list ds => ∃ k xs, v = .ref k ∧ S[k]? = some xs ∧ RpL B S xs ds
  | x => Rp B S v x
theorem Rp.lk {B : List Nat} {S : Sto} {v : Val} {x : D} (h : Rp B S v x) : Lk B S v x := by
  cases x <;> first | exact h | skip
  obtain ⟨k, xs, e, _, e2, r⟩ := h.lst
  exact ⟨k, xs, e, e2, r⟩
theorem Lk.deep {B : List Nat} {S : Sto} {v : Val} {x : D} (h : Lk B S v x) (k : x.depth ≤ 60) : dp S v = some x := by
  cases x <;> first | exact Rp.dp h k | skip
  rename_i ds
  obtain ⟨j, xs, rfl, e, r⟩ := h
  have k' : PyData.depthAll ds + 1 ≤ 60 := k
  obtain ⟨n, e'⟩ := r.to
  have e2 : mapO (rp B S 63) xs = some ds := mapO_mem (fun x _ y hy e => rp_low 63 n x y e (by have := depth_mem hy; omega)) e'
  show deepV 64 S (.ref j) = _
  simp only [deepV, e, mapO_imp (fun x _ y => rp_deep 63 x y) e2, Option.map_some]
/-! ### what a value is -/
/-- the generator's place, the places of a frame's cells -/
structure GC where
  gen : Option Nat
  cells : List Nat
def GC.toList (g : GC) : List Nat := g.gen.toList ++ g.cells
theorem GC.gm {g : GC} {k : Nat} (e : g.gen = some k) : k ∈ g.toList := List.mem_append_left _ (by simp [e])
variable {g : GC} {B M : List Nat} {b : Nat} {S S' : Sto}
def VR (g : GC) (B M : List Nat) (b : Nat) (S : Sto) : Pv → Val → Prop
  | .gen, v => ∃ k, g.gen = some k ∧ v = .ref k
  | .d x .pl, v => Rp (B ++ M) S v x
  | .d x .ow, v => ∃ k xs ds, v = .ref k ∧ x = .list ds ∧ k ∈ M ∧ S[k]? = some xs ∧ RpL (B ++ M) S xs ds
  | .d x .fr, v => ∃ k xs ds, v = .ref k ∧ x = .list ds ∧ k ∉ B ∧ k ∉ M ∧ b ≤ k ∧ S[k]? = some xs ∧ RpL (k :: (B ++ M)) S xs ds
theorem VR.nb {p : Pv} {v : Val} {x : D} (h : VR g B M b S p v) (e : nb p = some x) : Rp (B ++ M) S v x := by
  cases p with
  | gen => cases e
  | d y f =>
    cases f <;> cases e
    · exact h
    · obtain ⟨k, xs, ds, rfl, rfl, n1, n2, _, e, r⟩ := h
      exact Rp.mkL (by simp [n1, n2]) e (r.sub (fun j hj => List.mem_cons_of_mem _ hj))
theorem VR.lk {p : Pv} {v : Val} {x : D} (h : VR g B M b S p v) (e : lk p = some x) : Lk (B ++ M) S v x := by
  cases p with
  | gen => cases e
  | d y f =>
    cases e
    cases f
    · exact Rp.lk h
    · obtain ⟨k, xs, ds, rfl, rfl, _, e, r⟩ := h
      exact ⟨k, xs, rfl, e, r⟩
    · obtain ⟨k, xs, ds, rfl, rfl, n1, n2, _, e, r⟩ := h
      exact ⟨k, xs, rfl, e, r.sub (fun j hj => List.mem_cons_of_mem _ hj)⟩
theorem VR.low {p : Pv} {v : Val} {b' : Nat} (h : VR g B M b S p v) (k : b' ≤ b) : VR g B M b' S p v := by
  cases p with
  | gen => exact h
  | d y f =>
    cases f
    · exact h
    · exact h
    · obtain ⟨k', xs, ds, e1, e2, n1, n2, l, e, r⟩ := h
      exact ⟨k', xs, ds, e1, e2, n1, n2, Nat.le_trans k l, e, r⟩
/-- the store moves on by draws -/
theorem VR.kx {p : Pv} {v : Val} (h : VR g B M b S p v) (K : Kx cl g.toList S S') (hg : ∀ k ∈ g.toList, k ∈ B) (hM : ∀ k ∈ M, k ∉ B) : VR g B M b S' p v := by
  have hs : ∀ k ∈ g.toList, k ∈ B ++ M := fun k hk => List.mem_append_left _ (hg k hk)
  cases p with
  | gen => exact h
  | d y f =>
    cases f
    · exact Rp.kx h K hs
    · obtain ⟨k', xs, ds, e1, e2, n1, e, r⟩ := h
      exact ⟨k', xs, ds, e1, e2, n1, K.get e (fun z => hM k' n1 (hg _ z)) r.pn, r.kx K hs⟩
    · obtain ⟨k', xs, ds, e1, e2, n1, n2, l, e, r⟩ := h
      exact ⟨k', xs, ds, e1, e2, n1, n2, l, K.get e (fun z => n1 (hg _ z)) r.pn, r.kx K (fun k hk => List.mem_cons_of_mem _ (hs k hk))⟩
theorem Lk.kx {v : Val} {x : D} (h : Lk (B ++ M) S v x) (K : Kx cl g.toList S S') (hg : ∀ k ∈ g.toList, k ∈ B) (hv : ∀ k, v = .ref k → k ∉ g.toList) : Lk (B ++ M) S' v x := by
  have hs : ∀ k ∈ g.toList, k ∈ B ++ M := fun k hk => List.mem_append_left _ (hg k hk)
  cases x <;> first | exact Rp.kx h K hs | skip
  obtain ⟨k, xs, e, e2, r⟩ := h
  exact ⟨k, xs, e, K.get e2 (hv k e) r.pn, r.kx K hs⟩
/-- the generator -/
def Gn (g : GC) (S : Sto) (n : Nat) : Prop := n = 0 ∨ ∃ k, ∃ a s c : Int, g.gen = some k ∧ S[k]? = some [.int a, .int s, .int c] ∧ 0 ≤ a ∧ 0 ≤ s ∧ s < 2147483647 ∧ 0 ≤ c ∧ c + 8 * n ≤ 2 ^ 39
theorem Gn.kx {n : Nat} {A : List Nat} (h : Gn g S n) (K : Kx cl A S S') (hA : ∀ k, g.gen = some k → k ∉ A) : Gn g S' n := by
  rcases h with h | ⟨k, a, s, c, e, e2, q⟩
  · exact .inl h
  · exact .inr ⟨k, a, s, c, e, K.get e2 (hA k e) (fun _ => rfl), q⟩
theorem Gn.app {n : Nat} (h : Gn g S n) (T : Sto) : Gn g (S ++ T) n := h.kx (cl := []) (A := []) (Kx.app T) (by simp)
/-! ### simulation -/
def okx {α : Type} (r : PR α) (Q : α → Om → Prop) (X : Str → D → Om → Prop) : Prop := match r with
  | .ok a o => Q a o
  | .exc c d o => X c d o
  | .bad => False
theorem okx_bind {α β : Type} {m : PM α} {f : α → PM β} {o : Om} {Q : β → Om → Prop} {X : Str → D → Om → Prop} : okx ((m.bind f) o) Q X ↔ okx (m o) (fun a o' => okx (f a o') Q X) X := by
  unfold PM.bind
  cases m o <;> exact Iff.rfl
def Sim {α β : Type} (g : GC) (B A : List Nat) (n : Nat) (S : Sto) (m : PM α) (r : R β) (Rl : α → β → Sto → Prop) : Prop :=
  ∀ (Q : α → Om → Prop) (X : Str → D → Om → Prop), (∀ s, okx (m ⟨s, n⟩) Q X) → match r with
    | .ok v S' => ∃ p n', Kx g.cells A S S' ∧ Gn g S' n' ∧ Rl p v S' ∧ ∀ s, Q p ⟨s, n'⟩
    | .exc c v S' => ∃ d n', Kx g.cells A S S' ∧ Gn g S' n' ∧ Rp B S' v d ∧ ∀ s, X c d ⟨s, n'⟩
    | .bad => False
section
variable {α β α' β' : Type} {A : List Nat} {n : Nat} {Rl : α → β → Sto → Prop}
theorem Sim.bad {r : R β} : Sim g B A n S (PM.bad : PM α) r Rl := fun Q X h => (h fun _ => 0).elim
theorem Sim.ret {p : α} {v : β} (hg : Gn g S' n) (K : Kx g.cells A S S') (h : Rl p v S') : Sim g B A n S (PM.pure p) (.ok v S') Rl := fun Q X q => ⟨p, n, K, hg, h, q⟩
theorem Sim.ret0 {p : α} {v : β} (hg : Gn g S n) (h : Rl p v S) : Sim g B A n S (PM.pure p) (.ok v S) Rl := .ret hg .refl h
theorem Sim.opt {o : Option α} {r : R β} (h : ∀ p, o = some p → ∃ v S', r = .ok v S' ∧ Kx g.cells A S S' ∧ Gn g S' n ∧ Rl p v S') : Sim g B A n S (pO o) r Rl := by
  cases o with
  | none => exact .bad
  | some p =>
    obtain ⟨v, S', rfl, K, hg, q⟩ := h p rfl
    exact .ret hg K q
theorem Sim.mono {m : PM α} {r : R β} {Rl' : α → β → Sto → Prop} (h : Sim g B A n S m r Rl) (k : ∀ p v S', Kx g.cells A S S' → Rl p v S' → Rl' p v S') : Sim g B A n S m r Rl' := by
  intro Q X q
  have := h Q X q
  cases r with
  | ok v S' => obtain ⟨p, n', K, G, rl, z⟩ := this; exact ⟨p, n', K, G, k _ _ _ K rl, z⟩
  | exc c v S' => exact this
  | bad => exact this
theorem Sim.bind {m : PM α} {f : α → PM α'} {mE : E β} {k : β → E β'} {R2 : α' → β' → Sto → Prop} (h : Sim g B A n S m (mE S) Rl)
    (q : ∀ p v S1 n1, Kx g.cells A S S1 → Gn g S1 n1 → Rl p v S1 → ∃ A', (∀ j ∈ A', j ∈ A ∨ S.length ≤ j) ∧ Sim g B A' n1 S1 (f p) (k v S1) R2) : Sim g B A n S (m.bind f) ((mE.bind k) S) R2 := by
  intro Q X z
  have key := h (fun a o' => okx (f a o') Q X) X (fun s => okx_bind.mp (z s))
  unfold E.bind
  cases hr : mE S with
  | ok v S1 =>
    rw [hr] at key
    obtain ⟨p, n1, K, G1, rl, z1⟩ := key
    obtain ⟨A', hA, s2⟩ := q p v S1 n1 K G1 rl
    have := s2 Q X z1
    show match k v S1 with | .ok v S' => _ | .exc c v S' => _ | .bad => _
    cases hk : k v S1 with
    | ok w S2 => rw [hk] at this; obtain ⟨p2, n2, K2, G2, r2, z2⟩ := this; exact ⟨p2, n2, K.trans K2 hA, G2, r2, z2⟩
    | exc c w S2 => rw [hk] at this; obtain ⟨p2, n2, K2, G2, r2, z2⟩ := this; exact ⟨p2, n2, K.trans K2 hA, G2, r2, z2⟩
    | bad => rw [hk] at this; exact this
  | exc c v S1 => rw [hr] at key; exact key
  | bad => rw [hr] at key; exact key
theorem Sim.bind' {m : PM α} {f : α → PM α'} {mE : E β} {k : β → E β'} {R2 : α' → β' → Sto → Prop} (h : Sim g B A n S m (mE S) Rl)
    (q : ∀ p v S1 n1, Kx g.cells A S S1 → Gn g S1 n1 → Rl p v S1 → Sim g B A n1 S1 (f p) (k v S1) R2) : Sim g B A n S (m.bind f) ((mE.bind k) S) R2 :=
  h.bind fun p v S1 n1 K G1 r => ⟨A, fun j hj => .inl hj, q p v S1 n1 K G1 r⟩
/-- a step of the data's evaluator alone -/
theorem Sim.left {o : Option α} {f : α → PM α'} {r : R β'} {R2 : α' → β' → Sto → Prop} (q : ∀ p, o = some p → Sim g B A n S (f p) r R2) : Sim g B A n S ((pO o).bind f) r R2 := by
  cases o with
  | none => intro Q X z; exact (z fun _ => 0).elim
  | some p => exact q p rfl
end
end TQ
/-! TQ62: the operators, on data as in the store. -/
namespace TQ
open PySem L2
section
variable {A : List Nat} {S : Sto}
/-- what an operation leaves -/
def Out (A : List Nat) (S : Sto) (r : D) (z : R Val) : Prop := (∃ v, z = .ok v S ∧ Rp A S v r ∧ fgOf r = .pl) ∨ ∃ xs ds, r = .list ds ∧ z = .ok (.ref S.length) (S ++ [xs]) ∧ RpL A S xs ds ∧ lineOk xs.length = true
theorem Out.int {i : Int} : Out A S (.int i) (oki i S) := .inl ⟨_, rfl, ⟨1, rfl⟩, rfl⟩
theorem Out.bl {i : Bool} : Out A S (.bool i) (okb i S) := .inl ⟨_, rfl, ⟨1, rfl⟩, rfl⟩
theorem Out.str {i : Str} : Out A S (.str i) (.ok (.str i) S) := .inl ⟨_, rfl, ⟨1, rfl⟩, rfl⟩
theorem Out.tup {xs : List Val} {ds : List D} (h : RpL A S xs ds) (hl : lineOk ds.length = true) : Out A S (.tuple ds) (mkTup xs S) := .inl ⟨_, by unfold mkTup; rw [h.len, if_pos hl], Rp.mkT h, rfl⟩
theorem Out.tup' {xs : List Val} {ds : List D} (h : RpL A S xs ds) : Out A S (.tuple ds) (.ok (.tup xs) S) := .inl ⟨_, rfl, Rp.mkT h, rfl⟩
theorem Out.lst {xs : List Val} {ds : List D} (h : RpL A S xs ds) (hl : lineOk ds.length = true) : Out A S (.list ds) (alloc xs S) := .inr ⟨xs, ds, rfl, by unfold alloc; rw [h.len, if_pos hl], h, by rw [h.len]; exact hl⟩
theorem Lk.i {v : Val} {i : Int} (h : Lk A S v (.int i)) : v = .int i := Rp.int h
theorem Lk.b {v : Val} {i : Bool} (h : Lk A S v (.bool i)) : v = .bl i := Rp.bl h
theorem Lk.s {v : Val} {i : Str} (h : Lk A S v (.str i)) : v = .str i := Rp.str h
theorem Lk.n {v : Val} (h : Lk A S v .none) : v = .non := Rp.none h
theorem Lk.t {v : Val} {ds : List D} (h : Lk A S v (.tuple ds)) : ∃ xs, v = .tup xs ∧ RpL A S xs ds := Rp.tup h
theorem Lk.l {v : Val} {ds : List D} (h : Lk A S v (.list ds)) : ∃ k xs, v = .ref k ∧ S[k]? = some xs ∧ RpL A S xs ds := h
theorem op2_ok {o : Op2} {a b : Val} {x y r : D} (ha : Lk A S a x) (hb : Lk A S b y) (e : opD o x y = some r) : Out A S r (op2 o a b S) := by
  unfold opD at e
  split at e
  · cases ha.i; cases hb.i
    cases o <;> simp only [opIntD] at e
    · cases e; exact Out.int
    · cases e; exact Out.int
    · split at e
      · rename_i i j h; cases e; have : op2 .mul (.int i) (.int j) S = oki (i * j) S := if_pos h
        rw [this]; exact Out.int
      · cases e
    · split at e
      · rename_i i j h; cases e; have : op2 .fdiv (.int i) (.int j) S = (if divOk j = true then oki (i / j) else E.bad) S := rfl
        rw [if_pos h] at this
        rw [this]; exact Out.int
      · cases e
    · split at e
      · rename_i i j h; cases e; have : op2 .mod (.int i) (.int j) S = (if decide (0 < j) = true then oki (i % j) else E.bad) S := rfl
        rw [if_pos h] at this
        rw [this]; exact Out.int
      · cases e
    · split at e
      · rename_i i j h; cases e; have : op2 .pow (.int i) (.int j) S = (if powOk i j = true then oki (i ^ j.toNat) else E.bad) S := rfl
        rw [if_pos h] at this
        rw [this]; exact Out.int
      · cases e
  · cases ha.s; cases hb.s
    split at e
    · split at e
      · rename_i h; cases e
        have : op2 .add (.str _) (.str _) S = .ok (.str _) S := if_pos h
        rw [this]; exact Out.str
      · cases e
    · cases e
  · obtain ⟨xs, rfl, ra⟩ := ha.t; obtain ⟨ys, rfl, rb⟩ := hb.t
    split at e
    · split at e
      · cases e
      · rename_i h
        split at e
        · rename_i hl; cases e
          have : op2 .add (.tup xs) (.tup ys) S = mkTup (xs ++ ys) S := by show (if _ then _ else _) = _; rw [ra.len, rb.len, if_neg h]
          rw [this]; exact Out.tup (ra.app rb) hl
        · cases e
    · cases e
  · obtain ⟨i, xs, rfl, e1, ra⟩ := ha.l; obtain ⟨j, ys, rfl, e2, rb⟩ := hb.l
    split at e
    · split at e
      · rename_i hl; cases e
        have : op2 .add (.ref i) (.ref j) S = alloc (xs ++ ys) S := by show (match S[i]?, S[j]? with | some xs, some ys => alloc (xs ++ ys) S | _, _ => .bad) = _; rw [e1, e2]
        rw [this]; exact Out.lst (ra.app rb) hl
      · cases e
    · cases e
  · obtain ⟨i, xs, rfl, e1, ra⟩ := ha.l; cases hb.i
    rename_i k
    split at e
    · split at e
      · rename_i hl; cases e
        simp only [Bool.and_eq_true] at hl
        have : op2 .mul (.ref i) (.int k) S = alloc (List.replicate k.toNat xs).flatten S := by
          show (match S[i]? with | some xs => (if in63 k && lineOk (xs.length * k.toNat) then alloc (List.replicate k.toNat xs).flatten S else .bad) | none => .bad) = _
          rw [e1]
          simp only
          rw [if_pos (by rw [ra.len]; simp [hl.1.1, hl.1.2])]
        rw [this]; exact Out.lst (ra.rep _) hl.2
      · cases e
    · cases e
  · cases e
theorem dOk_sh {x : D} (h : dOk x = true) : SeqAt.shaped x = true ∧ x.depth ≤ 60 := by
  unfold dOk at h
  simp only [Bool.and_eq_true, decide_eq_true_eq] at h
  refine ⟨?_, h.2⟩
  unfold SeqAt.shaped
  simp only [Bool.and_eq_true, decide_eq_true_eq]
  exact ⟨h.1, by omega⟩
theorem eqS_ok {a b : Val} {x y : D} {r : Bool} (ha : Lk A S a x) (hb : Lk A S b y) (e : eqD x y = some r) : eqS S a b = some r := by
  unfold eqD at e
  split at e
  · rename_i h
    simp only [Bool.and_eq_true] at h
    unfold eqS
    rw [ha.deep (dOk_sh h.1).2, hb.deep (dOk_sh h.2).2]
    simp only [(dOk_sh h.1).1, (dOk_sh h.2).1, Bool.and_self, if_true]
    exact e
  · cases e
theorem inS_ok {a b : Val} {x y : D} {r : Bool} (ha : Lk A S a x) (hb : Lk A S b y) (e : inD x y = some r) : inS S a b = some r := by
  unfold inD at e
  split at e
  · cases ha.s; cases hb.s; exact e
  · rename_i es
    split at e
    · rename_i h
      simp only [Bool.and_eq_true] at h
      have q1 := ha.deep (dOk_sh h.1).2
      have q2 := hb.deep (dOk_sh h.2).2
      obtain ⟨k, xs, rfl, e2, rb⟩ := hb.l
      have : inS S a (.ref k) = match dp S a, dp S (.ref k) with | some d, some (.list es) => if SeqAt.shaped d && SeqAt.shaped (.list es) then some (es.any fun z => PyData.eqv z d) else none | _, _ => none := by cases a <;> rfl
      rw [this, q1, q2]
      simp only [(dOk_sh h.1).1, (dOk_sh h.2).1, Bool.and_self, if_true]
      exact e
    · cases e
  · cases e
theorem isN_ok {a : Val} {x : D} (ha : Lk A S a x) : isNoneV a = isNoneD x := by
  cases x with
  | none => cases ha.n; rfl
  | bool b => cases ha.b; rfl
  | int b => cases ha.i; rfl
  | str b => cases ha.s; rfl
  | list b => obtain ⟨_, _, rfl, _, _⟩ := ha.l; rfl
  | tuple b => obtain ⟨_, rfl, _⟩ := ha.t; rfl
  | dict b => obtain ⟨rfl, _⟩ := Rp.dict ha; rfl
theorem cmp_ok {o : Cm} {a b : Val} {x y : D} {r : Bool} (ha : Lk A S a x) (hb : Lk A S b y) (e : cmpD o x y = some r) : cmpS o S a b = some r := by
  cases o <;> simp only [cmpD, cmpS] at e ⊢
  · exact eqS_ok ha hb e
  · rw [Option.map_eq_some_iff] at e ⊢; obtain ⟨q, e, z⟩ := e; exact ⟨q, eqS_ok ha hb e, z⟩
  iterate 4
    · split at e
      · cases ha.i; cases hb.i; exact e
      · cases e
  · split at e
    · cases hb.n; rw [← isN_ok ha] at e; exact e
    · cases e
  · split at e
    · cases hb.n; rw [← isN_ok ha] at e; exact e
    · cases e
  · exact inS_ok ha hb e
  · rw [Option.map_eq_some_iff] at e ⊢; obtain ⟨q, e, z⟩ := e; exact ⟨q, inS_ok ha hb e, z⟩
theorem truth_ok {a : Val} {x : D} {r : Bool} (ha : Lk A S a x) (e : truthD x = some r) : truthS S a = some r := by
  unfold truthD at e
  split at e
  · cases ha.n; exact e
  · cases ha.b; exact e
  · cases ha.i; exact e
  · cases ha.s; exact e
  · obtain ⟨k, xs, rfl, e1, ra⟩ := ha.l; simp only [truthS, e1, Option.map_some, ra.len]; exact e
  · cases e
theorem ix_okD {a i : Val} {x y r : D} (ha : Lk A S a x) (hi : Lk A S i y) (e : ixD x y = some r) : ∃ v, ixE a i S = .ok v S ∧ Rp A S v r := by
  unfold ixD at e
  split at e
  · cases hi.i
    split at e
    · obtain ⟨k, xs, rfl, e1, ra⟩ := ha.l
      obtain ⟨v, e2, q⟩ := ra.atI e
      refine ⟨v, ?_, q⟩
      simp only [ixE, seqOf, e1, getO, e2]
    · obtain ⟨xs, rfl, ra⟩ := ha.t
      obtain ⟨v, e2, q⟩ := ra.atI e
      refine ⟨v, ?_, q⟩
      simp only [ixE, seqOf, getO, e2]
    · cases ha.s
      split at e
      · rename_i hl
        rw [Option.map_eq_some_iff] at e
        obtain ⟨c, e, rfl⟩ := e
        refine ⟨.str ⟨#[c]⟩, ?_, 1, rfl⟩
        simp only [ixE, seqOf, hl, if_true, e]
      · cases e
    · cases e
  · cases e
theorem sl_okD {a : Val} {x r : D} {lo hi : Option Int} (ha : Lk A S a x) (e : slD x lo hi = some r) : Out A S r (slE a lo hi S) := by
  unfold slD at e
  split at e
  · obtain ⟨k, xs, rfl, e1, ra⟩ := ha.l
    split at e
    · rename_i hl; cases e
      have : slE (.ref k) lo hi S = alloc (cutL xs lo hi) S := by simp only [slE, itemsOf, e1]
      rw [this]; exact Out.lst (ra.cut _ _) hl
    · cases e
  · obtain ⟨xs, rfl, ra⟩ := ha.t
    split at e
    · cases e
    · rename_i h; cases e
      have : slE (.tup xs) lo hi S = .ok (.tup (cutL xs lo hi)) S := by simp only [slE, itemsOf]; rw [ra.len, if_neg h]
      rw [this]; exact Out.tup' (ra.cut _ _)
  · cases e
theorem rev_okD {a : Val} {x r : D} (ha : Lk A S a x) (e : revD x = some r) : Out A S r (revE a S) := by
  unfold revD at e
  split at e
  · obtain ⟨k, xs, rfl, e1, ra⟩ := ha.l
    split at e
    · rename_i hl; cases e
      have : revE (.ref k) S = alloc xs.reverse S := by simp only [revE, itemsOf, e1]
      rw [this]; exact Out.lst ra.rev (by simpa using hl)
    · cases e
  · cases e
/-! lists of values -/
inductive LkL (A : List Nat) (S : Sto) : List Val → List D → Prop where
  | nil : LkL A S [] []
  | cons {v : Val} {vs : List Val} {d : D} {ds : List D} : Lk A S v d → LkL A S vs ds → LkL A S (v :: vs) (d :: ds)
theorem ints_ok : ∀ {xs : List Val} {ds : List D} {is : List Int}, RpL A S xs ds → intsD ds = some is → intsV xs = some is
  | _, _, is, .nil, e => e
  | _, _, is, .cons (d := d) a r, e => by
    unfold intsD at e
    split at e
    · rename_i h; cases h
    · rename_i h; cases h
      rw [Option.map_eq_some_iff] at e
      obtain ⟨js, e, rfl⟩ := e
      cases a.int
      simp only [intsV, ints_ok r e, Option.map_some]
    · cases e
theorem bools_ok : ∀ {xs : List Val} {ds : List D} {is : List Bool}, RpL A S xs ds → boolsD ds = some is → boolsV xs = some is
  | _, _, is, .nil, e => e
  | _, _, is, .cons (d := d) a r, e => by
    unfold boolsD at e
    split at e
    · rename_i h; cases h
    · rename_i h; cases h
      rw [Option.map_eq_some_iff] at e
      obtain ⟨js, e, rfl⟩ := e
      cases a.bl
      simp only [boolsV, bools_ok r e, Option.map_some]
    · cases e
theorem listD_ok {a : Val} {x : D} {ds : List D} (h : Lk A S a x) (e : listD x = some ds) : ∃ xs, itemsOf S a = some xs ∧ RpL A S xs ds := by
  unfold listD at e
  split at e
  · cases e
    obtain ⟨k, xs, rfl, e1, ra⟩ := h.l
    exact ⟨xs, e1, ra⟩
  · cases e
theorem len_okD {a : Val} {x : D} {n : Nat} (ha : Lk A S a x) (e : lenD x = some n) : lenS S a = some n := by
  unfold lenD at e
  split at e
  · obtain ⟨xs, rfl, ra⟩ := ha.t; simp only [lenS, ra.len]; exact e
  · obtain ⟨k, xs, rfl, e1, ra⟩ := ha.l; simp only [lenS, itemsOf, e1, Option.map_some, ra.len]; exact e
  · cases ha.s; exact e
  · cases e
theorem one_of {f : D → Option D} {ds : List D} {r : D} (e : oneD f ds = some r) {vs : List Val} (h : LkL A S vs ds) : ∃ v x, vs = [v] ∧ ds = [x] ∧ Lk A S v x ∧ f x = some r := by
  unfold oneD at e
  split at e
  · cases h with
    | cons a h => cases h; exact ⟨_, _, rfl, rfl, a, e⟩
  · cases e
theorem sort_len {xs : List Val} {ds : List D} (h : RpL A S xs ds) : RpL A S (sortV xs ds) (sortD ds) := by
  have key : ∀ (l : List (Val × D)), (∀ q ∈ l, Rp A S q.1 q.2) → RpL A S (l.map Prod.fst) (l.map Prod.snd) := by
    intro l
    induction l with
    | nil => intro _; exact .nil
    | cons q l ih => intro hl; exact .cons (hl q (by simp)) (ih fun z hz => hl z (List.mem_cons_of_mem _ hz))
  have hz : ∀ q ∈ xs.zip ds, Rp A S q.1 q.2 := by
    clear key
    induction h with
    | nil => intro q hq; simp at hq
    | cons a _ ih => intro q hq; simp only [List.zip_cons_cons, List.mem_cons] at hq; rcases hq with rfl | hq
                     · exact a
                     · exact ih q hq
  have hs : (xs.zip ds).map Prod.snd = ds := List.map_snd_zip (by rw [h.len]; exact Nat.le_refl _)
  have e : sortD ds = ((xs.zip ds).mergeSort (PySem.W.dataLe false Prod.snd)).map Prod.snd := by
    have q := List.map_mergeSort (r := PySem.W.dataLe false Prod.snd) (s := PySem.W.dataLe false id) (f := Prod.snd) (l := xs.zip ds) (fun a _ b _ => rfl)
    rw [q, hs, sortD_eq]
  rw [e]
  exact key _ fun q hq => hz q (by simpa using hq)
theorem bi_okD {f : Str} {vs : List Val} {ds : List D} {r : D} (h : LkL A S vs ds) (e : biD f ds = some r) : Out A S r (biE f vs S) := by
  unfold biD at e
  unfold biE
  by_cases h0 : f = "len"
  · rw [if_pos h0] at e ⊢
    replace e := one_of e h
    obtain ⟨v, x, rfl, rfl, a, e⟩ := e
    rw [Option.map_eq_some_iff] at e; obtain ⟨n, e, rfl⟩ := e
    simp only [biLen, len_okD a e]; exact Out.int
  rw [if_neg h0] at e ⊢
  by_cases h1 : f = "abs"
  · rw [if_pos h1] at e ⊢
    replace e := one_of e h
    obtain ⟨v, x, rfl, rfl, a, e⟩ := e
    split at e
    · cases e; cases a.i; exact Out.int
    · cases e
  rw [if_neg h1] at e ⊢
  by_cases h2 : f = "int"
  · rw [if_pos h2] at e ⊢
    replace e := one_of e h
    obtain ⟨v, x, rfl, rfl, a, e⟩ := e
    split at e
    · cases e; cases a.i; exact Out.int
    · cases e; cases a.b; exact Out.int
    · cases e
  rw [if_neg h2] at e ⊢
  by_cases h3 : f = "max"
  · rw [if_pos h3] at e ⊢
    unfold maxD at e
    split at e
    · cases h with | cons a h => cases h with | cons b h => cases h; cases a.i; cases b.i; cases e; exact Out.int
    · split at e
      · rename_i he; cases e
        cases h with | cons a h => cases h; obtain ⟨xs, e1, ra⟩ := listD_ok a rfl; have q := ints_ok ra he; obtain ⟨k, _, rfl, _, _⟩ := a.l; simp only [biMax, e1, Option.bind_some, q]; exact Out.int
      · cases e
    · cases e
  rw [if_neg h3] at e ⊢
  by_cases h4 : f = "min"
  · rw [if_pos h4] at e ⊢
    unfold minD at e
    split at e
    · cases h with | cons a h => cases h with | cons b h => cases h; cases a.i; cases b.i; cases e; exact Out.int
    · split at e
      · rename_i he; cases e
        cases h with | cons a h => cases h; obtain ⟨xs, e1, ra⟩ := listD_ok a rfl; have q := ints_ok ra he; obtain ⟨k, _, rfl, _, _⟩ := a.l; simp only [biMin, e1, Option.bind_some, q]; exact Out.int
      · cases e
    · cases e
  rw [if_neg h4] at e ⊢
  by_cases h5 : f = "sum"
  · rw [if_pos h5] at e ⊢
    replace e := one_of e h
    obtain ⟨v, x, rfl, rfl, a, e⟩ := e
    rw [Option.map_eq_some_iff] at e; obtain ⟨is, e, rfl⟩ := e
    rw [Option.bind_eq_some_iff] at e; obtain ⟨ds, e, ei⟩ := e
    obtain ⟨xs, e1, ra⟩ := listD_ok a e
    simp only [biSum, e1, Option.bind_some, ints_ok ra ei]; exact Out.int
  rw [if_neg h5] at e ⊢
  by_cases h6 : f = "all"
  · rw [if_pos h6] at e ⊢
    replace e := one_of e h
    obtain ⟨v, x, rfl, rfl, a, e⟩ := e
    rw [Option.map_eq_some_iff] at e; obtain ⟨is, e, rfl⟩ := e
    rw [Option.bind_eq_some_iff] at e; obtain ⟨ds, e, ei⟩ := e
    obtain ⟨xs, e1, ra⟩ := listD_ok a e
    simp only [biAll, e1, Option.bind_some, bools_ok ra ei]; exact Out.bl
  rw [if_neg h6] at e ⊢
  by_cases h7 : f = "any"
  · rw [if_pos h7] at e ⊢
    replace e := one_of e h
    obtain ⟨v, x, rfl, rfl, a, e⟩ := e
    rw [Option.map_eq_some_iff] at e; obtain ⟨is, e, rfl⟩ := e
    rw [Option.bind_eq_some_iff] at e; obtain ⟨ds, e, ei⟩ := e
    obtain ⟨xs, e1, ra⟩ := listD_ok a e
    simp only [biAny, e1, Option.bind_some, bools_ok ra ei]; exact Out.bl
  rw [if_neg h7] at e ⊢
  by_cases h8 : f = "list"
  · rw [if_pos h8] at e ⊢
    replace e := one_of e h
    obtain ⟨v, x, rfl, rfl, a, e⟩ := e
    split at e
    · rename_i hs
      split at e
      · rename_i hl; cases e
        unfold seqD at hs
        split at hs
        · cases hs; obtain ⟨k, xs, rfl, e1, ra⟩ := a.l; simp only [biList, seqOf, e1]; exact Out.lst ra hl
        · cases hs; obtain ⟨xs, rfl, ra⟩ := a.t; simp only [biList, seqOf]; exact Out.lst ra hl
        · cases hs
      · cases e
    · cases e
  rw [if_neg h8] at e ⊢
  by_cases h9 : f = "tuple"
  · rw [if_pos h9] at e ⊢
    replace e := one_of e h
    obtain ⟨v, x, rfl, rfl, a, e⟩ := e
    split at e
    · cases e; obtain ⟨xs, rfl, ra⟩ := a.t; exact Out.tup' ra
    · split at e
      · rename_i hl; cases e; obtain ⟨k, xs, rfl, e1, ra⟩ := a.l; simp only [biTuple, itemsOf, e1]; exact Out.tup ra hl
      · cases e
    · cases e
  rw [if_neg h9] at e ⊢
  by_cases h10 : f = "repr"
  · rw [if_pos h10] at e ⊢
    replace e := one_of e h
    obtain ⟨v, x, rfl, rfl, a, e⟩ := e
    split at e
    · rename_i hq; cases e
      have hd : x.depth ≤ 60 := by simp only [Bool.and_eq_true, decide_eq_true_eq] at hq; exact hq.1.2
      simp only [biRepr, a.deep hd]
      rw [if_pos hq]
      exact Out.str
    · cases e
  rw [if_neg h10] at e ⊢
  by_cases h11 : f = "sorted"
  · rw [if_pos h11] at e ⊢
    replace e := one_of e h
    obtain ⟨v, x, rfl, rfl, a, e⟩ := e
    split at e
    · rename_i ds
      split at e
      · rename_i hq; cases e
        simp only [Bool.and_eq_true] at hq
        obtain ⟨k, xs, rfl, e1, ra⟩ := a.l
        have hd : ∀ d ∈ ds, d.depth ≤ 60 := by
          intro d hd
          have := hq.1
          unfold sortOk at this
          simp only [Bool.and_eq_true, List.all_eq_true, decide_eq_true_eq] at this
          exact (this.2 d hd).2
        simp only [biSorted, itemsOf, e1, ra.dp hd, hq.1, if_true]
        refine Out.lst (sort_len ra) ?_
        rw [sortD_eq]; simpa using hq.2
      · cases e
    · cases e
  rw [if_neg h11] at e; cases e
theorem rgI_ok (a b : Int) : RpL A S (rgI a b) ((List.range (b - a).toNat).map fun i => PyData.int (a + (i : Nat))) := by
  unfold rgI
  induction (List.range (b - a).toNat) with
  | nil => exact .nil
  | cons x l ih => exact .cons ⟨1, rfl⟩ ih
theorem rg2_ok {tp : Bool} {a b : Int} {r : D} (e : rgD2 tp a b = some r) : Out A S r (rgE2 tp a b S) := by
  unfold rgD2 at e
  split at e
  · rename_i h
    unfold rgE2
    rw [if_pos h]
    cases e
    cases tp
    · refine .inr ⟨_, _, rfl, rfl, rgI_ok a b, ?_⟩
      simp only [Bool.and_eq_true, decide_eq_true_eq] at h
      unfold lineOk rgI
      simp only [List.length_map, List.length_range, decide_eq_true_eq]
      exact h.2
    · exact Out.tup' (rgI_ok a b)
  · cases e
theorem rg_okD {tp : Bool} {vs : List Val} {ds : List D} {r : D} (h : LkL A S vs ds) (e : rgD tp ds = some r) : Out A S r (rgE tp vs S) := by
  unfold rgD at e
  split at e
  · cases h with | cons a h => cases h; cases a.i; exact rg2_ok e
  · cases h with | cons a h => cases h with | cons b h => cases h; cases a.i; cases b.i; exact rg2_ok e
  · cases e
theorem isi_ok {P' : Pr} {P : PP} (hP : P'.isE = P.isE) {a : Val} {x : D} (ha : Lk A S a x) : ∀ {T : List Str} {r : Bool}, isiD P x T = some r → isiAny P' a T = some r
  | [], r, e => e
  | T :: Ts, r, e => by
    unfold isiD at e
    have key : ∀ t, typD x = some t → isiV P' a T = if plainT T then some (isiT t T) else P'.isE t T := by
      intro t ht
      unfold typD at ht
      split at ht <;> cases ht
      · cases ha.n; rfl
      · cases ha.b; rfl
      · cases ha.i; rfl
      · cases ha.s; rfl
      · obtain ⟨_, _, rfl, _, _⟩ := ha.l; rfl
      · obtain ⟨_, rfl, _⟩ := ha.t; rfl
      · obtain ⟨rfl, _⟩ := Rp.dict ha; rfl
    cases ht : typD x with
    | none => rw [ht] at e; cases e
    | some t =>
      rw [ht] at e
      simp only [isiAny, key t ht, hP]
      simp only at e
      cases hq : (if plainT T then some (isiT t T) else P.isE t T) with
      | none => rw [hq] at e; cases e
      | some q =>
        rw [hq] at e
        cases q
        · exact isi_ok hP ha e
        · exact e
theorem mth_index {o : Val} {vs : List Val} : mthE "index" o vs = mIndex o vs := rfl
theorem mth_count {o : Val} {vs : List Val} : mthE "count" o vs = mCount o vs := rfl
theorem ck_okD {m : Str} {o : Val} {x : D} (ho : Lk A S o x) (e : ckMD m x = some ()) : ckM m o S = .ok () S := by
  unfold ckMD at e
  split at e
  · split at e
    · rename_i h; subst h; cases ho.i; rfl
    · cases e
  · split at e
    · rename_i h; obtain ⟨k, xs, rfl, _, _⟩ := ho.l
      rcases h with rfl | rfl <;> rfl
    · cases e
  · cases e
theorem mth_okD {m : Str} {o : Val} {vs : List Val} {x : D} {ds : List D} {r : D} (ho : Lk A S o x) (h : LkL A S vs ds) (e : mthD m x ds = some r) : ckM m o S = .ok () S ∧ ∃ v, mthE m o vs S = .ok v S ∧ Rp A S v r := by
  unfold mthD at e
  by_cases h0 : m = "bit_length"
  · rw [if_pos h0] at e
    subst h0
    split at e
    · cases h; cases ho.i; cases e; exact ⟨rfl, _, rfl, 1, rfl⟩
    · cases e
  rw [if_neg h0] at e
  by_cases h1 : m = "index"
  · rw [if_pos h1] at e
    subst h1
    split at e
    · cases h with | cons a h =>
      cases h
      split at e
      · rename_i hq
        simp only [Bool.and_eq_true] at hq
        rw [Option.map_eq_some_iff] at e; obtain ⟨j, e, rfl⟩ := e
        have q1 := ho.deep (dOk_sh hq.1).2
        have q2 := a.deep (dOk_sh hq.2).2
        obtain ⟨k, xs, rfl, e1, ra⟩ := ho.l
        refine ⟨rfl, .int j, ?_, 1, rfl⟩
        rw [mth_index]
        simp only [mIndex, q1, q2, (dOk_sh hq.1).1, (dOk_sh hq.2).1, Bool.and_self, if_true, e]
        rfl
      · cases e
    · cases e
  rw [if_neg h1] at e
  by_cases h2 : m = "count"
  · rw [if_pos h2] at e
    subst h2
    split at e
    · cases h with | cons a h =>
      cases h
      rw [Option.map_eq_some_iff] at e; obtain ⟨is, e, rfl⟩ := e
      cases a.i
      obtain ⟨k, xs, rfl, e1, ra⟩ := ho.l
      refine ⟨rfl, .int _, ?_, 1, rfl⟩
      rw [mth_count]
      simp only [mCount, itemsOf, e1, Option.bind_some, ints_ok ra e]
      rfl
    · cases e
  rw [if_neg h2] at e; cases e
end
end TQ
/-! TQ63: expressions: the data's evaluator is right. -/
namespace TQ
open PySem L2
variable {g : GC} {B M : List Nat} {b n : Nat} {S S' : Sto} {τ : Tau} {π : Env}
structure Bd (g : GC) (B M : List Nat) (S : Sto) : Prop where
  gB : ∀ k ∈ g.toList, k ∈ B
  BS : ∀ k ∈ B, k < S.length
  MS : ∀ k ∈ M, k < S.length
  MB : ∀ k ∈ M, k ∉ B
theorem Bd.up (h : Bd g B M S) (k : S.length ≤ S'.length) : Bd g B M S' := ⟨h.gB, fun j hj => Nat.lt_of_lt_of_le (h.BS j hj) k, fun j hj => Nat.lt_of_lt_of_le (h.MS j hj) k, h.MB⟩
structure ER (g : GC) (B M : List Nat) (S : Sto) (τ : Tau) (π : Env) : Prop where
  len : τ.length = π.length
  slot : ∀ (i : Nat) (p : Pv), π[i]? = some (some p) → ∃ v, τ[i]? = some (some v) ∧ VR g B M 0 S p v ∧ ∀ x, p ≠ .d x .fr
  inj : ∀ (i j : Nat) (x y : D) (k : Nat), i ≠ j → π[i]? = some (some (.d x .ow)) → π[j]? = some (some (.d y .ow)) → τ[i]? = some (some (.ref k)) → τ[j]? = some (some (.ref k)) → False
theorem ER.kx (h : ER g B M S τ π) (K : Kx g.cells g.toList S S') (hB : Bd g B M S) : ER g B M S' τ π :=
  ⟨h.len, fun i p e => by obtain ⟨v, e1, r, q⟩ := h.slot i p e; exact ⟨v, e1, r.kx K hB.gB hB.MB, q⟩, h.inj⟩
theorem set_some {α : Type} {xs : List α} {i j : Nat} {x y : α} (h : (xs.set i x)[j]? = some y) : (i = j ∧ y = x ∧ i < xs.length) ∨ (i ≠ j ∧ xs[j]? = some y) := by
  by_cases e : i = j
  · subst e
    by_cases hl : i < xs.length
    · rw [List.getElem?_set_self hl] at h; cases h; exact .inl ⟨rfl, rfl, hl⟩
    · rw [List.getElem?_eq_none (by simp; omega)] at h; cases h
  · rw [List.getElem?_set_ne e] at h; exact .inr ⟨e, h⟩
theorem ER.noneS (h : ER g B M S τ π) (i : Nat) : ER g B M S (τ.set i none) (π.set i none) :=
  ⟨by simp [h.len], fun j p e => by
    rcases set_some e with ⟨_, z, _⟩ | ⟨z, e⟩
    · cases z
    · obtain ⟨v, e1, q⟩ := h.slot j p e; exact ⟨v, by rw [List.getElem?_set_ne z]; exact e1, q⟩, fun a c x y k n e1 e2 e3 e4 => by
    rcases set_some e1 with ⟨_, z, _⟩ | ⟨z1, e1⟩
    · cases z
    rcases set_some e2 with ⟨_, z, _⟩ | ⟨z2, e2⟩
    · cases z
    rw [List.getElem?_set_ne z1] at e3; rw [List.getElem?_set_ne z2] at e4
    exact h.inj a c x y k n e1 e2 e3 e4⟩
/-- a slot is set to what is no own list -/
theorem ER.set (h : ER g B M S τ π) {i : Nat} {p : Pv} {v : Val} (hi : i < π.length) (r : VR g B M 0 S p v) (q : ∀ x, p ≠ .d x .fr) (q2 : ∀ x, p ≠ .d x .ow) : ER g B M S (τ.set i (some v)) (π.set i (some p)) :=
  ⟨by simp [h.len], fun j p' e => by
    rcases set_some e with ⟨z, e, _⟩ | ⟨z, e⟩
    · cases e; subst z; exact ⟨v, List.getElem?_set_self (by rw [h.len]; exact hi), r, q⟩
    · obtain ⟨v, e1, q⟩ := h.slot j p' e; exact ⟨v, by rw [List.getElem?_set_ne z]; exact e1, q⟩, fun a c x y k n e1 e2 e3 e4 => by
    rcases set_some e1 with ⟨_, z, _⟩ | ⟨z1, e1⟩
    · cases z; exact q2 _ rfl
    rcases set_some e2 with ⟨_, z, _⟩ | ⟨z2, e2⟩
    · cases z; exact q2 _ rfl
    rw [List.getElem?_set_ne z1] at e3; rw [List.getElem?_set_ne z2] at e4
    exact h.inj a c x y k n e1 e2 e3 e4⟩
theorem ER.wipe (h : ER g B M S τ π) : ∀ ps, ER g B M S (wipeT ps τ) (wipeE ps π)
  | [] => h
  | i :: r => (ER.wipe h r).noneS i
mutual
theorem bind_ok : ∀ (p : Pat) {v : Val} {d : D} {τ : Tau} {π π' : Env}, ER g B M S τ π → Rp (B ++ M) S v d → bindD p d π = some π' → ∃ τ', bindP p v τ = some τ' ∧ ER g B M S τ' π'
  | .nm i, v, d, τ, π, π', h, r, e => by
    simp only [bindD] at e
    split at e
    · rename_i hi; cases e
      refine ⟨τ.set i (some v), ?_, h.set hi r (fun x z => by cases z) (fun x z => by cases z)⟩
      simp only [bindP]; rw [if_pos (by rw [h.len]; exact hi)]
    · cases e
  | .tup ps, v, d, τ, π, π', h, r, e => by
    simp only [bindD] at e
    split at e
    · obtain ⟨xs, rfl, rl⟩ := r.tup
      obtain ⟨τ', e1, h'⟩ := binds_ok ps h rl e
      exact ⟨τ', by simp only [bindP]; exact e1, h'⟩
    · cases e
theorem binds_ok : ∀ (ps : List Pat) {vs : List Val} {ds : List D} {τ : Tau} {π π' : Env}, ER g B M S τ π → RpL (B ++ M) S vs ds → bindDs ps ds π = some π' → ∃ τ', bindPs ps vs τ = some τ' ∧ ER g B M S τ' π'
  | [], vs, ds, τ, π, π', h, r, e => by
    cases r with
    | nil => simp only [bindDs] at e; cases e; exact ⟨τ, rfl, h⟩
    | cons _ _ => simp only [bindDs] at e; cases e
  | p :: ps, vs, ds, τ, π, π', h, r, e => by
    cases r with
    | nil => simp only [bindDs] at e; cases e
    | cons a r =>
      simp only [bindDs] at e
      split at e
      · rename_i π1 e1
        obtain ⟨τ1, q1, h1⟩ := bind_ok p h a e1
        obtain ⟨τ', q2, h2⟩ := binds_ok ps h1 r e
        exact ⟨τ', by simp only [bindPs, q1]; exact q2, h2⟩
      · cases e
end
/-- lists of values -/
inductive VL (g : GC) (B M : List Nat) (b : Nat) (S : Sto) : List Pv → List Val → Prop where
  | nil : VL g B M b S [] []
  | cons {p : Pv} {ps : List Pv} {v : Val} {vs : List Val} : VR g B M b S p v → VL g B M b S ps vs → VL g B M b S (p :: ps) (v :: vs)
theorem VL.kx {ps : List Pv} {vs : List Val} (h : VL g B M b S ps vs) (K : Kx g.cells g.toList S S') (hB : Bd g B M S) : VL g B M b S' ps vs := by
  induction h with
  | nil => exact .nil
  | cons a _ ih => exact .cons (a.kx K hB.gB hB.MB) ih
theorem VL.app {ps qs : List Pv} {vs ws : List Val} (h : VL g B M b S ps vs) (k : VL g B M b S qs ws) : VL g B M b S (ps ++ qs) (vs ++ ws) := by
  induction h with
  | nil => exact k
  | cons a _ ih => exact .cons a ih
theorem VL.nb {ps : List Pv} {vs : List Val} {xs : List D} (h : VL g B M b S ps vs) : mapO nb ps = some xs → RpL (B ++ M) S vs xs := by
  induction h generalizing xs with
  | nil => intro e; cases e; exact .nil
  | cons a _ ih => intro e; obtain ⟨y, ys, rfl, e1, e2⟩ := mapO_cons e; exact .cons (a.nb e1) (ih e2)
theorem VL.lk {ps : List Pv} {vs : List Val} {xs : List D} (h : VL g B M b S ps vs) : mapO lk ps = some xs → LkL (B ++ M) S vs xs := by
  induction h generalizing xs with
  | nil => intro e; cases e; exact .nil
  | cons a _ ih => intro e; obtain ⟨y, ys, rfl, e1, e2⟩ := mapO_cons e; exact .cons (a.lk e1) (ih e2)
theorem rp_out {A : List Nat} {k : Nat} {d : D} (h : Rp A S (.ref k) d) : k ∉ A := by
  obtain ⟨n, h⟩ := h
  cases n with
  | zero => cases h
  | succ n =>
    simp only [rp] at h
    split at h
    · cases h
    · assumption
theorem VR.out {p : Pv} {x : D} {k : Nat} (h : VR g B M b S p (.ref k)) (e : TQ.lk p = some x) (hB : Bd g B M S) : k ∉ B := by
  cases p with
  | gen => cases e
  | d y f =>
    cases f
    · exact fun z => rp_out h (List.mem_append_left _ z)
    · obtain ⟨_, _, _, e, _, m, _⟩ := h; cases e; exact hB.MB _ m
    · obtain ⟨_, _, _, e, _, m, _⟩ := h; cases e; exact m
theorem VL.out {ps : List Pv} {vs : List Val} {xs : List D} (h : VL g B M b S ps vs) (hB : Bd g B M S) : mapO TQ.lk ps = some xs → ∀ k, .ref k ∈ vs → k ∉ B := by
  induction h generalizing xs with
  | nil => intro _ k z; simp at z
  | cons a _ ih =>
    intro e k z
    obtain ⟨y, ys, rfl, e1, e2⟩ := mapO_cons e
    rcases List.mem_cons.mp z with rfl | z
    · exact a.out e1 hB
    · exact ih e2 k z
/-- what a call hands on -/
def AR (g : GC) (B : List Nat) (S : Sto) : Pv → Val → Prop
  | .gen, v => ∃ k, g.gen = some k ∧ v = .ref k
  | .d x .pl, v => Rp B S v x
  | _, _ => False
inductive AL (g : GC) (B : List Nat) (S : Sto) : List Pv → List Val → Prop where
  | nil : AL g B S [] []
  | cons {p : Pv} {ps : List Pv} {v : Val} {vs : List Val} : AR g B S p v → AL g B S ps vs → AL g B S (p :: ps) (v :: vs)
theorem VL.arg {ps us : List Pv} {vs : List Val} (h : VL g B M b S ps vs) : mapO argP ps = some us → AL g (B ++ M) S us vs := by
  induction h generalizing us with
  | nil => intro e; cases e; exact .nil
  | cons a _ ih =>
    intro e; obtain ⟨y, ys, rfl, e1, e2⟩ := mapO_cons e
    refine .cons ?_ (ih e2)
    rename_i p _ v _ _
    cases p with
    | gen => cases e1; exact a
    | d x f =>
      have e3 : (TQ.nb (.d x f)).map mkP = some y := e1
      rw [Option.map_eq_some_iff] at e3
      obtain ⟨z, e3, rfl⟩ := e3
      exact a.nb e3
theorem AL.at_ {us : List Pv} {vs : List Val} (h : AL g B S us vs) : ∀ {i : Nat} {p : Pv}, us[i]? = some p → ∃ v, vs[i]? = some v ∧ AR g B S p v := by
  induction h with
  | nil => intro i p e; simp at e
  | cons a _ ih => intro i p e; cases i with
    | zero => simp at e; subst e; exact ⟨_, rfl, a⟩
    | succ i => simpa using ih (by simpa using e)
theorem AL.perm {us : List Pv} {vs : List Val} (h : AL g B S us vs) : ∀ {q : List Nat} {us' : List Pv}, mapO (fun i => us[i]?) q = some us' → ∃ vs', mapO (fun i => vs[i]?) q = some vs' ∧ AL g B S us' vs'
  | [], us', e => by cases e; exact ⟨[], rfl, .nil⟩
  | i :: q, us', e => by
    obtain ⟨p, us1, rfl, e1, e2⟩ := mapO_cons e
    obtain ⟨v, e3, a⟩ := h.at_ e1
    obtain ⟨vs1, e4, al⟩ := AL.perm h e2
    exact ⟨v :: vs1, by simp only [mapO, e3, e4], .cons a al⟩
/-- the defs -/
structure CxP (g : GC) (P : PP) (P' : Pr) : Prop where
  own : ∀ q ∈ P'.own, q.2 ∈ g.cells
  gc : ∀ k, g.gen = some k → k ∉ g.cells
  cs : ∀ x d, P.cs x = some d → ∃ v, P'.cs x = some v ∧ ∀ A S, Rp A S v d
  isE : P'.isE = P.isE
  fn : ∀ x us vs B n S, (∀ k, g.gen = some k → k ∈ B) → (∀ k ∈ B, k < S.length) → AL g B S us vs → Gn g S n → Sim ⟨g.gen, []⟩ B g.gen.toList n S (P.fn x us) (P'.fn x vs S) fun d v S' => Rp B S' v d
theorem CxP.inn {P : PP} {P' : Pr} (h : CxP g P P') : CxP g P P'.inn := ⟨h.own, h.gc, h.cs, h.isE, h.fn⟩
mutual
theorem hide_sub {ns C : List Nat} (k : ∀ n ∈ ns, n ∈ C) : ∀ (v : Val), hide C v = v → hide ns v = v
  | .clo j rs, h => by
    simp only [hide] at h ⊢
    by_cases h1 : (rs.any fun r => decide (r ∈ ns)) = true
    · have h2 : (rs.any fun r => decide (r ∈ C)) = true := by
        simp only [List.any_eq_true, decide_eq_true_eq] at h1 ⊢
        obtain ⟨x, hx, hn⟩ := h1
        exact ⟨x, hx, k x hn⟩
      rw [if_pos h2] at h; cases h
    · rw [if_neg h1]
  | .tup xs, h => by
    simp only [hide, Val.tup.injEq] at h ⊢
    exact hideL_sub k xs h
  | .scr xs, h => by
    simp only [hide, Val.scr.injEq] at h ⊢
    exact hideL_sub k xs h
  | .exc c d, h => by
    simp only [hide, Val.exc.injEq, true_and] at h ⊢
    exact hide_sub k d h
  | .non, _ => rfl
  | .bl _, _ => rfl
  | .int _, _ => rfl
  | .str _, _ => rfl
  | .ref _, _ => rfl
  | .edc, _ => rfl
  | .fn _, _ => rfl
  | .dead, _ => rfl
  | .cmark, _ => rfl
theorem hideL_sub {ns C : List Nat} (k : ∀ n ∈ ns, n ∈ C) : ∀ (xs : List Val), hideL C xs = xs → hideL ns xs = xs
  | [], _ => rfl
  | x :: xs, h => by
    simp only [hideL, List.cons.injEq] at h ⊢
    exact ⟨hide_sub k x h.1, hideL_sub k xs h.2⟩
end
mutual
theorem hide_0 : ∀ (v : Val), hide [] v = v
  | .clo j rs => by simp [hide]
  | .tup xs => by simp only [hide, hideL_0 xs]
  | .scr xs => by simp only [hide, hideL_0 xs]
  | .exc c d => by simp only [hide, hide_0 d]
  | .non => rfl
  | .bl _ => rfl
  | .int _ => rfl
  | .str _ => rfl
  | .ref _ => rfl
  | .edc => rfl
  | .fn _ => rfl
  | .dead => rfl
  | .cmark => rfl
theorem hideL_0 : ∀ (xs : List Val), hideL [] xs = xs
  | [] => rfl
  | x :: xs => by simp only [hideL, hide_0 x, hideL_0 xs]
end
theorem Kx.all {A cl : List Nat} (h : Kx [] A S S') : Kx cl A S S' := ⟨h.1, fun k xs e n _ => h.2 k xs e n (hideL_0 xs)⟩
/-- the frame's cells are brought up to date, or put away -/
theorem sync_kx {C : List Nat} {τ : Tau} : ∀ {own : List (Nat × Nat)} {S : Sto}, (∀ q ∈ own, q.2 ∈ C) → Kx cl C S (sync own τ S) ∧ (sync own τ S).length = S.length
  | [], S, _ => ⟨.refl, rfl⟩
  | (i, n) :: r, S, h => by
    have k := sync_kx (cl := cl) (τ := τ) (own := r) (S := S) fun q hq => h q (List.mem_cons_of_mem _ hq)
    exact ⟨k.1.trans (Kx.set (h (i, n) (by simp)) _) fun j hj => .inl hj, by simp only [sync, List.length_set]; exact k.2⟩
theorem buryN_kx {C : List Nat} : ∀ {ns : List Nat} {S : Sto}, (∀ n ∈ ns, n ∈ C) → Kx cl C S (buryN ns S) ∧ (buryN ns S).length = S.length
  | [], S, _ => ⟨.refl, rfl⟩
  | n :: r, S, h => by
    have k := buryN_kx (cl := cl) (ns := r) (S := S) fun q hq => h q (List.mem_cons_of_mem _ hq)
    exact ⟨k.1.trans (Kx.set (h n (by simp)) _) fun j hj => .inl hj, by simp only [buryN, List.length_set]; exact k.2⟩
theorem bury_kx {C : List Nat} {own : List (Nat × Nat)} {S : Sto} (h : ∀ q ∈ own, q.2 ∈ C) : Kx C C S (bury own S) := by
  unfold bury
  split
  · exact .refl
  · have k1 : Kx C C S (S.map (hideL (own.map (·.2)))) := ⟨by simp, fun k xs e _ p => by rw [List.getElem?_map, e]; simp [hideL_sub (fun n hn => by obtain ⟨q, hq, rfl⟩ := List.mem_map.mp hn; exact h q hq) xs p]⟩
    exact k1.trans (buryN_kx fun n hn => by
      obtain ⟨q, hq, rfl⟩ := List.mem_map.mp hn
      exact h q hq).1 fun j hj => .inl hj
theorem AL.hide {us : List Pv} {vs : List Val} (h : AL g B S us vs) (ns : List Nat) : hideL ns vs = vs := by
  induction h with
  | nil => rfl
  | cons a _ ih =>
    rename_i p _ v _ _
    have : TQ.hide ns v = v := by
      cases p with
      | gen => obtain ⟨k, _, rfl⟩ := a; rfl
      | d x f => cases f
                 · exact Rp.hide a ns
                 · exact a.elim
                 · exact a.elim
    show TQ.hide ns v :: hideL ns _ = _
    rw [this, ih]
theorem AL.kx {A : List Nat} {us : List Pv} {vs : List Val} (h : AL g B S us vs) (K : Kx cl A S S') (hA : ∀ k ∈ A, k ∈ B) : AL g B S' us vs := by
  induction h with
  | nil => exact .nil
  | cons a _ ih =>
    refine .cons ?_ ih
    rename_i p _ v _ _
    cases p with
    | gen => exact a
    | d x f => cases f
               · exact Rp.kx a K hA
               · exact a.elim
               · exact a.elim
structure St (g : GC) (B M : List Nat) (b n : Nat) (S : Sto) (τ : Tau) (π : Env) : Prop where
  hb : b ≤ S.length
  hB : Bd g B M S
  hE : ER g B M S τ π
  hG : Gn g S n
theorem St.kx {n' : Nat} (h : St g B M b n S τ π) (K : Kx g.cells g.toList S S') (hG : Gn g S' n') : St g B M b n' S' τ π := ⟨Nat.le_trans h.hb K.1, h.hB.up K.1, h.hE.kx K h.hB, hG⟩
abbrev RVp (g : GC) (B M : List Nat) (b : Nat) : Pv → Val → Sto → Prop := fun p v S' => VR g B M b S' p v
abbrev RB : Bool → Bool → Sto → Prop := fun x y _ => x = y
theorem out_vr {r : D} {z : R Val} (h : Out (B ++ M) S r z) (hb : b ≤ S.length) (hB : Bd g B M S) : ∃ v S1, z = .ok v S1 ∧ Kx g.cells g.toList S S1 ∧ VR g B M b S1 (mkF r) v ∧ (∀ n, Gn g S n → Gn g S1 n) := by
  rcases h with ⟨v, rfl, r1, e⟩ | ⟨xs, ds, rfl, rfl, rl, _⟩
  · refine ⟨v, S, rfl, .refl, ?_, fun n h => h⟩
    unfold mkF; rw [e]; exact r1
  · refine ⟨_, _, rfl, Kx.app _, ?_, fun n h => h.app _⟩
    refine ⟨S.length, xs, ds, rfl, rfl, fun z => Nat.lt_irrefl _ (hB.BS _ z), fun z => Nat.lt_irrefl _ (hB.MS _ z), hb, by simp, ?_⟩
    refine rl.kx' (cl := []) (A := []) (Kx.app _) (by simp) fun k hk => ?_
    rcases List.mem_cons.mp hk with rfl | hk
    · exact .inr (Nat.le_refl _)
    · exact .inl hk
theorem out_sim {z : R Val} {o : Option D} (h : ∀ r, o = some r → Out (B ++ M) S r z) (hb : b ≤ S.length) (hB : Bd g B M S) (hG : Gn g S n) : Sim g B g.toList n S (pO (o.map mkF)) z (RVp g B M b) := by
  refine .opt fun p e => ?_
  rw [Option.map_eq_some_iff] at e
  obtain ⟨r, e, rfl⟩ := e
  obtain ⟨v, S1, e1, K, vr, gn⟩ := out_vr (h r e) hb hB
  exact ⟨v, S1, e1, K, gn n hG, vr⟩
/-- a value that is handed on -/
theorem pl_sim {z : R Val} {o : Option D} (h : ∀ r, o = some r → ∃ v, z = .ok v S ∧ Rp (B ++ M) S v r) (hG : Gn g S n) : Sim g B g.toList n S (pO (o.map mkP)) z (RVp g B M b) := by
  refine .opt fun p e => ?_
  rw [Option.map_eq_some_iff] at e
  obtain ⟨r, e, rfl⟩ := e
  obtain ⟨v, e1, q⟩ := h r e
  exact ⟨v, S, e1, .refl, hG, q⟩
def Pair (g : GC) (B M : List Nat) (b n : Nat) (S : Sto) (x : PM Pv × PM Bool) (y : E Val × E Bool) : Prop := Sim g B g.toList n S x.1 (y.1 S) (RVp g B M b) ∧ Sim g B g.toList n S x.2 (y.2 S) RB
theorem pdf_sim {m : PM Pv} {e : E Val} (h : Sim g B g.toList n S m (e S) (RVp g B M b)) : Pair g B M b n S (pdf m) (dflt e) := by
  refine ⟨h, ?_⟩
  refine h.bind' fun p v S1 n1 K G1 r => ?_
  refine .opt fun c e => ?_
  rw [Option.bind_eq_some_iff] at e
  obtain ⟨x, e1, e2⟩ := e
  exact ⟨c, S1, by simp only [truthE, truth_ok (r.lk e1) e2, getO], .refl, G1, rfl⟩
theorem pbo_sim {m : PM Bool} {e : E Bool} (h : Sim g B g.toList n S m (e S) RB) : Pair g B M b n S (pbo m) (both e) := by
  refine ⟨?_, h⟩
  refine h.bind' fun p v S1 n1 K G1 r => ?_
  cases r
  exact .ret0 G1 ⟨1, rfl⟩
/-! what is walked -/
def SrcR (B A M : List Nat) (S : Sto) (c : Src) (xs : List D) : Prop := ∀ cl S' M', Kx cl A S S' → (∀ k ∈ M', k ∈ M ∨ S.length ≤ k) → c.len S' = some xs.length ∧ ∀ i x, xs[i]? = some x → ∃ v, c.get S' i = some v ∧ Rp (B ++ M') S' v x
theorem up_mem {M' : List Nat} (h : ∀ k ∈ M', k ∈ M ∨ S.length ≤ k) : ∀ k ∈ B ++ M', k ∈ B ++ M ∨ S.length ≤ k := fun k hk => by
  rcases List.mem_append.mp hk with hk | hk
  · exact .inl (List.mem_append_left _ hk)
  · exact (h k hk).imp (List.mem_append_right _) id
theorem src_mk {A : List Nat} {k : SrcK} {vs : List Val} {ds xs : List D} (h : LkL (B ++ M) S vs ds) (hA : ∀ k ∈ A, k ∈ B ++ M) (hN : ∀ k, .ref k ∈ vs → k ∉ A) (e : srcD k ds = some xs) : ∃ c, mkSrc k vs = some c ∧ SrcR B A M S c xs := by
  have hin : ∀ (a : Int) (n : Nat) (S1 : Sto) (M' : List Nat) (i : Nat) (x : D), ((List.range n).map fun (i : Nat) => PyData.int (a + (i : Int)))[i]? = some x → ∃ v, some (Val.int (a + (i : Int))) = some v ∧ Rp (B ++ M') S1 v x := by
    intro a n S1 M' i x e
    simp only [List.getElem?_map, Option.map_eq_some_iff] at e
    obtain ⟨j, e, rfl⟩ := e
    have : i = j := by
      rw [List.getElem?_eq_some_iff] at e; obtain ⟨hi, e⟩ := e; simpa using e
    subst this
    exact ⟨_, rfl, 1, rfl⟩
  unfold srcD at e
  split at e
  · cases h with | cons a h =>
    cases h
    unfold seqD at e
    split at e
    · cases e
      obtain ⟨j, ys, rfl, e1, ra⟩ := a.l
      refine ⟨.lst (.ref j), rfl, fun _ S1 M' K hM => ?_⟩
      have e2 := K.get e1 (hN j (by simp)) ra.pn
      have r2 := ra.kx' K hA (up_mem hM)
      refine ⟨by simp only [Src.len, itemsOf, e2, Option.map_some, r2.len], fun i x ex => ?_⟩
      obtain ⟨v, e3, q⟩ := r2.at_ ex
      exact ⟨v, by simp only [Src.get, itemsOf, e2, Option.bind_some, e3], q⟩
    · cases e
      obtain ⟨ys, rfl, ra⟩ := a.t
      refine ⟨.tup ys, rfl, fun _ S1 M' K hM => ?_⟩
      have r2 := ra.kx' K hA (up_mem hM)
      refine ⟨by simp only [Src.len, r2.len], fun i x ex => ?_⟩
      obtain ⟨v, e3, q⟩ := r2.at_ ex
      exact ⟨v, by simp only [Src.get, e3], q⟩
    · cases e
  · cases h with | cons a h =>
    cases h; cases a.i
    split at e
    · rename_i hq; cases e
      rename_i n0
      refine ⟨.rng 0 n0.toNat, by simp only [mkSrc, mkRng, hq, if_true], fun _ S1 M' K hM => ⟨by simp [Src.len], fun i x ex => hin _ _ _ _ _ _ ex⟩⟩
    · cases e
  · cases h with | cons a h => cases h with | cons a' h =>
    cases h; cases a.i; cases a'.i
    split at e
    · rename_i hq; cases e
      rename_i a0 b0
      refine ⟨.rng a0 (b0 - a0).toNat, by simp only [mkSrc, mkRng, hq, if_true], fun _ S1 M' K hM => ⟨by simp [Src.len], fun i x ex => hin _ _ _ _ _ _ ex⟩⟩
    · cases e
  · cases h with | cons a h =>
    cases h
    rename_i zs
    cases e
    obtain ⟨j, ys, rfl, e1, ra⟩ := a.l
    refine ⟨.enm (.ref j), rfl, fun _ S1 M' K hM => ?_⟩
    have e2 := K.get e1 (hN j (by simp)) ra.pn
    have r2 := ra.kx' K hA (up_mem hM)
    refine ⟨by simp only [Src.len, itemsOf, e2, Option.map_some, r2.len]; simp, fun i x ex => ?_⟩
    simp only [List.getElem?_map, Option.map_eq_some_iff] at ex
    obtain ⟨⟨u, w⟩, ex, rfl⟩ := ex
    rw [List.getElem?_zip_eq_some] at ex
    obtain ⟨v, e3, q⟩ := r2.at_ ex.1
    have : i = w := by have := ex.2; rw [List.getElem?_eq_some_iff] at this; obtain ⟨_, e⟩ := this; simpa using e
    subst this
    exact ⟨.tup [.int (i : Int), v], by simp only [Src.get, itemsOf, e2, Option.bind_some, e3, Option.map_some], Rp.mkT (.cons ⟨1, rfl⟩ (.cons q .nil))⟩
  · cases h with | cons a h => cases h with | cons a' h =>
    cases h; cases e
    obtain ⟨j, ys, rfl, e1, ra⟩ := a.l
    obtain ⟨j', ys', rfl, e1', ra'⟩ := a'.l
    refine ⟨.zip false (.ref j) (.ref j'), rfl, fun _ S1 M' K hM => ?_⟩
    have e2 := K.get e1 (hN j (by simp)) ra.pn
    have e2' := K.get e1' (hN j' (by simp)) ra'.pn
    have r2 := ra.kx' K hA (up_mem hM)
    have r2' := ra'.kx' K hA (up_mem hM)
    refine ⟨by simp [Src.len, itemsOf, e2, e2', r2.len, r2'.len], fun i x ex => ?_⟩
    simp only [List.getElem?_map, Option.map_eq_some_iff] at ex
    obtain ⟨⟨u, w⟩, ex, rfl⟩ := ex
    rw [List.getElem?_zip_eq_some] at ex
    obtain ⟨v, e3, q⟩ := r2.at_ ex.1
    obtain ⟨v', e3', q'⟩ := r2'.at_ ex.2
    exact ⟨_, by simp only [Src.get, itemsOf, e2, e2', Option.bind_some, e3, e3'], Rp.mkT (.cons q (.cons q' .nil))⟩
  · cases h with | cons a h => cases h with | cons a' h =>
    cases h
    split at e
    · rename_i hl; cases e
      obtain ⟨j, ys, rfl, e1, ra⟩ := a.l
      obtain ⟨j', ys', rfl, e1', ra'⟩ := a'.l
      refine ⟨.zip true (.ref j) (.ref j'), rfl, fun _ S1 M' K hM => ?_⟩
      have e2 := K.get e1 (hN j (by simp)) ra.pn
      have e2' := K.get e1' (hN j' (by simp)) ra'.pn
      have r2 := ra.kx' K hA (up_mem hM)
      have r2' := ra'.kx' K hA (up_mem hM)
      refine ⟨by simp [Src.len, itemsOf, e2, e2', r2.len, r2'.len, hl], fun i x ex => ?_⟩
      simp only [List.getElem?_map, Option.map_eq_some_iff] at ex
      obtain ⟨⟨u, w⟩, ex, rfl⟩ := ex
      rw [List.getElem?_zip_eq_some] at ex
      obtain ⟨v, e3, q⟩ := r2.at_ ex.1
      obtain ⟨v', e3', q'⟩ := r2'.at_ ex.2
      exact ⟨_, by simp only [Src.get, itemsOf, e2, e2', Option.bind_some, e3, e3'], Rp.mkT (.cons q (.cons q' .nil))⟩
    · cases e
  · cases e
/-! comprehensions -/
def RO (B M : List Nat) : Option D → Option Val → Sto → Prop := fun o o' S => match o, o' with
  | none, none => True
  | some d, some v => Rp (B ++ M) S v d
  | _, _ => False
theorem comp_sim {c : Src} {xs : List D} {ps : D → PM (Option D)} {es : Val → E (Option Val)} (hB : Bd g B M S) (hc : SrcR B g.toList M S c xs)
    (hs : ∀ S1 n1 d v, Kx g.cells g.toList S S1 → Gn g S1 n1 → Rp (B ++ M) S1 v d → Sim g B g.toList n1 S1 (ps d) (es v S1) (RO B M)) :
    ∀ (k : Nat) (ys : List D) (S1 : Sto) (n1 : Nat), ys = xs.drop (xs.length - k) → k ≤ xs.length → Kx g.cells g.toList S S1 → Gn g S1 n1 → Sim g B g.toList n1 S1 (compP ps ys) (compE c xs.length es k S1) fun ds vs S' => RpL (B ++ M) S' vs ds
  | 0, ys, S1, n1, e, _, K, G => by
    have : ys = [] := by rw [e]; simp
    subst this
    unfold compE
    rw [if_pos (hc _ S1 M K fun k hk => .inl hk).1]
    exact .ret0 G .nil
  | k + 1, ys, S1, n1, e, hk, K, G => by
    have hlt : xs.length - (k + 1) < xs.length := by omega
    have : ys = xs[xs.length - (k + 1)] :: xs.drop (xs.length - k) := by
      rw [e, List.drop_eq_getElem_cons hlt]; congr 2; omega
    subst this
    unfold compE
    rw [if_pos (hc _ S1 M K fun k hk => .inl hk).1]
    obtain ⟨v, e1, r⟩ := (hc _ S1 M K fun k hk => .inl hk).2 _ _ (List.getElem?_eq_getElem hlt)
    rw [e1]
    simp only [compP]
    refine (hs S1 n1 _ v K G r).bind' fun o o' S2 n2 K2 G2 ro => ?_
    refine (comp_sim hB hc hs k _ S2 n2 rfl (by omega) (K.trans K2 fun j hj => .inl hj) G2).bind' fun ds vs S3 n3 K3 G3 rl => ?_
    refine .ret0 G3 ?_
    cases o with
    | none => cases o' with
      | none => exact rl
      | some _ => exact ro.elim
    | some d => cases o' with
      | none => exact ro.elim
      | some w => exact .cons (Rp.kx ro K3 fun k hk => List.mem_append_left _ (hB.gB k hk)) rl
theorem quiet_sim {α β : Type} {A : List Nat} {m : PM α} {e : E β} {Rl : α → β → Sto → Prop} (h : Sim g B A n S m (e S) Rl) : Sim g B A n S (quietP m) (quietE e S) Rl := by
  intro Q X z
  have := h Q (fun _ _ _ => False) (fun s => by
    have := z s
    unfold quietP at this
    cases hm : m ⟨s, n⟩ with
    | ok a o => rw [hm] at this; exact this
    | exc c d o => rw [hm] at this; exact this.elim
    | bad => rw [hm] at this; exact this.elim)
  unfold quietE
  cases he : e S with
  | ok v S' => rw [he] at this; exact this
  | exc c v S' => rw [he] at this; obtain ⟨_, _, _, _, _, f⟩ := this; exact (f fun _ => 0).elim
  | bad => rw [he] at this; exact this.elim
theorem lst_sim {ds : List D} {vs : List Val} (r : RpL (B ++ M) S vs ds) (hb : b ≤ S.length) (hB : Bd g B M S) (hG : Gn g S n) : Sim g B g.toList n S (lstP ds) (alloc vs S) (RVp g B M b) := by
  unfold lstP
  by_cases h : lineOk ds.length = true
  · rw [if_pos h]
    obtain ⟨v, S1, e1, K, vr, gn⟩ := out_vr (b := b) (Out.lst r h) hb hB
    rw [e1]
    exact .ret (gn n hG) K vr
  · rw [if_neg h]; exact .bad
theorem tup_sim {ds : List D} {vs : List Val} (r : RpL (B ++ M) S vs ds) (hb : b ≤ S.length) (hB : Bd g B M S) (hG : Gn g S n) : Sim g B g.toList n S (tupP ds) (mkTup vs S) (RVp g B M b) := by
  unfold tupP
  by_cases h : lineOk ds.length = true
  · rw [if_pos h]
    obtain ⟨v, S1, e1, K, vr, gn⟩ := out_vr (b := b) (Out.tup r h) hb hB
    rw [e1]
    exact .ret (gn n hG) K vr
  · rw [if_neg h]; exact .bad
theorem lk2 {p q : Pv} {v w : Val} {α : Type} {f : D → D → Option α} {r : α} (e : ((lk p).bind fun x => (lk q).bind fun y => f x y) = some r) : ∃ x y, lk p = some x ∧ lk q = some y ∧ f x y = some r := by
  rw [Option.bind_eq_some_iff] at e; obtain ⟨x, e1, e⟩ := e
  rw [Option.bind_eq_some_iff] at e; obtain ⟨y, e2, e⟩ := e
  exact ⟨x, y, e1, e2, e⟩
theorem cmp_sim {o : Cm} {p q : Pv} {v w : Val} (r1 : VR g B M b S p v) (r2 : VR g B M b S q w) (hG : Gn g S n) : Sim g B g.toList n S (cmpP o p q) (cmp2 o v w S) RB := by
  refine .opt fun c e => ?_
  obtain ⟨x, y, e1, e2, e⟩ := lk2 (v := v) (w := w) e
  exact ⟨c, S, by simp only [cmp2, cmp_ok (r1.lk e1) (r2.lk e2) e, getO], .refl, hG, rfl⟩
theorem call_sim {P : PP} {P' : Pr} (C : CxP g P P') (st : St g B M b n S τ π) {f : Str} {us : List Pv} {vs : List Val} (al : AL g (B ++ M) S us vs) : Sim g B g.toList n S ((P.fn f us).bind fun d => PM.pure (mkP d)) (callE P' τ vs (P'.fn f) S) (RVp g B M b) := by
  have hc : ∀ k ∈ g.cells, k ∈ B ++ M := fun k hk => List.mem_append_left _ (st.hB.gB k (List.mem_append_right _ hk))
  have hpre : ∃ S1, Kx g.cells g.cells S S1 ∧ callE P' τ vs (P'.fn f) S = P'.fn f vs S1 := by
    unfold callE
    by_cases hb : P'.blk = true
    · rw [if_pos hb]
      refine ⟨bury P'.own S, bury_kx C.own, ?_⟩
      have : hideA P'.own vs = vs := by
        unfold hideA
        split
        · rfl
        · exact al.hide _
      rw [this]
    · rw [if_neg hb]
      exact ⟨sync P'.own τ S, (sync_kx C.own).1, rfl⟩
  obtain ⟨S1, K1, e1⟩ := hpre
  rw [e1]
  have h := C.fn f us vs (B ++ M) n S1 (fun k hk => List.mem_append_left _ (st.hB.gB k (GC.gm hk))) (fun k hk => Nat.lt_of_lt_of_le ((List.mem_append.mp hk).elim (st.hB.BS k) (st.hB.MS k)) K1.1) (al.kx K1 hc) (st.hG.kx K1 C.gc)
  have up : ∀ {S2 : Sto}, Kx [] g.gen.toList S1 S2 → Kx g.cells g.toList S S2 := fun K2 => (K1.mono (fun j hj => List.mem_append_right _ hj)).trans K2.all fun j hj => .inl (List.mem_append_left _ hj)
  intro Q X z
  have key := h (fun d o => Q (mkP d) o) X (fun s => by have := okx_bind.mp (z s); exact this)
  cases hr : P'.fn f vs S1 with
  | ok v S' => rw [hr] at key; obtain ⟨d, n', K, G, r, q⟩ := key; exact ⟨mkP d, n', up K, G, r, q⟩
  | exc c v S' => rw [hr] at key; obtain ⟨d, n', K, G, r, q⟩ := key; exact ⟨d, n', up K, G, r.sub fun j hj => List.mem_append_left _ hj, q⟩
  | bad => rw [hr] at key; exact key
mutual
theorem snd_e : ∀ (e : Ex) {P : PP} {P' : Pr} {n : Nat} {S : Sto} {τ : Tau} {π : Env}, CxP g P P' → St g B M b n S τ π → Pair g B M b n S (pvv P π e) (evv P' τ e)
  | .cst c, P, P', n, S, τ, π, C, st => by
    simp only [pvv, evv]
    exact pdf_sim (.ret0 st.hG ⟨1, by cases c <;> rfl⟩)
  | .var i, P, P', n, S, τ, π, C, st => by
    simp only [pvv, evv]
    refine pdf_sim (.opt fun p e => ?_)
    have e' : π[i]? = some (some p) := by
      cases h : π[i]? with
      | none => rw [h] at e; cases e
      | some o => rw [h] at e; simp at e; rw [e]
    obtain ⟨v, e1, r, q⟩ := st.hE.slot i p e'
    refine ⟨v, S, by simp [rdV, e1, getO], .refl, st.hG, ?_⟩
    cases p with
    | gen => exact r
    | d x f => cases f
               · exact r
               · exact r
               · exact (q x rfl).elim
  | .glb x, P, P', n, S, τ, π, C, st => by
    simp only [pvv, evv]
    refine pdf_sim (.opt fun p e => ?_)
    rw [Option.map_eq_some_iff] at e
    obtain ⟨d, e, rfl⟩ := e
    obtain ⟨v, e1, q⟩ := C.cs x d e
    exact ⟨v, S, by simp [e1, getO], .refl, st.hG, q _ _⟩
  | .bin o a b', P, P', n, S, τ, π, C, st => by
    simp only [pvv, evv]
    refine pdf_sim ((snd_e a C st).1.bind' fun p v S1 n1 K1 G1 r1 => ?_)
    refine (snd_e b' C (st.kx K1 G1)).1.bind' fun q w S2 n2 K2 G2 r2 => ?_
    have st2 := (st.kx K1 G1).kx K2 G2
    refine out_sim (fun r e => ?_) st2.hb st2.hB G2
    obtain ⟨x, y, e1, e2, e⟩ := lk2 (v := v) (w := w) e
    exact op2_ok ((r1.kx K2 st.hB.gB st.hB.MB).lk e1) (r2.lk e2) e
  | .neg a, P, P', n, S, τ, π, C, st => by
    simp only [pvv, evv]
    refine pdf_sim ((snd_e a C st).1.bind' fun p v S1 n1 K1 G1 r1 => ?_)
    have st1 := st.kx K1 G1
    refine out_sim (fun r e => ?_) st1.hb st1.hB G1
    rw [Option.bind_eq_some_iff] at e; obtain ⟨x, e1, e⟩ := e
    split at e
    · cases e; cases (r1.lk e1).i; exact Out.int
    · cases e
  | .nt a, P, P', n, S, τ, π, C, st => by
    simp only [pvv, evv]
    refine pbo_sim ((snd_e a C st).2.bind' fun p v S1 n1 K1 G1 r1 => ?_)
    cases r1
    exact .ret0 G1 rfl
  | .and a b', P, P', n, S, τ, π, C, st => by
    simp only [pvv, evv]
    refine ⟨(snd_e a C st).1.bind' fun p v S1 n1 K1 G1 r1 => ?_, (snd_e a C st).2.bind' fun p v S1 n1 K1 G1 r1 => ?_⟩
    · have st1 := st.kx K1 G1
      cases p with
      | gen => exact .bad
      | d x f =>
        cases x <;> first | exact .bad | skip
        rename_i c
        cases (r1.lk rfl).b
        cases c
        · exact .ret0 (p := mkP (.bool false)) G1 ⟨1, rfl⟩
        · exact (snd_e b' C st1).1
    · cases r1
      cases p
      · exact .ret0 G1 rfl
      · exact (snd_e b' C (st.kx K1 G1)).2
  | .or a b', P, P', n, S, τ, π, C, st => by
    simp only [pvv, evv]
    refine ⟨(snd_e a C st).1.bind' fun p v S1 n1 K1 G1 r1 => ?_, (snd_e a C st).2.bind' fun p v S1 n1 K1 G1 r1 => ?_⟩
    · have st1 := st.kx K1 G1
      cases p with
      | gen => exact .bad
      | d x f =>
        cases x <;> first | exact .bad | skip
        rename_i c
        cases (r1.lk rfl).b
        cases c
        · exact (snd_e b' C st1).1
        · exact .ret0 (p := mkP (.bool true)) G1 ⟨1, rfl⟩
    · cases r1
      cases p
      · exact (snd_e b' C (st.kx K1 G1)).2
      · exact .ret0 G1 rfl
  | .ife c a b', P, P', n, S, τ, π, C, st => by
    simp only [pvv, evv]
    refine pdf_sim ((snd_e c C st).2.bind' fun p v S1 n1 K1 G1 r1 => ?_)
    cases r1
    cases p
    · exact (snd_e b' C (st.kx K1 G1)).1
    · exact (snd_e a C (st.kx K1 G1)).1
  | .cmp o a b', P, P', n, S, τ, π, C, st => by
    simp only [pvv, evv]
    refine pbo_sim ((snd_e a C st).1.bind' fun p v S1 n1 K1 G1 r1 => ?_)
    refine (snd_e b' C (st.kx K1 G1)).1.bind' fun q w S2 n2 K2 G2 r2 => ?_
    exact cmp_sim (r1.kx K2 st.hB.gB st.hB.MB) r2 G2
  | .chn o1 o2 a b' c, P, P', n, S, τ, π, C, st => by
    simp only [pvv, evv]
    refine pbo_sim ((snd_e a C st).1.bind' fun p v S1 n1 K1 G1 r1 => ?_)
    refine (snd_e b' C (st.kx K1 G1)).1.bind' fun q w S2 n2 K2 G2 r2 => ?_
    refine (cmp_sim (r1.kx K2 st.hB.gB st.hB.MB) r2 G2).bind' fun k k' S3 n3 K3 G3 r3 => ?_
    cases r3
    have st3 := ((st.kx K1 G1).kx K2 G2).kx K3 G3
    cases k
    · exact .ret0 G3 rfl
    · refine (snd_e c C st3).1.bind' fun z u S4 n4 K4 G4 r4 => ?_
      exact cmp_sim ((r2.kx K3 st.hB.gB st.hB.MB).kx K4 st.hB.gB st.hB.MB) r4 G4
  | .lst es, P, P', n, S, τ, π, C, st => by
    simp only [pvv, evv]
    refine pdf_sim ((snd_as es C st).bind' fun ps vs S1 n1 K1 G1 r1 => ?_)
    have st1 := st.kx K1 G1
    exact .left fun ds e => lst_sim (r1.nb e) st1.hb st1.hB G1
  | .tup es, P, P', n, S, τ, π, C, st => by
    simp only [pvv, evv]
    refine pdf_sim ((snd_as es C st).bind' fun ps vs S1 n1 K1 G1 r1 => ?_)
    have st1 := st.kx K1 G1
    exact .left fun ds e => tup_sim (r1.nb e) st1.hb st1.hB G1
  | .edc, P, P', n, S, τ, π, C, st => by
    simp only [pvv, evv]
    exact pdf_sim (.ret0 st.hG ⟨1, rfl⟩)
  | .call f es, P, P', n, S, τ, π, C, st => by
    simp only [pvv, evv]
    refine pdf_sim ((snd_as es C st).bind' fun ps vs S1 n1 K1 G1 r1 => ?_)
    exact .left fun us e => call_sim C (st.kx K1 G1) (r1.arg e)
  | .callK f as bs q, P, P', n, S, τ, π, C, st => by
    simp only [pvv, evv]
    refine pdf_sim ((snd_as as C st).bind' fun ps vs S1 n1 K1 G1 r1 => ?_)
    refine (snd_as bs C (st.kx K1 G1)).bind' fun qs ws S2 n2 K2 G2 r2 => ?_
    refine .left fun us e => .left fun us' e' => ?_
    obtain ⟨vs', e3, al⟩ := (((r1.kx K2 (st.kx K1 G1).hB).app r2).arg e).perm e'
    have h := call_sim C ((st.kx K1 G1).kx K2 G2) (f := f) al
    have : ((getO (mapO (fun i => (vs ++ ws)[i]?) q)).bind fun vs => callE P' τ vs (P'.fn f)) S2 = callE P' τ vs' (P'.fn f) S2 := by rw [e3]; rfl
    rw [this]
    exact h
  | .cval f es, P, P', n, S, τ, π, C, st => by
    simp only [pvv, evv]
    exact pdf_sim .bad
  | .bif f es, P, P', n, S, τ, π, C, st => by
    simp only [pvv, evv]
    refine pdf_sim ((snd_as es C st).bind' fun ps vs S1 n1 K1 G1 r1 => ?_)
    have st1 := st.kx K1 G1
    refine out_sim (fun r e => ?_) st1.hb st1.hB G1
    rw [Option.bind_eq_some_iff] at e; obtain ⟨ds, e1, e⟩ := e
    exact bi_okD (r1.lk e1) e
  | .isi a T, P, P', n, S, τ, π, C, st => by
    simp only [pvv, evv]
    refine pdf_sim ((snd_e a C st).1.bind' fun p v S1 n1 K1 G1 r1 => ?_)
    refine .opt fun q e => ?_
    rw [Option.map_eq_some_iff] at e; obtain ⟨c, e, rfl⟩ := e
    rw [Option.bind_eq_some_iff] at e; obtain ⟨d, e1, e⟩ := e
    exact ⟨.bl c, S1, by simp only [isiE, isi_ok C.isE (r1.lk e1) e], .refl, G1, 1, rfl⟩
  | .mth m o es, P, P', n, S, τ, π, C, st => by
    simp only [pvv, evv]
    refine pdf_sim ((snd_e o C st).1.bind' fun p v S1 n1 K1 G1 r1 => ?_)
    refine .left fun u ec => ?_
    rw [Option.bind_eq_some_iff] at ec; obtain ⟨x, e1, ec⟩ := ec
    have hck := ck_okD (r1.lk e1) (by cases u; exact ec)
    have : ((ckM m v).bind fun _ => (evAs P' τ es).bind (mthE m v)) S1 = ((evAs P' τ es).bind (mthE m v)) S1 := by unfold E.bind; rw [hck]
    rw [this]
    refine (snd_as es C (st.kx K1 G1)).bind' fun ps vs S2 n2 K2 G2 r2 => ?_
    refine pl_sim (fun r e => ?_) G2
    rw [Option.bind_eq_some_iff] at e; obtain ⟨d, e1, e⟩ := e
    rw [Option.bind_eq_some_iff] at e; obtain ⟨ds, e2, e⟩ := e
    exact (mth_okD ((r1.kx K2 st.hB.gB st.hB.MB).lk e1) (r2.lk e2) e).2
  | .fld a f, P, P', n, S, τ, π, C, st => by
    simp only [pvv, evv]
    exact pdf_sim .bad
  | .ix a i, P, P', n, S, τ, π, C, st => by
    simp only [pvv, evv]
    refine pdf_sim ((snd_e a C st).1.bind' fun p v S1 n1 K1 G1 r1 => ?_)
    refine (snd_e i C (st.kx K1 G1)).1.bind' fun q w S2 n2 K2 G2 r2 => ?_
    refine pl_sim (fun r e => ?_) G2
    obtain ⟨x, y, e1, e2, e⟩ := lk2 (v := v) (w := w) e
    exact ix_okD ((r1.kx K2 st.hB.gB st.hB.MB).lk e1) (r2.lk e2) e
  | .sl a lo hi, P, P', n, S, τ, π, C, st => by
    simp only [pvv, evv]
    refine pdf_sim ((snd_e a C st).1.bind' fun p v S1 n1 K1 G1 r1 => ?_)
    refine (snd_op lo C (st.kx K1 G1)).bind' fun l l' S2 n2 K2 G2 r2 => ?_
    cases r2
    refine (snd_op hi C ((st.kx K1 G1).kx K2 G2)).bind' fun h h' S3 n3 K3 G3 r3 => ?_
    cases r3
    have st3 := ((st.kx K1 G1).kx K2 G2).kx K3 G3
    refine out_sim (fun r e => ?_) st3.hb st3.hB G3
    rw [Option.bind_eq_some_iff] at e; obtain ⟨d, e1, e⟩ := e
    exact sl_okD (((r1.kx K2 st.hB.gB st.hB.MB).kx K3 st.hB.gB st.hB.MB).lk e1) e
  | .lam k js, P, P', n, S, τ, π, C, st => by
    simp only [pvv, evv]
    exact pdf_sim .bad
  | .rgl tp es, P, P', n, S, τ, π, C, st => by
    simp only [pvv, evv]
    refine pdf_sim ((snd_as es C st).bind' fun ps vs S1 n1 K1 G1 r1 => ?_)
    have st1 := st.kx K1 G1
    refine out_sim (fun r e => ?_) st1.hb st1.hB G1
    rw [Option.bind_eq_some_iff] at e; obtain ⟨ds, e1, e⟩ := e
    exact rg_okD (r1.lk e1) e
  | .rev a, P, P', n, S, τ, π, C, st => by
    simp only [pvv, evv]
    refine pdf_sim ((snd_e a C st).1.bind' fun p v S1 n1 K1 G1 r1 => ?_)
    have st1 := st.kx K1 G1
    refine out_sim (fun r e => ?_) st1.hb st1.hB G1
    rw [Option.bind_eq_some_iff] at e; obtain ⟨d, e1, e⟩ := e
    exact rev_okD (r1.lk e1) e
  | .lc p k ss ifs e, P, P', n, S, τ, π, C, st => by
    simp only [pvv, evv]
    refine pdf_sim ((snd_as ss C st).bind' fun ps vs S1 n1 K1 G1 r1 => ?_)
    have st1 := st.kx K1 G1
    refine .left fun xs ex => ?_
    rw [Option.bind_eq_some_iff] at ex; obtain ⟨ds, e1, ex⟩ := ex
    obtain ⟨c, e2, hc⟩ := src_mk (A := g.toList) (r1.lk e1) (fun k hk => List.mem_append_left _ (st.hB.gB k hk)) (fun k hk z => r1.out st1.hB e1 k hk (st.hB.gB k z)) ex
    have hl := (hc [] S1 M .refl fun k hk => .inl hk).1
    have : ((getO (mkSrc k vs)).bind fun c => fun S => match c.len S with
        | some n => ((quietE (compE c n (fun d => (getO (bindP p d (wipeT p.slots τ))).bind fun τ' => (evIf P'.inn τ' ifs).bind fun b => if b then (evv P'.inn τ' e).1.bind fun v => E.pure (some v) else E.pure none) n)).bind alloc) S
        | none => .bad) S1 = ((quietE (compE c xs.length (fun d => (getO (bindP p d (wipeT p.slots τ))).bind fun τ' => (evIf P'.inn τ' ifs).bind fun b => if b then (evv P'.inn τ' e).1.bind fun v => E.pure (some v) else E.pure none) xs.length)).bind alloc) S1 := by
      rw [e2]; simp only [getO, E.bind, hl]
    show Sim g B g.toList n1 S1 _ (((getO (mkSrc k vs)).bind fun c => fun S => match c.len S with
        | some n => ((quietE (compE c n (fun d => (getO (bindP p d (wipeT p.slots τ))).bind fun τ' => (evIf P'.inn τ' ifs).bind fun b => if b then (evv P'.inn τ' e).1.bind fun v => E.pure (some v) else E.pure none) n)).bind alloc) S
        | none => .bad) S1) _
    rw [this]
    have hcs := comp_sim (ps := fun d => (pO (bindD p d (wipeE p.slots π))).bind fun τ' => (pIf P τ' ifs).bind fun b => if b then (pvv P τ' e).1.bind fun v => (pO (nb v)).bind fun x => PM.pure (some x) else PM.pure none) (es := fun d => (getO (bindP p d (wipeT p.slots τ))).bind fun τ' => (evIf P'.inn τ' ifs).bind fun b => if b then (evv P'.inn τ' e).1.bind fun v => E.pure (some v) else E.pure none) st1.hB hc (fun S2 n2 d v K2 G2 r2 => by
      have st2 := st1.kx K2 G2
      refine .left fun π' eb => ?_
      obtain ⟨τ', e3, hE⟩ := bind_ok p (st2.hE.wipe p.slots) r2 eb
      have : ((getO (bindP p v (wipeT p.slots τ))).bind fun τ' => (evIf P'.inn τ' ifs).bind fun b => if b then (evv P'.inn τ' e).1.bind fun v => E.pure (some v) else E.pure none) S2 = ((evIf P'.inn τ' ifs).bind fun b => if b then (evv P'.inn τ' e).1.bind fun v => E.pure (some v) else E.pure none) S2 := by rw [e3]; rfl
      rw [this]
      have st3 : St g B M b n2 S2 τ' π' := ⟨st2.hb, st2.hB, hE, G2⟩
      refine (snd_if ifs C.inn st3).bind' fun q q' S4 n4 K4 G4 r4 => ?_
      cases r4
      have st4 := st3.kx K4 G4
      cases q
      · exact .ret0 G4 trivial
      · refine (snd_e e C.inn st4).1.bind' fun u w S5 n5 K5 G5 r5 => ?_
        refine .left fun x ex => .ret0 G5 (r5.nb ex)) xs.length xs S1 n1 (by simp) (Nat.le_refl _) .refl G1
    refine (quiet_sim hcs).bind' fun ds' vs' S2 n2 K2 G2 r2 => ?_
    have st2 := st1.kx K2 G2
    exact lst_sim r2 st2.hb st2.hB G2
theorem snd_op : ∀ (o : Option Ex) {P : PP} {P' : Pr} {n : Nat} {S : Sto} {τ : Tau} {π : Env}, CxP g P P' → St g B M b n S τ π → Sim g B g.toList n S (pOp P π o) (evOp P' τ o S) fun x y _ => x = y
  | none, P, P', n, S, τ, π, C, st => by
    simp only [pOp, evOp]
    exact .ret0 st.hG rfl
  | some e, P, P', n, S, τ, π, C, st => by
    simp only [pOp, evOp]
    refine (snd_e e C st).1.bind' fun p v S1 n1 K1 G1 r1 => ?_
    cases p with
    | gen => exact .bad
    | d x f =>
      cases x <;> first | exact .bad | skip
      cases (r1.lk rfl).i
      exact .ret0 (p := some _) G1 rfl
theorem snd_as : ∀ (es : List Ex) {P : PP} {P' : Pr} {n : Nat} {S : Sto} {τ : Tau} {π : Env}, CxP g P P' → St g B M b n S τ π → Sim g B g.toList n S (pAs P π es) (evAs P' τ es S) fun ps vs S' => VL g B M b S' ps vs
  | [], P, P', n, S, τ, π, C, st => by
    simp only [pAs, evAs]
    exact .ret0 st.hG .nil
  | e :: es, P, P', n, S, τ, π, C, st => by
    simp only [pAs, evAs]
    refine (snd_e e C st).1.bind' fun p v S1 n1 K1 G1 r1 => ?_
    refine (snd_as es C (st.kx K1 G1)).bind' fun ps vs S2 n2 K2 G2 r2 => ?_
    exact .ret0 G2 (.cons (r1.kx K2 st.hB.gB st.hB.MB) r2)
theorem snd_if : ∀ (es : List Ex) {P : PP} {P' : Pr} {n : Nat} {S : Sto} {τ : Tau} {π : Env}, CxP g P P' → St g B M b n S τ π → Sim g B g.toList n S (pIf P π es) (evIf P' τ es S) RB
  | [], P, P', n, S, τ, π, C, st => by
    simp only [pIf, evIf]
    exact .ret0 st.hG rfl
  | e :: es, P, P', n, S, τ, π, C, st => by
    simp only [pIf, evIf]
    refine (snd_e e C st).2.bind' fun p v S1 n1 K1 G1 r1 => ?_
    cases r1
    cases p
    · exact .ret0 G1 rfl
    · exact snd_if es C (st.kx K1 G1)
end
end TQ
/-! TQ64: statements: the data's evaluator is right. -/
namespace TQ
open PySem L2
variable {g : GC} {B M : List Nat} {b n : Nat} {S S' : Sto} {τ : Tau} {π : Env}
theorem Sim.wide {α β : Type} {A A2 : List Nat} {m : PM α} {r : R β} {Rl : α → β → Sto → Prop} (h : Sim g B A n S m r Rl) (k : ∀ j ∈ A, j ∈ A2) : Sim g B A2 n S m r fun p v S' => Rl p v S' ∧ Kx g.cells A S S' := by
  intro Q X z
  have := h Q X z
  cases r with
  | ok v S' => obtain ⟨p, n', K, G, rl, q⟩ := this; exact ⟨p, n', K.mono k, G, ⟨rl, K⟩, q⟩
  | exc c v S' => obtain ⟨p, n', K, G, rl, q⟩ := this; exact ⟨p, n', K.mono k, G, rl, q⟩
  | bad => exact this
def FlR (B : List Nat) (S : Sto) : FlP → Fl → Prop
  | .nx, .nx => True
  | .bk, .bk => True
  | .ct, .ct => True
  | .rt d, .rt v => Rp B S v d
  | _, _ => False
def SRl (g : GC) (B M : List Nat) (S : Sto) : FlP × Env → Fl × Tau → Sto → Prop := fun q r S' => ∃ M', (∀ k ∈ M', k ∈ M ∨ S.length ≤ k) ∧ Bd g B M' S' ∧ ER g B M' S' r.2 q.2 ∧ FlR B S' q.1 r.1
theorem SRl.up {M1 : List Nat} {S1 S2 : Sto} {q : FlP × Env} {r : Fl × Tau} (h : SRl g B M1 S1 q r S2) (k : ∀ j ∈ M1, j ∈ M ∨ S.length ≤ j) (l : S.length ≤ S1.length) : SRl g B M S q r S2 := by
  obtain ⟨M', h1, h2⟩ := h
  exact ⟨M', fun j hj => (h1 j hj).elim (k j) (fun z => .inr (Nat.le_trans l z)), h2⟩
/-! slots and their lists -/
theorem ER.sub1 (h : ER g B M S τ π) (hB : Bd g B M S) (i : Nat) : ∃ M', (∀ k ∈ M', k ∈ M) ∧ ER g B M' S τ (π.set i (disO ((π[i]?).getD none))) := by
  have keep : ∀ {o : Option Pv}, π[i]? = some o → disO o = o → ER g B M S τ (π.set i (disO ((π[i]?).getD none))) := by
    intro o e1 e2
    rw [e1]
    show ER g B M S τ (π.set i (disO o))
    rw [e2]
    have : π.set i o = π := by
      apply List.ext_getElem?
      intro j
      by_cases z : i = j
      · subst z; rw [List.getElem?_set_self (List.getElem?_eq_some_iff.mp e1).1, e1]
      · rw [List.getElem?_set_ne z]
    rw [this]; exact h
  cases e : π[i]? with
  | none =>
    refine ⟨M, fun k hk => hk, ?_⟩
    have : π.set i (disO ((none : Option (Option Pv)).getD none)) = π := List.set_eq_of_length_le (by rw [List.getElem?_eq_none_iff] at e; exact e)
    rw [this]; exact h
  | some o =>
    by_cases ho : ∃ x, o = some (.d x .ow)
    · obtain ⟨x, rfl⟩ := ho
      obtain ⟨v, e1, r, _⟩ := h.slot i _ e
      obtain ⟨k, xs, ds, rfl, rfl, hk, e2, rl⟩ := r
      refine ⟨M.filter fun j => decide (j ≠ k), fun j hj => (List.mem_filter.mp hj).1, ?_⟩
      have sub : ∀ j ∈ B ++ M.filter (fun j => decide (j ≠ k)), j ∈ B ++ M := fun j hj => by
        rcases List.mem_append.mp hj with hj | hj
        · exact List.mem_append_left _ hj
        · exact List.mem_append_right _ (List.mem_filter.mp hj).1
      have hl := (List.getElem?_eq_some_iff.mp e).1
      refine ⟨by simp [h.len], fun j p ej => ?_, fun a c x y k' n e1 e2 e3 e4 => ?_⟩
      · rcases set_some ej with ⟨z, ej2, _⟩ | ⟨z, ej⟩
        · subst z
          simp only [Option.getD_some, disO, Option.some.injEq] at ej2
          subst ej2
          refine ⟨_, e1, ?_, fun x z => by cases z⟩
          refine Rp.mkL (fun z => ?_) e2 (rl.sub sub)
          rcases List.mem_append.mp z with z | z
          · exact hB.MB k hk z
          · have := (List.mem_filter.mp z).2; simp at this
        · obtain ⟨w, w1, w2, w3⟩ := h.slot j p ej
          refine ⟨w, w1, ?_, w3⟩
          cases p with
          | gen => exact w2
          | d y f =>
            cases f
            · exact Rp.sub w2 sub
            · obtain ⟨k2, xs2, ds2, rfl, rfl, hk2, f2, rl2⟩ := w2
              refine ⟨k2, xs2, ds2, rfl, rfl, List.mem_filter.mpr ⟨hk2, ?_⟩, f2, rl2.sub sub⟩
              simp only [decide_eq_true_eq]
              intro z; subst z
              exact h.inj i j _ _ k2 z e ej e1 w1
            · exact (w3 y rfl).elim
      · rcases set_some e1 with ⟨_, z, _⟩ | ⟨z1, e1⟩
        · simp [disO] at z
        rcases set_some e2 with ⟨_, z, _⟩ | ⟨z2, e2⟩
        · simp [disO] at z
        exact h.inj a c x y k' n e1 e2 e3 e4
    · refine ⟨M, fun k hk => hk, ?_⟩
      have := keep e (by
        cases o with
        | none => rfl
        | some p => cases p with
          | gen => rfl
          | d x f => cases f
                     · rfl
                     · exact (ho ⟨x, rfl⟩).elim
                     · rfl)
      rw [e] at this; exact this
theorem Bd.sub {M' : List Nat} (h : Bd g B M S) (k : ∀ j ∈ M', j ∈ M) : Bd g B M' S := ⟨h.gB, h.BS, fun j hj => h.MS j (k j hj), fun j hj => h.MB j (k j hj)⟩
theorem ER.dis (h : ER g B M S τ π) (hB : Bd g B M S) : ∀ ps, ∃ M', (∀ k ∈ M', k ∈ M) ∧ ER g B M' S τ (dis ps π)
  | [] => ⟨M, fun k hk => hk, h⟩
  | i :: r => by
    obtain ⟨M1, h1, e1⟩ := ER.dis h hB r
    obtain ⟨M2, h2, e2⟩ := e1.sub1 (hB.sub h1) i
    exact ⟨M2, fun k hk => h1 k (h2 k hk), e2⟩
/-- a new place, that no slot knows -/
theorem ER.own {k : Nat} (h : ER g B M S τ π) (K : Kx g.cells g.toList S S') (hB : Bd g B M S) (hk : S.length ≤ k) : ER g B (k :: M) S' τ π := by
  have h1 : ∀ j ∈ g.toList, j ∈ B ++ M := fun j hj => List.mem_append_left _ (hB.gB j hj)
  have h2 : ∀ j ∈ B ++ k :: M, j ∈ B ++ M ∨ S.length ≤ j := fun j hj => by
    rcases List.mem_append.mp hj with hj | hj
    · exact .inl (List.mem_append_left _ hj)
    · rcases List.mem_cons.mp hj with rfl | hj
      · exact .inr hk
      · exact .inl (List.mem_append_right _ hj)
  refine ⟨h.len, fun i p e => ?_, h.inj⟩
  obtain ⟨v, e1, r, q⟩ := h.slot i p e
  refine ⟨v, e1, ?_, q⟩
  cases p with
  | gen => exact r
  | d y f =>
    cases f
    · exact Rp.kx' r K h1 h2
    · obtain ⟨k2, xs2, ds2, rfl, rfl, hk2, f2, rl2⟩ := r
      exact ⟨k2, xs2, ds2, rfl, rfl, List.mem_cons_of_mem _ hk2, K.get f2 (fun z => hB.MB k2 hk2 (hB.gB _ z)) rl2.pn, rl2.kx' K h1 h2⟩
    · exact (q y rfl).elim
theorem ER.setOw {i k : Nat} {xs : List Val} {ds : List D} (h : ER g B M S τ π) (hi : i < π.length) (hk : k ∈ M) (e : S[k]? = some xs) (r : RpL (B ++ M) S xs ds) (hn : ∀ j x, i ≠ j → π[j]? = some (some (.d x .ow)) → τ[j]? ≠ some (some (.ref k))) : ER g B M S (τ.set i (some (.ref k))) (π.set i (some (.d (.list ds) .ow))) := by
  refine ⟨by simp [h.len], fun j p ej => ?_, fun a c x y k' n e1 e2 e3 e4 => ?_⟩
  · rcases set_some ej with ⟨z, ej, _⟩ | ⟨z, ej⟩
    · cases ej; subst z
      exact ⟨_, List.getElem?_set_self (by rw [h.len]; exact hi), ⟨k, xs, ds, rfl, rfl, hk, e, r⟩, fun x z => by cases z⟩
    · obtain ⟨v, w1, q⟩ := h.slot j p ej; exact ⟨v, by rw [List.getElem?_set_ne z]; exact w1, q⟩
  · rcases set_some e1 with ⟨z, _, _⟩ | ⟨z1, e1⟩
    · subst z
      rw [List.getElem?_set_self (by rw [h.len]; exact hi)] at e3
      cases e3
      rw [List.getElem?_set_ne n] at e2 e4
      exact hn c y n e2 e4
    · rcases set_some e2 with ⟨z, _, _⟩ | ⟨z2, e2⟩
      · subst z
        rw [List.getElem?_set_self (by rw [h.len]; exact hi)] at e4
        cases e4
        rw [List.getElem?_set_ne z1] at e3
        exact hn a x z1 e1 e3
      · rw [List.getElem?_set_ne z1] at e3; rw [List.getElem?_set_ne z2] at e4
        exact h.inj a c x y k' n e1 e2 e3 e4
/-- a slot's own list is changed -/
theorem ER.upd {i k : Nat} {xs : List Val} {ds ds0 : List D} (h : ER g B M S τ π) (hB : Bd g B M S) (ei : π[i]? = some (some (.d (.list ds0) .ow))) (et : τ[i]? = some (some (.ref k))) (hk : k ∈ M) (r : RpL (B ++ M) S xs ds) : ER g B M (S.set k xs) τ (π.set i (some (.d (.list ds) .ow))) := by
  have hi := (List.getElem?_eq_some_iff.mp ei).1
  have K : Kx [] [k] S (S.set k xs) := Kx.set (by simp) _
  have h1 : ∀ j ∈ [k], j ∈ B ++ M := fun j hj => by simp at hj; subst hj; exact List.mem_append_right _ hk
  have hks := hB.MS k hk
  refine ⟨by simp [h.len], fun j p ej => ?_, fun a c x y k' n e1 e2 e3 e4 => ?_⟩
  · rcases set_some ej with ⟨z, ej, _⟩ | ⟨z, ej⟩
    · cases ej; subst z
      exact ⟨_, et, ⟨k, xs, ds, rfl, rfl, hk, List.getElem?_set_self hks, r.kx K h1⟩, fun x z => by cases z⟩
    · obtain ⟨v, w1, w2, w3⟩ := h.slot j p ej
      refine ⟨v, w1, ?_, w3⟩
      cases p with
      | gen => exact w2
      | d y f =>
        cases f
        · exact Rp.kx w2 K h1
        · obtain ⟨k2, xs2, ds2, rfl, rfl, hk2, f2, rl2⟩ := w2
          have : k2 ≠ k := fun zz => by subst zz; exact h.inj i j _ _ k2 z ei ej et w1
          exact ⟨k2, xs2, ds2, rfl, rfl, hk2, by rw [List.getElem?_set_ne (Ne.symm this)]; exact f2, rl2.kx K h1⟩
        · exact (w3 y rfl).elim
  · have f1 : ∃ x, π[a]? = some (some (.d x .ow)) := by
      rcases set_some e1 with ⟨z, _, _⟩ | ⟨_, e1⟩
      · subst z; exact ⟨_, ei⟩
      · exact ⟨x, e1⟩
    have f2 : ∃ x, π[c]? = some (some (.d x .ow)) := by
      rcases set_some e2 with ⟨z, _, _⟩ | ⟨_, e2⟩
      · subst z; exact ⟨_, ei⟩
      · exact ⟨y, e2⟩
    obtain ⟨x1, f1⟩ := f1
    obtain ⟨y1, f2⟩ := f2
    exact h.inj a c x1 y1 k' n f1 f2 e3 e4
/-! setting slots -/
theorem setN_ok {i : Nat} {p : Pv} {v : Val} {π' : Env} (h : ER g B M S τ π) (r : VR g B M b S p v) (e : setN i p π = some π') : i < τ.length ∧ ER g B M S (τ.set i (some v)) π' := by
  unfold setN at e
  split at e
  · rename_i hi
    rw [Option.map_eq_some_iff] at e; obtain ⟨x, e, rfl⟩ := e
    exact ⟨by rw [h.len]; exact hi, h.set hi (p := mkP x) (r.nb e) (fun x z => by cases z) (fun x z => by cases z)⟩
  · cases e
theorem setP_ok {i : Nat} {p : Pv} {v : Val} {π' : Env} (h : ER g B M S τ π) (hB : Bd g B M S) (K : Kx g.cells g.toList S S') (r : VR g B M S.length S' p v) (e : setP i p π = some π') :
    i < τ.length ∧ ∃ M', (∀ k ∈ M', k ∈ M ∨ S.length ≤ k) ∧ Bd g B M' S' ∧ ER g B M' S' (τ.set i (some v)) π' := by
  unfold setP at e
  split at e
  · rename_i hi
    rw [Option.map_eq_some_iff] at e; obtain ⟨x, e, rfl⟩ := e
    refine ⟨by rw [h.len]; exact hi, ?_⟩
    have h' := h.kx K hB
    cases p with
    | gen => cases e; exact ⟨M, fun k hk => .inl hk, hB.up K.1, h'.set hi r (fun x z => by cases z) (fun x z => by cases z)⟩
    | d y f =>
      cases f <;> cases e
      · exact ⟨M, fun k hk => .inl hk, hB.up K.1, h'.set hi r (fun x z => by cases z) (fun x z => by cases z)⟩
      · obtain ⟨k, xs, ds, rfl, rfl, n1, n2, l, e2, rl⟩ := r
        have hl := (List.getElem?_eq_some_iff.mp e2).1
        refine ⟨k :: M, fun j hj => ?_, ⟨hB.gB, (hB.up K.1).BS, fun j hj => ?_, fun j hj => ?_⟩, ?_⟩
        · rcases List.mem_cons.mp hj with rfl | hj
          · exact .inr l
          · exact .inl hj
        · rcases List.mem_cons.mp hj with rfl | hj
          · exact hl
          · exact (hB.up K.1).MS j hj
        · rcases List.mem_cons.mp hj with rfl | hj
          · exact n1
          · exact hB.MB j hj
        · refine (h.own K hB l).setOw hi (by simp) e2 (rl.sub fun j hj => ?_) fun j x nj ej et => ?_
          · rcases List.mem_append.mp hj with hj | hj
            · exact List.mem_cons_of_mem _ (List.mem_append_left _ hj)
            · rcases List.mem_cons.mp hj with rfl | hj
              · simp
              · exact List.mem_cons_of_mem _ (List.mem_append_right _ hj)
          · obtain ⟨v, w1, w2, _⟩ := h.slot j _ ej
            rw [w1] at et; cases et
            obtain ⟨k2, _, _, z, _, hk2, _, _⟩ := w2
            cases z
            exact n2 hk2
  · cases e
abbrev Al (g : GC) (M : List Nat) : List Nat := g.toList ++ M
theorem gAl : ∀ j ∈ g.toList, j ∈ Al g M := fun j hj => List.mem_append_left _ hj
theorem Al.sub {M' : List Nat} (k : ∀ j ∈ M', j ∈ M ∨ S.length ≤ j) : ∀ j ∈ Al g M', j ∈ Al g M ∨ S.length ≤ j := fun j hj => by
  rcases List.mem_append.mp hj with hj | hj
  · exact .inl (List.mem_append_left _ hj)
  · exact (k j hj).imp (List.mem_append_right _) id
/-- the statement's slots give up their lists first -/
theorem dis_sim {m : PM (FlP × Env)} {r : R (Fl × Tau)} {ps : List Nat} (hB : Bd g B M S) (hE : ER g B M S τ π)
    (h : ∀ M', Bd g B M' S → ER g B M' S τ (dis ps π) → Sim g B (Al g M') n S m r (SRl g B M' S)) : Sim g B (Al g M) n S m r (SRl g B M S) := by
  obtain ⟨M', h1, h2⟩ := hE.dis hB ps
  refine ((h M' (hB.sub h1) h2).wide (A2 := Al g M) fun j hj => ?_).mono fun p v S' K q => q.1.up (fun j hj => .inl (h1 j hj)) (Nat.le_refl _)
  rcases List.mem_append.mp hj with hj | hj
  · exact List.mem_append_left _ hj
  · exact List.mem_append_right _ (h1 j hj)
/-- at the end of a statement -/
theorem fin_sim {τ' : Tau} {π' : Env} {f : FlP} {f' : Fl} {S0 : Sto} {M0 : List Nat} (hG : Gn g S n) {M' : List Nat} (h1 : ∀ k ∈ M', k ∈ M0 ∨ S0.length ≤ k) (hB : Bd g B M' S) (hE : ER g B M' S τ' π') (hf : FlR B S f f') : Sim g B (Al g M) n S (PM.pure (f, π')) (E.pure (f', τ') S) (SRl g B M0 S0) := .ret0 hG ⟨M', h1, hB, hE, hf⟩
/-! loops -/
theorem loop_sim {p : Pat} {c : Src} {xs : List D} {pb : PS} {eb : MS} {M0 : List Nat} {S0 : Sto} (hc : SrcR B (Al g M0) M0 S0 c xs)
    (hs : ∀ S1 n1 M1 τ π, Kx g.cells (Al g M0) S0 S1 → (∀ k ∈ M1, k ∈ M0 ∨ S0.length ≤ k) → Bd g B M1 S1 → ER g B M1 S1 τ π → Gn g S1 n1 → Sim g B (Al g M1) n1 S1 (pb π) (eb τ S1) (SRl g B M1 S1)) :
    ∀ (k : Nat) (ys : List D) (S1 : Sto) (n1 : Nat) (M1 : List Nat) (τ : Tau) (π : Env), ys = xs.drop (xs.length - k) → k ≤ xs.length → Kx g.cells (Al g M0) S0 S1 → (∀ k ∈ M1, k ∈ M0 ∨ S0.length ≤ k) → Bd g B M1 S1 → ER g B M1 S1 τ π → Gn g S1 n1 → Sim g B (Al g M1) n1 S1 (loopP p pb ys π) (loopM p eb c xs.length k τ S1) (SRl g B M1 S1)
  | 0, ys, S1, n1, M1, τ, π, e, _, K, hM, hB, hE, G => by
    have : ys = [] := by rw [e]; simp
    subst this
    unfold loopM
    rw [if_pos (hc _ S1 M1 K hM).1]
    exact fin_sim G (fun k hk => .inl hk) hB hE trivial
  | k + 1, ys, S1, n1, M1, τ, π, e, hk, K, hM, hB, hE, G => by
    have hlt : xs.length - (k + 1) < xs.length := by omega
    have : ys = xs[xs.length - (k + 1)] :: xs.drop (xs.length - k) := by
      rw [e, List.drop_eq_getElem_cons hlt]; congr 2; omega
    subst this
    unfold loopM
    rw [if_pos (hc _ S1 M1 K hM).1]
    obtain ⟨v, e1, r⟩ := (hc _ S1 M1 K hM).2 _ _ (List.getElem?_eq_getElem hlt)
    rw [e1]
    simp only [loopP]
    refine .left fun π' eb' => ?_
    obtain ⟨τ', e2, hE'⟩ := bind_ok p hE r eb'
    simp only [e2]
    refine (hs S1 n1 M1 τ' π' K hM hB hE' G).bind fun q r S2 n2 K2 G2 rr => ?_
    obtain ⟨M2, m1, hB2, hE2, hf⟩ := rr
    have hM2 : ∀ k ∈ M2, k ∈ M0 ∨ S0.length ≤ k := fun j hj => (m1 j hj).elim (hM j) (fun z => .inr (Nat.le_trans K.1 z))
    refine ⟨Al g M2, Al.sub m1, ?_⟩
    obtain ⟨f, π2⟩ := q
    obtain ⟨f', τ2⟩ := r
    have K3 : Kx g.cells (Al g M0) S0 S2 := K.trans K2 (Al.sub hM)
    have go : Sim g B (Al g M2) n2 S2 (loopP p pb (xs.drop (xs.length - k)) π2) (loopM p eb c xs.length k τ2 S2) (SRl g B M1 S1) :=
      (loop_sim hc hs k _ S2 n2 M2 τ2 π2 rfl (by omega) K3 hM2 hB2 hE2 G2).mono fun p v S' K q => q.up m1 K2.1
    cases f <;> cases f' <;> first | exact hf.elim | skip
    · exact go
    · exact fin_sim G2 m1 hB2 hE2 trivial
    · exact go
    · exact fin_sim G2 m1 hB2 hE2 hf
theorem while_sim {pc : Env → PM Bool} {ec : Tau → E Bool} {pb : PS} {eb : MS}
    (hcs : ∀ S1 n1 M1 τ π, Bd g B M1 S1 → ER g B M1 S1 τ π → Gn g S1 n1 → Sim g B g.toList n1 S1 (pc π) (ec τ S1) RB)
    (hs : ∀ S1 n1 M1 τ π, Bd g B M1 S1 → ER g B M1 S1 τ π → Gn g S1 n1 → Sim g B (Al g M1) n1 S1 (pb π) (eb τ S1) (SRl g B M1 S1)) :
    ∀ (k k' : Nat) (S1 : Sto) (n1 : Nat) (M1 : List Nat) (τ : Tau) (π : Env), k ≤ k' → Bd g B M1 S1 → ER g B M1 S1 τ π → Gn g S1 n1 → Sim g B (Al g M1) n1 S1 (whileP pc pb k π) (whileM ec eb k' τ S1) (SRl g B M1 S1)
  | 0, _, _, _, _, _, _, _, _, _, _ => .bad
  | k + 1, 0, _, _, _, _, _, h, _, _, _ => by omega
  | k + 1, k' + 1, S1, n1, M1, τ, π, hk, hB, hE, G => by
    simp only [whileP, whileM]
    refine ((hcs S1 n1 M1 τ π hB hE G).wide gAl).bind' fun c c' S2 n2 _ G2 r => ?_
    obtain ⟨r, K2⟩ := r
    cases r
    have hB2 := hB.up K2.1
    have hE2 := hE.kx K2 hB
    cases c
    · exact fin_sim G2 (fun k hk => .inl hk) hB2 hE2 trivial
    · refine (hs S2 n2 M1 τ π hB2 hE2 G2).bind fun q r S3 n3 K3 G3 rr => ?_
      obtain ⟨M2, m1, hB3, hE3, hf⟩ := rr
      refine ⟨Al g M2, Al.sub m1, ?_⟩
      obtain ⟨f, π2⟩ := q
      obtain ⟨f', τ2⟩ := r
      have m2 : ∀ j ∈ M2, j ∈ M1 ∨ S1.length ≤ j := fun j hj => (m1 j hj).imp id (fun z => Nat.le_trans K2.1 z)
      have go : Sim g B (Al g M2) n3 S3 (whileP pc pb k π2) (whileM ec eb k' τ2 S3) (SRl g B M1 S1) :=
        (while_sim hcs hs k k' S3 n3 M2 τ2 π2 (by omega) hB3 hE3 G3).mono fun p v S' K q => q.up m2 (Nat.le_trans K2.1 K3.1)
      cases f <;> cases f' <;> first | exact hf.elim | skip
      · exact go
      · exact fin_sim G3 m2 hB3 hE3 trivial
      · exact go
      · exact fin_sim G3 m2 hB3 hE3 hf
/-- the fuel of a while is enough -/
def FuOk (fp : Env → Nat) (f : Tau → Sto → Nat) : Prop := ∀ g B M S τ π, ER g B M S τ π → fp π ≤ f τ S
mutual
def FOk (fp : Env → Nat) : Sm → Prop
  | .ife _ a b => FOks fp a ∧ FOks fp b
  | .fr _ _ _ b => FOks fp b
  | .whl f _ b => FuOk fp f ∧ FOks fp b
  | _ => True
def FOks (fp : Env → Nat) : List Sm → Prop
  | [] => True
  | s :: r => FOk fp s ∧ FOks fp r
end
theorem slot_at {i : Nat} {p : Pv} (e : (π[i]?).getD none = some p) : π[i]? = some (some p) := by
  cases h : π[i]? with
  | none => rw [h] at e; cases e
  | some o => rw [h] at e; simp at e; rw [e]
theorem RpL.lkl {A : List Nat} {vs : List Val} {ds : List D} (h : RpL A S vs ds) : LkL A S vs ds := by
  induction h with
  | nil => exact .nil
  | cons a _ ih => exact .cons a.lk ih
theorem RpL.out {A : List Nat} {vs : List Val} {ds : List D} (h : RpL A S vs ds) : ∀ k, .ref k ∈ vs → k ∉ A := by
  induction h with
  | nil => intro k z; simp at z
  | cons a _ ih =>
    intro k z
    rcases List.mem_cons.mp z with rfl | z
    · exact rp_out a
    · exact ih k z
theorem bind_okE {α β : Type} {m : E α} {f : α → E β} {a : α} {S S1 : Sto} (h : m S = .ok a S1) : (m.bind f) S = f a S1 := by unfold E.bind; rw [h]
theorem bind_atE {α β : Type} {m m' : E α} {f : α → E β} {S : Sto} (h : m S = m' S) : (m.bind f) S = (m'.bind f) S := by unfold E.bind; rw [h]
theorem ow_at {i : Nat} {u : Unit} (e : owS i π = some u) : ∃ ds, π[i]? = some (some (.d (.list ds) .ow)) := by
  unfold owS at e
  split at e
  · rename_i h; exact ⟨_, slot_at h⟩
  · cases e
mutual
theorem snd_s : ∀ (s : Sm) {P : PP} {P' : Pr} {n : Nat} {M : List Nat} {S : Sto} {τ : Tau} {π : Env}, CxP g P P' → FOk P.fuel s → Bd g B M S → ER g B M S τ π → Gn g S n → Sim g B (Al g M) n S (pxS P s π) (exS P' s τ S) (SRl g B M S)
  | .asg p e, P, P', n, M, S, τ, π, C, F, hB, hE, G => by
    simp only [pxS, exS]
    refine dis_sim (ps := rtV e) hB hE fun M hB hE => ?_
    refine ((snd_e (b := S.length) e C ⟨Nat.le_refl _, hB, hE, G⟩).1.wide gAl).bind' fun q v S1 n1 _ G1 r => ?_
    obtain ⟨r, K⟩ := r
    cases p with
    | nm i =>
      refine .left fun π' e' => ?_
      obtain ⟨hi, M', m1, hB', hE'⟩ := setP_ok hE hB K r e'
      have : ((getO (bindP (.nm i) v τ)).bind fun τ' => E.pure (Fl.nx, τ')) S1 = E.pure (.nx, τ.set i (some v)) S1 := by
        simp only [bindP, hi, if_true, getO, E.bind]
      rw [this]
      exact fin_sim G1 m1 hB' hE' trivial
    | tup ps =>
      refine .left fun π' e' => ?_
      rw [Option.bind_eq_some_iff] at e'; obtain ⟨d, e1, e'⟩ := e'
      obtain ⟨τ', e2, hE'⟩ := bind_ok (.tup ps) (hE.kx K hB) (r.nb e1) e'
      have : ((getO (bindP (.tup ps) v τ)).bind fun τ' => E.pure (Fl.nx, τ')) S1 = E.pure (.nx, τ') S1 := by rw [e2]; rfl
      rw [this]
      exact fin_sim G1 (fun k hk => .inl hk) (hB.up K.1) hE' trivial
  | .par i j a b', P, P', n, M, S, τ, π, C, F, hB, hE, G => by
    simp only [pxS, exS]
    refine dis_sim (ps := rtV a ++ rtV b') hB hE fun M hB hE => ?_
    refine ((snd_e (b := 0) a C ⟨Nat.zero_le _, hB, hE, G⟩).1.wide gAl).bind' fun q v S1 n1 _ G1 r => ?_
    obtain ⟨r1, K1⟩ := r
    have hB1 := hB.up K1.1
    have hE1 := hE.kx K1 hB
    refine ((snd_e (b := 0) b' C ⟨Nat.zero_le _, hB1, hE1, G1⟩).1.wide gAl).bind' fun q2 w S2 n2 _ G2 r => ?_
    obtain ⟨r2, K2⟩ := r
    have hB2 := hB1.up K2.1
    have hE2 := hE1.kx K2 hB1
    refine .left fun π' e' => ?_
    rw [Option.bind_eq_some_iff] at e'; obtain ⟨π1, e1, e2⟩ := e'
    obtain ⟨i1, f1⟩ := setN_ok hE2 (r1.kx K2 hB.gB hB.MB) e1
    obtain ⟨i2, f2⟩ := setN_ok f1 r2 e2
    rw [List.length_set] at i2
    rw [if_pos ⟨i1, i2⟩]
    exact fin_sim G2 (fun k hk => .inl hk) hB2 f2 trivial
  | .par3 i j l a b' c, P, P', n, M, S, τ, π, C, F, hB, hE, G => by
    simp only [pxS, exS]
    refine dis_sim (ps := rtV a ++ rtV b' ++ rtV c) hB hE fun M hB hE => ?_
    refine ((snd_e (b := 0) a C ⟨Nat.zero_le _, hB, hE, G⟩).1.wide gAl).bind' fun q v S1 n1 _ G1 r => ?_
    obtain ⟨r1, K1⟩ := r
    have hB1 := hB.up K1.1
    have hE1 := hE.kx K1 hB
    refine ((snd_e (b := 0) b' C ⟨Nat.zero_le _, hB1, hE1, G1⟩).1.wide gAl).bind' fun q2 w S2 n2 _ G2 r => ?_
    obtain ⟨r2, K2⟩ := r
    have hB2 := hB1.up K2.1
    have hE2 := hE1.kx K2 hB1
    refine ((snd_e (b := 0) c C ⟨Nat.zero_le _, hB2, hE2, G2⟩).1.wide gAl).bind' fun q3 u S3 n3 _ G3 r => ?_
    obtain ⟨r3, K3⟩ := r
    have hB3 := hB2.up K3.1
    have hE3 := hE2.kx K3 hB2
    refine .left fun π' e' => ?_
    rw [Option.bind_eq_some_iff] at e'; obtain ⟨π1, e1, e'⟩ := e'
    rw [Option.bind_eq_some_iff] at e'; obtain ⟨π2, e2, e3⟩ := e'
    obtain ⟨i1, f1⟩ := setN_ok hE3 ((r1.kx K2 hB.gB hB.MB).kx K3 hB.gB hB.MB) e1
    obtain ⟨i2, f2⟩ := setN_ok f1 (r2.kx K3 hB.gB hB.MB) e2
    obtain ⟨i3, f3⟩ := setN_ok f2 r3 e3
    simp only [List.length_set] at i2 i3
    rw [if_pos ⟨i1, i2, i3⟩]
    exact fin_sim G3 (fun k hk => .inl hk) hB3 f3 trivial
  | .aug i o e, P, P', n, M, S, τ, π, C, F, hB, hE, G => by
    simp only [pxS, exS]
    refine .left fun p ep => ?_
    obtain ⟨v, ev', rv, qv⟩ := hE.slot i p (slot_at ep)
    have e0 : ((rdV τ i).bind fun x => (ev P' τ e).bind fun y => (op2 o x y).bind fun v => setSl i v τ) S = ((ev P' τ e).bind fun y => (op2 o v y).bind fun v => setSl i v τ) S := by
      simp only [rdV, ev', Option.getD_some, E.bind, getO]
    rw [e0]
    by_cases hp : ∃ x, p = .d x .pl
    · obtain ⟨x, rfl⟩ := hp
      refine dis_sim (ps := rtV e) hB hE fun M' hB' hE' => ?_
      refine ((snd_e (b := 0) e C ⟨Nat.zero_le _, hB', hE', G⟩).1.wide gAl).bind' fun q w S1 n1 _ G1 r => ?_
      obtain ⟨r, K⟩ := r
      refine .left fun π' e' => ?_
      rw [Option.bind_eq_some_iff] at e'; obtain ⟨a, e1, e'⟩ := e'
      rw [Option.bind_eq_some_iff] at e'; obtain ⟨c, e2, e'⟩ := e'
      rw [Option.bind_eq_some_iff] at e'; obtain ⟨d, e3, e'⟩ := e'
      split at e'
      · rename_i hn
        cases e1
        have rx : Rp (B ++ M') S v x := by
          obtain ⟨M2, m2, er⟩ := hE.dis hB (rtV e)
          have := hE'.slot i (.d x .pl) (by
            have hs := slot_at ep
            have key : ∀ ps, (dis ps π)[i]? = some (some (.d x .pl)) := by
              intro ps
              induction ps with
              | nil => exact hs
              | cons j r ih =>
                show ((dis r π).set j (disO (((dis r π)[j]?).getD none)))[i]? = _
                by_cases z : j = i
                · subst z; rw [List.getElem?_set_self (List.getElem?_eq_some_iff.mp ih).1, ih]; rfl
                · rw [List.getElem?_set_ne z]; exact ih
            exact key _)
          obtain ⟨v2, f1, f2, _⟩ := this
          rw [ev'] at f1; cases f1
          exact f2
        have ho := op2_ok (rx.kx K (fun k hk => List.mem_append_left _ (hB'.gB k hk))).lk (r.nb e2).lk e3
        rcases ho with ⟨z, ez, rz, _⟩ | ⟨_, _, rfl, _⟩
        · have hE1 := hE'.kx K hB'
          obtain ⟨hi, f⟩ := setN_ok (b := 0) (p := mkP d) (v := z) hE1 rz e'
          have : ((op2 o v w).bind fun v => setSl i v τ) S1 = E.pure (.nx, τ.set i (some z)) S1 := by
            simp only [E.bind, ez, setSl, hi, if_true]
          rw [this]
          exact fin_sim G1 (fun k hk => .inl hk) (hB'.up K.1) f trivial
        · cases hn
      · cases e'
    · have : ∀ {f : Pv → D → Option Env} (y : Pv), ((nb p).bind fun a => f y a) = none := by
        intro f y
        cases p with
        | gen => rfl
        | d x f => cases f
                   · exact (hp ⟨x, rfl⟩).elim
                   · rfl
                   · exact (qv x rfl).elim
      have hb : ((pv P (dis (rtV e) π) e).bind fun y => (pO ((nb p).bind fun a => (nb y).bind fun b => (opD o a b).bind fun r => if notL r then setN i (mkP r) (dis (rtV e) π) else none)).bind fun τ' => PM.pure (FlP.nx, τ')) = ((pv P (dis (rtV e) π) e).bind fun y => PM.bad) := by
        congr 1; funext y
        rw [this (f := fun y a => (nb y).bind fun b => (opD o a b).bind fun r => if notL r then setN i (mkP r) (dis (rtV e) π) else none) y]; rfl
      rw [hb]
      refine dis_sim (ps := rtV e) hB hE fun M' hB' hE' => ?_
      refine ((snd_e (b := 0) e C ⟨Nat.zero_le _, hB', hE', G⟩).1.wide gAl).bind' fun q w S1 n1 _ G1 r => .bad
  | .setI o j e, P, P', n, M, S, τ, π, C, F, hB, hE, G => by
    simp only [pxS, exS]
    cases o <;> first | exact .bad | skip
    rename_i i
    refine dis_sim (ps := rtV e) hB hE fun M hB hE => ?_
    refine .left fun u eo => ?_
    obtain ⟨ds0, es⟩ := ow_at eo
    obtain ⟨v0, et, rv, _⟩ := hE.slot i _ es
    obtain ⟨k0, xs0, _, rfl, zz, hk0, _, _⟩ := rv
    cases zz
    refine ((snd_e (b := 0) e C ⟨Nat.zero_le _, hB, hE, G⟩).1.wide gAl).bind' fun q v S1 n1 _ G1 r => ?_
    obtain ⟨r1, K1⟩ := r
    have hB1 := hB.up K1.1
    have hE1 := hE.kx K1 hB
    have : ((ev P' τ (.var i)).bind fun x => (ev P' τ j).bind fun k => (setE x k v).bind fun _ => E.pure (Fl.nx, τ)) S1 = ((ev P' τ j).bind fun k => (setE (.ref k0) k v).bind fun _ => E.pure (Fl.nx, τ)) S1 := by
      simp only [ev, evv, dflt, rdV, et, Option.getD_some, getO, E.bind]
    rw [this]
    refine ((snd_e (b := 0) j C ⟨Nat.zero_le _, hB1, hE1, G1⟩).1.wide gAl).bind' fun q2 w S2 n2 _ G2 r => ?_
    obtain ⟨r2, K2⟩ := r
    have hB2 := hB1.up K2.1
    have hE2 := hE1.kx K2 hB1
    obtain ⟨v3, et3, rv3, _⟩ := hE2.slot i _ es
    rw [et] at et3; cases et3
    obtain ⟨k3, xs3, _, zz, zz2, _, e3, rl3⟩ := rv3
    cases zz; cases zz2
    unfold setIP
    rw [es]
    simp only [Option.getD_some]
    cases hl : lk q2 with
    | none => exact .bad
    | some x2 =>
      cases x2 <;> first | exact .bad | skip
      rename_i kk
      cases hn : nb q with
      | none => exact .bad
      | some x =>
        simp only
        cases hx : L2.ixN ds0.length kk with
        | none => exact .bad
        | some nn =>
          cases (r2.lk hl).i
          have rx := (r1.kx K2 hB.gB hB.MB).nb hn
          have : ((setE (.ref k0) (.int kk) v).bind fun _ => E.pure (Fl.nx, τ)) S2 = .ok (.nx, τ) (S2.set k0 (xs3.set nn v)) := by
            simp only [setE, e3, rl3.len, hx, E.bind, E.pure]
          rw [this]
          have hg : ∀ j, g.gen = some j → j ∉ [k0] := fun j hj z => by simp at z; subst z; exact hB.MB _ hk0 (hB.gB _ (GC.gm hj))
          refine .ret (G2.kx (cl := []) (Kx.set (A := [k0]) (by simp) _) hg) (Kx.set (List.mem_append_right _ hk0) _) ⟨M, fun k hk => .inl hk, hB2.up (by simp), ?_, trivial⟩
          exact hE2.upd hB2 es et hk0 (rl3.set rx nn)
  | .ex e, P, P', n, M, S, τ, π, C, F, hB, hE, G => by
    have plain : Sim g B (Al g M) n S ((pv P (dis (rtV e) π) e).bind fun _ => PM.pure (FlP.nx, dis (rtV e) π)) (exS P' (.ex e) τ S) (SRl g B M S) := by
      simp only [exS]
      refine dis_sim (ps := rtV e) hB hE fun M hB hE => ?_
      refine ((snd_e (b := 0) e C ⟨Nat.zero_le _, hB, hE, G⟩).1.wide gAl).bind' fun q v S1 n1 _ G1 r => ?_
      obtain ⟨r1, K1⟩ := r
      exact fin_sim G1 (fun k hk => .inl hk) (hB.up K1.1) (hE.kx K1 hB) trivial
    simp only [pxS]
    split
    · rename_i m i a
      split
      · rename_i hm
        subst hm
        simp only [exS]
        refine dis_sim (ps := rtV a) hB hE fun M hB hE => ?_
        refine .left fun u eo => ?_
        obtain ⟨ds0, es⟩ := ow_at eo
        obtain ⟨v0, et, rv, _⟩ := hE.slot i _ es
        obtain ⟨k0, xs0, _, rfl, zz, hk0, _, _⟩ := rv
        cases zz
        have : ((ev P' τ (.mth "append" (.var i) [a])).bind fun _ => E.pure (Fl.nx, τ)) S = ((ev P' τ a).bind fun v => (mAppend (.ref k0) [v]).bind fun _ => E.pure (Fl.nx, τ)) S := by
          have h1 : ev P' τ (.mth "append" (.var i) [a]) S = ((ev P' τ a).bind fun v => mAppend (.ref k0) [v]) S := by
            have e1 : (evv P' τ (.var i)).1 S = .ok (.ref k0) S := by simp only [evv, dflt, rdV, et, Option.getD_some, getO]
            simp only [ev, evv, dflt] at e1 ⊢
            rw [bind_okE e1, bind_okE (show ckM "append" (.ref k0) S = .ok () S from rfl)]
            simp only [evAs]
            unfold E.bind
            cases (evv P' τ a).1 S <;> rfl
          rw [bind_atE h1]
          unfold E.bind
          cases ev P' τ a S <;> rfl
        rw [this]
        refine ((snd_e (b := 0) a C ⟨Nat.zero_le _, hB, hE, G⟩).1.wide gAl).bind' fun q v S1 n1 _ G1 r => ?_
        obtain ⟨r1, K1⟩ := r
        have hB1 := hB.up K1.1
        have hE1 := hE.kx K1 hB
        obtain ⟨v3, et3, rv3, _⟩ := hE1.slot i _ es
        rw [et] at et3; cases et3
        obtain ⟨k3, xs3, _, zz, zz2, _, e3, rl3⟩ := rv3
        cases zz; cases zz2
        unfold appP
        rw [es]
        simp only [Option.getD_some]
        cases hn : nb q with
        | none => exact .bad
        | some x =>
          simp only
          split
          · rename_i hlen
            have : ((mAppend (.ref k0) [v]).bind fun _ => E.pure (Fl.nx, τ)) S1 = .ok (.nx, τ) (S1.set k0 (xs3 ++ [v])) := by
              simp only [mAppend, e3, rl3.len, hlen, if_true, E.bind, E.pure]
            rw [this]
            have hg : ∀ j, g.gen = some j → j ∉ [k0] := fun j hj z => by simp at z; subst z; exact hB.MB _ hk0 (hB.gB _ (GC.gm hj))
            refine .ret (G1.kx (cl := []) (Kx.set (A := [k0]) (by simp) _) hg) (Kx.set (List.mem_append_right _ hk0) _) ⟨M, fun k hk => .inl hk, hB1.up (by simp), ?_, trivial⟩
            exact hE1.upd hB1 es et hk0 (rl3.snoc (r1.nb hn))
          · exact .bad
      · exact plain
    · exact plain
  | .ret e, P, P', n, M, S, τ, π, C, F, hB, hE, G => by
    simp only [pxS, exS]
    refine dis_sim (ps := rtV e) hB hE fun M hB hE => ?_
    refine ((snd_e (b := 0) e C ⟨Nat.zero_le _, hB, hE, G⟩).1.wide gAl).bind' fun q v S1 n1 _ G1 r => ?_
    obtain ⟨r1, K1⟩ := r
    refine .left fun d e1 => ?_
    exact fin_sim G1 (fun k hk => .inl hk) (hB.up K1.1) (hE.kx K1 hB) ((r1.nb e1).sub fun j hj => List.mem_append_left _ hj)
  | .retN, P, P', n, M, S, τ, π, C, F, hB, hE, G => by
    simp only [pxS, exS]
    exact fin_sim G (fun k hk => .inl hk) hB hE ⟨1, rfl⟩
  | .ife c a b', P, P', n, M, S, τ, π, C, F, hB, hE, G => by
    simp only [pxS, exS]
    refine dis_sim (ps := brV c) hB hE fun M hB hE => ?_
    refine ((snd_e (b := 0) c C ⟨Nat.zero_le _, hB, hE, G⟩).2.wide gAl).bind' fun q v S1 n1 _ G1 r => ?_
    obtain ⟨r1, K1⟩ := r
    cases r1
    have hB1 := hB.up K1.1
    have hE1 := hE.kx K1 hB
    cases q
    · exact (snd_ss b' C F.2 hB1 hE1 G1).mono fun p v S' K q => q.up (fun j hj => .inl hj) K1.1
    · exact (snd_ss a C F.1 hB1 hE1 G1).mono fun p v S' K q => q.up (fun j hj => .inl hj) K1.1
  | .fr p k ss b', P, P', n, M, S, τ, π, C, F, hB, hE, G => by
    simp only [pxS, exS]
    refine dis_sim (ps := rtL ss) hB hE fun M hB hE => ?_
    refine ((snd_as (b := 0) ss C ⟨Nat.zero_le _, hB, hE, G⟩).wide gAl).bind' fun ps vs S1 n1 _ G1 r => ?_
    obtain ⟨r1, K1⟩ := r
    have hB1 := hB.up K1.1
    have hE1 := hE.kx K1 hB
    refine .left fun xs ex => ?_
    rw [Option.bind_eq_some_iff] at ex; obtain ⟨ds, e1, ex⟩ := ex
    have hA : ∀ k ∈ Al g M, k ∈ B ++ M := fun k hk => (List.mem_append.mp hk).elim (fun z => List.mem_append_left _ (hB.gB k z)) (fun z => List.mem_append_right _ z)
    obtain ⟨c, e2, hc⟩ := src_mk (A := Al g M) (r1.nb e1).lkl hA (fun k hk z => (r1.nb e1).out k hk (hA k z)) ex
    have hl := (hc [] S1 M .refl fun k hk => .inl hk).1
    have : ((getO (mkSrc k vs)).bind fun c => fun S => match c.len S with
      | some n => loopM p (exSs P' b') c n n τ S
      | none => .bad) S1 = loopM p (exSs P' b') c xs.length xs.length τ S1 := by
      rw [e2]; simp only [getO, E.bind, hl]
    show Sim g B (Al g M) n1 S1 _ (((getO (mkSrc k vs)).bind fun c => fun S => match c.len S with
      | some n => loopM p (exSs P' b') c n n τ S
      | none => .bad) S1) _
    rw [this]
    refine (loop_sim hc (fun S2 n2 M2 τ2 π2 K2 m2 hB2 hE2 G2 => snd_ss b' C F hB2 hE2 G2) xs.length xs S1 n1 M τ _ (by simp) (Nat.le_refl _) .refl (fun k hk => .inl hk) hB1 hE1 G1).mono fun p v S' K q => q.up (fun j hj => .inl hj) K1.1
  | .whl f c b', P, P', n, M, S, τ, π, C, F, hB, hE, G => by
    simp only [pxS, exS]
    refine dis_sim (ps := brV c) hB hE fun M hB hE => ?_
    exact while_sim (fun S1 n1 M1 τ π hB hE G => (snd_e (b := 0) c C ⟨Nat.zero_le _, hB, hE, G⟩).2) (fun S1 n1 M1 τ π hB hE G => snd_ss b' C F.2 hB hE G) _ _ S n M τ _ (F.1 g B M S τ _ hE) hB hE G
  | .rse c e, P, P', n, M, S, τ, π, C, F, hB, hE, G => by
    simp only [pxS, exS]
    refine dis_sim (ps := rtV e) hB hE fun M hB hE => ?_
    refine ((snd_e (b := 0) e C ⟨Nat.zero_le _, hB, hE, G⟩).1.wide gAl).bind' fun q v S1 n1 _ G1 r => ?_
    obtain ⟨r1, K1⟩ := r
    refine .left fun d e1 => ?_
    intro Q X z
    exact ⟨d, n1, .refl, G1, (r1.nb e1).sub fun j hj => List.mem_append_left _ hj, z⟩
  | .tryc e c i j, P, P', n, M, S, τ, π, C, F, hB, hE, G => by
    simp only [pxS]
    exact .bad
  | .pass, P, P', n, M, S, τ, π, C, F, hB, hE, G => by
    simp only [pxS, exS]
    exact fin_sim G (fun k hk => .inl hk) hB hE trivial
  | .brk, P, P', n, M, S, τ, π, C, F, hB, hE, G => by
    simp only [pxS, exS]
    exact fin_sim G (fun k hk => .inl hk) hB hE trivial
  | .cnt, P, P', n, M, S, τ, π, C, F, hB, hE, G => by
    simp only [pxS, exS]
    exact fin_sim G (fun k hk => .inl hk) hB hE trivial
theorem snd_ss : ∀ (l : List Sm) {P : PP} {P' : Pr} {n : Nat} {M : List Nat} {S : Sto} {τ : Tau} {π : Env}, CxP g P P' → FOks P.fuel l → Bd g B M S → ER g B M S τ π → Gn g S n → Sim g B (Al g M) n S (pxSs P l π) (exSs P' l τ S) (SRl g B M S)
  | [], P, P', n, M, S, τ, π, C, F, hB, hE, G => by
    simp only [pxSs, exSs]
    exact fin_sim G (fun k hk => .inl hk) hB hE trivial
  | s :: r, P, P', n, M, S, τ, π, C, F, hB, hE, G => by
    simp only [pxSs, exSs, seqP, seqM]
    refine (snd_s s C F.1 hB hE G).bind fun q r' S2 n2 K2 G2 rr => ?_
    obtain ⟨M2, m1, hB2, hE2, hf⟩ := rr
    refine ⟨Al g M2, Al.sub m1, ?_⟩
    obtain ⟨f, π2⟩ := q
    obtain ⟨f', τ2⟩ := r'
    cases f <;> cases f' <;> first | exact hf.elim | skip
    · exact (snd_ss r C F.2 hB2 hE2 G2).mono fun p v S' K q => q.up m1 K2.1
    · exact fin_sim G2 m1 hB2 hE2 trivial
    · exact fin_sim G2 m1 hB2 hE2 trivial
    · exact fin_sim G2 m1 hB2 hE2 hf
end
end TQ
/-! TQ65: defs: the data's evaluator is right; the draws. -/
namespace TQ
open PySem L2
variable {g : GC} {B M : List Nat} {b n : Nat} {S S' : Sto} {τ : Tau} {π : Env}
theorem AL.len {us : List Pv} {vs : List Val} (h : AL g B S us vs) : us.length = vs.length := by
  induction h with
  | nil => rfl
  | cons _ _ ih => simp [ih]
theorem AL.gc {us : List Pv} {vs : List Val} {cs : List Nat} (h : AL g B S us vs) : AL ⟨g.gen, cs⟩ B S us vs := by
  induction h with
  | nil => exact .nil
  | cons a _ ih =>
    refine .cons ?_ ih
    rename_i p _ _ _ _
    cases p with
    | gen => exact a
    | d x f => cases f <;> exact a
theorem AR.vr {p : Pv} {v : Val} (h : AR g B S p v) : VR g B [] 0 S p v ∧ (∀ x, p ≠ .d x .fr) ∧ ∀ x, p ≠ .d x .ow := by
  cases p with
  | gen => exact ⟨h, (fun x z => by cases z), (fun x z => by cases z)⟩
  | d x f =>
    cases f
    · exact ⟨by show Rp (B ++ []) S v x; rw [List.append_nil]; exact h, (fun x z => by cases z), (fun x z => by cases z)⟩
    · exact h.elim
    · exact h.elim
theorem ER.entry {us : List Pv} {vs : List Val} (h : AL g B S us vs) (k : Nat) : ER g B [] S (vs.map some ++ List.replicate k none) (us.map some ++ List.replicate k none) := by
  have at_ : ∀ (i : Nat) (p : Pv), (us.map some ++ List.replicate k none)[i]? = some (some p) → us[i]? = some p := by
    intro i p e
    by_cases hi : i < us.length
    · rw [List.getElem?_append_left (by simpa using hi), List.getElem?_map] at e
      cases hq : us[i]? with
      | none => rw [hq] at e; cases e
      | some q => rw [hq] at e; simp at e; rw [e]
    · rw [List.getElem?_append_right (by simpa using hi)] at e
      rw [List.getElem?_replicate] at e
      split at e <;> simp at e
  refine ⟨by simp [h.len], fun i p e => ?_, fun i j x y k' _ e _ _ _ => ?_⟩
  · obtain ⟨v, e1, r⟩ := h.at_ (at_ i p e)
    refine ⟨v, ?_, r.vr.1, r.vr.2.1⟩
    rw [List.getElem?_append_left (by simpa using (List.getElem?_eq_some_iff.mp e1).1), List.getElem?_map, e1]; rfl
  · obtain ⟨v, e1, r⟩ := h.at_ (at_ i _ e)
    exact r.elim
theorem run_sim {P : PP} {P' : Pr} (C : CxP ⟨g.gen, []⟩ P P') (ho : P'.own = []) (hb : P'.blk = false) {d : Df} (F : FOks P.fuel d.body) {us : List Pv} {vs : List Val} (hg : ∀ k, g.gen = some k → k ∈ B) (hB : ∀ k ∈ B, k < S.length) (al : AL g B S us vs) (G : Gn g S n) : Sim ⟨g.gen, []⟩ B g.gen.toList n S (runP P d us) (runDf P' d vs S) fun d v S' => Rp B S' v d := by
  unfold runP
  by_cases hc : (d.cells.isEmpty && decide (us.length = d.pars ∧ d.pars ≤ d.size)) = true
  · rw [if_pos hc]
    simp only [Bool.and_eq_true, decide_eq_true_eq, List.isEmpty_iff] at hc
    unfold runDf
    rw [if_pos ⟨by rw [← al.len]; exact hc.2.1, hc.2.2⟩, hc.1]
    have eP : ({ P' with own := [], blk := false } : Pr) = P' := by
      cases P'; simp only at ho hb ⊢; rw [ho, hb]
    rw [eP]
    have al0 : AL ⟨g.gen, []⟩ B S us vs := al.gc
    have Bd0 : Bd ⟨g.gen, []⟩ B [] S := ⟨fun k hk => hg k (by simpa [GC.toList] using hk), hB, fun k hk => by simp at hk, fun k hk => by simp at hk⟩
    have h := snd_ss d.body C F Bd0 (ER.entry al0 (d.size - d.pars)) G
    intro Q X z
    have key := h (fun p o => okx ((match p.1 with | .rt v => PM.pure v | .nx => PM.pure PyData.none | _ => PM.bad : PM D) o) Q X) X (fun s => okx_bind.mp (z s))
    have hA : ∀ j ∈ Al ⟨g.gen, []⟩ [], j ∈ g.gen.toList := fun j hj => by simpa [Al, GC.toList] using hj
    cases hr : exSs P' d.body (vs.map some ++ List.replicate (d.size - d.pars) none) S with
    | ok r S1 =>
      rw [hr] at key
      obtain ⟨q, n1, K, G1, rr, qq⟩ := key
      obtain ⟨M', _, _, _, hf⟩ := rr
      obtain ⟨f, π2⟩ := q
      obtain ⟨f', τ2⟩ := r
      cases f <;> cases f' <;> first | exact hf.elim | skip
      · exact ⟨.none, n1, K.mono hA, G1, ⟨1, rfl⟩, qq⟩
      · exact (qq fun _ => 0).elim
      · exact (qq fun _ => 0).elim
      · exact ⟨_, n1, K.mono hA, G1, hf, qq⟩
    | exc c v S1 =>
      rw [hr] at key
      obtain ⟨q, n1, K, G1, rr, qq⟩ := key
      exact ⟨q, n1, K.mono hA, G1, rr, qq⟩
    | bad => rw [hr] at key; exact key
  · rw [if_neg hc]; exact .bad
/-! ### the draws -/
def dHash (A B C E F G H : Int) : Df := ⟨2, 3, [], [(.asg (.nm 2) (.bin .mod (.bif "int" [(.bin .add (.bin .add (.bin .add (.bin .mul (.var 0) (.cst (.int A))) (.bin .mul (.bin .mul (.cst (.int B)) (.var 1)) (.var 1))) (.bin .mul (.cst (.int C)) (.var 1))) (.cst (.int E)))]) (.cst (.int 2147483629)))), (.asg (.nm 2) (.bin .mod (.bif "int" [(.bin .add (.bin .add (.bin .mul (.var 2) (.var 2)) (.bin .mul (.cst (.int F)) (.var 1))) (.cst (.int G)))]) (.cst (.int 2147483587)))), (.ret (.bin .mod (.bif "int" [(.bin .mul (.var 2) (.cst (.int H)))]) (.cst (.int 2147483647))))], none⟩
def dRnd : Df := ⟨2, 4, [], [(.ife (.cmp .gt (.ix (.var 0) (.cst (.int 0))) (.cst (.int 0))) [(.asg (.nm 2) (.bin .mod (.bif "int" [(.ix (.var 0) (.cst (.int 0)))]) (.var 1))), (.setI (.var 0) (.cst (.int 0)) (.bin .fdiv (.ix (.var 0) (.cst (.int 0))) (.var 1))), (.ret (.var 2))] []), (.asg (.nm 2) (.cst (.int 0))), (.fr (.nm 3) .rng [(.bin .add (.cst (.int 1)) (.bin .fdiv (.mth "bit_length" (.var 1) []) (.cst (.int 30))))] [(.setI (.var 0) (.cst (.int 2)) (.bin .add (.ix (.var 0) (.cst (.int 2))) (.cst (.int 1)))), (.asg (.nm 2) (.bin .add (.bin .mul (.var 2) (.cst (.int 2147483587))) (.call "_law_hash" [(.ix (.var 0) (.cst (.int 1))), (.ix (.var 0) (.cst (.int 2)))])))]), (.ret (.bin .mod (.bif "int" [(.var 2)]) (.var 1)))], none⟩
theorem w_PL {D : LawD} {k : Nat} {d : Df} {vs : List Val} {Q : Val → Sto → Prop} (hc : d.cells = []) (hl : vs.length = d.pars) (hz : d.pars ≤ d.size) (h : Ok (exSs (PL D k) d.body (vs.map some ++ List.replicate (d.size - d.pars) none) S) fun p S1 => match p.1 with
    | .rt v => Q v S1
    | .nx => Q .non S1
    | _ => False) : Ok (runDf (PL D k) d vs S) Q := w_run hc hl hz (by rw [eta_PL]; exact h)
theorem mul_big {i j : Int} (hi : i.natAbs < 2 ^ 400) (hj : j.natAbs < 2 ^ 400) : mulOk i j = true := by
  unfold mulOk
  have h1 := log2_le hi
  have h2 := log2_le hj
  exact decide_eq_true (by omega)
theorem hash_sp {D : LawD} {k : Nat} {A B' C E F G H : Int} {s c : Int} (hA : 0 ≤ A ∧ A < 2 ^ 31) (hB : 0 ≤ B' ∧ B' < 2 ^ 31) (hC : 0 ≤ C ∧ C < 2 ^ 31) (hF : 0 ≤ F ∧ F < 2 ^ 31) (hH : 0 ≤ H ∧ H < 2 ^ 31) (h1 : 0 ≤ s) (h2 : s < 2147483647) (h3 : 0 ≤ c) (h4 : c < 2 ^ 40) : Ok (runDf (PL D k) (dHash A B' C E F G H) [.int s, .int c] S) fun v S' => S' = S ∧ ∃ r : Int, v = .int r ∧ 0 ≤ r ∧ r < 2147483647 := by
  refine w_PL rfl rfl (by simp [dHash]) ?_
  have hb : 0 ≤ B' * c ∧ B' * c < 2 ^ 72 := by
    refine ⟨Int.mul_nonneg hB.1 h3, ?_⟩
    calc B' * c ≤ B' * 2 ^ 40 := Int.mul_le_mul_of_nonneg_left (by omega) hB.1
      _ < 2 ^ 72 := by omega
  simp [dHash, cstV]
  refine ⟨?_, ?_, ?_, ?_, ?_, ?_, ?_, ?_, ?_⟩ <;> first | exact mul_small (by omega) (by omega) (by omega) (by omega) | omega
@[simp] theorem at3_0 {a b' c : Val} : L2.atI [a, b', c] 0 = some a := rfl
@[simp] theorem at3_1 {a b' c : Val} : L2.atI [a, b', c] 1 = some b' := rfl
@[simp] theorem at3_2 {a b' c : Val} : L2.atI [a, b', c] 2 = some c := rfl
@[simp] theorem ok_setE {m : Nat} {k : Int} {v : Val} {Q : Unit → Sto → Prop} : Ok (setE (.ref m) (.int k) v S) Q ↔ ∃ xs i, S[m]? = some xs ∧ L2.ixN xs.length k = some i ∧ Q () (S.set m (xs.set i v)) := by
  unfold setE
  cases h : S[m]? with
  | none => simp [h]
  | some xs =>
    simp only [h]
    cases h2 : L2.ixN xs.length k <;> simp [h2]
@[simp] theorem cS_gt {i j : Int} : cmpS .gt S (.int i) (.int j) = some (decide (j < i)) := rfl
@[simp] theorem cS_lt {i j : Int} : cmpS .lt S (.int i) (.int j) = some (decide (i < j)) := rfl
@[simp] theorem cS_ge {i j : Int} : cmpS .ge S (.int i) (.int j) = some (decide (j ≤ i)) := rfl
@[simp] theorem cS_le {i j : Int} : cmpS .le S (.int i) (.int j) = some (decide (i ≤ j)) := rfl
@[simp] theorem ckM_bits {i : Int} {Q : Unit → Sto → Prop} : Ok (ckM "bit_length" (.int i) S) Q ↔ Q () S := Iff.rfl
@[simp] theorem okm_bits {i : Int} {Q : Val → Sto → Prop} : Ok (mthE "bit_length" (.int i) [] S) Q ↔ Q (.int (Builtin.Int.intBits i : Nat)) S := Iff.rfl
theorem bits_le {l : Int} (h1 : 0 ≤ l) (h2 : l < 2 ^ 200) : Builtin.Int.intBits l ≤ 200 := intBits_le_iff.mpr (by omega)
theorem set_same {α : Type} {xs : List α} {i : Nat} {x : α} (h : xs[i]? = some x) : xs.set i x = xs := by
  apply List.ext_getElem?
  intro j
  by_cases z : i = j
  · subst z; rw [List.getElem?_set_self (List.getElem?_eq_some_iff.mp h).1, h]
  · rw [List.getElem?_set_ne z]
@[simp] theorem src_rng {n : Int} : mkSrc .rng [.int n] = if in62 n then some (.rng 0 n.toNat) else none := rfl
@[simp] theorem len_rng {a : Int} {n : Nat} : (Src.rng a n).len S = some n := rfl
@[simp] theorem get_rng {a : Int} {n i : Nat} : (Src.rng a n).get S i = some (.int (a + (i : Int))) := rfl
theorem div_ok2 {j : Int} (h1 : 0 < j) (h2 : j < 2 ^ 200) : divOk j = true := by
  unfold divOk
  have : j.natAbs.log2 ≤ 200 := log2_le (by omega)
  exact decide_eq_true ⟨h1, by omega⟩
structure HashOk (D : LawD) : Prop where
  fn : ∃ A B' C E F G H : Int, (0 ≤ A ∧ A < 2 ^ 31) ∧ (0 ≤ B' ∧ B' < 2 ^ 31) ∧ (0 ≤ C ∧ C < 2 ^ 31) ∧ (0 ≤ F ∧ F < 2 ^ 31) ∧ (0 ≤ H ∧ H < 2 ^ 31) ∧ ∀ k, (PL D (k + 1)).fn "_law_hash" = runDf (PL D k) (dHash A B' C E F G H)
  rn : ∀ k, (PL D (k + 1)).fn "_law_random" = runDf (PL D k) dRnd
theorem HashOk.sp {D : LawD} (h : HashOk D) {k : Nat} {s c : Int} (h1 : 0 ≤ s) (h2 : s < 2147483647) (h3 : 0 ≤ c) (h4 : c < 2 ^ 40) : Ok ((PL D (k + 1)).fn "_law_hash" [.int s, .int c] S) fun v S' => S' = S ∧ ∃ r : Int, v = .int r ∧ 0 ≤ r ∧ r < 2147483647 := by
  obtain ⟨A, B', C, E, F, G, H, a1, a2, a3, a4, a5, e⟩ := h.fn
  rw [e]; exact hash_sp a1 a2 a3 a4 a5 h1 h2 h3 h4
def RI (p : Nat) (a s c l : Int) (S : Sto) : Src → Nat → Nat → Tau → Sto → Prop := fun cc m i τ' S' => cc = .rng 0 m ∧ m ≤ 7 ∧ ∃ d : Int, ∃ o : Option Val, τ' = [some (.ref p), some (.int l), some (.int d), o] ∧ S' = S.set p [.int a, .int s, .int (c + i)] ∧ 0 ≤ d ∧ d < 2 ^ (32 * i)
theorem rnd_sp {D : LawD} (hD : HashOk D) {k p : Nat} {a s c l : Int} (e : S[p]? = some [.int a, .int s, .int c]) (q2 : 0 ≤ a) (q3 : 0 ≤ s) (q4 : s < 2147483647) (q5 : 0 ≤ c) (q6 : c + 8 ≤ 2 ^ 39) (h1 : 1 ≤ l) (h2 : l < 2 ^ 200) :
    Ok ((PL D (k + 2)).fn "_law_random" [.ref p, .int l] S) fun v S' => ∃ r a' c' : Int, v = .int r ∧ 0 ≤ r ∧ r < l ∧ S' = S.set p [.int a', .int s, .int c'] ∧ 0 ≤ a' ∧ 0 ≤ c' ∧ c' ≤ c + 8 := by
  rw [hD.rn]
  refine w_PL rfl rfl (by simp [dRnd]) ?_
  simp [dRnd, cstV, e]
  have hp := (List.getElem?_eq_some_iff.mp e).1
  by_cases ha : a ≤ 0
  · refine .inl ⟨ha, ?_⟩
    have hb := bits_le (by omega) h2
    generalize hbits : Builtin.Int.intBits l = bb at hb
    with_reducible refine s_fr (RI p a s c l S) ?_ ?_ ?_ ?_
    · simp [cstV, hbits, RI]
      refine ⟨by decide, _, ⟨?_, rfl⟩, _, rfl, rfl, ?_, ?_⟩
      · unfold in62; simp only [Bool.and_eq_true, decide_eq_true_eq]; omega
      · omega
      · rw [set_same e]
    · intro cc m i τ' S' hi h
      obtain ⟨rfl, _⟩ := h
      rfl
    · intro cc m i τ' S' hi h
      obtain ⟨rfl, hm, d, o, rfl, rfl, hd1, hd2⟩ := h
      refine ⟨_, _, rfl, rfl, ?_⟩
      simp [cstV, hp, List.getElem?_set_self]
      refine ⟨2, rfl, ?_⟩
      simp [List.getElem?_set_self, hp, List.set_set]
      have hX : (2 : Int) ^ (32 * i) ≤ 2 ^ 224 := by
        have := Nat.pow_le_pow_right (n := 2) (by omega) (show 32 * i ≤ 224 by omega)
        exact_mod_cast this
      have hY : (2 : Int) ^ (32 * (i + 1)) = 2 ^ (32 * i) * 2 ^ 32 := by rw [show 32 * (i + 1) = 32 * i + 32 by omega, Int.pow_add]
      refine ⟨mul_big (by omega) (by omega), ?_⟩
      refine (hD.sp q3 q4 (by omega) (by omega)).mono fun v S2 hv => ?_
      obtain ⟨rfl, r, rfl, r1, r2⟩ := hv
      simp only [op_add, RI]
      refine ⟨trivial, hm, _, _, rfl, by rw [show c + (i : Int) + 1 = c + ((i + 1 : Nat) : Int) by omega], by omega, ?_⟩
      rw [hY]
      omega
    · intro cc m τ' S' h
      obtain ⟨rfl, hm, d, o, rfl, rfl, hd1, hd2⟩ := h
      simp
      refine ⟨by omega, Int.emod_nonneg _ (by omega), Int.emod_lt_of_pos _ (by omega), a, c + m, rfl, by omega, by omega, by omega⟩
  · refine .inr ⟨by omega, by omega, div_ok2 (by omega) h2, 0, rfl, ?_, ?_, a / l, c, rfl, ?_, ?_, ?_⟩
    · exact Int.emod_nonneg _ (by omega)
    · exact Int.emod_lt_of_pos _ (by omega)
    · exact Int.ediv_nonneg (by omega) (by omega)
    · omega
    · omega
end TQ
/-! TQ66: the layers: what the data's evaluator tells of a def holds of its call. -/
namespace TQ
open PySem L2
variable {g : GC} {B M : List Nat} {b n : Nat} {S S' : Sto} {τ : Tau} {π : Env}
theorem draw_sim {D : LawD} (hD : HashOk D) {k : Nat} {us : List Pv} {vs : List Val} (hg : ∀ k, g.gen = some k → k ∈ B) (al : AL g B S us vs) (G : Gn g S n) : Sim ⟨g.gen, []⟩ B g.gen.toList n S (drawP us) ((PL D (k + 2)).fn "_law_random" vs S) fun d v S' => Rp B S' v d := by
  unfold drawP
  split
  · rename_i l
    cases al with | cons a al => cases al with | cons a2 al =>
    cases al
    obtain ⟨p, ep, rfl⟩ := a
    cases Rp.int a2
    intro Q X z
    have hq : 1 ≤ l ∧ l < 2 ^ 200 ∧ n ≠ 0 := by
      have := z fun _ => 0
      simp only at this
      by_cases h : 1 ≤ l ∧ l < 2 ^ 200 ∧ n ≠ 0
      · exact h
      · rw [if_neg h] at this; exact this.elim
    simp only [if_pos hq] at z
    rcases G with h0 | ⟨p', a', s', c', e0, e, q2, q3, q4, q5, q6⟩
    · exact absurd h0 hq.2.2
    · rw [ep] at e0; cases e0
      obtain ⟨v, S1, e1, r, a1, c1, rfl, r1, r2, rfl, h1, h2, h3⟩ := (rnd_sp hD (k := k) (l := l) e q2 q3 q4 q5 (by have := hq.2.2; omega) hq.1 hq.2.1).ex
      rw [e1]
      have hp := (List.getElem?_eq_some_iff.mp e).1
      refine ⟨.int r, n - 1, Kx.set (by simp [ep]) _, .inr ⟨p, a1, s', c1, ep, List.getElem?_set_self hp, h1, q3, q4, h2, ?_⟩, ⟨1, rfl⟩, fun s => ?_⟩
      · have := hq.2.2; omega
      · have := z fun i => if i = 0 then r else s (i - 1)
        simp only [if_true] at this
        rw [Int.emod_eq_of_lt r1 r2] at this
        exact this
  · exact .bad
theorem cs_rp {D : LawD} {x : Str} {d : TQ.D} (h : csP D x = some d) : ∃ v, D.cs x = some v ∧ ∀ A S, Rp A S v d := by
  unfold csP at h
  rw [Option.bind_eq_some_iff] at h
  obtain ⟨v, e, h⟩ := h
  refine ⟨v, e, fun A S => ?_⟩
  unfold LawD.cs at e
  split at e
  · cases e; cases h; exact ⟨1, rfl⟩
  · rw [Option.map_eq_some_iff] at e
    obtain ⟨q, _, rfl⟩ := e
    have key : ∀ (is : List Int) (ds : List TQ.D), mapO (rp [] [] 2) (is.map Val.int) = some ds → RpL A S (is.map Val.int) ds := by
      intro is
      induction is with
      | nil => intro ds h; cases h; exact .nil
      | cons i is ih =>
        intro ds h
        obtain ⟨d, ds', rfl, e1, e2⟩ := mapO_cons h
        cases e1
        exact .cons ⟨1, rfl⟩ (ih ds' e2)
    have h' : (mapO (rp [] [] 2) (q.2.map Val.int)).map PyData.tuple = some d := h
    rw [Option.map_eq_some_iff] at h'
    obtain ⟨ds, e2, rfl⟩ := h'
    exact Rp.mkT (key _ _ e2)
theorem snd_L {D : LawD} (hD : HashOk D) {fu : Env → Nat} (hF : ∀ x e, D.find x = some e → FOks fu e.d.body) : ∀ (k : Nat) (g : GC), (∀ k, g.gen = some k → k ∉ g.cells) → CxP g (QL D "_law_random" fu k) (PL D k)
  | 0, g, hc => ⟨fun q hq => by rw [own_PL] at hq; simp at hq, hc, fun x d h => cs_rp h, rfl, fun x us vs B n S _ _ _ _ => .bad⟩
  | k + 1, g, hc => ⟨fun q hq => by rw [own_PL] at hq; simp at hq, hc, fun x d h => cs_rp h, rfl, fun x us vs B n S hg hB al G => by
    by_cases hx : x = "_law_random"
    · subst hx
      have e : (QL D "_law_random" fu (k + 1)).fn "_law_random" us = (if k = 0 then fun _ => PM.bad else drawP) us := by
        simp only [QL, if_true]
      rw [e]
      by_cases hk : k = 0
      · rw [if_pos hk]; exact .bad
      · rw [if_neg hk]
        obtain ⟨j, rfl⟩ : ∃ j, k = j + 1 := ⟨k - 1, by omega⟩
        exact draw_sim hD hg al G
    · have e : (QL D "_law_random" fu (k + 1)).fn x us = (match D.find x with
          | some e => runP (QL D "_law_random" fu k) e.d
          | none => fun _ => PM.bad) us := by
        simp only [QL, if_neg hx]
        all_goals (cases D.find x <;> rfl)
      rw [e]
      cases hf : D.find x with
      | none => exact .bad
      | some e =>
        have e2 : (PL D (k + 1)).fn x vs S = runDf (PL D k) e.d vs S := by
          show (match D.find x with | some e => runDf (PL D k) e.d vs | none => E.bad) S = _
          rw [hf]
        rw [e2]
        have C := snd_L hD hF k ⟨g.gen, []⟩ (fun k _ z => by simp at z)
        refine run_sim C own_PL blk_PL (d := e.d) (by
          have h := hF x e hf
          cases k <;> exact h) hg hB al G⟩
/-! fuel -/
def fuelT (τ : Tau) (S : Sto) : Nat := (τ.map fun o => match o with | some (.int i) => i.natAbs | _ => 0).sum + (S.map List.length).sum + 1
def iSl : Option Pv → Nat
  | some (.d (.int i) _) => i.natAbs
  | _ => 0
def lSl : Option Pv → Nat
  | some (.d (.list xs) _) => xs.length
  | _ => 0
def fuelP (π : Env) : Nat := (π.map iSl).sum + (π.map lSl).foldr max 0 + 1
theorem sum_le {α β : Type} {f : α → Nat} {h : β → Nat} : ∀ (xs : List α) (ys : List β), xs.length = ys.length → (∀ (i : Nat) x y, xs[i]? = some x → ys[i]? = some y → f x ≤ h y) → (xs.map f).sum ≤ (ys.map h).sum
  | [], [], _, _ => Nat.le_refl _
  | x :: xs, y :: ys, e, k => by
    have a := k 0 x y rfl rfl
    have b := sum_le (f := f) (h := h) xs ys (by simpa using e) fun i u w e1 e2 => k (i + 1) u w e1 e2
    simp only [List.map_cons, List.sum_cons]
    omega
theorem len_sum : ∀ {S : Sto} {k : Nat} {xs : List Val}, S[k]? = some xs → xs.length ≤ (S.map List.length).sum
  | x :: S, 0, xs, e => by cases e; simp only [List.map_cons, List.sum_cons]; omega
  | x :: S, k + 1, xs, e => by
    have := len_sum (S := S) (k := k) (by simpa using e)
    simp only [List.map_cons, List.sum_cons]; omega
theorem foldr_le {m : Nat} : ∀ {xs : List Nat}, (∀ x ∈ xs, x ≤ m) → xs.foldr max 0 ≤ m
  | [], _ => Nat.zero_le _
  | x :: xs, h => by
    have := foldr_le (xs := xs) fun y hy => h y (List.mem_cons_of_mem _ hy)
    have := h x (by simp)
    simp only [List.foldr_cons]; omega
theorem fuel_ok : FuOk fuelP fuelT := by
  intro g B M S τ π hE
  unfold fuelP fuelT
  have h1 : (π.map iSl).sum ≤ (τ.map fun o => match o with | some (.int i) => i.natAbs | _ => 0).sum := by
    refine sum_le π τ hE.len.symm fun i x y e1 e2 => ?_
    unfold iSl
    split
    · rename_i f
      obtain ⟨v, e3, r, _⟩ := hE.slot i _ e1
      rw [e2] at e3; cases e3
      have : v = .int _ := (r.lk rfl).i
      subst this
      exact Nat.le_refl _
    · exact Nat.zero_le _
  have h2 : (π.map lSl).foldr max 0 ≤ (S.map List.length).sum := by
    refine foldr_le fun x hx => ?_
    obtain ⟨o, ho, rfl⟩ := List.mem_map.mp hx
    obtain ⟨i, hi, e⟩ := List.getElem_of_mem ho
    unfold lSl
    split
    · rename_i xs f
      obtain ⟨v, e3, r, _⟩ := hE.slot i _ (by rw [List.getElem?_eq_getElem hi, e])
      obtain ⟨k, ys, _, e4, rl⟩ := (r.lk rfl).l
      rw [← rl.len]
      exact len_sum e4
    · exact Nat.zero_le _
  omega
/-- what a call of a def on data leaves -/
theorem call_at {D : LawD} (hD : HashOk D) {fu : Env → Nat} (hF : ∀ x e, D.find x = some e → FOks fu e.d.body) {k : Nat} {f : Str} {us : List Pv} {vs : List Val} (hg : ∀ k, g.gen = some k → k ∈ B) (hB : ∀ k ∈ B, k < S.length) (al : AL g B S us vs) (G : Gn g S n) {Q : TQ.D → Om → Prop} (h : ∀ s, okx ((QL D "_law_random" fu k).fn f us ⟨s, n⟩) Q fun _ _ _ => False) :
    Ok ((PL D k).fn f vs S) fun v S' => ∃ d n', Kx [] g.gen.toList S S' ∧ Gn g S' n' ∧ Rp B S' v d ∧ ∀ s, Q d ⟨s, n'⟩ := by
  have key := (snd_L hD hF k ⟨g.gen, []⟩ (fun k _ z => by simp at z)).fn f us vs B n S hg hB al.gc G Q _ h
  cases hr : (PL D k).fn f vs S with
  | ok v S' => rw [hr] at key; exact key
  | exc c v S' => rw [hr] at key; obtain ⟨_, _, _, _, _, f⟩ := key; exact (f fun _ => 0).elim
  | bad => rw [hr] at key; exact key.elim
/-- where it raises -/
theorem raise_at {D : LawD} (hD : HashOk D) {fu : Env → Nat} (hF : ∀ x e, D.find x = some e → FOks fu e.d.body) {k : Nat} {f : Str} {us : List Pv} {vs : List Val} (hg : ∀ k, g.gen = some k → k ∈ B) (hB : ∀ k ∈ B, k < S.length) (al : AL g B S us vs) (G : Gn g S n) {X : Str → TQ.D → Om → Prop} (h : ∀ s, okx ((QL D "_law_random" fu k).fn f us ⟨s, n⟩) (fun _ _ => False) X) :
    ∃ c v S', (PL D k).fn f vs S = .exc c v S' ∧ ∃ d n', Kx [] g.gen.toList S S' ∧ Gn g S' n' ∧ Rp B S' v d ∧ ∀ s, X c d ⟨s, n'⟩ := by
  have key := (snd_L hD hF k ⟨g.gen, []⟩ (fun k _ z => by simp at z)).fn f us vs B n S hg hB al.gc G (fun _ _ => False) X h
  cases hr : (PL D k).fn f vs S with
  | ok v S' => rw [hr] at key; obtain ⟨_, _, _, _, _, f⟩ := key; exact (f fun _ => 0).elim
  | exc c v S' => rw [hr] at key; exact ⟨c, v, S', rfl, key⟩
  | bad => rw [hr] at key; exact key.elim
end TQ
/-! TQ67: the data's evaluator, its steps. -/
namespace TQ
open PySem L2
theorem QL_fn {D : LawD} {rn : Str} {fu : Env → Nat} {k : Nat} {x : Str} {e : Fe} (h : D.find x = some e) (hx : (decide (x = rn)) = false) : (QL D rn fu (k + 1)).fn x = runP (QL D rn fu k) e.d := by
  have hx : ¬ x = rn := by simpa using hx
  simp only [QL, if_neg hx, h]
@[simp] theorem cs_QL {D : LawD} {rn : Str} {fu : Env → Nat} {k : Nat} : (QL D rn fu k).cs = csP D := by cases k <;> rfl
@[simp] theorem isE_QL {D : LawD} {rn : Str} {fu : Env → Nat} {k : Nat} : (QL D rn fu k).isE = D.isE := by cases k <;> rfl
@[simp] theorem fu_QL {D : LawD} {rn : Str} {fu : Env → Nat} {k : Nat} : (QL D rn fu k).fuel = fu := by cases k <;> rfl
section
variable {α β : Type} {P : PP} {τ : Env} {o : Om} {Q : α → Om → Prop} {X : Str → D → Om → Prop}
@[simp] theorem x_ok {a : α} : okx (.ok a o) Q X ↔ Q a o := Iff.rfl
@[simp] theorem x_exc {c : Str} {d : D} : okx (.exc c d o : PR α) Q X ↔ X c d o := Iff.rfl
@[simp] theorem x_bad : okx (.bad : PR α) Q X ↔ False := Iff.rfl
@[simp] theorem x_pure {a : α} : okx (PM.pure a o) Q X ↔ Q a o := Iff.rfl
@[simp] theorem x_pbad : okx ((PM.bad : PM α) o) Q X ↔ False := Iff.rfl
@[simp] theorem x_bind {m : PM β} {f : β → PM α} : okx ((m.bind f) o) Q X ↔ okx (m o) (fun a o' => okx (f a o') Q X) X := okx_bind
@[simp] theorem x_pO {x : Option α} : okx (pO x o) Q X ↔ ∃ a, x = some a ∧ Q a o := by
  cases x with
  | none => simp [pO]
  | some a => simp [pO]
@[simp] theorem x_ite {c : Prop} [Decidable c] {m k : PM α} : okx ((if c then m else k) o) Q X ↔ if c then okx (m o) Q X else okx (k o) Q X := by split <;> exact Iff.rfl
@[simp] theorem x_iteR {c : Prop} [Decidable c] {m k : PR α} : okx (if c then m else k) Q X ↔ if c then okx m Q X else okx k Q X := by split <;> exact Iff.rfl
theorem okx.mono {r : PR α} {Q Q' : α → Om → Prop} {X X' : Str → D → Om → Prop} (h : okx r Q X) (k : ∀ a o, Q a o → Q' a o) (k2 : ∀ c d o, X c d o → X' c d o) : okx r Q' X' := by
  cases r with
  | ok a o => exact k _ _ h
  | exc c d o => exact k2 _ _ _ h
  | bad => exact h
theorem okx.monoQ {r : PR α} {Q Q' : α → Om → Prop} {X : Str → D → Om → Prop} (h : okx r Q X) (k : ∀ a o, Q a o → Q' a o) : okx r Q' X := h.mono k fun _ _ _ z => z
theorem okx.eq {r : PR α} {a : α} {o : Om} (h : okx r (fun b o' => b = a ∧ o' = o) fun _ _ _ => False) : r = .ok a o := by
  cases r with
  | ok b o' => obtain ⟨rfl, rfl⟩ := h; rfl
  | exc c d o => exact h.elim
  | bad => exact h.elim
/-! values -/
@[simp] theorem lk_d {x : D} {f : Fg} : lk (.d x f) = some x := rfl
@[simp] theorem lk_mkP {x : D} : lk (mkP x) = some x := rfl
@[simp] theorem lk_mkF {x : D} : lk (mkF x) = some x := rfl
@[simp] theorem nb_pl {x : D} : nb (.d x .pl) = some x := rfl
@[simp] theorem nb_fr {x : D} : nb (.d x .fr) = some x := rfl
@[simp] theorem nb_mkP {x : D} : nb (mkP x) = some x := rfl
@[simp] theorem nb_mkF {x : D} : nb (mkF x) = some x := by cases x <;> rfl
@[simp] theorem argP_mkP {x : D} : argP (mkP x) = some (mkP x) := rfl
@[simp] theorem argP_mkF {x : D} : argP (mkF x) = some (mkP x) := by cases x <;> rfl
@[simp] theorem argP_pl {x : D} : argP (.d x .pl) = some (mkP x) := rfl
@[simp] theorem argP_fr {x : D} : argP (.d x .fr) = some (mkP x) := rfl
@[simp] theorem argP_gen : argP .gen = some .gen := rfl
@[simp] theorem hold_mkP {x : D} : hold (mkP x) = some (mkP x) := rfl
@[simp] theorem hold_pl {x : D} : hold (.d x .pl) = some (mkP x) := rfl
@[simp] theorem hold_fr {x : D} : hold (.d x .fr) = some (.d x .ow) := rfl
@[simp] theorem hold_mkFi {x : Int} : hold (mkF (.int x)) = some (mkP (.int x)) := rfl
@[simp] theorem hold_mkFs {x : Str} : hold (mkF (.str x)) = some (mkP (.str x)) := rfl
@[simp] theorem hold_mkFb {x : Bool} : hold (mkF (.bool x)) = some (mkP (.bool x)) := rfl
@[simp] theorem hold_mkFt {x : List D} : hold (mkF (.tuple x)) = some (mkP (.tuple x)) := rfl
@[simp] theorem hold_mkFl {x : List D} : hold (mkF (.list x)) = some (.d (.list x) .ow) := rfl
@[simp] theorem boolP_mkP {b : Bool} : boolP (mkP (.bool b)) = PM.pure b := rfl
@[simp] theorem boolP_mkF {b : Bool} : boolP (mkF (.bool b)) = PM.pure b := rfl
@[simp] theorem intP_mkP {b : Int} : intP (mkP (.int b)) = PM.pure (some b) := rfl
@[simp] theorem intP_mkF {b : Int} : intP (mkF (.int b)) = PM.pure (some b) := rfl
@[simp] theorem disO_pl {x : D} : disO (some (mkP x)) = some (mkP x) := rfl
@[simp] theorem disO_gen : disO (some .gen) = some .gen := rfl
@[simp] theorem disO_ow {x : D} : disO (some (.d x .ow)) = some (mkP x) := rfl
@[simp] theorem disO_none : disO none = none := rfl
@[simp] theorem mapO_nil {f : β → Option α} : mapO f [] = some [] := rfl
@[simp] theorem mapO_cons' {f : β → Option α} {x : β} {xs : List β} : mapO f (x :: xs) = (f x).bind fun y => (mapO f xs).map (y :: ·) := by
  simp only [mapO]
  cases f x with
  | none => rfl
  | some y => cases mapO f xs <;> rfl
/-! operators -/
@[simp] theorem d_add {i j : Int} : opD .add (.int i) (.int j) = some (.int (i + j)) := rfl
@[simp] theorem d_sub {i j : Int} : opD .sub (.int i) (.int j) = some (.int (i - j)) := rfl
@[simp] theorem d_mul {i j : Int} : opD .mul (.int i) (.int j) = if mulOk i j = true then some (.int (i * j)) else none := rfl
@[simp] theorem d_div {i j : Int} : opD .fdiv (.int i) (.int j) = if divOk j = true then some (.int (i / j)) else none := rfl
@[simp] theorem d_mod {i j : Int} : opD .mod (.int i) (.int j) = if 0 < j then some (.int (i % j)) else none := by
  show (if decide (0 < j) = true then _ else _) = _
  simp
@[simp] theorem d_pow {i j : Int} : opD .pow (.int i) (.int j) = if powOk i j = true then some (.int (i ^ j.toNat)) else none := rfl
@[simp] theorem d_cat {xs ys : List D} : opD .add (.list xs) (.list ys) = if lineOk (xs ++ ys).length = true then some (.list (xs ++ ys)) else none := rfl
@[simp] theorem d_gt {i j : Int} : cmpD .gt (.int i) (.int j) = some (decide (j < i)) := rfl
@[simp] theorem d_lt {i j : Int} : cmpD .lt (.int i) (.int j) = some (decide (i < j)) := rfl
@[simp] theorem d_ge {i j : Int} : cmpD .ge (.int i) (.int j) = some (decide (j ≤ i)) := rfl
@[simp] theorem d_le {i j : Int} : cmpD .le (.int i) (.int j) = some (decide (i ≤ j)) := rfl
@[simp] theorem d_eqi {i j : Int} : cmpD .eq (.int i) (.int j) = some (decide (i = j)) := by
  show (if dOk (.int i) && dOk (.int j) then some (PyData.eqv (.int i) (.int j)) else none) = _
  have : (dOk (.int i) && dOk (.int j)) = true := rfl
  rw [if_pos this]
  congr 1
@[simp] theorem d_nei {i j : Int} : cmpD .ne (.int i) (.int j) = some (!decide (i = j)) := by
  have : cmpD .ne (.int i) (.int j) = (cmpD .eq (.int i) (.int j)).map not := rfl
  rw [this, d_eqi]; rfl
@[simp] theorem t_bl {b : Bool} : truthD (.bool b) = some b := rfl
@[simp] theorem t_int {i : Int} : truthD (.int i) = some (i != 0) := rfl
@[simp] theorem t_lst {xs : List D} : truthD (.list xs) = some (xs.length != 0) := rfl
@[simp] theorem t_non : truthD .none = some false := rfl
@[simp] theorem b_len {vs : List D} : biD "len" vs = oneD (fun x => (lenD x).map fun n => .int (n : Nat)) vs := rfl
@[simp] theorem b_abs {i : Int} : biD "abs" [.int i] = some (.int (if i < 0 then -i else i)) := rfl
@[simp] theorem b_int {i : Int} : biD "int" [.int i] = some (.int i) := rfl
@[simp] theorem b_max2 {i j : Int} : biD "max" [.int i, .int j] = some (.int (if j > i then j else i)) := rfl
@[simp] theorem b_min2 {i j : Int} : biD "min" [.int i, .int j] = some (.int (if j < i then j else i)) := rfl
@[simp] theorem b_max {xs : List D} : biD "max" [.list xs] = maxD [.list xs] := rfl
@[simp] theorem b_min {xs : List D} : biD "min" [.list xs] = minD [.list xs] := rfl
@[simp] theorem b_sum {xs : List D} : biD "sum" [.list xs] = (intsD xs).map fun is => .int is.sum := rfl
@[simp] theorem b_all {xs : List D} : biD "all" [.list xs] = (boolsD xs).map fun is => .bool (is.all id) := rfl
@[simp] theorem b_any {xs : List D} : biD "any" [.list xs] = (boolsD xs).map fun is => .bool (is.any id) := rfl
@[simp] theorem b_tupT {xs : List D} : biD "tuple" [.tuple xs] = some (.tuple xs) := rfl
@[simp] theorem b_tupL {xs : List D} : biD "tuple" [.list xs] = if lineOk xs.length = true then some (.tuple xs) else none := rfl
@[simp] theorem oneD_one {f : D → Option D} {x : D} : oneD f [x] = f x := rfl
@[simp] theorem len_t {xs : List D} : lenD (.tuple xs) = some xs.length := rfl
@[simp] theorem len_l {xs : List D} : lenD (.list xs) = some xs.length := rfl
@[simp] theorem ix_l {xs : List D} {k : Int} : ixD (.list xs) (.int k) = L2.atI xs k := rfl
@[simp] theorem ix_t {xs : List D} {k : Int} : ixD (.tuple xs) (.int k) = L2.atI xs k := rfl
@[simp] theorem atI0 {α : Type} {x : α} {xs : List α} : L2.atI (x :: xs) 0 = some x := by
  have : L2.ixN (x :: xs).length 0 = some 0 := by
    unfold L2.ixN
    rw [if_pos (by omega), if_pos (by simp only [List.length_cons]; omega)]; rfl
  unfold L2.atI; rw [this]; rfl
@[simp] theorem atI1 {α : Type} {x y : α} {xs : List α} : L2.atI (x :: y :: xs) 1 = some y := by
  have : L2.ixN (x :: y :: xs).length 1 = some 1 := by
    unfold L2.ixN
    rw [if_pos (by omega), if_pos (by simp only [List.length_cons]; omega)]; rfl
  unfold L2.atI; rw [this]; rfl
end
end TQ
/-! TQ68: the data's evaluator, its steps (as weakest preconditions). -/
namespace TQ
open PySem L2
section
variable {P : PP} {τ : Env} {o : Om} {X : Str → D → Om → Prop} {Q : Pv → Om → Prop} {QB : Bool → Om → Prop} {QA : List Pv → Om → Prop} {QS : FlP × Env → Om → Prop}
@[simp] theorem p_cst {c : Cst} : okx (pv P τ (.cst c) o) Q X ↔ Q (mkP (cstD c)) o := by simp only [pv, pvv, pdf, x_pure]
@[simp] theorem p_var {i : Nat} : okx (pv P τ (.var i) o) Q X ↔ ∃ v, (τ[i]?).getD none = some v ∧ Q v o := by simp [pv, pvv, pdf]
@[simp] theorem p_glb {x : Str} : okx (pv P τ (.glb x) o) Q X ↔ ∃ d, P.cs x = some d ∧ Q (mkP d) o := by
  simp only [pv, pvv, pdf, x_pO, Option.map_eq_some_iff]
  constructor
  · rintro ⟨_, ⟨d, e, rfl⟩, q⟩; exact ⟨d, e, q⟩
  · rintro ⟨d, e, q⟩; exact ⟨_, ⟨d, e, rfl⟩, q⟩
@[simp] theorem p_bin {f : Op2} {a b : Ex} : okx (pv P τ (.bin f a b) o) Q X ↔ okx (pv P τ a o) (fun x o1 => okx (pv P τ b o1) (fun y o2 => ∃ u w r, lk x = some u ∧ lk y = some w ∧ opD f u w = some r ∧ Q (mkF r) o2) X) X := by
  simp only [pv, pvv, pdf, x_bind, two1, x_pO, Option.map_eq_some_iff, Option.bind_eq_some_iff]
  constructor
  · intro h; refine h.monoQ fun x o1 h => h.monoQ fun y o2 h => ?_
    obtain ⟨p, ⟨r, ⟨u, e1, w, e2, e3⟩, rfl⟩, q⟩ := h
    exact ⟨u, w, r, e1, e2, e3, q⟩
  · intro h; refine h.monoQ fun x o1 h => h.monoQ fun y o2 h => ?_
    obtain ⟨u, w, r, e1, e2, e3, q⟩ := h
    exact ⟨_, ⟨r, ⟨u, e1, w, e2, e3⟩, rfl⟩, q⟩
@[simp] theorem p_neg {a : Ex} : okx (pv P τ (.neg a) o) Q X ↔ okx (pv P τ a o) (fun x o1 => ∃ i : Int, lk x = some (.int i) ∧ Q (mkF (.int (-i))) o1) X := by
  simp only [pv, pvv, pdf, x_bind, one1, x_pO, Option.map_eq_some_iff, Option.bind_eq_some_iff]
  constructor
  · intro h; refine h.monoQ fun x o1 h => ?_
    obtain ⟨p, ⟨r, ⟨u, e1, e3⟩, rfl⟩, q⟩ := h
    split at e3
    · cases e3; exact ⟨_, e1, q⟩
    · cases e3
  · intro h; refine h.monoQ fun x o1 h => ?_
    obtain ⟨i, e1, q⟩ := h
    exact ⟨_, ⟨_, ⟨_, e1, rfl⟩, rfl⟩, q⟩
@[simp] theorem p_nt {a : Ex} : okx (pv P τ (.nt a) o) Q X ↔ okx (pvB P τ a o) (fun b o1 => Q (mkP (.bool (!b))) o1) X := by simp [pv, pvB, pvv, pbo]
@[simp] theorem p_and {a b : Ex} : okx (pv P τ (.and a b) o) Q X ↔ okx (pv P τ a o) (fun v o1 => ∃ c, lk v = some (.bool c) ∧ if c = true then okx (pv P τ b o1) Q X else Q (mkP (.bool false)) o1) X := by
  simp only [pv, pvv, x_bind]
  constructor
  · intro h; refine h.monoQ fun x o1 h => ?_
    cases x with
    | gen => exact h.elim
    | d x f => cases x <;> first | exact h.elim | skip
               rename_i c; exact ⟨c, rfl, by cases c <;> exact h⟩
  · intro h; refine h.monoQ fun x o1 h => ?_
    obtain ⟨c, e, h⟩ := h
    cases x with
    | gen => cases e
    | d x f => cases e; cases c <;> exact h
@[simp] theorem p_or {a b : Ex} : okx (pv P τ (.or a b) o) Q X ↔ okx (pv P τ a o) (fun v o1 => ∃ c, lk v = some (.bool c) ∧ if c = true then Q (mkP (.bool true)) o1 else okx (pv P τ b o1) Q X) X := by
  simp only [pv, pvv, x_bind]
  constructor
  · intro h; refine h.monoQ fun x o1 h => ?_
    cases x with
    | gen => exact h.elim
    | d x f => cases x <;> first | exact h.elim | skip
               rename_i c; exact ⟨c, rfl, by cases c <;> exact h⟩
  · intro h; refine h.monoQ fun x o1 h => ?_
    obtain ⟨c, e, h⟩ := h
    cases x with
    | gen => cases e
    | d x f => cases e; cases c <;> exact h
@[simp] theorem p_ife {c a b : Ex} : okx (pv P τ (.ife c a b) o) Q X ↔ okx (pvB P τ c o) (fun k o1 => if k = true then okx (pv P τ a o1) Q X else okx (pv P τ b o1) Q X) X := by simp [pv, pvv, pdf]
theorem x_cmpP {f : Cm} {v w : Pv} : okx (cmpP f v w o) QB X ↔ ∃ x y r, lk v = some x ∧ lk w = some y ∧ cmpD f x y = some r ∧ QB r o := by
  simp only [cmpP, x_pO, Option.bind_eq_some_iff]
  constructor
  · rintro ⟨r, ⟨x, e1, y, e2, e3⟩, q⟩; exact ⟨x, y, r, e1, e2, e3, q⟩
  · rintro ⟨x, y, r, e1, e2, e3, q⟩; exact ⟨r, ⟨x, e1, y, e2, e3⟩, q⟩
@[simp] theorem pB_cmp {f : Cm} {a b : Ex} : okx (pvB P τ (.cmp f a b) o) QB X ↔ okx (pv P τ a o) (fun v o1 => okx (pv P τ b o1) (fun w o2 => ∃ x y r, lk v = some x ∧ lk w = some y ∧ cmpD f x y = some r ∧ QB r o2) X) X := by
  simp only [pvB, pv, pvv, pbo, x_bind, x_cmpP]
@[simp] theorem p_cmp {f : Cm} {a b : Ex} : okx (pv P τ (.cmp f a b) o) Q X ↔ okx (pv P τ a o) (fun v o1 => okx (pv P τ b o1) (fun w o2 => ∃ x y r, lk v = some x ∧ lk w = some y ∧ cmpD f x y = some r ∧ Q (mkP (.bool r)) o2) X) X := by
  simp only [pv, pvv, pbo, x_bind, x_cmpP, x_pure]
@[simp] theorem pB_chn {f1 f2 : Cm} {a b c : Ex} : okx (pvB P τ (.chn f1 f2 a b c) o) QB X ↔ okx (pv P τ a o) (fun v o1 => okx (pv P τ b o1) (fun w o2 => ∃ x y r, lk v = some x ∧ lk w = some y ∧ cmpD f1 x y = some r ∧ if r = true then okx (pv P τ c o2) (fun u o3 => ∃ y z r, lk w = some y ∧ lk u = some z ∧ cmpD f2 y z = some r ∧ QB r o3) X else QB false o2) X) X := by
  simp only [pvB, pv, pvv, pbo, x_bind, x_cmpP, x_ite, x_pure]
@[simp] theorem p_chn {f1 f2 : Cm} {a b c : Ex} : okx (pv P τ (.chn f1 f2 a b c) o) Q X ↔ okx (pvB P τ (.chn f1 f2 a b c) o) (fun r o1 => Q (mkP (.bool r)) o1) X := by
  simp only [pvB, pv, pvv, pbo, x_bind, x_pure]
@[simp] theorem p_lst {es : List Ex} : okx (pv P τ (.lst es) o) Q X ↔ okx (pAs P τ es o) (fun vs o1 => ∃ xs, mapO nb vs = some xs ∧ lineOk xs.length = true ∧ Q (.d (.list xs) .fr) o1) X := by
  simp only [pv, pvv, pdf, x_bind, x_pO, lstP, x_ite, x_pure, x_pbad]
  constructor
  · intro h; refine h.monoQ fun x o1 h => ?_
    obtain ⟨xs, e, h⟩ := h
    split at h
    · exact ⟨xs, e, ‹_›, h⟩
    · exact h.elim
  · intro h; refine h.monoQ fun x o1 h => ?_
    obtain ⟨xs, e, hl, h⟩ := h
    exact ⟨xs, e, by rw [if_pos hl]; exact h⟩
@[simp] theorem p_tup {es : List Ex} : okx (pv P τ (.tup es) o) Q X ↔ okx (pAs P τ es o) (fun vs o1 => ∃ xs, mapO nb vs = some xs ∧ lineOk xs.length = true ∧ Q (mkP (.tuple xs)) o1) X := by
  simp only [pv, pvv, pdf, x_bind, x_pO, tupP, x_ite, x_pure, x_pbad]
  constructor
  · intro h; refine h.monoQ fun x o1 h => ?_
    obtain ⟨xs, e, h⟩ := h
    split at h
    · exact ⟨xs, e, ‹_›, h⟩
    · exact h.elim
  · intro h; refine h.monoQ fun x o1 h => ?_
    obtain ⟨xs, e, hl, h⟩ := h
    exact ⟨xs, e, by rw [if_pos hl]; exact h⟩
@[simp] theorem p_edc : okx (pv P τ .edc o) Q X ↔ Q (mkP (.dict [])) o := by simp [pv, pvv, pdf]
@[simp] theorem p_call {f : Str} {es : List Ex} : okx (pv P τ (.call f es) o) Q X ↔ okx (pAs P τ es o) (fun vs o1 => ∃ us, mapO argP vs = some us ∧ okx (P.fn f us o1) (fun d o2 => Q (mkP d) o2) X) X := by
  simp only [pv, pvv, pdf, x_bind, x_pO, x_pure]
@[simp] theorem p_callK {f : Str} {as bs : List Ex} {q : List Nat} : okx (pv P τ (.callK f as bs q) o) Q X ↔ okx (pAs P τ as o) (fun vs o1 => okx (pAs P τ bs o1) (fun ws o2 => ∃ us, mapO argP (vs ++ ws) = some us ∧ ∃ us', mapO (fun i => us[i]?) q = some us' ∧ okx (P.fn f us' o2) (fun d o3 => Q (mkP d) o3) X) X) X := by
  simp only [pv, pvv, pdf, x_bind, x_pO, x_pure]
@[simp] theorem p_bif {f : Str} {es : List Ex} : okx (pv P τ (.bif f es) o) Q X ↔ okx (pAs P τ es o) (fun vs o1 => ∃ ds r, mapO lk vs = some ds ∧ biD f ds = some r ∧ Q (mkF r) o1) X := by
  simp only [pv, pvv, pdf, x_bind, many1, x_pO, Option.map_eq_some_iff, Option.bind_eq_some_iff]
  constructor
  · intro h; refine h.monoQ fun x o1 h => ?_
    obtain ⟨p, ⟨r, ⟨u, e1, e3⟩, rfl⟩, q⟩ := h
    exact ⟨u, r, e1, e3, q⟩
  · intro h; refine h.monoQ fun x o1 h => ?_
    obtain ⟨u, r, e1, e3, q⟩ := h
    exact ⟨_, ⟨r, ⟨u, e1, e3⟩, rfl⟩, q⟩
@[simp] theorem p_isi {a : Ex} {T : List Str} : okx (pv P τ (.isi a T) o) Q X ↔ okx (pv P τ a o) (fun v o1 => ∃ d b, lk v = some d ∧ isiD P d T = some b ∧ Q (mkP (.bool b)) o1) X := by
  simp only [pv, pvv, pdf, x_bind, x_pO, Option.map_eq_some_iff, Option.bind_eq_some_iff]
  constructor
  · intro h; refine h.monoQ fun x o1 h => ?_
    obtain ⟨p, ⟨r, ⟨u, e1, e3⟩, rfl⟩, q⟩ := h
    exact ⟨u, r, e1, e3, q⟩
  · intro h; refine h.monoQ fun x o1 h => ?_
    obtain ⟨u, r, e1, e3, q⟩ := h
    exact ⟨_, ⟨r, ⟨u, e1, e3⟩, rfl⟩, q⟩
@[simp] theorem p_ix {a i : Ex} : okx (pv P τ (.ix a i) o) Q X ↔ okx (pv P τ a o) (fun x o1 => okx (pv P τ i o1) (fun y o2 => ∃ u w r, lk x = some u ∧ lk y = some w ∧ ixD u w = some r ∧ Q (mkP r) o2) X) X := by
  simp only [pv, pvv, pdf, x_bind, ixP, x_pO, Option.map_eq_some_iff, Option.bind_eq_some_iff]
  constructor
  · intro h; refine h.monoQ fun x o1 h => h.monoQ fun y o2 h => ?_
    obtain ⟨p, ⟨r, ⟨u, e1, w, e2, e3⟩, rfl⟩, q⟩ := h
    exact ⟨u, w, r, e1, e2, e3, q⟩
  · intro h; refine h.monoQ fun x o1 h => h.monoQ fun y o2 h => ?_
    obtain ⟨u, w, r, e1, e2, e3, q⟩ := h
    exact ⟨_, ⟨r, ⟨u, e1, w, e2, e3⟩, rfl⟩, q⟩
@[simp] theorem p_sl {a : Ex} {lo hi : Option Ex} : okx (pv P τ (.sl a lo hi) o) Q X ↔ okx (pv P τ a o) (fun x o1 => okx (pOp P τ lo o1) (fun l o2 => okx (pOp P τ hi o2) (fun h o3 => ∃ u r, lk x = some u ∧ slD u l h = some r ∧ Q (mkF r) o3) X) X) X := by
  simp only [pv, pvv, pdf, x_bind, one1, x_pO, Option.map_eq_some_iff, Option.bind_eq_some_iff]
  constructor
  · intro h; refine h.monoQ fun x o1 h => h.monoQ fun y o2 h => h.monoQ fun z o3 h => ?_
    obtain ⟨p, ⟨r, ⟨u, e1, e3⟩, rfl⟩, q⟩ := h
    exact ⟨u, r, e1, e3, q⟩
  · intro h; refine h.monoQ fun x o1 h => h.monoQ fun y o2 h => h.monoQ fun z o3 h => ?_
    obtain ⟨u, r, e1, e3, q⟩ := h
    exact ⟨_, ⟨r, ⟨u, e1, e3⟩, rfl⟩, q⟩
@[simp] theorem p_op0 {QO : Option Int → Om → Prop} : okx (pOp P τ none o) QO X ↔ QO none o := by simp [pOp]
@[simp] theorem p_op1 {QO : Option Int → Om → Prop} {e : Ex} : okx (pOp P τ (some e) o) QO X ↔ okx (pv P τ e o) (fun v o1 => ∃ i, lk v = some (.int i) ∧ QO (some i) o1) X := by
  simp only [pOp, x_bind]
  constructor
  · intro h; refine h.monoQ fun x o1 h => ?_
    cases x with
    | gen => exact h.elim
    | d x f => cases x <;> first | exact h.elim | skip
               rename_i c; exact ⟨c, rfl, h⟩
  · intro h; refine h.monoQ fun x o1 h => ?_
    obtain ⟨c, e, h⟩ := h
    cases x with
    | gen => cases e
    | d x f => cases e; exact h
@[simp] theorem p_rgl {tp : Bool} {es : List Ex} : okx (pv P τ (.rgl tp es) o) Q X ↔ okx (pAs P τ es o) (fun vs o1 => ∃ ds r, mapO lk vs = some ds ∧ rgD tp ds = some r ∧ Q (mkF r) o1) X := by
  simp only [pv, pvv, pdf, x_bind, many1, x_pO, Option.map_eq_some_iff, Option.bind_eq_some_iff]
  constructor
  · intro h; refine h.monoQ fun x o1 h => ?_
    obtain ⟨p, ⟨r, ⟨u, e1, e3⟩, rfl⟩, q⟩ := h
    exact ⟨u, r, e1, e3, q⟩
  · intro h; refine h.monoQ fun x o1 h => ?_
    obtain ⟨u, r, e1, e3, q⟩ := h
    exact ⟨_, ⟨r, ⟨u, e1, e3⟩, rfl⟩, q⟩
@[simp] theorem p_rev {a : Ex} : okx (pv P τ (.rev a) o) Q X ↔ okx (pv P τ a o) (fun v o1 => ∃ u r, lk v = some u ∧ revD u = some r ∧ Q (mkF r) o1) X := by
  simp only [pv, pvv, pdf, x_bind, one1, x_pO, Option.map_eq_some_iff, Option.bind_eq_some_iff]
  constructor
  · intro h; refine h.monoQ fun x o1 h => ?_
    obtain ⟨p, ⟨r, ⟨u, e1, e3⟩, rfl⟩, q⟩ := h
    exact ⟨u, r, e1, e3, q⟩
  · intro h; refine h.monoQ fun x o1 h => ?_
    obtain ⟨u, r, e1, e3, q⟩ := h
    exact ⟨_, ⟨r, ⟨u, e1, e3⟩, rfl⟩, q⟩
@[simp] theorem p_nil : okx (pAs P τ [] o) QA X ↔ QA [] o := by simp [pAs]
@[simp] theorem p_cons {e : Ex} {es : List Ex} : okx (pAs P τ (e :: es) o) QA X ↔ okx (pv P τ e o) (fun v o1 => okx (pAs P τ es o1) (fun vs o2 => QA (v :: vs) o2) X) X := by simp [pAs]
@[simp] theorem p_if0 : okx (pIf P τ [] o) QB X ↔ QB true o := by simp [pIf]
@[simp] theorem p_if1 {e : Ex} : okx (pIf P τ [e] o) QB X ↔ okx (pvB P τ e o) QB X := by
  simp only [pIf, x_bind]
  refine ⟨fun h => h.monoQ fun b o1 q => ?_, fun h => h.monoQ fun b o1 q => ?_⟩ <;> cases b <;> exact q
/-! tests -/
theorem pB_df {e : Ex} (h : (pvv P τ e).2 = (pvv P τ e).1.bind fun v => pO ((lk v).bind truthD)) : okx (pvB P τ e o) QB X ↔ okx (pv P τ e o) (fun v o1 => ∃ d b, lk v = some d ∧ truthD d = some b ∧ QB b o1) X := by
  unfold pvB
  rw [h]
  simp only [x_bind, x_pO, Option.bind_eq_some_iff]
  constructor
  · intro h; refine h.monoQ fun x o1 h => ?_
    obtain ⟨b, ⟨d, e1, e2⟩, q⟩ := h; exact ⟨d, b, e1, e2, q⟩
  · intro h; refine h.monoQ fun x o1 h => ?_
    obtain ⟨d, b, e1, e2, q⟩ := h; exact ⟨b, ⟨d, e1, e2⟩, q⟩
@[simp] theorem pB_cst {c : Cst} : okx (pvB P τ (.cst c) o) QB X ↔ okx (pv P τ (.cst c) o) (fun v o1 => ∃ d b, lk v = some d ∧ truthD d = some b ∧ QB b o1) X := pB_df (by simp only [pvv, pdf])
@[simp] theorem pB_var {i : Nat} : okx (pvB P τ (.var i) o) QB X ↔ okx (pv P τ (.var i) o) (fun v o1 => ∃ d b, lk v = some d ∧ truthD d = some b ∧ QB b o1) X := pB_df (by simp only [pvv, pdf])
@[simp] theorem pB_call {f : Str} {es : List Ex} : okx (pvB P τ (.call f es) o) QB X ↔ okx (pv P τ (.call f es) o) (fun v o1 => ∃ d b, lk v = some d ∧ truthD d = some b ∧ QB b o1) X := pB_df (by simp only [pvv, pdf])
@[simp] theorem pB_callK {f : Str} {as bs : List Ex} {q : List Nat} : okx (pvB P τ (.callK f as bs q) o) QB X ↔ okx (pv P τ (.callK f as bs q) o) (fun v o1 => ∃ d b, lk v = some d ∧ truthD d = some b ∧ QB b o1) X := pB_df (by simp only [pvv, pdf])
@[simp] theorem pB_bif {f : Str} {es : List Ex} : okx (pvB P τ (.bif f es) o) QB X ↔ okx (pv P τ (.bif f es) o) (fun v o1 => ∃ d b, lk v = some d ∧ truthD d = some b ∧ QB b o1) X := pB_df (by simp only [pvv, pdf])
@[simp] theorem pB_isi {a : Ex} {T : List Str} : okx (pvB P τ (.isi a T) o) QB X ↔ okx (pv P τ (.isi a T) o) (fun v o1 => ∃ d b, lk v = some d ∧ truthD d = some b ∧ QB b o1) X := pB_df (by simp only [pvv, pdf])
@[simp] theorem pB_ife {c a b : Ex} : okx (pvB P τ (.ife c a b) o) QB X ↔ okx (pv P τ (.ife c a b) o) (fun v o1 => ∃ d b, lk v = some d ∧ truthD d = some b ∧ QB b o1) X := pB_df (by simp only [pvv, pdf])
@[simp] theorem pB_ix {a i : Ex} : okx (pvB P τ (.ix a i) o) QB X ↔ okx (pv P τ (.ix a i) o) (fun v o1 => ∃ d b, lk v = some d ∧ truthD d = some b ∧ QB b o1) X := pB_df (by simp only [pvv, pdf])
@[simp] theorem pB_nt {a : Ex} : okx (pvB P τ (.nt a) o) QB X ↔ okx (pvB P τ a o) (fun b o1 => QB (!b) o1) X := by simp [pv, pvB, pvv, pbo]
@[simp] theorem pB_and {a b : Ex} : okx (pvB P τ (.and a b) o) QB X ↔ okx (pvB P τ a o) (fun c o1 => if c = true then okx (pvB P τ b o1) QB X else QB false o1) X := by simp [pv, pvB, pvv]
@[simp] theorem pB_or {a b : Ex} : okx (pvB P τ (.or a b) o) QB X ↔ okx (pvB P τ a o) (fun c o1 => if c = true then QB true o1 else okx (pvB P τ b o1) QB X) X := by simp [pv, pvB, pvv]
/-! statements -/
@[simp] theorem ps_nil : okx (pxSs P [] τ o) QS X ↔ QS (.nx, τ) o := by simp [pxSs]
@[simp] theorem ps_cons {s : Sm} {r : List Sm} : okx (pxSs P (s :: r) τ o) QS X ↔ okx (pxS P s τ o) (fun p o1 => match p.1 with | .nx => okx (pxSs P r p.2 o1) QS X | f => QS (f, p.2) o1) X := by
  simp only [pxSs, seqP, x_bind]
  refine ⟨fun h => h.monoQ fun p o1 q => ?_, fun h => h.monoQ fun p o1 q => ?_⟩ <;> (obtain ⟨f, t⟩ := p; cases f <;> exact q)
@[simp] theorem ps_asg {i : Nat} {e : Ex} : okx (pxS P (.asg (.nm i) e) τ o) QS X ↔ okx (pv P (dis (rtV e) τ) e o) (fun v o1 => ∃ τ', setP i v (dis (rtV e) τ) = some τ' ∧ QS (.nx, τ') o1) X := by simp [pxS, asgP]
@[simp] theorem ps_asgP {ps : List Pat} {e : Ex} : okx (pxS P (.asg (.tup ps) e) τ o) QS X ↔ okx (pv P (dis (rtV e) τ) e o) (fun v o1 => ∃ d τ', nb v = some d ∧ bindD (.tup ps) d (dis (rtV e) τ) = some τ' ∧ QS (.nx, τ') o1) X := by
  simp only [pxS, asgP, x_bind, x_pO, x_pure, Option.bind_eq_some_iff]
  constructor
  · intro h; refine h.monoQ fun x o1 h => ?_
    obtain ⟨t, ⟨d, e1, e2⟩, q⟩ := h; exact ⟨d, t, e1, e2, q⟩
  · intro h; refine h.monoQ fun x o1 h => ?_
    obtain ⟨d, t, e1, e2, q⟩ := h; exact ⟨t, ⟨d, e1, e2⟩, q⟩
@[simp] theorem ps_par {i j : Nat} {a b : Ex} : okx (pxS P (.par i j a b) τ o) QS X ↔ okx (pv P (dis (rtV a ++ rtV b) τ) a o) (fun v o1 => okx (pv P (dis (rtV a ++ rtV b) τ) b o1) (fun w o2 => ∃ τ1 τ2, setN i v (dis (rtV a ++ rtV b) τ) = some τ1 ∧ setN j w τ1 = some τ2 ∧ QS (.nx, τ2) o2) X) X := by
  simp only [pxS, x_bind, x_pO, x_pure, Option.bind_eq_some_iff]
  constructor
  · intro h; refine h.monoQ fun x o1 h => h.monoQ fun y o2 h => ?_
    obtain ⟨t, ⟨d, e1, e2⟩, q⟩ := h; exact ⟨d, t, e1, e2, q⟩
  · intro h; refine h.monoQ fun x o1 h => h.monoQ fun y o2 h => ?_
    obtain ⟨d, t, e1, e2, q⟩ := h; exact ⟨t, ⟨d, e1, e2⟩, q⟩
@[simp] theorem ps_par3 {i j l : Nat} {a b c : Ex} : okx (pxS P (.par3 i j l a b c) τ o) QS X ↔ okx (pv P (dis (rtV a ++ rtV b ++ rtV c) τ) a o) (fun u o1 => okx (pv P (dis (rtV a ++ rtV b ++ rtV c) τ) b o1) (fun v o2 => okx (pv P (dis (rtV a ++ rtV b ++ rtV c) τ) c o2) (fun w o3 => ∃ τ1 τ2 τ3, setN i u (dis (rtV a ++ rtV b ++ rtV c) τ) = some τ1 ∧ setN j v τ1 = some τ2 ∧ setN l w τ2 = some τ3 ∧ QS (.nx, τ3) o3) X) X) X := by
  simp only [pxS, x_bind, x_pO, x_pure, Option.bind_eq_some_iff]
  constructor
  · intro h; refine h.monoQ fun x o1 h => h.monoQ fun y o2 h => h.monoQ fun z o3 h => ?_
    obtain ⟨t, ⟨d, e1, d2, e2, e3⟩, q⟩ := h; exact ⟨d, d2, t, e1, e2, e3, q⟩
  · intro h; refine h.monoQ fun x o1 h => h.monoQ fun y o2 h => h.monoQ fun z o3 h => ?_
    obtain ⟨d, d2, t, e1, e2, e3, q⟩ := h; exact ⟨t, ⟨d, e1, d2, e2, e3⟩, q⟩
@[simp] theorem ps_ret {e : Ex} : okx (pxS P (.ret e) τ o) QS X ↔ okx (pv P (dis (rtV e) τ) e o) (fun v o1 => ∃ d, nb v = some d ∧ QS (.rt d, dis (rtV e) τ) o1) X := by simp [pxS]
@[simp] theorem ps_retN : okx (pxS P .retN τ o) QS X ↔ QS (.rt .none, τ) o := by simp [pxS]
@[simp] theorem ps_ife {c : Ex} {a b : List Sm} : okx (pxS P (.ife c a b) τ o) QS X ↔ okx (pvB P (dis (brV c) τ) c o) (fun k o1 => if k = true then okx (pxSs P a (dis (brV c) τ) o1) QS X else okx (pxSs P b (dis (brV c) τ) o1) QS X) X := by simp [pxS]
@[simp] theorem ps_rse {c : Str} {e : Ex} : okx (pxS P (.rse c e) τ o) QS X ↔ okx (pv P (dis (rtV e) τ) e o) (fun v o1 => ∃ d, nb v = some d ∧ X c d o1) X := by simp [pxS]
@[simp] theorem ps_pass : okx (pxS P .pass τ o) QS X ↔ QS (.nx, τ) o := by simp [pxS]
@[simp] theorem ps_brk : okx (pxS P .brk τ o) QS X ↔ QS (.bk, τ) o := by simp [pxS]
@[simp] theorem ps_cnt : okx (pxS P .cnt τ o) QS X ↔ QS (.ct, τ) o := by simp [pxS]
@[simp] theorem ps_call {f : Str} {es : List Ex} : okx (pxS P (.ex (.call f es)) τ o) QS X ↔ okx (pv P (dis (rtL es) τ) (.call f es) o) (fun _ o1 => QS (.nx, dis (rtL es) τ) o1) X := by simp [pxS]
@[simp] theorem ps_whl {fu : Tau → Sto → Nat} {c : Ex} {b : List Sm} : okx (pxS P (.whl fu c b) τ o) QS X ↔ okx (whileP (fun τ => pvB P τ c) (pxSs P b) (P.fuel (dis (brV c) τ)) (dis (brV c) τ) o) QS X := by simp [pxS]
@[simp] theorem ps_fr {p : Pat} {k : SrcK} {ss : List Ex} {b : List Sm} : okx (pxS P (.fr p k ss b) τ o) QS X ↔ okx (pAs P (dis (rtL ss) τ) ss o) (fun vs o1 => ∃ ds xs, mapO nb vs = some ds ∧ srcD k ds = some xs ∧ okx (loopP p (pxSs P b) xs (dis (rtL ss) τ) o1) QS X) X := by
  simp only [pxS, x_bind, x_pO, Option.bind_eq_some_iff]
  constructor
  · intro h; refine h.monoQ fun x o1 h => ?_
    obtain ⟨t, ⟨d, e1, e2⟩, q⟩ := h; exact ⟨d, t, e1, e2, q⟩
  · intro h; refine h.monoQ fun x o1 h => ?_
    obtain ⟨d, t, e1, e2, q⟩ := h; exact ⟨t, ⟨d, e1, e2⟩, q⟩
@[simp] theorem ps_app {i : Nat} {a : Ex} : okx (pxS P (.ex (.mth "append" (.var i) [a])) τ o) QS X ↔ (∃ u, owS i (dis (rtV a) τ) = some u) ∧ okx (pv P (dis (rtV a) τ) a o) (fun v o1 => okx (appP i v (dis (rtV a) τ) o1) QS X) X := by
  have h : (("append" : Str) = "append") := rfl
  simp only [pxS, x_bind, x_pO, if_true]
  constructor
  · rintro ⟨u, e, h⟩; exact ⟨⟨u, e⟩, h⟩
  · rintro ⟨⟨u, e⟩, h⟩; exact ⟨u, e, h⟩
/-! comprehensions -/
/-- the step of a comprehension -/
def stepP (P : PP) (τ : Env) (p : Pat) (ifs : List Ex) (e : Ex) : D → PM (Option D) := fun d => (pO (bindD p d (wipeE p.slots τ))).bind fun τ' => (pIf P τ' ifs).bind fun b => if b then (pv P τ' e).bind fun v => (pO (nb v)).bind fun x => PM.pure (some x) else PM.pure none
@[simp] theorem p_lc {p : Pat} {k : SrcK} {ss ifs : List Ex} {e : Ex} : okx (pv P τ (.lc p k ss ifs e) o) Q X ↔ okx (pAs P τ ss o) (fun vs o1 => ∃ ds xs, mapO lk vs = some ds ∧ srcD k ds = some xs ∧ okx (compP (stepP P τ p ifs e) xs o1) (fun ys o2 => lineOk ys.length = true ∧ Q (.d (.list ys) .fr) o2) fun _ _ _ => False) X := by
  have hq : ∀ (xs : List D) (o1 : Om), okx (quietP (compP (stepP P τ p ifs e) xs) o1) (fun ys o2 => okx (lstP ys o2) Q X) X ↔ okx (compP (stepP P τ p ifs e) xs o1) (fun ys o2 => lineOk ys.length = true ∧ Q (.d (.list ys) .fr) o2) fun _ _ _ => False := by
    intro xs o1
    unfold quietP
    cases compP (stepP P τ p ifs e) xs o1 with
    | ok a o => simp only [x_ok, lstP, x_ite, x_pure, x_pbad]; split <;> simp_all
    | exc c d o => simp
    | bad => simp
  have e1 : pv P τ (.lc p k ss ifs e) = (pAs P τ ss).bind fun vs => (pO ((mapO lk vs).bind (srcD k))).bind fun xs => (quietP (compP (stepP P τ p ifs e) xs)).bind lstP := by simp only [pv, pvv, pdf]; rfl
  rw [e1]
  simp only [x_bind, x_pO, Option.bind_eq_some_iff, hq]
  constructor
  · intro h; refine h.monoQ fun x o1 h => ?_
    obtain ⟨t, ⟨d, e1, e2⟩, q⟩ := h; exact ⟨d, t, e1, e2, q⟩
  · intro h; refine h.monoQ fun x o1 h => ?_
    obtain ⟨d, t, e1, e2, q⟩ := h; exact ⟨t, ⟨d, e1, e2⟩, q⟩
@[simp] theorem c_nil {f : D → PM (Option D)} {QL : List D → Om → Prop} : okx (compP f [] o) QL X ↔ QL [] o := Iff.rfl
@[simp] theorem c_cons {f : D → PM (Option D)} {x : D} {xs : List D} {QL : List D → Om → Prop} : okx (compP f (x :: xs) o) QL X ↔ okx (f x o) (fun r o1 => okx (compP f xs o1) (fun ys o2 => QL (consO r ys) o2) X) X := by
  simp only [compP, x_bind, x_pure]
@[simp] theorem step0 {p : Pat} {e : Ex} {d : D} {QO : Option D → Om → Prop} : okx (stepP P τ p [] e d o) QO X ↔ ∃ τ', bindD p d (wipeE p.slots τ) = some τ' ∧ okx (pv P τ' e o) (fun v o1 => ∃ x, nb v = some x ∧ QO (some x) o1) X := by
  simp only [stepP, x_bind, x_pO, p_if0, if_true, x_pure]
@[simp] theorem step1 {p : Pat} {e f : Ex} {d : D} {QO : Option D → Om → Prop} : okx (stepP P τ p [f] e d o) QO X ↔ ∃ τ', bindD p d (wipeE p.slots τ) = some τ' ∧ okx (pvB P τ' f o) (fun b o1 => if b = true then okx (pv P τ' e o1) (fun v o2 => ∃ x, nb v = some x ∧ QO (some x) o2) X else QO none o1) X := by
  simp only [stepP, x_bind, x_pO, p_if1, x_ite, x_pure]
/-- each item has its value -/
theorem comp_fm {f : D → PM (Option D)} {h : D → Option D} : ∀ {xs : List D} {o : Om}, (∀ x ∈ xs, ∀ o, f x o = .ok (h x) o) → compP f xs o = .ok (xs.filterMap h) o
  | [], o, _ => rfl
  | x :: xs, o, k => by
    simp only [compP, PM.bind, k x (by simp), comp_fm (fun y hy => k y (List.mem_cons_of_mem _ hy)), PM.pure]
    cases hx : h x <;> simp [consO, hx]
/-- each item is such -/
theorem comp_all {f : D → PM (Option D)} (I : List D → Om → Prop) {R : Str → D → Om → Prop} : ∀ {xs : List D} {acc : List D} {o : Om} {QL : List D → Om → Prop}, I acc o → (∀ x ∈ xs, ∀ acc o, I acc o → okx (f x o) (fun r o1 => I (acc ++ r.toList) o1) R) → (∀ acc o, I acc o → QL acc o) → okx (compP f xs o) (fun ys o1 => QL (acc ++ ys) o1) R
  | [], acc, o, QL, h, _, k => by simpa using k acc o h
  | x :: xs, acc, o, QL, h, st, k => by
    rw [c_cons]
    refine (st x (by simp) acc o h).monoQ fun r o1 h1 => ?_
    refine (comp_all I h1 (fun y hy => st y (List.mem_cons_of_mem _ hy)) k).monoQ fun ys o2 h2 => ?_
    cases r with
    | none => simpa [consO] using h2
    | some y => simpa [consO] using h2
@[simp] theorem slots_nm {i : Nat} : (Pat.nm i).slots = [i] := by simp [Pat.slots]
@[simp] theorem slots_t2 {i j : Nat} : (Pat.tup [.nm i, .nm j]).slots = [i, j] := by simp [Pat.slots, Pat.slotsL]
theorem line_le {n : Nat} (h : n ≤ 10000) : lineOk n = true := by
  unfold lineOk
  have : (10000 : Nat) ≤ sizeLine := by decide
  exact decide_eq_true (Nat.le_trans h this)
/-! defs -/
theorem p_run {d : Df} {vs : List Pv} {QD : D → Om → Prop} (hc : d.cells = []) (hl : vs.length = d.pars) (hz : d.pars ≤ d.size) (h : okx (pxSs P d.body (vs.map some ++ List.replicate (d.size - d.pars) none) o) (fun p o1 => match p.1 with
    | .rt v => QD v o1
    | .nx => QD .none o1
    | _ => False) X) : okx (runP P d vs o) QD X := by
  unfold runP
  rw [if_pos (by simp [hc, hl, hz]), x_bind]
  refine h.monoQ fun p o1 q => ?_
  obtain ⟨f, t⟩ := p
  cases f <;> exact q
theorem x_draw {l : Int} {QD : D → Om → Prop} : okx (drawP [.gen, mkP (.int l)] o) QD X ↔ (1 ≤ l ∧ l < 2 ^ 200 ∧ o.n ≠ 0) ∧ QD (.int (o.s 0 % l)) ⟨fun i => o.s (i + 1), o.n - 1⟩ := by
  show okx (if 1 ≤ l ∧ l < 2 ^ 200 ∧ o.n ≠ 0 then .ok (.int (o.s 0 % l)) ⟨fun i => o.s (i + 1), o.n - 1⟩ else .bad) QD X ↔ _
  rw [x_iteR]
  split <;> simp_all
theorem QL_draw {D : LawD} {fu : Env → Nat} {k : Nat} : (QL D "_law_random" fu (k + 2)).fn "_law_random" = drawP := by
  simp only [QL, if_true, Nat.add_one_ne_zero, if_false]
end
end TQ
/-! TQ69: frames with cells; blocks of statements on data. -/
namespace TQ
open PySem L2
variable {g : GC} {B M : List Nat} {n : Nat} {S : Sto} {τ : Tau} {π : Env}
theorem CxP.of {D : LawD} (hD : HashOk D) {fu : Env → Nat} (hF : ∀ x e, D.find x = some e → FOks fu e.d.body) {k : Nat} (hc : ∀ k, g.gen = some k → k ∉ g.cells) {own : List (Nat × Nat)} (ho : ∀ q ∈ own, q.2 ∈ g.cells) : CxP g (QL D "_law_random" fu k) { PL D k with own := own, blk := false } :=
  let C := snd_L hD hF k g hc
  ⟨ho, hc, C.cs, C.isE, C.fn⟩
/-- a block of statements -/
theorem block_at {P : PP} {P' : Pr} (C : CxP g P P') {l : List Sm} (F : FOks P.fuel l) (hB : Bd g B M S) (hE : ER g B M S τ π) (G : Gn g S n) {Q : FlP × Env → Om → Prop} (h : ∀ s, okx (pxSs P l π ⟨s, n⟩) Q fun _ _ _ => False) :
    Ok (exSs P' l τ S) fun r S' => ∃ q n', Kx g.cells (Al g M) S S' ∧ Gn g S' n' ∧ SRl g B M S q r S' ∧ ∀ s, Q q ⟨s, n'⟩ := by
  have key := snd_ss l C F hB hE G Q _ h
  cases hr : exSs P' l τ S with
  | ok v S' => rw [hr] at key; exact key
  | exc c v S' => rw [hr] at key; obtain ⟨_, _, _, _, _, f⟩ := key; exact (f fun _ => 0).elim
  | bad => rw [hr] at key; exact key.elim
theorem s_app {P : Pr} {b : List Sm} {QS : Fl × Tau → Sto → Prop} : ∀ {a : List Sm} {τ : Tau} {S : Sto}, Ok (exSs P a τ S) (fun p S1 => match p.1 with | .nx => Ok (exSs P b p.2 S1) QS | f => QS (f, p.2) S1) → Ok (exSs P (a ++ b) τ S) QS
  | [], τ, S, h => by simpa using h
  | s :: a, τ, S, h => by
    rw [s_cons] at h
    show Ok (exSs P (s :: (a ++ b)) τ S) QS
    rw [s_cons]
    refine h.mono fun p S1 q => ?_
    obtain ⟨f, t⟩ := p
    cases f with
    | nx => exact s_app q
    | bk => exact q
    | ct => exact q
    | rt v => exact q
/-- a call in a frame with cells -/
theorem call_ownD {P : PP} {P' : Pr} (C : CxP g P P') (hb : P'.blk = false) {f : Str} {us : List Pv} {vs : List Val} (hB : ∀ k ∈ g.toList, k ∈ B) (hS : ∀ k ∈ B, k < S.length) (al : AL g B S us vs) (G : Gn g S n) {Q : D → Om → Prop} (h : ∀ s, okx (P.fn f us ⟨s, n⟩) Q fun _ _ _ => False) :
    Ok (callE P' τ vs (P'.fn f) S) fun v S' => ∃ d n', Kx g.cells g.toList S S' ∧ Gn g S' n' ∧ Rp B S' v d ∧ ∀ s, Q d ⟨s, n'⟩ := by
  have e1 : callE P' τ vs (P'.fn f) S = P'.fn f vs (sync P'.own τ S) := by unfold callE; rw [hb]; rfl
  rw [e1]
  have K1 := (sync_kx (cl := g.cells) (τ := τ) (S := S) C.own).1
  have hc : ∀ k ∈ g.cells, k ∈ B := fun k hk => hB k (List.mem_append_right _ hk)
  have key := C.fn f us vs B n (sync P'.own τ S) (fun k hk => hB k (GC.gm hk)) (fun k hk => Nat.lt_of_lt_of_le (hS k hk) K1.1) (al.kx K1 hc) (G.kx K1 C.gc) Q _ h
  have up : ∀ {S2 : Sto}, Kx [] g.gen.toList (sync P'.own τ S) S2 → Kx g.cells g.toList S S2 := fun K2 => (K1.mono (fun j hj => List.mem_append_right _ hj)).trans K2.all fun j hj => .inl (List.mem_append_left _ hj)
  cases hr : P'.fn f vs (sync P'.own τ S) with
  | ok v S' => rw [hr] at key; obtain ⟨d, n', K, G, r, q⟩ := key; exact ⟨d, n', up K, G, r, q⟩
  | exc c v S' => rw [hr] at key; obtain ⟨_, _, _, _, _, f⟩ := key; exact (f fun _ => 0).elim
  | bad => rw [hr] at key; exact key.elim
/-- a def with cells, that ends at its last return -/
theorem w_runC {P : Pr} {d : Df} {vs : List Val} {c : Nat} {cs : List Nat} {e : Ex} {Q : Val → Sto → Prop} (hc : d.cells = c :: cs) (hf : d.fin = some e) (hl : vs.length = d.pars) (hz : d.pars ≤ d.size)
    (h : Ok (exSs { P with own := places (c :: cs) S.length, blk := false } d.body (vs.map some ++ List.replicate (d.size - d.pars) none) (S ++ List.replicate (c :: cs).length dcell)) fun p S1 => p.1 = .nx ∧ Ok (ev { P with own := places (c :: cs) S.length, blk := false } p.2 e S1) fun v S2 => Q v (sync (places (c :: cs) S.length) p.2 S2)) : Ok (runDf P d vs S) Q := by
  unfold runDf
  rw [if_pos ⟨hl, hz⟩, hc]
  obtain ⟨p, S1, e1, e2, q⟩ := h.ex
  simp only [e1]
  obtain ⟨f, t⟩ := p
  simp only at e2
  subst e2
  obtain ⟨v, S2, e3, q⟩ := q.ex
  simp only [endDf, hf, e3, finDf]
  exact q
theorem len12 {α : Type} {xs : List α} (h : xs.length = 12) : ∃ a b c d e f g h i j k l, xs = [a, b, c, d, e, f, g, h, i, j, k, l] := by
  match xs, h with
  | [a, b, c, d, e, f, g, h, i, j, k, l], _ => exact ⟨a, b, c, d, e, f, g, h, i, j, k, l, rfl⟩
end TQ
/-! TQ70: which slots a block sets; environments slot by slot. -/
namespace TQ
open PySem L2
theorem bind_inv {α β : Type} {m : E α} {f : α → E β} {S S' : Sto} {b : β} (h : (m.bind f) S = .ok b S') : ∃ a S1, m S = .ok a S1 ∧ f a S1 = .ok b S' := by
  unfold E.bind at h
  cases hm : m S with
  | ok a S1 => rw [hm] at h; exact ⟨a, S1, rfl, h⟩
  | exc c d S1 => rw [hm] at h; cases h
  | bad => rw [hm] at h; cases h
theorem getO_inv {α : Type} {o : Option α} {S S' : Sto} {a : α} (h : getO o S = .ok a S') : o = some a ∧ S' = S := by
  cases o with
  | none => cases h
  | some b => cases h; exact ⟨rfl, rfl⟩
mutual
def asgS : Sm → List Nat
  | .asg p _ => p.slots
  | .par i j _ _ => [i, j]
  | .par3 i j l _ _ _ => [i, j, l]
  | .aug i _ _ => [i]
  | .ife _ a b => asgL a ++ asgL b
  | .fr p _ _ b => p.slots ++ asgL b
  | .whl _ _ b => asgL b
  | .tryc _ _ i j => [i, j]
  | _ => []
def asgL : List Sm → List Nat
  | [] => []
  | s :: r => asgS s ++ asgL r
end
mutual
theorem keep_p : ∀ (p : Pat) {v : Val} {τ τ' : Tau}, bindP p v τ = some τ' → ∀ i, i ∉ p.slots → τ'[i]? = τ[i]?
  | .nm j, v, τ, τ', h, i, hi => by
    simp only [bindP] at h
    split at h
    · cases h
      simp only [Pat.slots, List.mem_singleton] at hi
      exact List.getElem?_set_ne (Ne.symm hi)
    · cases h
  | .tup ps, v, τ, τ', h, i, hi => by
    simp only [bindP] at h
    split at h
    · exact keep_ps ps h i (by simpa only [Pat.slots] using hi)
    · cases h
theorem keep_ps : ∀ (ps : List Pat) {vs : List Val} {τ τ' : Tau}, bindPs ps vs τ = some τ' → ∀ i, i ∉ Pat.slotsL ps → τ'[i]? = τ[i]?
  | [], vs, τ, τ', h, i, hi => by
    cases vs with
    | nil => simp only [bindPs] at h; cases h; rfl
    | cons _ _ => simp only [bindPs] at h; cases h
  | p :: ps, vs, τ, τ', h, i, hi => by
    cases vs with
    | nil => simp only [bindPs] at h; cases h
    | cons v vs =>
      simp only [bindPs] at h
      simp only [Pat.slotsL, List.mem_append, not_or] at hi
      split at h
      · rename_i τ1 e1
        rw [keep_ps ps h i hi.2, keep_p p e1 i hi.1]
      · cases h
end
theorem keep_loop {p : Pat} {body : MS} {c : Src} {n i : Nat} (hp : i ∉ p.slots) (hb : ∀ {τ S f τ' S'}, body τ S = .ok (f, τ') S' → τ'[i]? = τ[i]?) : ∀ (k : Nat) {τ : Tau} {S S' : Sto} {f : Fl} {τ' : Tau}, loopM p body c n k τ S = .ok (f, τ') S' → τ'[i]? = τ[i]?
  | 0, τ, S, S', f, τ', h => by
    unfold loopM at h
    split at h
    · cases h; rfl
    · cases h
  | k + 1, τ, S, S', f, τ', h => by
    unfold loopM at h
    split at h
    · split at h
      · split at h
        · rename_i τ1 e1
          obtain ⟨⟨f2, τ2⟩, S2, h1, h2⟩ := bind_inv h
          have e2 := hb h1
          rw [← keep_p p e1 i hp, ← e2]
          cases f2 with
          | nx => exact keep_loop hp hb k h2
          | ct => exact keep_loop hp hb k h2
          | bk => cases h2; rfl
          | rt v => cases h2; rfl
        · cases h
      · cases h
    · cases h
theorem keep_while {c : Tau → E Bool} {body : MS} {i : Nat} (hb : ∀ {τ S f τ' S'}, body τ S = .ok (f, τ') S' → τ'[i]? = τ[i]?) : ∀ (k : Nat) {τ : Tau} {S S' : Sto} {f : Fl} {τ' : Tau}, whileM c body k τ S = .ok (f, τ') S' → τ'[i]? = τ[i]?
  | 0, τ, S, S', f, τ', h => by cases h
  | k + 1, τ, S, S', f, τ', h => by
    unfold whileM at h
    obtain ⟨b, S1, h1, h2⟩ := bind_inv h
    cases b with
    | false => simp only [Bool.false_eq_true, if_false] at h2; cases h2; rfl
    | true =>
      simp only [if_true] at h2
      obtain ⟨⟨f2, τ2⟩, S2, h3, h4⟩ := bind_inv h2
      rw [← hb h3]
      cases f2 with
      | nx => exact keep_while hb k h4
      | ct => exact keep_while hb k h4
      | bk => cases h4; rfl
      | rt v => cases h4; rfl
mutual
theorem keep_s : ∀ (s : Sm) {P : Pr} {τ τ' : Tau} {S S' : Sto} {f : Fl}, exS P s τ S = .ok (f, τ') S' → ∀ i, i ∉ asgS s → τ'[i]? = τ[i]?
  | .asg p e, P, τ, τ', S, S', f, h, i, hi => by
    simp only [exS] at h
    obtain ⟨v, S1, _, h⟩ := bind_inv h
    obtain ⟨τ1, S2, h1, h⟩ := bind_inv h
    cases h
    exact keep_p p (getO_inv h1).1 i hi
  | .par j l a b, P, τ, τ', S, S', f, h, i, hi => by
    simp only [exS] at h
    obtain ⟨v, S1, _, h⟩ := bind_inv h
    obtain ⟨w, S2, _, h⟩ := bind_inv h
    simp only [asgS, List.mem_cons, List.not_mem_nil, or_false, not_or] at hi
    split at h
    · cases h; rw [List.getElem?_set_ne (Ne.symm hi.2), List.getElem?_set_ne (Ne.symm hi.1)]
    · cases h
  | .par3 j l m a b c, P, τ, τ', S, S', f, h, i, hi => by
    simp only [exS] at h
    obtain ⟨v, S1, _, h⟩ := bind_inv h
    obtain ⟨w, S2, _, h⟩ := bind_inv h
    obtain ⟨u, S3, _, h⟩ := bind_inv h
    simp only [asgS, List.mem_cons, List.not_mem_nil, or_false, not_or] at hi
    split at h
    · cases h; rw [List.getElem?_set_ne (Ne.symm hi.2.2), List.getElem?_set_ne (Ne.symm hi.2.1), List.getElem?_set_ne (Ne.symm hi.1)]
    · cases h
  | .aug j o e, P, τ, τ', S, S', f, h, i, hi => by
    simp only [exS] at h
    obtain ⟨v, S1, _, h⟩ := bind_inv h
    obtain ⟨w, S2, _, h⟩ := bind_inv h
    obtain ⟨u, S3, _, h⟩ := bind_inv h
    simp only [asgS, List.mem_singleton] at hi
    unfold setSl at h
    split at h
    · cases h; exact List.getElem?_set_ne (Ne.symm hi)
    · cases h
  | .setI o j e, P, τ, τ', S, S', f, h, i, hi => by
    simp only [exS] at h
    obtain ⟨v, S1, _, h⟩ := bind_inv h
    obtain ⟨w, S2, _, h⟩ := bind_inv h
    obtain ⟨u, S3, _, h⟩ := bind_inv h
    obtain ⟨z, S4, _, h⟩ := bind_inv h
    cases h; rfl
  | .ex e, P, τ, τ', S, S', f, h, i, hi => by
    simp only [exS] at h
    obtain ⟨v, S1, _, h⟩ := bind_inv h
    cases h; rfl
  | .ret e, P, τ, τ', S, S', f, h, i, hi => by
    simp only [exS] at h
    obtain ⟨v, S1, _, h⟩ := bind_inv h
    cases h; rfl
  | .retN, P, τ, τ', S, S', f, h, i, hi => by
    simp only [exS] at h
    cases h; rfl
  | .ife c a b, P, τ, τ', S, S', f, h, i, hi => by
    simp only [exS] at h
    obtain ⟨v, S1, _, h⟩ := bind_inv h
    simp only [asgS, List.mem_append, not_or] at hi
    cases v with
    | false => simp only [Bool.false_eq_true, if_false] at h; exact keep_l b h i hi.2
    | true => simp only [if_true] at h; exact keep_l a h i hi.1
  | .fr p k ss b, P, τ, τ', S, S', f, h, i, hi => by
    simp only [exS, srcE] at h
    obtain ⟨v, S1, _, h⟩ := bind_inv h
    obtain ⟨c, S2, _, h⟩ := bind_inv h
    simp only [asgS, List.mem_append, not_or] at hi
    split at h
    · exact keep_loop hi.1 (fun h => keep_l b h i hi.2) _ h
    · cases h
  | .whl fu c b, P, τ, τ', S, S', f, h, i, hi => by
    simp only [exS] at h
    exact keep_while (fun h => keep_l b h i (by simpa only [asgS] using hi)) _ h
  | .rse c e, P, τ, τ', S, S', f, h, i, hi => by
    simp only [exS] at h
    obtain ⟨v, S1, _, h⟩ := bind_inv h
    cases h
  | .tryc e c j l, P, τ, τ', S, S', f, h, i, hi => by
    simp only [exS, tryM] at h
    simp only [asgS, List.mem_cons, List.not_mem_nil, or_false, not_or] at hi
    split at h
    · cases h; rfl
    · split at h
      · split at h
        · cases h; rw [List.getElem?_set_ne (Ne.symm hi.2), List.getElem?_set_ne (Ne.symm hi.1)]
        · cases h
      · cases h
    · cases h
  | .pass, P, τ, τ', S, S', f, h, i, hi => by
    simp only [exS] at h
    cases h; rfl
  | .brk, P, τ, τ', S, S', f, h, i, hi => by
    simp only [exS] at h
    cases h; rfl
  | .cnt, P, τ, τ', S, S', f, h, i, hi => by
    simp only [exS] at h
    cases h; rfl
theorem keep_l : ∀ (l : List Sm) {P : Pr} {τ τ' : Tau} {S S' : Sto} {f : Fl}, exSs P l τ S = .ok (f, τ') S' → ∀ i, i ∉ asgL l → τ'[i]? = τ[i]?
  | [], P, τ, τ', S, S', f, h, i, hi => by
    simp only [exSs] at h
    cases h; rfl
  | s :: r, P, τ, τ', S, S', f, h, i, hi => by
    simp only [exSs, seqM] at h
    obtain ⟨⟨f1, τ1⟩, S1, h1, h⟩ := bind_inv h
    simp only [asgL, List.mem_append, not_or] at hi
    rw [← keep_s s h1 i hi.1]
    cases f1 with
    | nx => exact keep_l r h i hi.2
    | bk => cases h; rfl
    | ct => cases h; rfl
    | rt v => cases h; rfl
end
/-- slot by slot -/
inductive EL (g : GC) (B : List Nat) (S : Sto) : Env → Tau → Prop where
  | nil : EL g B S [] []
  | sk {π : Env} {τ : Tau} {x : Option Val} : EL g B S π τ → EL g B S (none :: π) (x :: τ)
  | sl {π : Env} {τ : Tau} {p : Pv} {v : Val} : AR g B S p v → EL g B S π τ → EL g B S (some p :: π) (some v :: τ)
theorem EL.at_ {g : GC} {B : List Nat} {S : Sto} {π : Env} {τ : Tau} (h : EL g B S π τ) : π.length = τ.length ∧ ∀ (i : Nat) (p : Pv), π[i]? = some (some p) → ∃ v, τ[i]? = some (some v) ∧ AR g B S p v := by
  induction h with
  | nil => exact ⟨rfl, fun i p e => by simp at e⟩
  | sk _ ih => exact ⟨by simp [ih.1], fun i p e => by cases i with
                                                      | zero => simp at e
                                                      | succ i => exact ih.2 i p (by simpa using e)⟩
  | sl a _ ih => exact ⟨by simp [ih.1], fun i p e => by cases i with
                                                        | zero => simp at e; subst e; exact ⟨_, rfl, a⟩
                                                        | succ i => exact ih.2 i p (by simpa using e)⟩
theorem EL.er {g : GC} {B : List Nat} {S : Sto} {π : Env} {τ : Tau} (h : EL g B S π τ) : ER g B [] S τ π :=
  ⟨h.at_.1.symm, fun i p e => by
    obtain ⟨v, e1, a⟩ := h.at_.2 i p e
    exact ⟨v, e1, a.vr.1, a.vr.2.1⟩, fun i j x y k _ e _ _ _ => by
    obtain ⟨v, e1, a⟩ := h.at_.2 i _ e
    exact a.elim⟩
end TQ
namespace K59
open PySem PySem.Spec PyProof.Rows L2 TQ
abbrev prog : Program := PySem.Challenge.pw_truthpays_k59_whole_lots_and_worths
def dis_whole : Df := ⟨1, 1, [], [(.ret (.and (.isi (.var 0) ["int"]) (.nt (.isi (.var 0) ["bool"]))))], none⟩
def dcommon_divisor : Df := ⟨2, 2, [], [(.par 0 1 (.bif "abs" [(.var 0)]) (.bif "abs" [(.var 1)])), (.whl fuelT (.cmp .gt (.var 1) (.cst (.int 0))) [(.par 0 1 (.var 1) (.bin .mod (.var 0) (.var 1)))]), (.ret (.var 0))], none⟩
def dis_fraction : Df := ⟨1, 1, [], [(.ife (.or (.nt (.isi (.var 0) ["tuple"])) (.or (.cmp .ne (.bif "len" [(.var 0)]) (.cst (.int 2))) (.or (.nt (.call "is_whole" [(.ix (.var 0) (.cst (.int 0)))])) (.nt (.call "is_whole" [(.ix (.var 0) (.cst (.int 1)))]))))) [(.ret (.cst (.bl false)))] []), (.ret (.and (.cmp .gt (.ix (.var 0) (.cst (.int 1))) (.cst (.int 0))) (.cmp .eq (.call "common_divisor" [(.ix (.var 0) (.cst (.int 0))), (.ix (.var 0) (.cst (.int 1)))]) (.cst (.int 1)))))], none⟩
def dis_amount : Df := ⟨1, 1, [], [(.ret (.and (.call "is_fraction" [(.var 0)]) (.cmp .ge (.ix (.var 0) (.cst (.int 0))) (.cst (.int 0)))))], none⟩
def dare_amounts : Df := ⟨2, 3, [], [(.ret (.and (.isi (.var 0) ["list"]) (.and (.cmp .eq (.bif "len" [(.var 0)]) (.var 1)) (.bif "all" [(.lc (.nm 2) .seq [(.var 0)] [] (.call "is_amount" [(.var 2)]))]))))], none⟩
def dcheck_things : Df := ⟨1, 1, [], [(.ife (.or (.nt (.call "is_whole" [(.var 0)])) (.nt (.chn .le .le (.cst (.int 1)) (.var 0) (.glb "MOST_THINGS")))) [(.rse "InvalidNumber" (.var 0))] [])], none⟩
def dlots_by : Df := ⟨1, 5, [], [(.asg (.nm 1) (.lst [(.lst [])])), (.fr (.nm 2) .rng [(.var 0)] [(.asg (.nm 1) (.bin .add (.var 1) (.lc (.nm 4) .seq [(.var 1)] [] (.bin .add (.var 4) (.lst [(.var 2)])))))]), (.ret (.lc (.tup [(.nm 3), (.nm 4)]) .seq [(.bif "sorted" [(.lc (.nm 4) .seq [(.var 1)] [] (.tup [(.bif "len" [(.var 4)]), (.var 4)]))])] [] (.var 4)))], none⟩
def dlots_in : Df := ⟨1, 1, [], [(.ex (.call "check_things" [(.var 0)])), (.ret (.call "lots_by" [(.var 0)]))], none⟩
def dis_worth_by : Df := ⟨2, 2, [], [(.ret (.and (.call "are_amounts" [(.var 1), (.bif "len" [(.call "lots_by" [(.var 0)])])]) (.cmp .eq (.ix (.var 1) (.cst (.int 0))) (.tup [(.cst (.int 0)), (.cst (.int 1))]))))], none⟩
def dare_worths_by : Df := ⟨2, 3, [], [(.ife (.or (.nt (.isi (.var 1) ["list"])) (.nt (.chn .le .le (.cst (.int 1)) (.bif "len" [(.var 1)]) (.glb "MOST_TAKERS")))) [(.ret (.cst (.bl false)))] []), (.ret (.bif "all" [(.lc (.nm 2) .seq [(.var 1)] [] (.call "is_worth_by" [(.var 0), (.var 2)]))]))], none⟩
def dare_worths : Df := ⟨2, 2, [], [(.ex (.call "check_things" [(.var 0)])), (.ret (.call "are_worths_by" [(.var 0), (.var 1)]))], none⟩
def d_law_hash : Df := ⟨2, 3, [], [(.asg (.nm 2) (.bin .mod (.bif "int" [(.bin .add (.bin .add (.bin .add (.bin .mul (.var 0) (.cst (.int 1103515245))) (.bin .mul (.bin .mul (.cst (.int 27183)) (.var 1)) (.var 1))) (.bin .mul (.cst (.int 7919)) (.var 1))) (.cst (.int 101)))]) (.cst (.int 2147483629)))), (.asg (.nm 2) (.bin .mod (.bif "int" [(.bin .add (.bin .add (.bin .mul (.var 2) (.var 2)) (.bin .mul (.cst (.int 48271)) (.var 1))) (.cst (.int 31)))]) (.cst (.int 2147483587)))), (.ret (.bin .mod (.bif "int" [(.bin .mul (.var 2) (.cst (.int 69621)))]) (.cst (.int 2147483647))))], none⟩
def d_law_random : Df := ⟨2, 4, [], [(.ife (.cmp .gt (.ix (.var 0) (.cst (.int 0))) (.cst (.int 0))) [(.asg (.nm 2) (.bin .mod (.bif "int" [(.ix (.var 0) (.cst (.int 0)))]) (.var 1))), (.setI (.var 0) (.cst (.int 0)) (.bin .fdiv (.ix (.var 0) (.cst (.int 0))) (.var 1))), (.ret (.var 2))] []), (.asg (.nm 2) (.cst (.int 0))), (.fr (.nm 3) .rng [(.bin .add (.cst (.int 1)) (.bin .fdiv (.mth "bit_length" (.var 1) []) (.cst (.int 30))))] [(.setI (.var 0) (.cst (.int 2)) (.bin .add (.ix (.var 0) (.cst (.int 2))) (.cst (.int 1)))), (.asg (.nm 2) (.bin .add (.bin .mul (.var 2) (.cst (.int 2147483587))) (.call "_law_hash" [(.ix (.var 0) (.cst (.int 1))), (.ix (.var 0) (.cst (.int 2)))])))]), (.ret (.bin .mod (.bif "int" [(.var 2)]) (.var 1)))], none⟩
def d_law_cell : Df := ⟨2, 2, [], [(.ife (.cmp .lt (.var 1) (.bif "len" [(.var 0)])) [(.ret (.ix (.var 0) (.var 1)))] []), (.ret (.bin .mod (.bif "sum" [(.sl (.var 0) none (some (.cst (.int 1))))]) (.cst (.int 1000003))))], none⟩
def d_law_generator : Df := ⟨2, 3, [], [(.asg (.nm 2) (.call "_law_cell" [(.var 0), (.var 1)])), (.ret (.lst [(.bin .mod (.bif "int" [(.bif "max" [(.bin .sub (.var 2) (.bin .pow (.cst (.int 10)) (.cst (.int 18)))), (.cst (.int 0))])]) (.bin .pow (.bin .pow (.cst (.int 10)) (.cst (.int 60))) (.cst (.int 10)))), (.bin .mod (.bif "int" [(.var 2)]) (.cst (.int 2147483647))), (.bin .mul (.cst (.int 1000)) (.var 1))]))], none⟩
def d_law_between : Df := ⟨3, 3, [], [(.ret (.bin .add (.var 1) (.call "_law_random" [(.var 0), (.bin .add (.bin .sub (.var 2) (.var 1)) (.cst (.int 1)))])))], none⟩
def d_law_pick : Df := ⟨2, 2, [], [(.ret (.ix (.var 1) (.call "_law_random" [(.var 0), (.bif "len" [(.var 1)])])))], none⟩
def d_law_error : Df := ⟨1, 3, [], [(.asg (.nm 1) (.cst .non)), (.tryc (.cval (.var 0) []) "PayError" 1 2), (.ret (.var 1))], none⟩
def d_law_refused : Df := ⟨3, 6, [], [(.asg (.nm 3) (.call "_law_error" [(.var 0)])), (.asg (.nm 4) (.lst [(.isi (.var 3) ["InvalidNumber"])])), (.ret (.and (.cmp .eq (.var 4) (.lc (.nm 5) .rng [(.bif "len" [(.var 4)])] [] (.cmp .eq (.var 5) (.var 1)))) (.and (.isi (.var 3) ["ValueError"]) (.cmp .eq (.bif "repr" [(.fld (.var 3) "value")]) (.bif "repr" [(.var 2)])))))], none⟩
def d_law_lowest : Df := ⟨2, 5, [], [(.par 3 4 (.bif "abs" [(.var 1)]) (.bif "abs" [(.var 0)])), (.whl fuelT (.cmp .ne (.var 4) (.cst (.int 0))) [(.par 3 4 (.var 4) (.bin .mod (.bif "int" [(.var 3)]) (.var 4)))]), (.asg (.nm 2) (.ife (.cmp .gt (.var 1) (.cst (.int 0))) (.cst (.int 1)) (.bin .sub (.cst (.int 0)) (.cst (.int 1))))), (.ret (.tup [(.bin .fdiv (.bin .mul (.var 2) (.var 0)) (.var 3)), (.bin .fdiv (.bin .mul (.var 2) (.var 1)) (.var 3))]))], none⟩
def d_law_is_number : Df := ⟨1, 1, [], [(.ret (.and (.isi (.var 0) ["int"]) (.nt (.isi (.var 0) ["bool"]))))], none⟩
def d_law_is_fraction : Df := ⟨1, 1, [], [(.ife (.or (.nt (.isi (.var 0) ["tuple"])) (.or (.cmp .ne (.bif "len" [(.var 0)]) (.cst (.int 2))) (.or (.nt (.call "_law_is_number" [(.ix (.var 0) (.cst (.int 0)))])) (.or (.nt (.call "_law_is_number" [(.ix (.var 0) (.cst (.int 1)))])) (.cmp .lt (.ix (.var 0) (.cst (.int 1))) (.cst (.int 1))))))) [(.ret (.cst (.bl false)))] []), (.ret (.cmp .eq (.call "_law_lowest" [(.ix (.var 0) (.cst (.int 0))), (.ix (.var 0) (.cst (.int 1)))]) (.var 0)))], none⟩
def d_law_things_lots : Df := ⟨1, 5, [], [(.asg (.nm 1) (.lst [(.lst [])])), (.fr (.nm 2) .rng [(.var 0)] [(.asg (.nm 1) (.bin .add (.var 1) (.lc (.nm 4) .seq [(.var 1)] [] (.bin .add (.var 4) (.lst [(.var 2)])))))]), (.ret (.lc (.tup [(.nm 3), (.nm 4)]) .seq [(.bif "sorted" [(.lc (.nm 4) .seq [(.var 1)] [] (.tup [(.bif "len" [(.var 4)]), (.var 4)]))])] [] (.var 4)))], none⟩
def d_law_worth_list : Df := ⟨2, 10, [], [(.par 4 5 (.call "_law_random" [(.var 0), (.cst (.int 4))]) (.call "_law_things_lots" [(.var 1)])), (.asg (.nm 2) (.lc (.nm 7) .rng [(.var 1)] [] (.call "_law_between" [(.var 0), (.cst (.int 0)), (.cst (.int 6))]))), (.asg (.nm 3) (.call "_law_pick" [(.var 0), (.lst [(.cst (.int 1)), (.cst (.int 1)), (.cst (.int 1)), (.cst (.int 2)), (.cst (.int 3))])])), (.ife (.cmp .eq (.var 4) (.cst (.int 0))) [(.asg (.nm 6) (.bin .add (.lst [(.tup [(.cst (.int 0)), (.cst (.int 1))])]) (.lc (.nm 9) .seq [(.sl (.var 5) (some (.cst (.int 1))) none)] [] (.call "_law_lowest" [(.call "_law_between" [(.var 0), (.cst (.int 0)), (.cst (.int 9))]), (.var 3)]))))] [(.ife (.cmp .eq (.var 4) (.cst (.int 1))) [(.asg (.nm 6) (.lc (.nm 9) .seq [(.var 5)] [] (.call "_law_lowest" [(.bif "sum" [(.lc (.nm 7) .seq [(.var 9)] [] (.ix (.var 2) (.var 7)))]), (.var 3)])))] [(.ife (.cmp .eq (.var 4) (.cst (.int 2))) [(.asg (.nm 6) (.lc (.nm 9) .seq [(.var 5)] [] (.call "_law_lowest" [(.bif "max" [(.bin .add (.lc (.nm 7) .seq [(.var 9)] [] (.ix (.var 2) (.var 7))) (.lst [(.cst (.int 0))]))]), (.var 3)])))] [(.asg (.nm 8) (.call "_law_between" [(.var 0), (.cst (.int 0)), (.cst (.int 5))])), (.asg (.nm 6) (.lc (.nm 9) .seq [(.var 5)] [] (.call "_law_lowest" [(.bin .add (.bif "sum" [(.lc (.nm 7) .seq [(.var 9)] [] (.ix (.var 2) (.var 7)))]) (.bin .mul (.var 8) (.bif "max" [(.cst (.int 0)), (.bin .sub (.bif "len" [(.var 9)]) (.cst (.int 1)))]))), (.var 3)])))])])]), (.ret (.var 6))], none⟩
def d_law_worths : Df := ⟨3, 4, [], [(.ret (.lc (.nm 3) .rng [(.call "_law_between" [(.var 0), (.cst (.int 1)), (.var 2)])] [] (.call "_law_worth_list" [(.var 0), (.var 1)])))], none⟩
def d_law_are_worths : Df := ⟨2, 5, [], [(.ife (.or (.nt (.isi (.var 1) ["list"])) (.nt (.chn .le .le (.cst (.int 1)) (.bif "len" [(.var 1)]) (.cst (.int 3))))) [(.ret (.cst (.bl false)))] []), (.asg (.nm 2) (.call "_law_things_lots" [(.var 0)])), (.fr (.nm 3) .seq [(.var 1)] [(.ife (.or (.nt (.isi (.var 3) ["list"])) (.or (.cmp .ne (.bif "len" [(.var 3)]) (.bif "len" [(.var 2)])) (.or (.cmp .ne (.lc (.nm 4) .seq [(.var 3)] [(.or (.nt (.call "_law_is_fraction" [(.var 4)])) (.cmp .lt (.ix (.var 4) (.cst (.int 0))) (.cst (.int 0))))] (.var 4)) (.lst [])) (.cmp .ne (.ix (.var 3) (.cst (.int 0))) (.tup [(.cst (.int 0)), (.cst (.int 1))]))))) [(.ret (.cst (.bl false)))] [])]), (.ret (.cst (.bl true)))], none⟩
def d_law_no_things : Df := ⟨1, 1, [], [(.ret (.call "_law_pick" [(.var 0), (.lst [(.cst .non), (.cst (.int 0)), (.cst (.int 4)), (.bin .sub (.cst (.int 0)) (.cst (.int 1))), (.cst (.bl true)), (.cst (.str "2"))])]))], none⟩
def d_law_no_worths : Df := ⟨2, 8, [], [(.asg (.tup [(.nm 4), (.nm 5)]) (.tup [(.call "_law_random" [(.var 0), (.bif "len" [(.var 1)])]), (.ix (.var 1) (.call "_law_random" [(.var 0), (.bif "len" [(.var 1)])]))])), (.asg (.nm 2) (.call "_law_random" [(.var 0), (.bif "len" [(.var 5)])])), (.asg (.nm 3) (.lc (.nm 6) .seq [(.lst [(.cst .non), (.bif "tuple" [(.var 5)]), (.sl (.var 5) (some (.cst (.int 1))) none), (.bin .add (.var 5) (.lst [(.tup [(.cst (.int 1)), (.cst (.int 1))])])), (.bin .add (.lst [(.tup [(.cst (.int 1)), (.cst (.int 1))])]) (.sl (.var 5) (some (.cst (.int 1))) none))])] [] (.bin .add (.bin .add (.sl (.var 1) none (some (.var 4))) (.lst [(.var 6)])) (.sl (.var 1) (some (.bin .add (.var 4) (.cst (.int 1)))) none)))), (.asg (.nm 3) (.bin .add (.var 3) (.lc (.nm 7) .seq [(.lst [(.cst .non), (.cst (.int 1)), (.tup [(.cst (.int 2)), (.cst (.int 4))]), (.tup [(.bin .sub (.cst (.int 0)) (.cst (.int 1))), (.cst (.int 1))]), (.tup [(.cst (.int 1)), (.cst (.int 0))]), (.cst (.bl true)), (.cst (.str "1")), (.lst [(.cst (.int 1)), (.cst (.int 1))])])] [] (.bin .add (.bin .add (.sl (.var 1) none (some (.var 4))) (.lst [(.bin .add (.bin .add (.sl (.var 5) none (some (.var 2))) (.lst [(.var 7)])) (.sl (.var 5) (some (.bin .add (.var 2) (.cst (.int 1)))) none))])) (.sl (.var 1) (some (.bin .add (.var 4) (.cst (.int 1)))) none))))), (.ret (.call "_law_pick" [(.var 0), (.bin .add (.var 3) (.lst [(.cst .non), (.lst []), (.bif "tuple" [(.var 1)]), (.bin .mul (.sl (.var 1) none (some (.cst (.int 1)))) (.cst (.int 4))), .edc]))]))], none⟩
def d_law_all_refused : Df := ⟨3, 4, [], [(.ret (.cmp .eq (.lc (.nm 3) .seq [(.var 0)] [(.nt (.call "_law_refused" [(.var 3), (.var 1), (.var 2)]))] (.cst (.int 1))) (.lst [])))], none⟩
def d_law_good : Df := ⟨1, 12, [4, 2], [(.asg (.nm 1) (.call "_law_between" [(.var 0), (.cst (.int 1)), (.cst (.int 3))])), (.asg (.nm 2) (.call "_law_worths" [(.var 0), (.var 1), (.cst (.int 3))])), (.par3 6 7 8 (.bif "repr" [(.var 2)]) (.call "_law_things_lots" [(.var 1)]) (.call "lots_in" [(.var 1)])), (.ife (.cmp .ne (.bif "repr" [(.lst [(.var 8), (.callK "lots_in" [] [(.var 1)] [0])])]) (.bif "repr" [(.lst [(.var 7), (.var 7)])])) [(.ret (.cst (.bl false)))] []), (.fr (.nm 3) .seq [(.bin .add (.lst [(.var 2), (.sl (.var 2) none (some (.cst (.int 1)))), (.bin .add (.var 2) (.sl (.var 2) none (some (.cst (.int 1))))), (.lc (.nm 11) .seq [(.var 2)] [] (.bin .add (.var 11) (.var 11))), (.lc (.nm 11) .seq [(.var 2)] [] (.rev (.var 11)))]) (.lc (.nm 10) .rng [(.cst (.int 4))] [] (.call "_law_no_worths" [(.var 0), (.var 2)])))] [(.asg (.nm 9) (.call "_law_are_worths" [(.var 1), (.var 3)])), (.ife (.cmp .ne (.bif "repr" [(.lst [(.call "are_worths" [(.var 1), (.var 3)]), (.callK "are_worths" [] [(.var 3), (.var 1)] [1, 0])])]) (.bif "repr" [(.lst [(.var 9), (.var 9)])])) [(.ret (.cst (.bl false)))] [])]), (.ex (.mth "append" (.ix (.var 8) (.cst (.int 0))) [(.cst (.str "mark"))])), (.ex (.mth "append" (.ix (.var 8) (.cst (.int 1))) [(.cst (.str "mark"))])), (.ife (.or (.cmp .inn (.cst (.str "mark")) (.bif "repr" [(.lst [(.sl (.var 8) (some (.cst (.int 2))) none), (.call "lots_in" [(.var 1)])])])) (.cmp .ne (.bif "repr" [(.var 2)]) (.var 6))) [(.ret (.cst (.bl false)))] []), (.asg (.nm 4) (.call "_law_no_things" [(.var 0)])), (.asg (.nm 5) (.lst [(.lam 0 [4])])), (.ex (.mth "append" (.var 5) [(.lam 1 [4])])), (.ex (.mth "append" (.var 5) [(.lam 2 [2, 4])]))], (some (.call "_law_all_refused" [(.var 5), (.cst (.int 0)), (.var 4)]))⟩
def dlaw : Df := ⟨1, 2, [], [(.fr (.nm 1) .rng [(.cst (.int 8))] [(.ife (.nt (.call "_law_good" [(.call "_law_generator" [(.var 0), (.var 1)])])) [(.ret (.cst (.bl false)))] [])]), (.ret (.and (.cmp .eq (.call "lots_in" [(.cst (.int 2))]) (.lst [(.lst []), (.lst [(.cst (.int 0))]), (.lst [(.cst (.int 1))]), (.lst [(.cst (.int 0)), (.cst (.int 1))])])) (.and (.call "are_worths" [(.cst (.int 1)), (.lst [(.lst [(.tup [(.cst (.int 0)), (.cst (.int 1))]), (.tup [(.cst (.int 1)), (.cst (.int 2))])])])]) (.nt (.call "are_worths" [(.cst (.int 1)), (.lst [(.lst [(.tup [(.cst (.int 1)), (.cst (.int 2))]), (.tup [(.cst (.int 1)), (.cst (.int 2))])])])])))))], none⟩
def fe : List Fe := [⟨"is_whole", 4, ["value"], ["value"], dis_whole⟩,
  ⟨"common_divisor", 5, ["one", "other"], ["one", "other"], dcommon_divisor⟩,
  ⟨"is_fraction", 6, ["value"], ["value"], dis_fraction⟩,
  ⟨"is_amount", 7, ["value"], ["value"], dis_amount⟩,
  ⟨"are_amounts", 8, ["value", "many"], ["value", "many", "one"], dare_amounts⟩,
  ⟨"check_things", 12, ["things"], ["things"], dcheck_things⟩,
  ⟨"lots_by", 13, ["things"], ["things", "found", "thing", "_", "lot"], dlots_by⟩,
  ⟨"lots_in", 14, ["things"], ["things"], dlots_in⟩,
  ⟨"is_worth_by", 15, ["things", "value"], ["things", "value"], dis_worth_by⟩,
  ⟨"are_worths_by", 16, ["things", "value"], ["things", "value", "one"], dare_worths_by⟩,
  ⟨"are_worths", 17, ["things", "value"], ["things", "value"], dare_worths⟩,
  ⟨"_law_hash", 19, ["seed", "index"], ["seed", "index", "stirred"], d_law_hash⟩,
  ⟨"_law_random", 20, ["generator", "limit"], ["generator", "limit", "drawn", "turn"], d_law_random⟩,
  ⟨"_law_cell", 21, ["script", "index"], ["script", "index"], d_law_cell⟩,
  ⟨"_law_generator", 22, ["script", "index"], ["script", "index", "seed"], d_law_generator⟩,
  ⟨"_law_between", 23, ["generator", "low", "high"], ["generator", "low", "high"], d_law_between⟩,
  ⟨"_law_pick", 24, ["generator", "items"], ["generator", "items"], d_law_pick⟩,
  ⟨"_law_error", 25, ["call"], ["call", "found", "e"], d_law_error⟩,
  ⟨"_law_refused", 26, ["call", "place", "value"], ["call", "place", "value", "found", "kinds", "at"], d_law_refused⟩,
  ⟨"_law_lowest", 27, ["top", "under"], ["top", "under", "sign", "one", "other"], d_law_lowest⟩,
  ⟨"_law_is_number", 28, ["value"], ["value"], d_law_is_number⟩,
  ⟨"_law_is_fraction", 29, ["value"], ["value"], d_law_is_fraction⟩,
  ⟨"_law_things_lots", 30, ["many"], ["many", "found", "one", "size", "lot"], d_law_things_lots⟩,
  ⟨"_law_worth_list", 31, ["generator", "things"], ["generator", "things", "single", "under", "word", "lots", "found", "thing", "extra", "lot"], d_law_worth_list⟩,
  ⟨"_law_worths", 32, ["generator", "things", "most"], ["generator", "things", "most", "person"], d_law_worths⟩,
  ⟨"_law_are_worths", 33, ["things", "value"], ["things", "value", "lots", "row", "one"], d_law_are_worths⟩,
  ⟨"_law_no_things", 34, ["generator"], ["generator"], d_law_no_things⟩,
  ⟨"_law_no_worths", 35, ["generator", "worths"], ["generator", "worths", "place", "odd", "at", "row", "late", "one"], d_law_no_worths⟩,
  ⟨"_law_all_refused", 36, ["calls", "place", "value"], ["calls", "place", "value", "call"], d_law_all_refused⟩,
  ⟨"_law_good", 37, ["generator"], ["generator", "things", "worths", "value", "no_things", "calls", "kept", "due", "told", "right", "turn", "row"], d_law_good⟩,
  ⟨"law", 38, ["script"], ["script", "index"], dlaw⟩]
def l0 : Lm := ⟨0, 1, (.call "lots_in" [(.var 0)])⟩
def l1 : Lm := ⟨0, 1, (.call "are_worths" [(.var 0), (.cst .non)])⟩
def l2 : Lm := ⟨0, 2, (.call "are_worths" [(.var 1), (.var 0)])⟩
def lms : List Lm := [l0, l1, l2]
def D : LawD := { prog := prog, fe := fe, lms := lms, base := "PayError", own := ["PayError", "InvalidNumber"], nums := [("MOST_THINGS", 3), ("MOST_TAKERS", 3)], tups := [], frees := ["NoneType", "ValueError", "abs", "all", "bool", "dict", "int", "isinstance", "len", "list", "max", "range", "repr", "sorted", "str", "sum", "super", "tuple"], kws := [("lots_in", ["things"], 0, [0]), ("are_worths", ["value", "things"], 0, [1, 0])], mks := ["_law_good"] }
theorem cis_whole : (chkD D ⟨"is_whole", 4, ["value"], ["value"], dis_whole⟩ && okPar (defAt prog 4).params (["value"].map sS)) = true := by kernel_rfl
theorem ccommon_divisor : (chkD D ⟨"common_divisor", 5, ["one", "other"], ["one", "other"], dcommon_divisor⟩ && okPar (defAt prog 5).params (["one", "other"].map sS)) = true := by kernel_rfl
theorem cis_fraction : (chkD D ⟨"is_fraction", 6, ["value"], ["value"], dis_fraction⟩ && okPar (defAt prog 6).params (["value"].map sS)) = true := by kernel_rfl
theorem cis_amount : (chkD D ⟨"is_amount", 7, ["value"], ["value"], dis_amount⟩ && okPar (defAt prog 7).params (["value"].map sS)) = true := by kernel_rfl
theorem care_amounts : (chkD D ⟨"are_amounts", 8, ["value", "many"], ["value", "many", "one"], dare_amounts⟩ && okPar (defAt prog 8).params (["value", "many"].map sS)) = true := by kernel_rfl
theorem ccheck_things : (chkD D ⟨"check_things", 12, ["things"], ["things"], dcheck_things⟩ && okPar (defAt prog 12).params (["things"].map sS)) = true := by kernel_rfl
theorem clots_by : (chkD D ⟨"lots_by", 13, ["things"], ["things", "found", "thing", "_", "lot"], dlots_by⟩ && okPar (defAt prog 13).params (["things"].map sS)) = true := by kernel_rfl
theorem clots_in : (chkD D ⟨"lots_in", 14, ["things"], ["things"], dlots_in⟩ && okPar (defAt prog 14).params (["things"].map sS)) = true := by kernel_rfl
theorem cis_worth_by : (chkD D ⟨"is_worth_by", 15, ["things", "value"], ["things", "value"], dis_worth_by⟩ && okPar (defAt prog 15).params (["things", "value"].map sS)) = true := by kernel_rfl
theorem care_worths_by : (chkD D ⟨"are_worths_by", 16, ["things", "value"], ["things", "value", "one"], dare_worths_by⟩ && okPar (defAt prog 16).params (["things", "value"].map sS)) = true := by kernel_rfl
theorem care_worths : (chkD D ⟨"are_worths", 17, ["things", "value"], ["things", "value"], dare_worths⟩ && okPar (defAt prog 17).params (["things", "value"].map sS)) = true := by kernel_rfl
theorem c_law_hash : (chkD D ⟨"_law_hash", 19, ["seed", "index"], ["seed", "index", "stirred"], d_law_hash⟩ && okPar (defAt prog 19).params (["seed", "index"].map sS)) = true := by kernel_rfl
theorem c_law_random : (chkD D ⟨"_law_random", 20, ["generator", "limit"], ["generator", "limit", "drawn", "turn"], d_law_random⟩ && okPar (defAt prog 20).params (["generator", "limit"].map sS)) = true := by kernel_rfl
theorem c_law_cell : (chkD D ⟨"_law_cell", 21, ["script", "index"], ["script", "index"], d_law_cell⟩ && okPar (defAt prog 21).params (["script", "index"].map sS)) = true := by kernel_rfl
theorem c_law_generator : (chkD D ⟨"_law_generator", 22, ["script", "index"], ["script", "index", "seed"], d_law_generator⟩ && okPar (defAt prog 22).params (["script", "index"].map sS)) = true := by kernel_rfl
theorem c_law_between : (chkD D ⟨"_law_between", 23, ["generator", "low", "high"], ["generator", "low", "high"], d_law_between⟩ && okPar (defAt prog 23).params (["generator", "low", "high"].map sS)) = true := by kernel_rfl
theorem c_law_pick : (chkD D ⟨"_law_pick", 24, ["generator", "items"], ["generator", "items"], d_law_pick⟩ && okPar (defAt prog 24).params (["generator", "items"].map sS)) = true := by kernel_rfl
theorem c_law_error : (chkD D ⟨"_law_error", 25, ["call"], ["call", "found", "e"], d_law_error⟩ && okPar (defAt prog 25).params (["call"].map sS)) = true := by kernel_rfl
theorem c_law_refused : (chkD D ⟨"_law_refused", 26, ["call", "place", "value"], ["call", "place", "value", "found", "kinds", "at"], d_law_refused⟩ && okPar (defAt prog 26).params (["call", "place", "value"].map sS)) = true := by kernel_rfl
theorem c_law_lowest : (chkD D ⟨"_law_lowest", 27, ["top", "under"], ["top", "under", "sign", "one", "other"], d_law_lowest⟩ && okPar (defAt prog 27).params (["top", "under"].map sS)) = true := by kernel_rfl
theorem c_law_is_number : (chkD D ⟨"_law_is_number", 28, ["value"], ["value"], d_law_is_number⟩ && okPar (defAt prog 28).params (["value"].map sS)) = true := by kernel_rfl
theorem c_law_is_fraction : (chkD D ⟨"_law_is_fraction", 29, ["value"], ["value"], d_law_is_fraction⟩ && okPar (defAt prog 29).params (["value"].map sS)) = true := by kernel_rfl
theorem c_law_things_lots : (chkD D ⟨"_law_things_lots", 30, ["many"], ["many", "found", "one", "size", "lot"], d_law_things_lots⟩ && okPar (defAt prog 30).params (["many"].map sS)) = true := by kernel_rfl
theorem c_law_worth_list : (chkD D ⟨"_law_worth_list", 31, ["generator", "things"], ["generator", "things", "single", "under", "word", "lots", "found", "thing", "extra", "lot"], d_law_worth_list⟩ && okPar (defAt prog 31).params (["generator", "things"].map sS)) = true := by kernel_rfl
theorem c_law_worths : (chkD D ⟨"_law_worths", 32, ["generator", "things", "most"], ["generator", "things", "most", "person"], d_law_worths⟩ && okPar (defAt prog 32).params (["generator", "things", "most"].map sS)) = true := by kernel_rfl
theorem c_law_are_worths : (chkD D ⟨"_law_are_worths", 33, ["things", "value"], ["things", "value", "lots", "row", "one"], d_law_are_worths⟩ && okPar (defAt prog 33).params (["things", "value"].map sS)) = true := by kernel_rfl
theorem c_law_no_things : (chkD D ⟨"_law_no_things", 34, ["generator"], ["generator"], d_law_no_things⟩ && okPar (defAt prog 34).params (["generator"].map sS)) = true := by kernel_rfl
theorem c_law_no_worths : (chkD D ⟨"_law_no_worths", 35, ["generator", "worths"], ["generator", "worths", "place", "odd", "at", "row", "late", "one"], d_law_no_worths⟩ && okPar (defAt prog 35).params (["generator", "worths"].map sS)) = true := by kernel_rfl
theorem c_law_all_refused : (chkD D ⟨"_law_all_refused", 36, ["calls", "place", "value"], ["calls", "place", "value", "call"], d_law_all_refused⟩ && okPar (defAt prog 36).params (["calls", "place", "value"].map sS)) = true := by kernel_rfl
theorem c_law_good : (chkD D ⟨"_law_good", 37, ["generator"], ["generator", "things", "worths", "value", "no_things", "calls", "kept", "due", "told", "right", "turn", "row"], d_law_good⟩ && okPar (defAt prog 37).params (["generator"].map sS)) = true := by kernel_rfl
theorem claw : (chkD D ⟨"law", 38, ["script"], ["script", "index"], dlaw⟩ && okPar (defAt prog 38).params (["script"].map sS)) = true := by kernel_rfl
theorem fis_whole {k : Nat} : (PL D (k + 1)).fn "is_whole" = runDf (PL D k) dis_whole := fn_eq (e := ⟨"is_whole", 4, ["value"], ["value"], dis_whole⟩) (by kernel_rfl)
theorem fcommon_divisor {k : Nat} : (PL D (k + 1)).fn "common_divisor" = runDf (PL D k) dcommon_divisor := fn_eq (e := ⟨"common_divisor", 5, ["one", "other"], ["one", "other"], dcommon_divisor⟩) (by kernel_rfl)
theorem fis_fraction {k : Nat} : (PL D (k + 1)).fn "is_fraction" = runDf (PL D k) dis_fraction := fn_eq (e := ⟨"is_fraction", 6, ["value"], ["value"], dis_fraction⟩) (by kernel_rfl)
theorem fis_amount {k : Nat} : (PL D (k + 1)).fn "is_amount" = runDf (PL D k) dis_amount := fn_eq (e := ⟨"is_amount", 7, ["value"], ["value"], dis_amount⟩) (by kernel_rfl)
theorem fare_amounts {k : Nat} : (PL D (k + 1)).fn "are_amounts" = runDf (PL D k) dare_amounts := fn_eq (e := ⟨"are_amounts", 8, ["value", "many"], ["value", "many", "one"], dare_amounts⟩) (by kernel_rfl)
theorem fcheck_things {k : Nat} : (PL D (k + 1)).fn "check_things" = runDf (PL D k) dcheck_things := fn_eq (e := ⟨"check_things", 12, ["things"], ["things"], dcheck_things⟩) (by kernel_rfl)
theorem flots_by {k : Nat} : (PL D (k + 1)).fn "lots_by" = runDf (PL D k) dlots_by := fn_eq (e := ⟨"lots_by", 13, ["things"], ["things", "found", "thing", "_", "lot"], dlots_by⟩) (by kernel_rfl)
theorem flots_in {k : Nat} : (PL D (k + 1)).fn "lots_in" = runDf (PL D k) dlots_in := fn_eq (e := ⟨"lots_in", 14, ["things"], ["things"], dlots_in⟩) (by kernel_rfl)
theorem fis_worth_by {k : Nat} : (PL D (k + 1)).fn "is_worth_by" = runDf (PL D k) dis_worth_by := fn_eq (e := ⟨"is_worth_by", 15, ["things", "value"], ["things", "value"], dis_worth_by⟩) (by kernel_rfl)
theorem fare_worths_by {k : Nat} : (PL D (k + 1)).fn "are_worths_by" = runDf (PL D k) dare_worths_by := fn_eq (e := ⟨"are_worths_by", 16, ["things", "value"], ["things", "value", "one"], dare_worths_by⟩) (by kernel_rfl)
theorem fare_worths {k : Nat} : (PL D (k + 1)).fn "are_worths" = runDf (PL D k) dare_worths := fn_eq (e := ⟨"are_worths", 17, ["things", "value"], ["things", "value"], dare_worths⟩) (by kernel_rfl)
theorem f_law_hash {k : Nat} : (PL D (k + 1)).fn "_law_hash" = runDf (PL D k) d_law_hash := fn_eq (e := ⟨"_law_hash", 19, ["seed", "index"], ["seed", "index", "stirred"], d_law_hash⟩) (by kernel_rfl)
theorem f_law_random {k : Nat} : (PL D (k + 1)).fn "_law_random" = runDf (PL D k) d_law_random := fn_eq (e := ⟨"_law_random", 20, ["generator", "limit"], ["generator", "limit", "drawn", "turn"], d_law_random⟩) (by kernel_rfl)
theorem f_law_cell {k : Nat} : (PL D (k + 1)).fn "_law_cell" = runDf (PL D k) d_law_cell := fn_eq (e := ⟨"_law_cell", 21, ["script", "index"], ["script", "index"], d_law_cell⟩) (by kernel_rfl)
theorem f_law_generator {k : Nat} : (PL D (k + 1)).fn "_law_generator" = runDf (PL D k) d_law_generator := fn_eq (e := ⟨"_law_generator", 22, ["script", "index"], ["script", "index", "seed"], d_law_generator⟩) (by kernel_rfl)
theorem f_law_between {k : Nat} : (PL D (k + 1)).fn "_law_between" = runDf (PL D k) d_law_between := fn_eq (e := ⟨"_law_between", 23, ["generator", "low", "high"], ["generator", "low", "high"], d_law_between⟩) (by kernel_rfl)
theorem f_law_pick {k : Nat} : (PL D (k + 1)).fn "_law_pick" = runDf (PL D k) d_law_pick := fn_eq (e := ⟨"_law_pick", 24, ["generator", "items"], ["generator", "items"], d_law_pick⟩) (by kernel_rfl)
theorem f_law_error {k : Nat} : (PL D (k + 1)).fn "_law_error" = runDf (PL D k) d_law_error := fn_eq (e := ⟨"_law_error", 25, ["call"], ["call", "found", "e"], d_law_error⟩) (by kernel_rfl)
theorem f_law_refused {k : Nat} : (PL D (k + 1)).fn "_law_refused" = runDf (PL D k) d_law_refused := fn_eq (e := ⟨"_law_refused", 26, ["call", "place", "value"], ["call", "place", "value", "found", "kinds", "at"], d_law_refused⟩) (by kernel_rfl)
theorem f_law_lowest {k : Nat} : (PL D (k + 1)).fn "_law_lowest" = runDf (PL D k) d_law_lowest := fn_eq (e := ⟨"_law_lowest", 27, ["top", "under"], ["top", "under", "sign", "one", "other"], d_law_lowest⟩) (by kernel_rfl)
theorem f_law_is_number {k : Nat} : (PL D (k + 1)).fn "_law_is_number" = runDf (PL D k) d_law_is_number := fn_eq (e := ⟨"_law_is_number", 28, ["value"], ["value"], d_law_is_number⟩) (by kernel_rfl)
theorem f_law_is_fraction {k : Nat} : (PL D (k + 1)).fn "_law_is_fraction" = runDf (PL D k) d_law_is_fraction := fn_eq (e := ⟨"_law_is_fraction", 29, ["value"], ["value"], d_law_is_fraction⟩) (by kernel_rfl)
theorem f_law_things_lots {k : Nat} : (PL D (k + 1)).fn "_law_things_lots" = runDf (PL D k) d_law_things_lots := fn_eq (e := ⟨"_law_things_lots", 30, ["many"], ["many", "found", "one", "size", "lot"], d_law_things_lots⟩) (by kernel_rfl)
theorem f_law_worth_list {k : Nat} : (PL D (k + 1)).fn "_law_worth_list" = runDf (PL D k) d_law_worth_list := fn_eq (e := ⟨"_law_worth_list", 31, ["generator", "things"], ["generator", "things", "single", "under", "word", "lots", "found", "thing", "extra", "lot"], d_law_worth_list⟩) (by kernel_rfl)
theorem f_law_worths {k : Nat} : (PL D (k + 1)).fn "_law_worths" = runDf (PL D k) d_law_worths := fn_eq (e := ⟨"_law_worths", 32, ["generator", "things", "most"], ["generator", "things", "most", "person"], d_law_worths⟩) (by kernel_rfl)
theorem f_law_are_worths {k : Nat} : (PL D (k + 1)).fn "_law_are_worths" = runDf (PL D k) d_law_are_worths := fn_eq (e := ⟨"_law_are_worths", 33, ["things", "value"], ["things", "value", "lots", "row", "one"], d_law_are_worths⟩) (by kernel_rfl)
theorem f_law_no_things {k : Nat} : (PL D (k + 1)).fn "_law_no_things" = runDf (PL D k) d_law_no_things := fn_eq (e := ⟨"_law_no_things", 34, ["generator"], ["generator"], d_law_no_things⟩) (by kernel_rfl)
theorem f_law_no_worths {k : Nat} : (PL D (k + 1)).fn "_law_no_worths" = runDf (PL D k) d_law_no_worths := fn_eq (e := ⟨"_law_no_worths", 35, ["generator", "worths"], ["generator", "worths", "place", "odd", "at", "row", "late", "one"], d_law_no_worths⟩) (by kernel_rfl)
theorem f_law_all_refused {k : Nat} : (PL D (k + 1)).fn "_law_all_refused" = runDf (PL D k) d_law_all_refused := fn_eq (e := ⟨"_law_all_refused", 36, ["calls", "place", "value"], ["calls", "place", "value", "call"], d_law_all_refused⟩) (by kernel_rfl)
theorem f_law_good {k : Nat} : (PL D (k + 1)).fn "_law_good" = runDf (PL D k) d_law_good := fn_eq (e := ⟨"_law_good", 37, ["generator"], ["generator", "things", "worths", "value", "no_things", "calls", "kept", "due", "told", "right", "turn", "row"], d_law_good⟩) (by kernel_rfl)
theorem flaw {k : Nat} : (PL D (k + 1)).fn "law" = runDf (PL D k) dlaw := fn_eq (e := ⟨"law", 38, ["script"], ["script", "index"], dlaw⟩) (by kernel_rfl)
theorem qis_whole {k : Nat} : (QL D "_law_random" fuelP (k + 1)).fn "is_whole" = runP (QL D "_law_random" fuelP k) dis_whole := QL_fn (e := ⟨"is_whole", 4, ["value"], ["value"], dis_whole⟩) (by kernel_rfl) (by decide)
theorem qcommon_divisor {k : Nat} : (QL D "_law_random" fuelP (k + 1)).fn "common_divisor" = runP (QL D "_law_random" fuelP k) dcommon_divisor := QL_fn (e := ⟨"common_divisor", 5, ["one", "other"], ["one", "other"], dcommon_divisor⟩) (by kernel_rfl) (by decide)
theorem qis_fraction {k : Nat} : (QL D "_law_random" fuelP (k + 1)).fn "is_fraction" = runP (QL D "_law_random" fuelP k) dis_fraction := QL_fn (e := ⟨"is_fraction", 6, ["value"], ["value"], dis_fraction⟩) (by kernel_rfl) (by decide)
theorem qis_amount {k : Nat} : (QL D "_law_random" fuelP (k + 1)).fn "is_amount" = runP (QL D "_law_random" fuelP k) dis_amount := QL_fn (e := ⟨"is_amount", 7, ["value"], ["value"], dis_amount⟩) (by kernel_rfl) (by decide)
theorem qare_amounts {k : Nat} : (QL D "_law_random" fuelP (k + 1)).fn "are_amounts" = runP (QL D "_law_random" fuelP k) dare_amounts := QL_fn (e := ⟨"are_amounts", 8, ["value", "many"], ["value", "many", "one"], dare_amounts⟩) (by kernel_rfl) (by decide)
theorem qcheck_things {k : Nat} : (QL D "_law_random" fuelP (k + 1)).fn "check_things" = runP (QL D "_law_random" fuelP k) dcheck_things := QL_fn (e := ⟨"check_things", 12, ["things"], ["things"], dcheck_things⟩) (by kernel_rfl) (by decide)
theorem qlots_by {k : Nat} : (QL D "_law_random" fuelP (k + 1)).fn "lots_by" = runP (QL D "_law_random" fuelP k) dlots_by := QL_fn (e := ⟨"lots_by", 13, ["things"], ["things", "found", "thing", "_", "lot"], dlots_by⟩) (by kernel_rfl) (by decide)
theorem qlots_in {k : Nat} : (QL D "_law_random" fuelP (k + 1)).fn "lots_in" = runP (QL D "_law_random" fuelP k) dlots_in := QL_fn (e := ⟨"lots_in", 14, ["things"], ["things"], dlots_in⟩) (by kernel_rfl) (by decide)
theorem qis_worth_by {k : Nat} : (QL D "_law_random" fuelP (k + 1)).fn "is_worth_by" = runP (QL D "_law_random" fuelP k) dis_worth_by := QL_fn (e := ⟨"is_worth_by", 15, ["things", "value"], ["things", "value"], dis_worth_by⟩) (by kernel_rfl) (by decide)
theorem qare_worths_by {k : Nat} : (QL D "_law_random" fuelP (k + 1)).fn "are_worths_by" = runP (QL D "_law_random" fuelP k) dare_worths_by := QL_fn (e := ⟨"are_worths_by", 16, ["things", "value"], ["things", "value", "one"], dare_worths_by⟩) (by kernel_rfl) (by decide)
theorem qare_worths {k : Nat} : (QL D "_law_random" fuelP (k + 1)).fn "are_worths" = runP (QL D "_law_random" fuelP k) dare_worths := QL_fn (e := ⟨"are_worths", 17, ["things", "value"], ["things", "value"], dare_worths⟩) (by kernel_rfl) (by decide)
theorem q_law_hash {k : Nat} : (QL D "_law_random" fuelP (k + 1)).fn "_law_hash" = runP (QL D "_law_random" fuelP k) d_law_hash := QL_fn (e := ⟨"_law_hash", 19, ["seed", "index"], ["seed", "index", "stirred"], d_law_hash⟩) (by kernel_rfl) (by decide)
theorem q_law_cell {k : Nat} : (QL D "_law_random" fuelP (k + 1)).fn "_law_cell" = runP (QL D "_law_random" fuelP k) d_law_cell := QL_fn (e := ⟨"_law_cell", 21, ["script", "index"], ["script", "index"], d_law_cell⟩) (by kernel_rfl) (by decide)
theorem q_law_generator {k : Nat} : (QL D "_law_random" fuelP (k + 1)).fn "_law_generator" = runP (QL D "_law_random" fuelP k) d_law_generator := QL_fn (e := ⟨"_law_generator", 22, ["script", "index"], ["script", "index", "seed"], d_law_generator⟩) (by kernel_rfl) (by decide)
theorem q_law_between {k : Nat} : (QL D "_law_random" fuelP (k + 1)).fn "_law_between" = runP (QL D "_law_random" fuelP k) d_law_between := QL_fn (e := ⟨"_law_between", 23, ["generator", "low", "high"], ["generator", "low", "high"], d_law_between⟩) (by kernel_rfl) (by decide)
theorem q_law_pick {k : Nat} : (QL D "_law_random" fuelP (k + 1)).fn "_law_pick" = runP (QL D "_law_random" fuelP k) d_law_pick := QL_fn (e := ⟨"_law_pick", 24, ["generator", "items"], ["generator", "items"], d_law_pick⟩) (by kernel_rfl) (by decide)
theorem q_law_error {k : Nat} : (QL D "_law_random" fuelP (k + 1)).fn "_law_error" = runP (QL D "_law_random" fuelP k) d_law_error := QL_fn (e := ⟨"_law_error", 25, ["call"], ["call", "found", "e"], d_law_error⟩) (by kernel_rfl) (by decide)
theorem q_law_refused {k : Nat} : (QL D "_law_random" fuelP (k + 1)).fn "_law_refused" = runP (QL D "_law_random" fuelP k) d_law_refused := QL_fn (e := ⟨"_law_refused", 26, ["call", "place", "value"], ["call", "place", "value", "found", "kinds", "at"], d_law_refused⟩) (by kernel_rfl) (by decide)
theorem q_law_lowest {k : Nat} : (QL D "_law_random" fuelP (k + 1)).fn "_law_lowest" = runP (QL D "_law_random" fuelP k) d_law_lowest := QL_fn (e := ⟨"_law_lowest", 27, ["top", "under"], ["top", "under", "sign", "one", "other"], d_law_lowest⟩) (by kernel_rfl) (by decide)
theorem q_law_is_number {k : Nat} : (QL D "_law_random" fuelP (k + 1)).fn "_law_is_number" = runP (QL D "_law_random" fuelP k) d_law_is_number := QL_fn (e := ⟨"_law_is_number", 28, ["value"], ["value"], d_law_is_number⟩) (by kernel_rfl) (by decide)
theorem q_law_is_fraction {k : Nat} : (QL D "_law_random" fuelP (k + 1)).fn "_law_is_fraction" = runP (QL D "_law_random" fuelP k) d_law_is_fraction := QL_fn (e := ⟨"_law_is_fraction", 29, ["value"], ["value"], d_law_is_fraction⟩) (by kernel_rfl) (by decide)
theorem q_law_things_lots {k : Nat} : (QL D "_law_random" fuelP (k + 1)).fn "_law_things_lots" = runP (QL D "_law_random" fuelP k) d_law_things_lots := QL_fn (e := ⟨"_law_things_lots", 30, ["many"], ["many", "found", "one", "size", "lot"], d_law_things_lots⟩) (by kernel_rfl) (by decide)
theorem q_law_worth_list {k : Nat} : (QL D "_law_random" fuelP (k + 1)).fn "_law_worth_list" = runP (QL D "_law_random" fuelP k) d_law_worth_list := QL_fn (e := ⟨"_law_worth_list", 31, ["generator", "things"], ["generator", "things", "single", "under", "word", "lots", "found", "thing", "extra", "lot"], d_law_worth_list⟩) (by kernel_rfl) (by decide)
theorem q_law_worths {k : Nat} : (QL D "_law_random" fuelP (k + 1)).fn "_law_worths" = runP (QL D "_law_random" fuelP k) d_law_worths := QL_fn (e := ⟨"_law_worths", 32, ["generator", "things", "most"], ["generator", "things", "most", "person"], d_law_worths⟩) (by kernel_rfl) (by decide)
theorem q_law_are_worths {k : Nat} : (QL D "_law_random" fuelP (k + 1)).fn "_law_are_worths" = runP (QL D "_law_random" fuelP k) d_law_are_worths := QL_fn (e := ⟨"_law_are_worths", 33, ["things", "value"], ["things", "value", "lots", "row", "one"], d_law_are_worths⟩) (by kernel_rfl) (by decide)
theorem q_law_no_things {k : Nat} : (QL D "_law_random" fuelP (k + 1)).fn "_law_no_things" = runP (QL D "_law_random" fuelP k) d_law_no_things := QL_fn (e := ⟨"_law_no_things", 34, ["generator"], ["generator"], d_law_no_things⟩) (by kernel_rfl) (by decide)
theorem q_law_no_worths {k : Nat} : (QL D "_law_random" fuelP (k + 1)).fn "_law_no_worths" = runP (QL D "_law_random" fuelP k) d_law_no_worths := QL_fn (e := ⟨"_law_no_worths", 35, ["generator", "worths"], ["generator", "worths", "place", "odd", "at", "row", "late", "one"], d_law_no_worths⟩) (by kernel_rfl) (by decide)
theorem q_law_all_refused {k : Nat} : (QL D "_law_random" fuelP (k + 1)).fn "_law_all_refused" = runP (QL D "_law_random" fuelP k) d_law_all_refused := QL_fn (e := ⟨"_law_all_refused", 36, ["calls", "place", "value"], ["calls", "place", "value", "call"], d_law_all_refused⟩) (by kernel_rfl) (by decide)
theorem q_law_good {k : Nat} : (QL D "_law_random" fuelP (k + 1)).fn "_law_good" = runP (QL D "_law_random" fuelP k) d_law_good := QL_fn (e := ⟨"_law_good", 37, ["generator"], ["generator", "things", "worths", "value", "no_things", "calls", "kept", "due", "told", "right", "turn", "row"], d_law_good⟩) (by kernel_rfl) (by decide)
theorem qlaw {k : Nat} : (QL D "_law_random" fuelP (k + 1)).fn "law" = runP (QL D "_law_random" fuelP k) dlaw := QL_fn (e := ⟨"law", 38, ["script"], ["script", "index"], dlaw⟩) (by kernel_rfl) (by decide)
theorem kis_whole : FOks fuelP dis_whole.body := by simp [dis_whole, FOks, FOk, fuel_ok]
theorem kcommon_divisor : FOks fuelP dcommon_divisor.body := by simp [dcommon_divisor, FOks, FOk, fuel_ok]
theorem kis_fraction : FOks fuelP dis_fraction.body := by simp [dis_fraction, FOks, FOk, fuel_ok]
theorem kis_amount : FOks fuelP dis_amount.body := by simp [dis_amount, FOks, FOk, fuel_ok]
theorem kare_amounts : FOks fuelP dare_amounts.body := by simp [dare_amounts, FOks, FOk, fuel_ok]
theorem kcheck_things : FOks fuelP dcheck_things.body := by simp [dcheck_things, FOks, FOk, fuel_ok]
theorem klots_by : FOks fuelP dlots_by.body := by simp [dlots_by, FOks, FOk, fuel_ok]
theorem klots_in : FOks fuelP dlots_in.body := by simp [dlots_in, FOks, FOk, fuel_ok]
theorem kis_worth_by : FOks fuelP dis_worth_by.body := by simp [dis_worth_by, FOks, FOk, fuel_ok]
theorem kare_worths_by : FOks fuelP dare_worths_by.body := by simp [dare_worths_by, FOks, FOk, fuel_ok]
theorem kare_worths : FOks fuelP dare_worths.body := by simp [dare_worths, FOks, FOk, fuel_ok]
theorem k_law_hash : FOks fuelP d_law_hash.body := by simp [d_law_hash, FOks, FOk, fuel_ok]
theorem k_law_random : FOks fuelP d_law_random.body := by simp [d_law_random, FOks, FOk, fuel_ok]
theorem k_law_cell : FOks fuelP d_law_cell.body := by simp [d_law_cell, FOks, FOk, fuel_ok]
theorem k_law_generator : FOks fuelP d_law_generator.body := by simp [d_law_generator, FOks, FOk, fuel_ok]
theorem k_law_between : FOks fuelP d_law_between.body := by simp [d_law_between, FOks, FOk, fuel_ok]
theorem k_law_pick : FOks fuelP d_law_pick.body := by simp [d_law_pick, FOks, FOk, fuel_ok]
theorem k_law_error : FOks fuelP d_law_error.body := by simp [d_law_error, FOks, FOk, fuel_ok]
theorem k_law_refused : FOks fuelP d_law_refused.body := by simp [d_law_refused, FOks, FOk, fuel_ok]
theorem k_law_lowest : FOks fuelP d_law_lowest.body := by simp [d_law_lowest, FOks, FOk, fuel_ok]
theorem k_law_is_number : FOks fuelP d_law_is_number.body := by simp [d_law_is_number, FOks, FOk, fuel_ok]
theorem k_law_is_fraction : FOks fuelP d_law_is_fraction.body := by simp [d_law_is_fraction, FOks, FOk, fuel_ok]
theorem k_law_things_lots : FOks fuelP d_law_things_lots.body := by simp [d_law_things_lots, FOks, FOk, fuel_ok]
theorem k_law_worth_list : FOks fuelP d_law_worth_list.body := by simp [d_law_worth_list, FOks, FOk, fuel_ok]
theorem k_law_worths : FOks fuelP d_law_worths.body := by simp [d_law_worths, FOks, FOk, fuel_ok]
theorem k_law_are_worths : FOks fuelP d_law_are_worths.body := by simp [d_law_are_worths, FOks, FOk, fuel_ok]
theorem k_law_no_things : FOks fuelP d_law_no_things.body := by simp [d_law_no_things, FOks, FOk, fuel_ok]
theorem k_law_no_worths : FOks fuelP d_law_no_worths.body := by simp [d_law_no_worths, FOks, FOk, fuel_ok]
theorem k_law_all_refused : FOks fuelP d_law_all_refused.body := by simp [d_law_all_refused, FOks, FOk, fuel_ok]
theorem k_law_good : FOks fuelP d_law_good.body := by simp [d_law_good, FOks, FOk, fuel_ok]
theorem klaw : FOks fuelP dlaw.body := by simp [dlaw, FOks, FOk, fuel_ok]
theorem hF (x : Str) (e : Fe) (h : D.find x = some e) : FOks fuelP e.d.body := by
  have h2 : e ∈ fe := List.mem_of_find?_eq_some h
  simp only [fe, List.mem_cons, List.not_mem_nil, or_false] at h2
  rcases h2 with rfl | rfl | rfl | rfl | rfl | rfl | rfl | rfl | rfl | rfl | rfl | rfl | rfl | rfl | rfl | rfl | rfl | rfl | rfl | rfl | rfl | rfl | rfl | rfl | rfl | rfl | rfl | rfl | rfl | rfl | rfl
  · exact kis_whole
  · exact kcommon_divisor
  · exact kis_fraction
  · exact kis_amount
  · exact kare_amounts
  · exact kcheck_things
  · exact klots_by
  · exact klots_in
  · exact kis_worth_by
  · exact kare_worths_by
  · exact kare_worths
  · exact k_law_hash
  · exact k_law_random
  · exact k_law_cell
  · exact k_law_generator
  · exact k_law_between
  · exact k_law_pick
  · exact k_law_error
  · exact k_law_refused
  · exact k_law_lowest
  · exact k_law_is_number
  · exact k_law_is_fraction
  · exact k_law_things_lots
  · exact k_law_worth_list
  · exact k_law_worths
  · exact k_law_are_worths
  · exact k_law_no_things
  · exact k_law_no_worths
  · exact k_law_all_refused
  · exact k_law_good
  · exact klaw
theorem hH : HashOk D := ⟨⟨1103515245, 27183, 7919, 101, 48271, 31, 69621, by omega, by omega, by omega, by omega, by omega, fun k => f_law_hash⟩, fun k => f_law_random⟩
theorem cs_MOST_THINGS : D.cs "MOST_THINGS" = some (.int 3) := by kernel_rfl
theorem cs_MOST_TAKERS : D.cs "MOST_TAKERS" = some (.int 3) := by kernel_rfl
end K59
namespace K59
open PySem L2 TQ
abbrev q (k : Nat) := QL D "_law_random" fuelP k
abbrev Xf : Str → TQ.D → Om → Prop := fun _ _ _ => False
def kInt : TQ.D → Bool
  | .int _ => true
  | .bool _ => true
  | _ => false
def kBool : TQ.D → Bool
  | .bool _ => true
  | _ => false
def kTup : TQ.D → Bool
  | .tuple _ => true
  | _ => false
def kLst : TQ.D → Bool
  | .list _ => true
  | _ => false
theorem isi_int {P : PP} {d : TQ.D} {t : Str} (h : typD d = some t) : isiD P d ["int"] = some (kInt d) := by
  cases d <;> first | rfl | skip
  rename_i kv
  cases kv <;> first | rfl | cases h
theorem isi_bool {P : PP} {d : TQ.D} {t : Str} (h : typD d = some t) : isiD P d ["bool"] = some (kBool d) := by
  cases d <;> first | rfl | skip
  rename_i kv
  cases kv <;> first | rfl | cases h
theorem isi_tup {P : PP} {d : TQ.D} {t : Str} (h : typD d = some t) : isiD P d ["tuple"] = some (kTup d) := by
  cases d <;> first | rfl | skip
  rename_i kv
  cases kv <;> first | rfl | cases h
theorem isi_lst {P : PP} {d : TQ.D} {t : Str} (h : typD d = some t) : isiD P d ["list"] = some (kLst d) := by
  cases d <;> first | rfl | skip
  rename_i kv
  cases kv <;> first | rfl | cases h
/-- data that may be looked at: depth, small whole numbers -/
def V : Nat → TQ.D → Prop
  | 0, _ => False
  | _ + 1, .none => True
  | _ + 1, .bool _ => True
  | _ + 1, .int i => -(2 ^ 100) < i ∧ i < 2 ^ 100
  | _ + 1, .str s => s = "1" ∨ s = "2"
  | n + 1, .list xs => (∀ x ∈ xs, V n x) ∧ xs.length ≤ 1000
  | n + 1, .tuple xs => (∀ x ∈ xs, V n x) ∧ xs.length ≤ 1000
  | _ + 1, .dict _ => False
theorem V.typ {n : Nat} {d : TQ.D} (h : V n d) : ∃ t, typD d = some t := by
  cases n with
  | zero => exact h.elim
  | succ n =>
    cases d <;> first | exact ⟨_, rfl⟩ | exact h.elim
def isWh : TQ.D → Bool
  | .int _ => true
  | _ => false
theorem isWh_eq {d : TQ.D} : isWh d = (kInt d && !kBool d) := by cases d <;> rfl
theorem whole_ok {k n : Nat} {d : TQ.D} (h : V n d) {o : Om} : (q (k + 1)).fn "is_whole" [mkP d] o = .ok (.bool (isWh d)) o := by
  apply okx.eq
  rw [qis_whole]
  obtain ⟨t, ht⟩ := h.typ
  refine p_run rfl rfl (by decide) ?_
  simp [dis_whole, isi_int ht, isi_bool ht, isWh_eq]
  cases kInt d <;> cases kBool d <;> simp
theorem number_ok {k n : Nat} {d : TQ.D} (h : V n d) {o : Om} : (q (k + 1)).fn "_law_is_number" [mkP d] o = .ok (.bool (isWh d)) o := by
  apply okx.eq
  rw [q_law_is_number]
  obtain ⟨t, ht⟩ := h.typ
  refine p_run rfl rfl (by decide) ?_
  simp [d_law_is_number, isi_int ht, isi_bool ht, isWh_eq]
  cases kInt d <;> cases kBool d <;> simp
theorem gcd_step (x y : Nat) : Nat.gcd y (x % y) = Nat.gcd x y := by
  rw [Nat.gcd_comm y (x % y), ← Nat.gcd_rec, Nat.gcd_comm]
@[simp] theorem abs_nat {i : Int} : (if i < 0 then -i else i) = (i.natAbs : Int) := by split <;> omega
theorem loop1 {P : PP} {o : Om} : ∀ (n x y : Nat), y < n → whileP (fun τ => TQ.pvB P τ (.cmp .gt (.var 1) (.cst (.int 0)))) (pxSs P [(.par 0 1 (.var 1) (.bin .mod (.var 0) (.var 1)))]) n [some (mkP (.int x)), some (mkP (.int y))] o = .ok (.nx, [some (mkP (.int (Nat.gcd x y))), some (mkP (.int 0))]) o
  | n + 1, x, y, h => by
    apply okx.eq
    simp [whileP]
    by_cases hy : y = 0
    · subst hy
      simp
    · have h0 : 0 < y := by omega
      simp [h0]
      rw [← Int.natCast_emod, loop1 n y (x % y) (by have := Nat.mod_lt x h0; omega)]
      simp [gcd_step]
theorem cd_ok {k : Nat} {a b : Int} {o : Om} : (q (k + 1)).fn "common_divisor" [mkP (.int a), mkP (.int b)] o = .ok (.int (Nat.gcd a.natAbs b.natAbs)) o := by
  apply okx.eq
  rw [qcommon_divisor]
  refine p_run rfl rfl (by decide) ?_
  simp [dcommon_divisor]
  rw [loop1 _ _ _ (by simp [fuelP, iSl, mkP]; omega)]
  simp
/-- a fraction -/
def isF : TQ.D → Bool
  | .tuple [.int a, .int b] => decide (0 < b) && decide (Nat.gcd a.natAbs b.natAbs = 1)
  | _ => false
theorem V.mem {n : Nat} {xs : List TQ.D} (h : V (n + 1) (.tuple xs)) : ∀ x ∈ xs, V n x := h.1
theorem frac_ok {k n : Nat} {d : TQ.D} (h : V n d) {o : Om} : (q (k + 2)).fn "is_fraction" [mkP d] o = .ok (.bool (isF d)) o := by
  apply okx.eq
  rw [qis_fraction]
  obtain ⟨t, ht⟩ := h.typ
  refine p_run rfl rfl (by decide) ?_
  simp [dis_fraction, isi_tup ht]
  cases n with
  | zero => exact h.elim
  | succ n =>
    cases d <;> simp [kTup, isF]
    rename_i xs
    match xs, h with
    | [], _ => simp
    | [_], _ => simp
    | _ :: _ :: _ :: _, _ => simp; omega
    | [x, y], h =>
      have hx := h.mem x (by simp)
      have hy := h.mem y (by simp)
      simp [whole_ok hx, whole_ok hy]
      cases x <;> simp [isWh]
      cases y <;> simp [isWh]
      rename_i a b
      simp [cd_ok]
      generalize Nat.gcd a.natAbs b.natAbs = gg
      omega
theorem loop2 {P : PP} {o : Om} {u v : Pv} : ∀ (n x y : Nat), y < n → whileP (fun τ => TQ.pvB P τ (.cmp .ne (.var 4) (.cst (.int 0)))) (pxSs P [(.par 3 4 (.var 4) (.bin .mod (.bif "int" [(.var 3)]) (.var 4)))]) n [some u, some v, none, some (mkP (.int x)), some (mkP (.int y))] o = .ok (.nx, [some u, some v, none, some (mkP (.int (Nat.gcd x y))), some (mkP (.int 0))]) o
  | n + 1, x, y, h => by
    apply okx.eq
    simp [whileP]
    by_cases hy : y = 0
    · subst hy
      simp
    · have h0 : 0 < y := by omega
      have h1 : ¬ ((y : Int) = 0) := by omega
      simp [h0, h1]
      rw [← Int.natCast_emod, loop2 n y (x % y) (by have := Nat.mod_lt x h0; omega)]
      simp [gcd_step, hy]
theorem low_ok {k : Nat} {a b : Int} {o : Om} (ha : -(2 ^ 100) < a ∧ a < 2 ^ 100) (hb : 0 < b ∧ b < 2 ^ 100) : (q (k + 1)).fn "_law_lowest" [mkP (.int a), mkP (.int b)] o = .ok (.tuple [.int (a / (Nat.gcd b.natAbs a.natAbs)), .int (b / (Nat.gcd b.natAbs a.natAbs))]) o := by
  apply okx.eq
  rw [q_law_lowest]
  refine p_run rfl rfl (by decide) ?_
  simp [d_law_lowest]
  rw [loop2 _ _ _ (by simp [fuelP, iSl, mkP]; omega)]
  have hg : 0 < Nat.gcd b.natAbs a.natAbs := Nat.gcd_pos_of_pos_left _ (by omega)
  have hg2 : Nat.gcd b.natAbs a.natAbs ≤ b.natAbs := Nat.gcd_le_left _ (by omega)
  have m1 : mulOk 1 a = true := mul_small (by omega) (by omega) ha.1 ha.2
  have m2 : mulOk 1 b = true := mul_small (by omega) (by omega) (by omega) hb.2
  have m3 : divOk (Nat.gcd b.natAbs a.natAbs) = true := div_small (by omega) (by omega)
  have m4 : lineOk 2 = true := rfl
  simp [hb.1, m1, m2, m3, m4]
theorem eqv_ll {xs ys : List TQ.D} : PyData.eqv (.tuple xs) (.tuple ys) = PyData.eqvAll xs ys := by simp [PyData.eqv]
@[simp] theorem eq_t2 {a b c d : Int} : cmpD .eq (.tuple [.int a, .int b]) (.tuple [.int c, .int d]) = some (decide (a = c ∧ b = d)) := by
  show (if dOk (.tuple [.int a, .int b]) && dOk (.tuple [.int c, .int d]) then some (PyData.eqv (.tuple [.int a, .int b]) (.tuple [.int c, .int d])) else none) = _
  have : (dOk (.tuple [.int a, .int b]) && dOk (.tuple [.int c, .int d])) = true := rfl
  rw [if_pos this]
  simp [PyData.eqv, PyData.eqvAll]
  by_cases h1 : a = c <;> by_cases h2 : b = d <;> simp [h1, h2]
theorem gcd_one {a b : Int} {g : Nat} (hb : 0 < b) (hg : 0 < g) : (a / (g : Int) = a ∧ b / (g : Int) = b) ↔ g = 1 := by
  constructor
  · rintro ⟨_, h⟩
    by_cases h1 : g = 1
    · exact h1
    · have : b / (g : Int) < b := Int.ediv_lt_of_lt_mul (by omega) (by
        have : b * 1 < b * (g : Int) := Int.mul_lt_mul_of_pos_left (by omega) hb
        omega)
      omega
  · rintro rfl; simp
theorem lfrac_ok {k n : Nat} {d : TQ.D} (h : V n d) {o : Om} : (q (k + 2)).fn "_law_is_fraction" [mkP d] o = .ok (.bool (isF d)) o := by
  apply okx.eq
  rw [q_law_is_fraction]
  obtain ⟨t, ht⟩ := h.typ
  refine p_run rfl rfl (by decide) ?_
  simp [d_law_is_fraction, isi_tup ht]
  cases n with
  | zero => exact h.elim
  | succ n =>
    cases d <;> simp [kTup, isF]
    rename_i xs
    match xs, h with
    | [], _ => simp
    | [_], _ => simp
    | _ :: _ :: _ :: _, _ => simp; omega
    | [x, y], h =>
      have hx := h.mem x (by simp)
      have hy := h.mem y (by simp)
      simp [number_ok hx, number_ok hy]
      cases x <;> simp [isWh]
      cases y <;> simp [isWh]
      rename_i a b
      cases n with
      | zero => exact hx.elim
      | succ n =>
        by_cases hb : 0 < b
        · rw [low_ok hx ⟨hb, hy.2⟩]
          simp
          have hg : 0 < Nat.gcd b.natAbs a.natAbs := Nat.gcd_pos_of_pos_left _ (by omega)
          have key := gcd_one (a := a) hb hg
          rw [Nat.gcd_comm a.natAbs]
          generalize Nat.gcd b.natAbs a.natAbs = gg at *
          by_cases h1 : gg = 1
          · exact .inl ⟨by omega, .inr ⟨key.mpr h1, hb, h1⟩⟩
          · exact .inl ⟨by omega, .inl ⟨fun p q => h1 (key.mp ⟨p, q⟩), fun _ => h1⟩⟩
        · simp [hb]; omega
theorem V.lay : ∀ {n : Nat} {d : TQ.D}, V n d → d.canLay0 = true ∧ d.depth ≤ n
  | n + 1, d, h => by
    cases d with
    | none => exact ⟨rfl, Nat.zero_le _⟩
    | bool b => exact ⟨rfl, Nat.zero_le _⟩
    | int b => exact ⟨rfl, Nat.zero_le _⟩
    | str s => rcases h with rfl | rfl <;> exact ⟨by kernel_rfl, Nat.zero_le _⟩
    | dict kv => exact h.elim
    | list xs =>
      have key : ∀ ys : List TQ.D, (∀ x ∈ ys, V n x) → PyData.canLayAll0 ys = true ∧ PyData.depthAll ys ≤ n := by
        intro ys
        induction ys with
        | nil => intro _; exact ⟨rfl, Nat.zero_le _⟩
        | cons y ys ih =>
          intro hy
          have a := V.lay (hy y (by simp))
          have b := ih fun x hx => hy x (List.mem_cons_of_mem _ hx)
          simp only [PyData.canLayAll0, PyData.depthAll, a.1, b.1, Bool.and_self, true_and]
          omega
      have k := key xs h.1
      exact ⟨k.1, by show PyData.depthAll xs + 1 ≤ n + 1; omega⟩
    | tuple xs =>
      have key : ∀ ys : List TQ.D, (∀ x ∈ ys, V n x) → PyData.canLayAll0 ys = true ∧ PyData.depthAll ys ≤ n := by
        intro ys
        induction ys with
        | nil => intro _; exact ⟨rfl, Nat.zero_le _⟩
        | cons y ys ih =>
          intro hy
          have a := V.lay (hy y (by simp))
          have b := ih fun x hx => hy x (List.mem_cons_of_mem _ hx)
          simp only [PyData.canLayAll0, PyData.depthAll, a.1, b.1, Bool.and_self, true_and]
          omega
      have k := key xs h.1
      exact ⟨k.1, by show PyData.depthAll xs + 1 ≤ n + 1; omega⟩
theorem V.ok {n : Nat} {d : TQ.D} (h : V n d) (k : n ≤ 60) : dOk d = true := by
  unfold dOk
  simp only [h.lay.1, Bool.true_and, decide_eq_true_eq]
  exact Nat.le_trans h.lay.2 k
/-- an amount -/
def isA : TQ.D → Bool
  | .tuple [.int a, .int b] => isF (.tuple [.int a, .int b]) && decide (0 ≤ a)
  | _ => false
theorem isF_form {d : TQ.D} (h : isF d = true) : ∃ a b : Int, d = .tuple [.int a, .int b] := by
  unfold isF at h
  split at h
  · exact ⟨_, _, rfl⟩
  · cases h
theorem isA_eq {d : TQ.D} (h : isF d = false) : isA d = false := by
  unfold isA
  split
  · rw [h]; rfl
  · rfl
theorem amount_ok {k n : Nat} {d : TQ.D} (h : V n d) {o : Om} : (q (k + 3)).fn "is_amount" [mkP d] o = .ok (.bool (isA d)) o := by
  apply okx.eq
  rw [qis_amount]
  refine p_run rfl rfl (by decide) ?_
  simp [dis_amount, frac_ok h]
  cases hf : isF d with
  | false => simp [isA_eq hf]
  | true =>
    obtain ⟨a, b, rfl⟩ := isF_form hf
    simp [isA, hf]
    omega
theorem amounts_ok {k n : Nat} {d : TQ.D} {m : Int} (h : V (n + 1) d) {o : Om} : (q (k + 4)).fn "are_amounts" [mkP d, mkP (.int m)] o = .ok (.bool (match d with | .list xs => decide ((xs.length : Int) = m) && xs.all isA | _ => false)) o := by
  apply okx.eq
  rw [qare_amounts]
  obtain ⟨t, ht⟩ := h.typ
  refine p_run rfl rfl (by decide) ?_
  simp [dare_amounts, isi_lst ht]
  cases d <;> simp [kLst]
  rename_i xs
  have hb : ∀ (ys : List TQ.D), boolsD (ys.map fun x => .bool (isA x)) = some (ys.map isA) := by
    intro ys
    induction ys with
    | nil => rfl
    | cons y ys ih => simp [boolsD, ih]
  simp [srcD, seqD]
  rw [comp_fm (h := fun x => some (PyData.bool (isA x))) (fun x hx o => okx.eq (by simp [amount_ok (h.1 x hx)]))]
  simp [hb, line_le (show xs.length ≤ 10000 from Nat.le_trans h.2 (by omega))]
  by_cases hl : (xs.length : Int) = m <;> simp [hl]
/-! the lots -/
def lotsD : Nat → List TQ.D
  | 0 => [.list []]
  | 1 => [.list [], .list [.int 0]]
  | 2 => [.list [], .list [.int 0], .list [.int 1], .list [.int 0, .int 1]]
  | _ => [.list [], .list [.int 0], .list [.int 1], .list [.int 2], .list [.int 0, .int 1], .list [.int 0, .int 2], .list [.int 1, .int 2], .list [.int 0, .int 1, .int 2]]
def T3 (t : Nat) : Prop := t = 1 ∨ t = 2 ∨ t = 3
theorem lots_ok {k t : Nat} (h : T3 t) {o : Om} : (q (k + 1)).fn "lots_by" [mkP (.int t)] o = .ok (.list (lotsD t)) o := by
  rw [qlots_by]
  rcases h with rfl | rfl | rfl <;> kernel_rfl
theorem llots_ok {k t : Nat} (h : T3 t) {o : Om} : (q (k + 1)).fn "_law_things_lots" [mkP (.int t)] o = .ok (.list (lotsD t)) o := by
  rw [q_law_things_lots]
  rcases h with rfl | rfl | rfl <;> kernel_rfl
theorem lots_len {t : Nat} (h : T3 t) : (lotsD t).length = 2 ^ t := by rcases h with rfl | rfl | rfl <;> rfl
theorem check_ok {k t : Nat} (h : T3 t) {o : Om} : (q (k + 2)).fn "check_things" [mkP (.int t)] o = .ok .none o := by
  apply okx.eq
  rw [qcheck_things]
  refine p_run rfl rfl (by decide) ?_
  have hv : V 1 (.int t) := by
    show -(2 ^ 100) < (t : Int) ∧ (t : Int) < 2 ^ 100
    rcases h with rfl | rfl | rfl <;> omega
  have e : csP D "MOST_THINGS" = some (.int 3) := by kernel_rfl
  simp [dcheck_things, whole_ok hv, isWh, e]
  rcases h with rfl | rfl | rfl <;> simp
theorem lotsin_ok {k t : Nat} (h : T3 t) {o : Om} : (q (k + 3)).fn "lots_in" [mkP (.int t)] o = .ok (.list (lotsD t)) o := by
  apply okx.eq
  rw [qlots_in]
  refine p_run rfl rfl (by decide) ?_
  simp [dlots_in, check_ok h, lots_ok h]
/-- worths of one -/
def is01 : TQ.D → Bool
  | .tuple [.int a, .int b] => decide (a = 0 ∧ b = 1)
  | _ => false
def isRow (t : Nat) : TQ.D → Bool
  | .list (x :: xs) => decide ((xs.length : Int) + 1 = 2 ^ t) && (isA x && xs.all isA) && is01 x
  | _ => false
theorem isRow_cons {t : Nat} {x : TQ.D} {xs : List TQ.D} : isRow t (.list (x :: xs)) = (decide ((xs.length : Int) + 1 = 2 ^ t) && (isA x && xs.all isA) && is01 x) := rfl
theorem isRow_nil {t : Nat} : isRow t (.list []) = false := rfl
theorem eq_01 {x : TQ.D} (h : isA x = true) : cmpD .eq x (.tuple [.int 0, .int 1]) = some (is01 x) := by
  unfold isA at h
  split at h
  · rw [eq_t2]; rfl
  · cases h
theorem ne_01 {x : TQ.D} (h : isA x = true) : cmpD .ne x (.tuple [.int 0, .int 1]) = some (!is01 x) := by
  have : cmpD .ne x (.tuple [.int 0, .int 1]) = (cmpD .eq x (.tuple [.int 0, .int 1])).map not := rfl
  rw [this, eq_01 h]; rfl
theorem worthby_ok {k n t : Nat} {d : TQ.D} (ht : T3 t) (h : V (n + 1) d) {o : Om} : (q (k + 5)).fn "is_worth_by" [mkP (.int t), mkP d] o = .ok (.bool (isRow t d)) o := by
  apply okx.eq
  rw [qis_worth_by]
  have hz : dis_worth_by.pars ≤ dis_worth_by.size := by decide
  with_reducible refine p_run (d := dis_worth_by) rfl rfl hz ?_
  simp [dis_worth_by, lots_ok ht, amounts_ok h, lots_len ht]
  have hp : (0 : Int) < 2 ^ t := Int.pow_pos (by omega)
  have l2 : lineOk 2 = true := rfl
  cases d <;> simp <;> try rfl
  rename_i xs
  cases xs with
  | nil => simp [isRow_nil]; omega
  | cons x xs =>
    simp [isRow_cons, l2]
    generalize (2 : Int) ^ t = z at *
    by_cases hl : (xs.length : Int) + 1 = z
    · simp [hl]
      cases hx : isA x with
      | false => simp
      | true =>
        simp [eq_01 hx]
        by_cases hy : ∀ x ∈ xs, isA x = true
        · cases h1 : is01 x <;> simp [hy] <;> exact .inr hy
        · have hy2 : ∃ a, a ∈ xs ∧ isA a = false := by
            simpa using hy
          exact .inl ⟨hy2, fun z => (hy z).elim⟩
    · simp [hl]
/-- worths -/
def areW (t : Nat) : TQ.D → Bool
  | .list xs => decide (1 ≤ (xs.length : Int)) && decide ((xs.length : Int) ≤ 3) && xs.all (isRow t)
  | _ => false
theorem bools_map {f : TQ.D → Bool} (ys : List TQ.D) : boolsD (ys.map fun x => PyData.bool (f x)) = some (ys.map f) := by
  induction ys with
  | nil => rfl
  | cons y ys ih => simp [boolsD, ih]
/-- what is looked at as worths: a list of data, or no list -/
def W : TQ.D → Prop
  | .list xs => (∀ x ∈ xs, V 40 x) ∧ xs.length ≤ 1000
  | d => ∃ t, typD d = some t
theorem W.typ {d : TQ.D} (h : W d) : ∃ t, typD d = some t := by
  cases d <;> first | exact h | exact ⟨_, rfl⟩
theorem worthsby_ok {k t : Nat} {d : TQ.D} (ht : T3 t) (h : W d) {o : Om} : (q (k + 6)).fn "are_worths_by" [mkP (.int t), mkP d] o = .ok (.bool (areW t d)) o := by
  apply okx.eq
  rw [qare_worths_by]
  have hz : dare_worths_by.pars ≤ dare_worths_by.size := by decide
  with_reducible refine p_run (d := dare_worths_by) rfl rfl hz ?_
  obtain ⟨u, hu⟩ := h.typ
  have e : csP D "MOST_TAKERS" = some (.int 3) := by kernel_rfl
  simp [dare_worths_by, isi_lst hu, e]
  cases d <;> simp [kLst] <;> try rfl
  rename_i xs
  simp [areW, srcD, seqD]
  rw [comp_fm (h := fun x => some (PyData.bool (isRow t x))) (fun x hx o => okx.eq (by simp [worthby_ok ht (h.1 x hx)]))]
  simp [bools_map, line_le (show xs.length ≤ 10000 from Nat.le_trans h.2 (by omega))]
  by_cases h1 : 1 ≤ (xs.length : Int)
  · by_cases h3 : (xs.length : Int) ≤ 3
    · simp [h1, h3]
    · exact .inr ⟨h1, .inl ⟨by omega, fun _ z => (h3 z).elim⟩⟩
  · exact .inl ⟨by omega, fun z => (h1 z).elim⟩
theorem worths_ok {k t : Nat} {d : TQ.D} (ht : T3 t) (h : W d) {o : Om} : (q (k + 7)).fn "are_worths" [mkP (.int t), mkP d] o = .ok (.bool (areW t d)) o := by
  apply okx.eq
  rw [qare_worths]
  have hz : dare_worths.pars ≤ dare_worths.size := by decide
  with_reducible refine p_run (d := dare_worths) rfl rfl hz ?_
  simp [dare_worths, check_ok ht, worthsby_ok ht h]
def rowB : List Sm := [(.ife (.or (.nt (.isi (.var 3) ["list"])) (.or (.cmp .ne (.bif "len" [(.var 3)]) (.bif "len" [(.var 2)])) (.or (.cmp .ne (.lc (.nm 4) .seq [(.var 3)] [(.or (.nt (.call "_law_is_fraction" [(.var 4)])) (.cmp .lt (.ix (.var 4) (.cst (.int 0))) (.cst (.int 0))))] (.var 4)) (.lst [])) (.cmp .ne (.ix (.var 3) (.cst (.int 0))) (.tup [(.cst (.int 0)), (.cst (.int 1))]))))) [(.ret (.cst (.bl false)))] [])]
theorem odd_ok {k n : Nat} {x : TQ.D} {τ : TQ.Env} {o : Om} (h : V n x) (hτ : (wipeE [4] τ)[4]? = some none) : stepP (q (k + 2)) τ (.nm 4) [(.or (.nt (.call "_law_is_fraction" [(.var 4)])) (.cmp .lt (.ix (.var 4) (.cst (.int 0))) (.cst (.int 0))))] (.var 4) x o = .ok (if isA x = true then none else some x) o := by
  apply okx.eq
  have hl : 4 < (wipeE [4] τ).length := (List.getElem?_eq_some_iff.mp hτ).1
  rw [step1]
  simp only [slots_nm]
  generalize wipeE [4] τ = σ at *
  refine ⟨σ.set 4 (some (mkP x)), by simp [hl], ?_⟩
  have e : ((σ.set 4 (some (mkP x)))[4]?).getD none = some (mkP x) := by rw [List.getElem?_set_self hl]; rfl
  simp [e, lfrac_ok h]
  cases hf : isF x with
  | false => simp [isA_eq hf]
  | true =>
    obtain ⟨a, c, rfl⟩ := isF_form hf
    simp [isA, hf]
    by_cases h0 : 0 ≤ a
    · simp [h0]
    · simp [h0]; omega
theorem ne_nil {ys : List TQ.D} (h : dOk (.list ys) = true) : cmpD .ne (.list ys) (.list []) = some (!ys.isEmpty) := by
  have : cmpD .ne (.list ys) (.list []) = (if dOk (.list ys) && dOk (.list []) then some (PyData.eqv (.list ys) (.list [])) else none).map not := rfl
  have e : dOk (.list []) = true := rfl
  rw [this, h, e]
  cases ys <;> simp [PyData.eqv, PyData.eqvAll]
theorem odd_nil : ∀ (xs : List TQ.D), (xs.filterMap fun x => if isA x = true then none else some x).isEmpty = xs.all isA
  | [] => rfl
  | x :: xs => by
    have := odd_nil xs
    cases hx : isA x <;> simp [hx] at this ⊢
    exact this
theorem odd_V {n : Nat} {xs : List TQ.D} (h : V (n + 1) (.list xs)) : V (n + 1) (.list (xs.filterMap fun x => if isA x = true then none else some x)) := by
  refine ⟨fun x hx => ?_, Nat.le_trans (List.length_filterMap_le _ _) h.2⟩
  rw [List.mem_filterMap] at hx
  obtain ⟨y, hy, e⟩ := hx
  split at e
  · cases e
  · cases e; exact h.1 _ hy
theorem row_ok {k t : Nat} (ht : T3 t) {x : TQ.D} {u v : TQ.D} (h : V 40 x) {o : Om} : okx (pxSs (q (k + 2)) rowB [some (mkP u), some (mkP v), some (mkP (.list (lotsD t))), some (mkP x), none] o) (fun p o' => o' = o ∧ if isRow t x = true then p = (.nx, [some (mkP u), some (mkP v), some (mkP (.list (lotsD t))), some (mkP x), none]) else p = (.rt (.bool false), [some (mkP u), some (mkP v), some (mkP (.list (lotsD t))), some (mkP x), none])) Xf := by
  obtain ⟨t', ht'⟩ := h.typ
  simp [rowB, isi_lst ht', lots_len ht]
  cases x <;> simp [kLst] <;> try rfl
  rename_i xs
  simp [srcD, seqD]
  rw [comp_fm (h := fun x => if isA x = true then none else some x) (fun x hx o => odd_ok (h.1 x hx) rfl)]
  have l0 : lineOk 0 = true := rfl
  have l2 : lineOk 2 = true := rfl
  have hp : (0 : Int) < 2 ^ t := Int.pow_pos (by omega)
  have hv := odd_V h
  have hd := hv.ok (by omega)
  have hn := odd_nil xs
  have hl := line_le (Nat.le_trans hv.2 (show 1000 ≤ 10000 by omega))
  generalize (xs.filterMap fun x => if isA x = true then none else some x) = ys at *
  simp [l0, l2, ne_nil hd, hl, hn]
  cases xs with
  | nil => simp [isRow_nil]; omega
  | cons x xs =>
    simp [isRow_cons]
    generalize (2 : Int) ^ t = z at *
    by_cases hz : (xs.length : Int) + 1 = z
    · simp [hz]
      cases hx : isA x with
      | false => simp
      | true =>
        simp [ne_01 hx]
        by_cases hy : ∀ x ∈ xs, isA x = true
        · cases h1 : is01 x <;> simp [hy] <;> exact .inl hy
        · have hy2 : ∃ a, a ∈ xs ∧ isA a = false := by
            simpa using hy
          exact .inr ⟨hy2, fun z => (hy z).elim⟩
    · simp [hz]
theorem rows_ok {k t : Nat} (ht : T3 t) {u v : TQ.D} {o : Om} : ∀ (xs : List TQ.D) (w : Option Pv), (∀ x ∈ xs, V 40 x) →
    okx (loopP (.nm 3) (pxSs (q (k + 2)) rowB) xs [some (mkP u), some (mkP v), some (mkP (.list (lotsD t))), w, none] o) (fun p o' => o' = o ∧ if xs.all (isRow t) = true then ∃ w', p = (.nx, [some (mkP u), some (mkP v), some (mkP (.list (lotsD t))), w', none]) else ∃ τ, p = (.rt (.bool false), τ)) Xf
  | [], w, _ => by simp [loopP]
  | x :: xs, w, h => by
    simp only [loopP, x_bind, x_pO]
    refine ⟨[some (mkP u), some (mkP v), some (mkP (.list (lotsD t))), some (mkP x), none], by simp, ?_⟩
    refine (row_ok ht (u := u) (v := v) (h x (by simp))).monoQ fun p o1 hp => ?_
    obtain ⟨rfl, hp⟩ := hp
    cases hr : isRow t x with
    | true =>
      rw [hr, if_pos rfl] at hp
      subst hp
      refine (rows_ok ht xs (some (mkP x)) (fun y hy => h y (List.mem_cons_of_mem _ hy))).monoQ fun p o2 hp => ?_
      simpa [hr] using hp
    | false =>
      rw [hr] at hp
      simp only [Bool.false_eq_true, if_false] at hp
      subst hp
      simp [hr]
theorem lworths_ok {k t : Nat} {d : TQ.D} (ht : T3 t) (h : W d) {o : Om} : (q (k + 3)).fn "_law_are_worths" [mkP (.int t), mkP d] o = .ok (.bool (areW t d)) o := by
  apply okx.eq
  rw [q_law_are_worths]
  have hz : d_law_are_worths.pars ≤ d_law_are_worths.size := by decide
  with_reducible refine p_run (d := d_law_are_worths) rfl rfl hz ?_
  obtain ⟨u, hu⟩ := h.typ
  have eb : d_law_are_worths.body = [(.ife (.or (.nt (.isi (.var 1) ["list"])) (.nt (.chn .le .le (.cst (.int 1)) (.bif "len" [(.var 1)]) (.cst (.int 3))))) [(.ret (.cst (.bl false)))] []), (.asg (.nm 2) (.call "_law_things_lots" [(.var 0)])), (.fr (.nm 3) .seq [(.var 1)] rowB), (.ret (.cst (.bl true)))] := rfl
  have ep : d_law_are_worths.size - d_law_are_worths.pars = 3 := rfl
  rw [eb, ep]
  simp [isi_lst hu]
  cases d <;> simp [kLst] <;> try rfl
  rename_i xs
  simp [areW, srcD, seqD, llots_ok ht]
  by_cases h1 : 1 ≤ (xs.length : Int)
  · by_cases h3 : (xs.length : Int) ≤ 3
    · refine .inr ⟨h1, .inr ⟨h3, ?_⟩⟩
      refine (rows_ok ht (u := .int t) (v := .list xs) xs none h.1).monoQ fun p o1 hp => ?_
      obtain ⟨rfl, hp⟩ := hp
      by_cases hr : xs.all (isRow t) = true
      · rw [if_pos hr] at hp
        obtain ⟨w', rfl⟩ := hp
        simp at hr
        simp [h1, h3]
        exact hr
      · rw [if_neg hr] at hp
        obtain ⟨τ, rfl⟩ := hp
        simp at hr
        simp [h1, h3]
        exact hr
    · exact .inr ⟨h1, .inl ⟨by omega, fun _ z => (h3 z).elim⟩⟩
  · exact .inl ⟨by omega, fun z => (h1 z).elim⟩
end K59
namespace K59
open PySem L2 TQ
/-! draws -/
theorem rand_ok {k : Nat} {l : Int} {o : Om} (h1 : 1 ≤ l) (h2 : l < 2 ^ 200) (h3 : 0 < o.n) : okx ((q (k + 2)).fn "_law_random" [.gen, mkP (.int l)] o) (fun d o' => o'.n + 1 = o.n ∧ ∃ r : Int, d = .int r ∧ 0 ≤ r ∧ r < l) Xf := by
  rw [QL_draw, x_draw]
  refine ⟨⟨h1, h2, by omega⟩, by show o.n - 1 + 1 = o.n; omega, _, rfl, Int.emod_nonneg _ (by omega), Int.emod_lt_of_pos _ (by omega)⟩
theorem betw_ok {k : Nat} {a c : Int} {o : Om} (h1 : a ≤ c) (h2 : c - a + 1 < 2 ^ 200) (h3 : 0 < o.n) : okx ((q (k + 3)).fn "_law_between" [.gen, mkP (.int a), mkP (.int c)] o) (fun d o' => o'.n + 1 = o.n ∧ ∃ r : Int, d = .int r ∧ a ≤ r ∧ r ≤ c) Xf := by
  rw [q_law_between]
  have hz : d_law_between.pars ≤ d_law_between.size := by decide
  with_reducible refine p_run (d := d_law_between) rfl rfl hz ?_
  simp [d_law_between]
  refine (rand_ok (by omega) h2 h3).monoQ fun d o1 hd => ?_
  obtain ⟨e, r, rfl, r1, r2⟩ := hd
  simp
  omega
theorem pick_ok {k : Nat} {xs : List TQ.D} {o : Om} (h1 : 0 < xs.length) (h2 : xs.length ≤ 10000) (h3 : 0 < o.n) : okx ((q (k + 3)).fn "_law_pick" [.gen, mkP (.list xs)] o) (fun d o' => o'.n + 1 = o.n ∧ d ∈ xs) Xf := by
  rw [q_law_pick]
  have hz : d_law_pick.pars ≤ d_law_pick.size := by decide
  with_reducible refine p_run (d := d_law_pick) rfl rfl hz ?_
  simp [d_law_pick]
  refine (rand_ok (by omega) (by omega) h3).monoQ fun d o1 hd => ?_
  obtain ⟨e, r, rfl, r1, r2⟩ := hd
  have : L2.atI xs r = some (xs[r.toNat]'(by omega)) := by
    unfold L2.atI L2.ixN
    rw [if_pos r1, if_pos r2]
    simp
  simp [this, e]
/-- a fraction of small numbers -/
def Fr2 (x : TQ.D) : Prop := ∃ a b : Int, x = .tuple [.int a, .int b] ∧ 0 ≤ a ∧ a < 2 ^ 90 ∧ 0 ≤ b ∧ b < 2 ^ 90
/-- a row of such -/
def RowV (t : Nat) (d : TQ.D) : Prop := ∃ xs, d = .list xs ∧ xs.length = 2 ^ t ∧ ∀ x ∈ xs, Fr2 x
def Lot (t : Nat) (x : TQ.D) : Prop := ∃ js : List Nat, x = .list (js.map fun j => .int (j : Nat)) ∧ (∀ j ∈ js, j < t) ∧ js.length ≤ 3
theorem lots_lot {t : Nat} (h : T3 t) : ∀ x ∈ lotsD t, Lot t x := by
  have e : ∀ (x : TQ.D) (js : List Nat), x = .list (js.map fun j => .int (j : Nat)) → (∀ j ∈ js, j < t) → js.length ≤ 3 → Lot t x := fun x js a b c => ⟨js, a, b, c⟩
  rcases h with rfl | rfl | rfl <;> simp only [lotsD, List.mem_cons, List.not_mem_nil, or_false] <;> rintro x hx
  · rcases hx with rfl | rfl
    · exact e _ [] rfl (by simp) (by simp)
    · exact e _ [0] rfl (by simp) (by simp)
  · rcases hx with rfl | rfl | rfl | rfl
    · exact e _ [] rfl (by simp) (by simp)
    · exact e _ [0] rfl (by simp) (by simp)
    · exact e _ [1] rfl (by simp) (by simp)
    · exact e _ [0, 1] rfl (by simp) (by simp)
  · rcases hx with rfl | rfl | rfl | rfl | rfl | rfl | rfl | rfl
    · exact e _ [] rfl (by simp) (by simp)
    · exact e _ [0] rfl (by simp) (by simp)
    · exact e _ [1] rfl (by simp) (by simp)
    · exact e _ [2] rfl (by simp) (by simp)
    · exact e _ [0, 1] rfl (by simp) (by simp)
    · exact e _ [0, 2] rfl (by simp) (by simp)
    · exact e _ [1, 2] rfl (by simp) (by simp)
    · exact e _ [0, 1, 2] rfl (by simp) (by simp)
/-- worths of single things -/
def Sg (t : Nat) (s : List TQ.D) : Prop := s.length = t ∧ ∀ x ∈ s, ∃ i : Int, x = .int i ∧ 0 ≤ i ∧ i ≤ 6
theorem atI_nat {α : Type} {xs : List α} {j : Nat} (h : j < xs.length) : L2.atI xs (j : Int) = some xs[j] := by
  unfold L2.atI L2.ixN
  rw [if_pos (by omega), if_pos (by omega)]
  simp [h]
theorem low2_ok {k : Nat} {a b : Int} {o : Om} (ha : 0 ≤ a ∧ a < 2 ^ 90) (hb : 0 < b ∧ b < 2 ^ 90) : okx ((q (k + 1)).fn "_law_lowest" [mkP (.int a), mkP (.int b)] o) (fun d o' => o' = o ∧ Fr2 d) Xf := by
  rw [low_ok ⟨by omega, by omega⟩ ⟨hb.1, by omega⟩]
  have hg : 0 < Nat.gcd b.natAbs a.natAbs := Nat.gcd_pos_of_pos_left _ (by omega)
  generalize Nat.gcd b.natAbs a.natAbs = g at *
  have h1 : a / (g : Int) ≤ a := Int.ediv_le_self _ ha.1
  have h2 : b / (g : Int) ≤ b := Int.ediv_le_self _ (by omega)
  have h3 : 0 ≤ a / (g : Int) := Int.ediv_nonneg ha.1 (by omega)
  have h4 : 0 ≤ b / (g : Int) := Int.ediv_nonneg (by omega) (by omega)
  exact ⟨rfl, _, _, rfl, h3, by omega, h4, by omega⟩
/-- the worths of the things of a lot -/
theorem inner_ok {k t : Nat} {s : List TQ.D} (hs : Sg t s) {τ : TQ.Env} {f : Fg} (h2 : (τ[2]?).getD none = some (.d (.list s) f)) (h7 : 7 < τ.length) {js : List Nat} (hj : ∀ j ∈ js, j < t) {o : Om} : okx (compP (stepP (q k) τ (.nm 7) [] (.ix (.var 2) (.var 7))) (js.map fun j => PyData.int (j : Nat)) o) (fun ys o' => o' = o ∧ ys.length = js.length ∧ ∃ is : List Int, intsD ys = some is ∧ is.length = js.length ∧ ∀ i ∈ is, 0 ≤ i ∧ i ≤ 6) Xf := by
  induction js generalizing o with
  | nil => simp [intsD]
  | cons j js ih =>
    simp only [List.map_cons, c_cons, step0]
    refine ⟨τ.set 7 (some (mkP (.int j))), by simp [wipeE, h7], ?_⟩
    have e2 : ((τ.set 7 (some (mkP (.int j))))[2]?).getD none = some (.d (.list s) f) := by
      rw [List.getElem?_set_ne (by omega)]; exact h2
    have e7 : ((τ.set 7 (some (mkP (.int j))))[7]?).getD none = some (mkP (.int j)) := by
      rw [List.getElem?_set_self h7]; rfl
    have hjt : j < s.length := by rw [hs.1]; exact hj j (by simp)
    obtain ⟨i, ei, i1, i2⟩ := hs.2 s[j] (List.getElem_mem hjt)
    simp only [p_ix, p_var, e2, e7, Option.some.injEq, exists_eq_left', lk_d, lk_mkP]
    refine ⟨_, _, _, rfl, rfl, (atI_nat hjt).trans (by rw [ei]), ?_⟩
    refine ⟨_, nb_mkP, ?_⟩
    refine (ih fun x hx => hj x (List.mem_cons_of_mem _ hx)).monoQ fun ys o1 hy => ?_
    obtain ⟨rfl, hl, is, e, hl2, hi⟩ := hy
    refine ⟨rfl, by simp [consO, hl], i :: is, by simp [consO, intsD, e], by simp [hl2], fun x hx => ?_⟩
    rcases List.mem_cons.mp hx with rfl | hx
    · exact ⟨i1, i2⟩
    · exact hi x hx
theorem sum_b : ∀ {is : List Int}, (∀ i ∈ is, 0 ≤ i ∧ i ≤ 6) → 0 ≤ is.sum ∧ is.sum ≤ 6 * is.length
  | [], _ => by simp
  | i :: is, h => by
    have a := h i (by simp)
    have b := sum_b fun x hx => h x (List.mem_cons_of_mem _ hx)
    simp only [List.sum_cons, List.length_cons]
    omega
theorem gtL_b : ∀ {is : List Int} {i : Int}, (∀ j ∈ is, 0 ≤ j ∧ j ≤ 6) → 0 ≤ i ∧ i ≤ 6 → 0 ≤ gtL is i ∧ gtL is i ≤ 6
  | [], i, _, h => h
  | j :: is, i, h, hi => by
    have a := h j (by simp)
    have e : gtL (j :: is) i = gtL is (if j > i then j else i) := rfl
    rw [e]
    refine gtL_b (fun x hx => h x (List.mem_cons_of_mem _ hx)) ?_
    split <;> omega
theorem ints_app : ∀ {xs ys : List TQ.D} {is js : List Int}, intsD xs = some is → intsD ys = some js → intsD (xs ++ ys) = some (is ++ js)
  | [], ys, is, js, h, k => by cases h; exact k
  | x :: xs, ys, is, js, h, k => by
    unfold intsD at h
    split at h
    · rename_i e; cases e
    · rename_i e; cases e
      rw [Option.map_eq_some_iff] at h
      obtain ⟨is', h, rfl⟩ := h
      simp only [List.cons_append, intsD, ints_app h k, Option.map_some]
    · cases h
theorem comp_draw {f : TQ.D → PM (Option TQ.D)} {c : Nat} {Φ : TQ.D → Prop} : ∀ {xs : List TQ.D} {o : Om}, c * xs.length ≤ o.n → (∀ x ∈ xs, ∀ o : Om, c ≤ o.n → okx (f x o) (fun r o' => o.n ≤ o'.n + c ∧ ∃ y, r = some y ∧ Φ y) Xf) → okx (compP f xs o) (fun ys o' => o.n ≤ o'.n + c * xs.length ∧ ys.length = xs.length ∧ ∀ y ∈ ys, Φ y) Xf
  | [], o, _, _ => by simp
  | x :: xs, o, h, st => by
    have e : c * (x :: xs).length = c + c * xs.length := by simp only [List.length_cons, Nat.mul_add]; omega
    rw [e] at h
    rw [c_cons]
    refine (st x (by simp) o (by omega)).monoQ fun r o1 hr => ?_
    obtain ⟨h1, y, rfl, hy⟩ := hr
    refine (comp_draw (by omega) fun z hz => st z (List.mem_cons_of_mem _ hz)).monoQ fun ys o2 h2 => ?_
    rw [e]
    refine ⟨by omega, by simp [consO, h2.2.1], fun z hz => ?_⟩
    rcases List.mem_cons.mp hz with rfl | hz
    · exact hy
    · exact h2.2.2 z hz
/-- the same where nothing is drawn -/
theorem comp_each {f : TQ.D → PM (Option TQ.D)} {Φ : TQ.D → Prop} {xs : List TQ.D} {o : Om} (st : ∀ x ∈ xs, ∀ o : Om, okx (f x o) (fun r o' => o' = o ∧ ∃ y, r = some y ∧ Φ y) Xf) : okx (compP f xs o) (fun ys o' => o' = o ∧ ys.length = xs.length ∧ ∀ y ∈ ys, Φ y) Xf := by
  induction xs with
  | nil => simp
  | cons x xs ih =>
    rw [c_cons]
    refine (st x (by simp) o).monoQ fun r o1 hr => ?_
    obtain ⟨rfl, y, rfl, hy⟩ := hr
    refine (ih fun z hz => st z (List.mem_cons_of_mem _ hz)).monoQ fun ys o2 h2 => ?_
    refine ⟨h2.1, by simp [consO, h2.2.1], fun z hz => ?_⟩
    rcases List.mem_cons.mp hz with rfl | hz
    · exact hy
    · exact h2.2.2 z hz
theorem singles_ok {k : Nat} {τ : TQ.Env} (h0 : (τ[0]?).getD none = some .gen) (h7 : 7 < τ.length) {n : Nat} {o : Om} (hn : n ≤ o.n) : okx (compP (stepP (q (k + 4)) τ (.nm 7) [] (.call "_law_between" [.var 0, .cst (.int 0), .cst (.int 6)])) ((List.range n).map fun (i : Nat) => PyData.int (i : Int)) o) (fun ys o' => o.n ≤ o'.n + n ∧ Sg n ys) Xf := by
  refine (comp_draw (c := 1) (Φ := fun x => ∃ i : Int, x = .int i ∧ 0 ≤ i ∧ i ≤ 6) (by simpa using hn) fun x hx o ho => ?_).monoQ fun ys o1 h => ?_
  · rw [step0]
    refine ⟨τ.set 7 (some (mkP x)), by simp [wipeE, h7], ?_⟩
    have e0 : ((τ.set 7 (some (mkP x)))[0]?).getD none = some .gen := by
      rw [List.getElem?_set_ne (by omega)]; exact h0
    simp [h0]
    refine (betw_ok (o := o) (a := 0) (c := 6) (by omega) (by omega) (by omega)).monoQ fun d o2 hd => ?_
    obtain ⟨e, r, rfl, r1, r2⟩ := hd
    exact ⟨by omega, r, rfl, r1, r2⟩
  · simp only [List.length_map, List.length_range, Nat.one_mul] at h
    exact ⟨h.1, h.2.1, h.2.2⟩
theorem worthlist_ok {k t : Nat} (ht : T3 t) {o : Om} (hn : 20 ≤ o.n) : okx ((q (k + 5)).fn "_law_worth_list" [.gen, mkP (.int t)] o) (fun d o' => o.n ≤ o'.n + 20 ∧ RowV t d) Xf := by
  rw [q_law_worth_list]
  have hz : d_law_worth_list.pars ≤ d_law_worth_list.size := by decide
  with_reducible refine p_run (d := d_law_worth_list) rfl rfl hz ?_
  have t3 : t ≤ 3 := by rcases ht with rfl | rfl | rfl <;> omega
  have i62 : in62 (t : Int) = true := by
    unfold in62; simp only [decide_eq_true_eq]; omega
  have l1 : lineOk 1 = true := rfl
  have l2 : lineOk 2 = true := rfl
  have l5 : lineOk 5 = true := rfl
  simp [d_law_worth_list, llots_ok ht, srcD, i62, l1, l2, l5]
  refine (rand_ok (by omega) (by omega) (by omega)).monoQ fun d o1 hd => ?_
  obtain ⟨e1, w, rfl, w1, w2⟩ := hd
  refine (singles_ok (τ := [some Pv.gen, some (mkP (.int t)), none, none, some (mkP (.int w)), some (mkP (.list (lotsD t))), none, none, none, none]) rfl (by simp) (by omega)).monoQ fun s o2 hs => ?_
  obtain ⟨e2, hs⟩ := hs
  refine ⟨line_le (by rw [hs.1]; omega), ?_⟩
  refine (pick_ok (by simp) (by simp) (by omega)).monoQ fun d o3 hd => ?_
  obtain ⟨e3, hd⟩ := hd
  have hd : ∃ u : Int, d = .int u ∧ 1 ≤ u ∧ u ≤ 3 := by
    simp at hd
    rcases hd with rfl | rfl | rfl
    · exact ⟨1, rfl, by omega, by omega⟩
    · exact ⟨2, rfl, by omega, by omega⟩
    · exact ⟨3, rfl, by omega, by omega⟩
  obtain ⟨u, rfl, u1, u2⟩ := hd
  have hlots := lots_lot ht
  have hlen := lots_len ht
  have p0 : 0 < 2 ^ t := Nat.two_pow_pos t
  have p8 : 2 ^ t ≤ 8 := by rcases ht with rfl | rfl | rfl <;> decide
  have fin : ∀ {ys : List TQ.D} {o4 : Om}, o4 = o3 ∧ ys.length = (lotsD t).length ∧ (∀ y ∈ ys, Fr2 y) → lineOk ys.length = true ∧ o.n ≤ o4.n + 20 ∧ RowV t (PyData.list ys) := by
    rintro ys o4 ⟨rfl, h1, h2⟩
    exact ⟨line_le (by omega), by omega, ys, rfl, by omega, h2⟩
  simp [seqD]
  by_cases c0 : w = 0
  · simp [c0]
    have hsl : slD (.list (lotsD t)) (some 1) none = some (.list ((lotsD t).drop 1)) := by rcases ht with rfl | rfl | rfl <;> kernel_rfl
    refine ⟨_, hsl, _, rfl, ?_⟩
    refine (comp_draw (c := 1) (Φ := Fr2) (by simp; omega) fun x hx o ho => ?_).monoQ fun ys o4 h => ?_
    · simp
      refine (betw_ok (a := 0) (c := 9) (o := o) (by omega) (by omega) (by omega)).monoQ fun d o5 hd => ?_
      obtain ⟨e5, r, rfl, r1, r2⟩ := hd
      refine (low2_ok ⟨r1, by omega⟩ ⟨by omega, by omega⟩).monoQ fun d o6 hd => ?_
      obtain ⟨rfl, hd⟩ := hd
      exact ⟨by omega, hd⟩
    · obtain ⟨h1, h2, h3⟩ := h
      simp at h1 h2
      refine ⟨line_le (by omega), _, ⟨line_le (by omega), rfl⟩, _, ⟨_, rfl, rfl⟩, _, rfl, ?_⟩
      refine ⟨_, rfl, by omega, _, rfl, by simp; omega, fun x hx => ?_⟩
      rcases List.mem_cons.mp hx with rfl | hx
      · exact ⟨0, 1, rfl, by omega, by omega, by omega, by omega⟩
      · exact h3 x hx
  · simp [c0]
    by_cases c1 : w = 1
    · simp [c1]
      refine (comp_each (Φ := Fr2) fun x hx o => ?_).monoQ fun ys o4 h => fin h
      obtain ⟨js, rfl, j1, j2⟩ := hlots x hx
      simp [srcD, seqD]
      refine (inner_ok hs (τ := [some Pv.gen, some (mkP (.int t)), some (Pv.d (.list s) Fg.ow), some (mkP (.int u)), some (mkP (.int 1)), some (mkP (.list (lotsD t))), none, none, none, some (mkP (.list (js.map fun j => .int (j : Nat))))]) rfl (by simp) j1).monoQ fun ys o4 h => ?_
      obtain ⟨rfl, h1, is, h2, h3, h4⟩ := h
      have hb := sum_b h4
      refine ⟨line_le (by omega), ?_⟩
      simp [h2]
      refine (low2_ok ⟨hb.1, by omega⟩ ⟨by omega, by omega⟩).monoQ fun d o5 hd => hd
    · simp [c1]
      by_cases c2 : w = 2
      · simp [c2]
        refine (comp_each (Φ := Fr2) fun x hx o => ?_).monoQ fun ys o4 h => fin h
        obtain ⟨js, rfl, j1, j2⟩ := hlots x hx
        simp [srcD, seqD]
        refine (inner_ok hs (τ := [some Pv.gen, some (mkP (.int t)), some (Pv.d (.list s) Fg.ow), some (mkP (.int u)), some (mkP (.int 2)), some (mkP (.list (lotsD t))), none, none, none, some (mkP (.list (js.map fun j => .int (j : Nat))))]) rfl (by simp) j1).monoQ fun ys o4 h => ?_
        obtain ⟨rfl, h1, is, h2, h3, h4⟩ := h
        have hi := ints_app h2 (show intsD [PyData.int 0] = some [0] from rfl)
        refine ⟨line_le (by omega), ?_⟩
        have l3 : lineOk (ys.length + 1) = true := line_le (by omega)
        have hm : ∃ z : Int, (match some (is ++ [0]) with | some (i :: is) => some (PyData.int (gtL is i)) | _ => none) = some (.int z) ∧ 0 ≤ z ∧ z ≤ 6 := by
          cases is with
          | nil => exact ⟨0, rfl, by omega, by omega⟩
          | cons i is =>
            have hz := gtL_b (is := is ++ [0]) (i := i) (fun j hj => by
              rcases List.mem_append.mp hj with hj | hj
              · exact h4 j (by simp [hj])
              · simp at hj; subst hj; omega) (h4 i (by simp))
            exact ⟨_, rfl, hz⟩
        obtain ⟨z, ez, z1, z2⟩ := hm
        simp [l1, l3, maxD, hi]
        refine ⟨_, ez, ?_⟩
        refine (low2_ok ⟨z1, by omega⟩ ⟨by omega, by omega⟩).monoQ fun d o5 hd => hd
      · simp [c2]
        refine (betw_ok (a := 0) (c := 5) (o := o3) (by omega) (by omega) (by omega)).monoQ fun d o4 hd => ?_
        obtain ⟨e4, ex, rfl, x1, x2⟩ := hd
        refine (comp_each (Φ := Fr2) fun x hx o => ?_).monoQ fun ys o5 h => ⟨line_le (by omega), by have := h.1; subst this; omega, ys, rfl, by omega, h.2.2⟩
        obtain ⟨js, rfl, j1, j2⟩ := hlots x hx
        simp [srcD, seqD]
        refine (inner_ok hs (τ := [some Pv.gen, some (mkP (.int t)), some (Pv.d (.list s) Fg.ow), some (mkP (.int u)), some (mkP (.int w)), some (mkP (.list (lotsD t))), none, none, some (mkP (.int ex)), some (mkP (.list (js.map fun j => .int (j : Nat))))]) rfl (by simp) j1).monoQ fun ys o6 h => ?_
        obtain ⟨rfl, h1, is, h2, h3, h4⟩ := h
        have hb := sum_b h4
        refine ⟨line_le (by omega), ?_⟩
        simp [h2]
        have hy : ∃ y : Int, (if (1 : Int) < (js.length : Int) then (js.length : Int) - 1 else 0) = y ∧ 0 ≤ y ∧ y ≤ 2 := by
          refine ⟨_, rfl, ?_⟩
          split <;> omega
        obtain ⟨y, ey, y1, y2⟩ := hy
        rw [ey]
        have m1 : 0 ≤ ex * y := Int.mul_nonneg x1 y1
        have m2 : ex * y ≤ 5 * 2 := Int.mul_le_mul x2 y2 y1 (by omega)
        refine ⟨_, ⟨mul_small (by omega) (by omega) (by omega) (by omega), rfl⟩, _, rfl, ?_⟩
        refine (low2_ok ⟨by omega, by omega⟩ ⟨by omega, by omega⟩).monoQ fun d o5 hd => hd
end K59
namespace K59
open PySem L2 TQ
/-- worths of one to three -/
def WV (t : Nat) (d : TQ.D) : Prop := ∃ rows, d = .list rows ∧ 1 ≤ rows.length ∧ rows.length ≤ 3 ∧ ∀ r ∈ rows, RowV t r
theorem worths_draw {k t : Nat} (ht : T3 t) {o : Om} (hn : 61 ≤ o.n) : okx ((q (k + 6)).fn "_law_worths" [.gen, mkP (.int t), mkP (.int 3)] o) (fun d o' => o.n ≤ o'.n + 61 ∧ WV t d) Xf := by
  rw [q_law_worths]
  have hz : d_law_worths.pars ≤ d_law_worths.size := by decide
  with_reducible refine p_run (d := d_law_worths) rfl rfl hz ?_
  simp [d_law_worths]
  refine (betw_ok (a := 1) (c := 3) (by omega) (by omega) (by omega)).monoQ fun d o1 hd => ?_
  obtain ⟨e1, m, rfl, m1, m2⟩ := hd
  have i62 : in62 m = true := by
    unfold in62; simp only [decide_eq_true_eq]; omega
  simp [srcD, i62]
  refine (comp_draw (c := 20) (Φ := RowV t) (by simp; omega) fun x hx o ho => ?_).monoQ fun ys o2 h => ?_
  · simp
    refine (worthlist_ok ht ho).monoQ fun d o3 hd => hd
  · simp at h
    obtain ⟨h1, h2, h3⟩ := h
    exact ⟨line_le (by omega), by omega, ys, rfl, by omega, by omega, h3⟩
theorem Fr2.v {x : TQ.D} {n : Nat} (h : Fr2 x) : V (n + 2) x := by
  obtain ⟨a, b, rfl, a1, a2, b1, b2⟩ := h
  refine ⟨fun y hy => ?_, by simp⟩
  simp at hy
  rcases hy with rfl | rfl
  · exact ⟨by omega, by omega⟩
  · exact ⟨by omega, by omega⟩
theorem RowV.v {t n : Nat} {x : TQ.D} (ht : T3 t) (h : RowV t x) : V (n + 3) x := by
  obtain ⟨xs, rfl, hl, hx⟩ := h
  have p8 : 2 ^ t ≤ 8 := by rcases ht with rfl | rfl | rfl <;> decide
  exact ⟨fun y hy => (hx y hy).v, by omega⟩
theorem sl_some {xs : List TQ.D} {lo hi : Option Int} (h : xs.length ≤ 1000) : slD (.list xs) lo hi = some (.list (cutL xs lo hi)) := by
  have hl : (cutL xs lo hi).length ≤ xs.length := by unfold cutL; simp [List.length_take, List.length_drop]; omega
  show (if lineOk (cutL xs lo hi).length then _ else _) = _
  rw [if_pos (line_le (by omega))]
theorem cut_mem {xs : List TQ.D} {lo hi : Option Int} {x : TQ.D} (h : x ∈ cutL xs lo hi) : x ∈ xs := List.mem_of_mem_drop (List.mem_of_mem_take h)
theorem cut_len {xs : List TQ.D} {lo hi : Option Int} : (cutL xs lo hi).length ≤ xs.length := by unfold cutL; simp [List.length_take, List.length_drop]; omega
theorem noworths_ok {k t : Nat} (ht : T3 t) {d : TQ.D} (h : WV t d) {o : Om} (hn : 4 ≤ o.n) : okx ((q (k + 6)).fn "_law_no_worths" [.gen, mkP d] o) (fun r o' => o.n ≤ o'.n + 4 ∧ W r) Xf := by
  rw [q_law_no_worths]
  have hz : d_law_no_worths.pars ≤ d_law_no_worths.size := by decide
  with_reducible refine p_run (d := d_law_no_worths) rfl rfl hz ?_
  obtain ⟨rows, rfl, r1, r3, hr⟩ := h
  have l1 : lineOk 1 = true := rfl
  have l2 : lineOk 2 = true := rfl
  have l5 : lineOk 5 = true := rfl
  have l0 : lineOk 0 = true := rfl
  have l8 : lineOk 8 = true := rfl
  simp [d_law_no_worths, l0, l1, l2, l5, l8]
  refine (rand_ok (by omega) (by omega) (by omega)).monoQ fun d o1 hd => ?_
  obtain ⟨e1, p, rfl, p1, p2⟩ := hd
  refine (rand_ok (by omega) (by omega) (by omega)).monoQ fun d o2 hd => ?_
  obtain ⟨e2, z, rfl, z1, z2⟩ := hd
  have hat : L2.atI rows z = some (rows[z.toNat]'(by omega)) := by
    have := atI_nat (xs := rows) (j := z.toNat) (by omega)
    rwa [Int.toNat_of_nonneg z1] at this
  obtain ⟨xs, ex, hl, hx⟩ := hr _ (List.getElem_mem (l := rows) (n := z.toNat) (by omega))
  rw [ex] at hat
  have p0 : 0 < 2 ^ t := Nat.two_pow_pos t
  have p8 : 2 ^ t ≤ 8 := by rcases ht with rfl | rfl | rfl <;> decide
  simp [hat]
  refine (rand_ok (by omega) (by omega) (by omega)).monoQ fun d o3 hd => ?_
  obtain ⟨e3, y, rfl, y1, y2⟩ := hd
  have s1 : ∀ lo hi, slD (.list xs) lo hi = some (.list (cutL xs lo hi)) := fun lo hi => sl_some (by omega)
  have s2 : ∀ lo hi, slD (.list rows) lo hi = some (.list (cutL rows lo hi)) := fun lo hi => sl_some (by omega)
  have g1 : lineOk xs.length = true := line_le (by omega)
  have g2 : lineOk (xs.length + 1) = true := line_le (by omega)
  have g3 : ∀ lo hi, lineOk (1 + (cutL xs lo hi).length) = true := fun lo hi => line_le (by have := cut_len (xs := xs) (lo := lo) (hi := hi); omega)
  have g4 : ∀ lo hi, lineOk ((cutL xs lo hi).length + 1) = true := fun lo hi => line_le (by have := cut_len (xs := xs) (lo := lo) (hi := hi); omega)
  have g5 : ∀ lo hi, lineOk ((cutL rows lo hi).length + 1) = true := fun lo hi => line_le (by have := cut_len (xs := rows) (lo := lo) (hi := hi); omega)
  have g6 : lineOk rows.length = true := line_le (by omega)
  have v11 : Fr2 (.tuple [.int 1, .int 1]) := ⟨1, 1, rfl, by omega, by omega, by omega, by omega⟩
  have rv : ∀ lo hi, ∀ v ∈ cutL rows lo hi, V 40 v := fun lo hi v hv => (hr v (cut_mem hv)).v ht
  have lv : ∀ ys : List TQ.D, (∀ v ∈ ys, V 39 v) → ys.length ≤ 20 → V 40 (.list ys) := fun ys h1 h2 => ⟨h1, by omega⟩
  have xv : ∀ lo hi, ∀ v ∈ cutL xs lo hi, V 39 v := fun lo hi v hv => (hx v (cut_mem hv)).v
  have cx : ∀ lo hi, (cutL xs lo hi).length ≤ 8 := fun lo hi => by have := cut_len (xs := xs) (lo := lo) (hi := hi); omega
  have cr : ∀ lo hi, (cutL rows lo hi).length ≤ 3 := fun lo hi => by have := cut_len (xs := rows) (lo := lo) (hi := hi); omega
  simp [s1, g1, g2, g3, g4, srcD, seqD, -c_cons]
  refine (comp_each (Φ := fun r => ∃ ys, r = .list ys ∧ (∀ v ∈ ys, V 40 v) ∧ ys.length ≤ 20) fun x hx' o => ?_).monoQ fun od o4 h => ?_
  · have hv : V 40 x := by
      simp at hx'
      rcases hx' with rfl | rfl | rfl | rfl | rfl
      · trivial
      · exact ⟨fun v hv => (hx v hv).v, by omega⟩
      · exact lv _ (xv _ _) (by have := cx (some 1) none; omega)
      · refine lv _ (fun v hv => ?_) (by simp; omega)
        rcases List.mem_append.mp hv with hv | hv
        · exact (hx v hv).v
        · simp at hv; subst hv; exact v11.v
      · refine lv _ (fun v hv => ?_) (by have := cx (some 1) none; simp; omega)
        rcases List.mem_cons.mp hv with rfl | hv
        · exact v11.v
        · exact xv _ _ v hv
    have q1 := cr none (some p)
    have q2 := cr (some (p + 1)) none
    have k1 : lineOk ((cutL rows none (some p)).length + ((cutL rows (some (p + 1)) none).length + 1)) = true := line_le (by omega)
    simp [s2, g5, k1, l1]
    refine ⟨fun v hv' => ?_, by omega⟩
    rcases hv' with hv' | rfl | hv'
    · exact rv _ _ v hv'
    · exact hv
    · exact rv _ _ v hv'
  · obtain ⟨rfl, h1, h2⟩ := h
    have h1 : od.length = 5 := h1
    refine ⟨line_le (by omega), ?_⟩
    refine (comp_each (Φ := fun r => ∃ ys, r = .list ys ∧ (∀ v ∈ ys, V 40 v) ∧ ys.length ≤ 20) fun x hx' o => ?_).monoQ fun od2 o5 h => ?_
    · have hv : V 39 x := by
        simp at hx'
        rcases hx' with rfl | rfl | rfl | rfl | rfl | rfl | rfl | rfl
        · trivial
        · exact ⟨by omega, by omega⟩
        · exact Fr2.v ⟨2, 4, rfl, by omega, by omega, by omega, by omega⟩
        · refine ⟨fun y hy => ?_, by simp⟩
          simp at hy
          rcases hy with rfl | rfl
          · exact ⟨by omega, by omega⟩
          · exact ⟨by omega, by omega⟩
        · exact Fr2.v ⟨1, 0, rfl, by omega, by omega, by omega, by omega⟩
        · trivial
        · exact .inl rfl
        · refine ⟨fun y hy => ?_, by simp⟩
          simp at hy
          subst hy
          exact ⟨by omega, by omega⟩
      have q1 := cr none (some p)
      have q2 := cr (some (p + 1)) none
      have q3 := cx none (some y)
      have q4 := cx (some (y + 1)) none
      have k1 : lineOk ((cutL rows none (some p)).length + ((cutL rows (some (p + 1)) none).length + 1)) = true := line_le (by omega)
      have k2 : lineOk ((cutL xs none (some y)).length + ((cutL xs (some (y + 1)) none).length + 1)) = true := line_le (by omega)
      simp [s1, s2, g4, g5, k1, k2, l1]
      refine ⟨fun v hv' => ?_, by omega⟩
      rcases hv' with hv' | rfl | hv'
      · exact rv _ _ v hv'
      · refine lv _ (fun v hv' => ?_) (by simp; omega)
        simp at hv'
        rcases hv' with hv' | rfl | hv'
        · exact xv _ _ v hv'
        · exact hv
        · exact xv _ _ v hv'
      · exact rv _ _ v hv'
    · obtain ⟨rfl, h3, h4⟩ := h
      have h3 : od2.length = 8 := h3
      have m4 : opD .mul (.list (cutL rows none (some 1))) (.int 4) = some (.list (List.replicate 4 (cutL rows none (some 1))).flatten) := by
        have q1 := cr none (some 1)
        show (if in63 4 && lineOk ((cutL rows none (some 1)).length * 4) && lineOk (List.replicate 4 (cutL rows none (some 1))).flatten.length then _ else _) = _
        have a1 : in63 4 = true := by decide
        have a2 : lineOk ((cutL rows none (some 1)).length * 4) = true := line_le (by omega)
        have a3 : lineOk (List.replicate 4 (cutL rows none (some 1))).flatten.length = true := line_le (by simp; omega)
        rw [a1, a2, a3]; rfl
      refine ⟨line_le (by omega), _, ⟨line_le (by omega), rfl⟩, _, ⟨_, rfl, rfl⟩, _, rfl, _, rfl, _, rfl, _, rfl, .tuple rows, ?_, ?_⟩
      · show (if lineOk rows.length = true then some (PyData.tuple rows) else none) = _
        rw [if_pos g6]
      refine ⟨_, rfl, _, rfl, _, s2 _ _, _, m4, _, rfl, ?_⟩
      simp only [d_cat]
      refine ⟨_, if_pos (line_le (by simp; omega)), _, rfl, ?_⟩
      refine (pick_ok (by simp; omega) (by simp; omega) (by omega)).monoQ fun d o6 hd => ?_
      obtain ⟨e6, hd⟩ := hd
      refine ⟨by omega, ?_⟩
      have wl : ∀ r : TQ.D, (∃ ys, r = .list ys ∧ (∀ v ∈ ys, V 40 v) ∧ ys.length ≤ 20) → W r := by
        rintro r ⟨ys, rfl, a, b⟩
        exact ⟨a, by omega⟩
      rcases List.mem_append.mp hd with hd | hd
      · rcases List.mem_append.mp hd with hd | hd
        · exact wl _ (h2 _ hd)
        · exact wl _ (h4 _ hd)
      · simp only [List.mem_cons, List.not_mem_nil, or_false] at hd
        rcases hd with rfl | rfl | rfl | rfl | rfl
        · exact ⟨_, rfl⟩
        · exact ⟨fun x hx => by simp at hx, by simp⟩
        · exact ⟨_, rfl⟩
        · have q1 := cr none (some 1)
          refine ⟨fun x hx => ?_, by simp; omega⟩
          simp at hx
          exact rv _ _ x hx
        · exact ⟨_, rfl⟩
end K59
namespace K59
open PySem L2 TQ
/-- no number of things -/
def NT (d : TQ.D) : Prop := d ∈ ([.none, .int 0, .int 4, .int (-1), .bool true, .str "2"] : List TQ.D)
theorem nothings_ok {k : Nat} {o : Om} (hn : 1 ≤ o.n) : okx ((q (k + 4)).fn "_law_no_things" [.gen] o) (fun d o' => o'.n + 1 = o.n ∧ NT d) Xf := by
  rw [q_law_no_things]
  have hz : d_law_no_things.pars ≤ d_law_no_things.size := by decide
  with_reducible refine p_run (d := d_law_no_things) rfl rfl hz ?_
  have l6 : lineOk 6 = true := rfl
  simp [d_law_no_things, l6]
  refine (pick_ok (by simp) (by simp) (by omega)).monoQ fun d o1 hd => ?_
  exact ⟨hd.1, by unfold NT; simpa using hd.2⟩
theorem NT.v {d : TQ.D} (h : NT d) : V 1 d := by
  unfold NT at h
  simp only [List.mem_cons, List.not_mem_nil, or_false] at h
  rcases h with rfl | rfl | rfl | rfl | rfl | rfl
  · trivial
  · exact ⟨by omega, by omega⟩
  · exact ⟨by omega, by omega⟩
  · exact ⟨by omega, by omega⟩
  · trivial
  · exact .inr rfl
theorem check_bad {k : Nat} {d : TQ.D} (h : NT d) {o : Om} : (q (k + 2)).fn "check_things" [mkP d] o = .exc "InvalidNumber" d o := by
  have key : okx ((q (k + 2)).fn "check_things" [mkP d] o) (fun _ _ => False) (fun c e o' => c = "InvalidNumber" ∧ e = d ∧ o' = o) := by
    rw [qcheck_things]
    refine p_run rfl rfl (by decide) ?_
    have e : csP D "MOST_THINGS" = some (.int 3) := by kernel_rfl
    simp [dcheck_things, whole_ok h.v, e]
    unfold NT at h
    simp only [List.mem_cons, List.not_mem_nil, or_false] at h
    rcases h with rfl | rfl | rfl | rfl | rfl | rfl <;> simp [isWh]
  cases hr : (q (k + 2)).fn "check_things" [mkP d] o with
  | ok a o' => rw [hr] at key; exact key.elim
  | exc c e o' => rw [hr] at key; obtain ⟨rfl, rfl, rfl⟩ := key; rfl
  | bad => rw [hr] at key; exact key.elim
theorem lotsin_bad {k : Nat} {d : TQ.D} (h : NT d) {o : Om} : okx ((q (k + 3)).fn "lots_in" [mkP d] o) (fun _ _ => False) (fun c e o' => c = "InvalidNumber" ∧ e = d ∧ o' = o) := by
  rw [qlots_in]
  refine p_run rfl rfl (by decide) ?_
  simp [dlots_in, check_bad h]
theorem worths_bad {k : Nat} {d w : TQ.D} (h : NT d) {o : Om} : okx ((q (k + 3)).fn "are_worths" [mkP d, mkP w] o) (fun _ _ => False) (fun c e o' => c = "InvalidNumber" ∧ e = d ∧ o' = o) := by
  rw [qare_worths]
  refine p_run rfl rfl (by decide) ?_
  simp [dare_worths, check_bad h]
end K59
namespace K59
open PySem L2 TQ
/-- what the two calls tell is told alike -/
def lpB : List Sm := [(.asg (.nm 9) (.call "_law_are_worths" [(.var 1), (.var 3)])), (.ife (.cmp .ne (.bif "repr" [(.lst [(.call "are_worths" [(.var 1), (.var 3)]), (.callK "are_worths" [] [(.var 3), (.var 1)] [1, 0])])]) (.bif "repr" [(.lst [(.var 9), (.var 9)])])) [(.ret (.cst (.bl false)))] [])]
theorem rep_b {b : Bool} : ∃ s, biD "repr" [.list [.bool b, .bool b]] = some (.str s) ∧ cmpD .ne (.str s) (.str s) = some false := by
  cases b
  · exact ⟨(PyData.list [.bool false, .bool false]).shown, by kernel_rfl, by kernel_rfl⟩
  · exact ⟨(PyData.list [.bool true, .bool true]).shown, by kernel_rfl, by kernel_rfl⟩
theorem lp_ok {k t : Nat} (ht : T3 t) {d w lt s : TQ.D} (h : W d) {y : Option Pv} {o : Om} (hy : disO y = y) : okx (pxSs (q (k + 8)) lpB [some .gen, some (mkP (.int t)), some (mkP w), some (mkP d), none, none, some (mkP s), some (mkP lt), some (mkP lt), y, none, none] o) (fun p o' => o' = o ∧ p = (.nx, [some .gen, some (mkP (.int t)), some (mkP w), some (mkP d), none, none, some (mkP s), some (mkP lt), some (mkP lt), some (mkP (.bool (areW t d))), none, none])) Xf := by
  obtain ⟨s, e1, e2⟩ := rep_b (b := areW t d)
  have l2 : lineOk 2 = true := rfl
  simp [lpB, lworths_ok ht h, worths_ok ht h, l2, e1, e2]
theorem lps_ok {k t : Nat} (ht : T3 t) {w lt s : TQ.D} : ∀ (vs : List TQ.D) (x : Option Pv) (y : Option Pv) {o : Om}, (∀ d ∈ vs, W d) → disO y = y → okx (loopP (.nm 3) (pxSs (q (k + 8)) lpB) vs [some .gen, some (mkP (.int t)), some (mkP w), x, none, none, some (mkP s), some (mkP lt), some (mkP lt), y, none, none] o) (fun p o' => o' = o ∧ ∃ x' y', p = (.nx, [some .gen, some (mkP (.int t)), some (mkP w), x', none, none, some (mkP s), some (mkP lt), some (mkP lt), y', none, none])) Xf
  | [], x, y, o, _, _ => by simp [loopP]
  | d :: vs, x, y, o, h, hy => by
    simp only [loopP, x_bind, x_pO]
    refine ⟨[some .gen, some (mkP (.int t)), some (mkP w), some (mkP d), none, none, some (mkP s), some (mkP lt), some (mkP lt), y, none, none], by simp, ?_⟩
    refine (lp_ok ht (h d (by simp)) hy).monoQ fun p o1 hp => ?_
    obtain ⟨rfl, rfl⟩ := hp
    exact lps_ok ht vs (some (mkP d)) _ (fun e he => h e (List.mem_cons_of_mem _ he)) rfl
def QB (n : Nat) (t : Nat) (w s : TQ.D) : FlP × TQ.Env → Om → Prop := fun p o' => n ≤ o'.n + 16 ∧ ∃ x y, p = (.nx, [some .gen, some (mkP (.int t)), some (mkP w), x, none, none, some (mkP s), some (mkP (.list (lotsD t))), some (mkP (.list (lotsD t))), y, none, none])
theorem rep_lots {t : Nat} (ht : T3 t) : ∃ s, biD "repr" [.list [.list (lotsD t), .list (lotsD t)]] = some (.str s) ∧ cmpD .ne (.str s) (.str s) = some false := by
  rcases ht with rfl | rfl | rfl
  · exact ⟨(PyData.list [.list (lotsD 1), .list (lotsD 1)]).shown, by kernel_rfl, by kernel_rfl⟩
  · exact ⟨(PyData.list [.list (lotsD 2), .list (lotsD 2)]).shown, by kernel_rfl, by kernel_rfl⟩
  · exact ⟨(PyData.list [.list (lotsD 3), .list (lotsD 3)]).shown, by kernel_rfl, by kernel_rfl⟩
theorem blockB {k n t : Nat} (hn : 20 ≤ n) (ht : T3 t) {w sw : TQ.D} (hw : WV t w) (s : Nat → Int) : okx (pxSs (q (k + 8)) ((d_law_good.body.drop 3).take 2) [some .gen, some (mkP (.int t)), some (mkP w), none, none, none, some (mkP sw), some (mkP (.list (lotsD t))), some (mkP (.list (lotsD t))), none, none, none] ⟨s, n⟩) (QB n t w sw) Xf := by
  have eb : (d_law_good.body.drop 3).take 2 = [(.ife (.cmp .ne (.bif "repr" [(.lst [(.var 8), (.callK "lots_in" [] [(.var 1)] [0])])]) (.bif "repr" [(.lst [(.var 7), (.var 7)])])) [(.ret (.cst (.bl false)))] []), (.fr (.nm 3) .seq [(.bin .add (.lst [(.var 2), (.sl (.var 2) none (some (.cst (.int 1)))), (.bin .add (.var 2) (.sl (.var 2) none (some (.cst (.int 1))))), (.lc (.nm 11) .seq [(.var 2)] [] (.bin .add (.var 11) (.var 11))), (.lc (.nm 11) .seq [(.var 2)] [] (.rev (.var 11)))]) (.lc (.nm 10) .rng [(.cst (.int 4))] [] (.call "_law_no_worths" [(.var 0), (.var 2)])))] lpB)] := rfl
  rw [eb]
  obtain ⟨sl, e1, e2⟩ := rep_lots ht
  have hw0 := hw
  obtain ⟨rows, rfl, r1, r3, hr⟩ := hw
  have l2 : lineOk 2 = true := rfl
  have l5 : lineOk 5 = true := rfl
  have p8 : 2 ^ t ≤ 8 := by rcases ht with rfl | rfl | rfl <;> decide
  have s2 : ∀ lo hi, slD (.list rows) lo hi = some (.list (cutL rows lo hi)) := fun lo hi => sl_some (by omega)
  have cr : ∀ lo hi, (cutL rows lo hi).length ≤ 3 := fun lo hi => by have := cut_len (xs := rows) (lo := lo) (hi := hi); omega
  have k1 : lineOk (rows.length + (cutL rows none (some 1)).length) = true := line_le (by have := cr none (some 1); omega)
  have i62 : in62 4 = true := by decide
  simp [lotsin_ok ht, l2, e1, e2, l5, s2, k1, srcD, seqD, i62, -c_cons]
  have rowV : ∀ x ∈ rows, ∃ xs, x = .list xs ∧ xs.length ≤ 8 ∧ ∀ v ∈ xs, V 39 v := fun x hx => by
    obtain ⟨xs, rfl, hl, hx⟩ := hr x hx
    exact ⟨xs, rfl, by omega, fun v hv => (hx v hv).v⟩
  refine (comp_each (Φ := V 40) fun x hx o => ?_).monoQ fun ys o1 h => ?_
  · obtain ⟨xs, rfl, hl, hv⟩ := rowV x hx
    have k2 : lineOk (xs.length + xs.length) = true := line_le (by omega)
    simp [k2]
    refine ⟨fun v hv' => ?_, by simp; omega⟩
    rcases List.mem_append.mp hv' with hv' | hv'
    · exact hv v hv'
    · exact hv v hv'
  obtain ⟨rfl, h1, h2⟩ := h
  refine ⟨line_le (by omega), ?_⟩
  refine (comp_each (Φ := V 40) fun x hx o => ?_).monoQ fun zs o1 h => ?_
  · obtain ⟨xs, rfl, hl, hv⟩ := rowV x hx
    have k2 : lineOk xs.length = true := line_le (by omega)
    simp [revD, k2]
    refine ⟨fun v hv' => ?_, by simp; omega⟩
    exact hv v (by simpa using hv')
  obtain ⟨rfl, h3, h4⟩ := h
  refine ⟨line_le (by omega), ?_⟩
  refine (comp_draw (c := 4) (Φ := W) (by simp; omega) fun x hx o ho => ?_).monoQ fun us o1 h => ?_
  · simp
    exact (noworths_ok ht hw0 ho).monoQ fun d o2 hd => hd
  obtain ⟨h5, h6, h7⟩ := h
  simp at h5 h6
  refine ⟨line_le (by omega), _, ⟨line_le (by omega), rfl⟩, _, rfl, ?_⟩
  have rowsV : ∀ x ∈ rows, V 40 x := fun x hx => (hr x hx).v ht
  have wr : W (.list rows) := ⟨rowsV, by omega⟩
  have wc : W (.list (cutL rows none (some 1))) := ⟨fun x hx => rowsV x (cut_mem hx), by have := cr none (some 1); omega⟩
  refine (lps_ok ht (lt := .list (lotsD t)) (s := sw) (w := .list rows) _ none none (fun d hd => ?_) rfl).monoQ fun p o2 hp => ?_
  · simp only [List.mem_cons] at hd
    rcases hd with rfl | rfl | rfl | rfl | rfl | hd
    · exact wr
    · exact wc
    · refine ⟨fun x hx => ?_, by have := cr none (some 1); simp; omega⟩
      rcases List.mem_append.mp hx with hx | hx
      · exact rowsV x hx
      · exact rowsV x (cut_mem hx)
    · exact ⟨h2, by omega⟩
    · exact ⟨h4, by omega⟩
    · exact h7 d hd
  · obtain ⟨rfl, x', y', rfl⟩ := hp
    exact ⟨by omega, x', y', rfl⟩
end K59
namespace K59
open PySem L2 TQ
theorem ok_of (s : String) : PyData.strOk (Str.ofString s) = true := by
  rw [PySem.Str.ofString_eq_toList]
  unfold PyData.strOk
  simp only [List.all_toArray, List.all_map, List.all_eq_true, Function.comp, decide_eq_true_eq]
  intro c _
  have := c.valid
  have h : c.toNat = c.val.toNat := rfl
  rcases this with h1 | h1
  · rw [h]; omega
  · rw [h]; omega
theorem ok_app {a b : Str} (h1 : PyData.strOk a = true) (h2 : PyData.strOk b = true) : PyData.strOk (a ++ b) = true := by
  show (a.cps ++ b.cps).all _ = true
  rw [Array.all_append]
  simp only [Bool.and_eq_true]
  exact ⟨h1, h2⟩
theorem ok_from : ∀ (ts : List Str) (k : Nat) (acc : Str), PyData.strOk acc = true → (∀ t ∈ ts, PyData.strOk t = true) → PyData.strOk (textFrom k acc ts) = true
  | [], k, acc, h, _ => h
  | t :: ts, k, acc, h, ht => by
    refine ok_from ts (k + 1) _ (ok_app (ok_app h (ok_of _)) (ht t (by simp))) fun u hu => ht u (List.mem_cons_of_mem _ hu)
theorem ok_list {ts : List Str} (h : ∀ t ∈ ts, PyData.strOk t = true) : PyData.strOk (listText ts) = true := ok_app (ok_from ts 0 _ (ok_of _) h) (ok_of _)
theorem ok_int {i : Int} : PyData.strOk (PyData.int i).shown = true := ok_of _
theorem ok_t2 {a b : Int} : PyData.strOk (PyData.tuple [.int a, .int b]).shown = true := by
  show PyData.strOk (tupleText [_, _]) = true
  refine ok_app (ok_app (ok_of _) ?_) (ok_of _)
  show PyData.strOk ((PyData.int a).shown ++ ", " ++ (PyData.int b).shown) = true
  exact ok_app (ok_app ok_int (ok_of _)) ok_int
theorem shownAll_mem : ∀ {xs : List TQ.D} {t : Str}, t ∈ PyData.shownAll xs → ∃ x ∈ xs, t = x.shown
  | x :: xs, t, h => by
    simp only [PyData.shownAll, List.mem_cons] at h
    rcases h with rfl | h
    · exact ⟨x, by simp, rfl⟩
    · obtain ⟨y, hy, e⟩ := shownAll_mem h
      exact ⟨y, List.mem_cons_of_mem _ hy, e⟩
theorem ok_lst {xs : List TQ.D} (h : ∀ x ∈ xs, PyData.strOk x.shown = true) : PyData.strOk (PyData.list xs).shown = true := by
  show PyData.strOk (listText (PyData.shownAll xs)) = true
  refine ok_list fun t ht => ?_
  obtain ⟨x, hx, rfl⟩ := shownAll_mem ht
  exact h x hx
theorem WV.txt {t : Nat} {w : TQ.D} (h : WV t w) : PyData.strOk w.shown = true := by
  obtain ⟨rows, rfl, _, _, hr⟩ := h
  refine ok_lst fun r hr' => ?_
  obtain ⟨xs, rfl, _, hx⟩ := hr r hr'
  refine ok_lst fun x hx' => ?_
  obtain ⟨a, b, rfl, _⟩ := hx x hx'
  exact ok_t2

theorem int_short {a : Int} (h1 : 0 ≤ a) (h2 : a < 2 ^ 90) : (PyData.int a).leavesShort 40 = true ∧ (PyData.int a).weight ≤ 91 ∧ (PyData.int a).showable = true := by
  have hl : a.natAbs.log2 ≤ 90 := log2_le (by omega)
  refine ⟨?_, ?_, decide_eq_true (by omega)⟩
  · show decide ((PyData.shown (.int a)).length ≤ 40) = true
    have e := int_text_length_le10 (a := a) (k := 30) (by decide) (by omega)
    have : (PyData.shown (.int a)).length ≤ 31 := by
      show (Str.ofString (toString a)).length ≤ 31
      rw [ofString_length]; exact e
    exact decide_eq_true (by omega)
  · show (if a == 0 then 0 else a.natAbs.log2 + 1) ≤ 91
    split <;> omega
theorem fr2_short {x : TQ.D} (h : Fr2 x) : x.leavesShort 40 = true ∧ x.weight ≤ 184 ∧ x.showable = true := by
  obtain ⟨a, b, rfl, a1, a2, b1, b2⟩ := h
  have ha := int_short a1 a2
  have hb := int_short b1 b2
  refine ⟨?_, ?_, ?_⟩
  · simp only [PyData.leavesShort, PyData.leavesShortAll] at ha hb ⊢
    rw [ha.1, hb.1]; rfl
  · show (PyData.int a).weight + 1 + ((PyData.int b).weight + 1 + 0) ≤ 184
    omega
  · simp only [PyData.showable, PyData.showableAll] at ha hb ⊢
    rw [ha.2.2, hb.2.2]; rfl
theorem all_short {n : Nat} : ∀ {xs : List TQ.D}, (∀ x ∈ xs, x.leavesShort 40 = true ∧ x.weight ≤ n ∧ x.showable = true) → PyData.leavesShortAll 40 xs = true ∧ PyData.weightAll xs ≤ (n + 1) * xs.length ∧ PyData.showableAll xs = true
  | [], _ => ⟨rfl, Nat.le_refl _, rfl⟩
  | x :: xs, h => by
    have a := h x (by simp)
    have b := all_short fun y hy => h y (List.mem_cons_of_mem _ hy)
    refine ⟨?_, ?_, ?_⟩
    · simp only [PyData.leavesShortAll, a.1, b.1, Bool.and_self]
    · simp only [PyData.weightAll, List.length_cons, Nat.mul_add, Nat.mul_one]
      omega
    · simp only [PyData.showableAll, a.2.2, b.2.2, Bool.and_self]
theorem row_short {t : Nat} {x : TQ.D} (ht : T3 t) (h : RowV t x) : x.leavesShort 40 = true ∧ x.weight ≤ 1480 ∧ x.showable = true := by
  obtain ⟨xs, rfl, hl, hx⟩ := h
  have p8 : 2 ^ t ≤ 8 := by rcases ht with rfl | rfl | rfl <;> decide
  have k := all_short (n := 184) fun y hy => fr2_short (hx y hy)
  exact ⟨k.1, by show PyData.weightAll xs ≤ 1480; omega, k.2.2⟩
theorem wv_short {t : Nat} {x : TQ.D} (ht : T3 t) (h : WV t x) : x.leavesShort 40 = true ∧ x.weight ≤ 4443 ∧ x.showable = true := by
  obtain ⟨xs, rfl, _, hl, hx⟩ := h
  have k := all_short (n := 1480) fun y hy => row_short ht (hx y hy)
  exact ⟨k.1, by show PyData.weightAll xs ≤ 4443; omega, k.2.2⟩
/-- the shown worths -/
theorem WV.rep {t : Nat} {w : TQ.D} (ht : T3 t) (h : WV t w) : biD "repr" [w] = some (.str w.shown) ∧ cmpD .ne (.str w.shown) (.str w.shown) = some false := by
  have hok := h.txt
  have hV : V 40 w := by
    obtain ⟨rows, rfl, _, r3, hr⟩ := h
    exact ⟨fun x hx => (hr x hx).v ht, by omega⟩
  have hd := hV.lay
  constructor
  · have e : biD "repr" [w] = if w.showable && lineOk w.shown.length && decide (w.depth ≤ 60) && (!w.hasDict || isEmpD w) then some (.str w.shown) else none := rfl
    rw [e, if_pos]
    have h1 : w.hasDict = false := PyData.hasDict_of_canLay w hd.1
    have h2 : decide (w.depth ≤ 60) = true := decide_eq_true (Nat.le_trans hd.2 (by omega))
    rw [h1, h2]
    have h3 := wv_short ht h
    have h4 := PyData.shown_le 40 (by omega) w h3.1
    have h5 : lineOk w.shown.length = true := by
      unfold lineOk
      have : sizeLine = 16777216 := by decide
      exact decide_eq_true (by rw [this]; omega)
    rw [h3.2.2, h5]
    rfl
  · have : dOk (.str w.shown) = true := by
      unfold dOk
      have : (PyData.str w.shown).canLay0 = true := hok
      rw [this]; rfl
    have e : cmpD .ne (.str w.shown) (.str w.shown) = (if dOk (.str w.shown) && dOk (.str w.shown) then some (PyData.eqv (.str w.shown) (.str w.shown)) else none).map not := rfl
    rw [e, this]
    simp [PyData.eqv]
end K59
namespace K59
open PySem L2 TQ
abbrev mk : TQ.D := .str "mark"
/-- the lots, two of them marked -/
def markD (t : Nat) : List TQ.D := .list [mk] :: .list [.int 0, mk] :: (lotsD t).drop 2
def QC (n : Nat) (t : Nat) : FlP × TQ.Env → Om → Prop := fun p o' => n ≤ o'.n + 1 ∧ ∃ (d : TQ.D) (a b c e f g h i j k : Option Pv), NT d ∧ p = (.nx, [a, b, c, e, some (mkP d), none, f, g, h, i, j, k])
theorem rep_mark {t : Nat} (ht : T3 t) : ∃ s, biD "repr" [.list [.list ((lotsD t).drop 2), .list (lotsD t)]] = some (.str s) ∧ cmpD .inn (.str "mark") (.str s) = some false := by
  rcases ht with rfl | rfl | rfl
  · exact ⟨(PyData.list [.list ((lotsD 1).drop 2), .list (lotsD 1)]).shown, by kernel_rfl, by kernel_rfl⟩
  · exact ⟨(PyData.list [.list ((lotsD 2).drop 2), .list (lotsD 2)]).shown, by kernel_rfl, by kernel_rfl⟩
  · exact ⟨(PyData.list [.list ((lotsD 3).drop 2), .list (lotsD 3)]).shown, by kernel_rfl, by kernel_rfl⟩
theorem blockC {k n t : Nat} (hn : 2 ≤ n) (ht : T3 t) {w : TQ.D} (hw : WV t w) (s : Nat → Int) : okx (pxSs (q (k + 8)) ((d_law_good.body.drop 7).take 2) [some .gen, some (mkP (.int t)), some (mkP w), none, none, none, some (mkP (.str w.shown)), none, some (mkP (.list (markD t))), none, none, none] ⟨s, n⟩) (QC n t) Xf := by
  have eb : (d_law_good.body.drop 7).take 2 = [(.ife (.or (.cmp .inn (.cst (.str "mark")) (.bif "repr" [(.lst [(.sl (.var 8) (some (.cst (.int 2))) none), (.call "lots_in" [(.var 1)])])])) (.cmp .ne (.bif "repr" [(.var 2)]) (.var 6))) [(.ret (.cst (.bl false)))] []), (.asg (.nm 4) (.call "_law_no_things" [(.var 0)]))] := rfl
  rw [eb]
  obtain ⟨sl, e1, e2⟩ := rep_mark ht
  have hsl : slD (.list (markD t)) (some 2) none = some (.list ((lotsD t).drop 2)) := by rcases ht with rfl | rfl | rfl <;> kernel_rfl
  obtain ⟨r1, r2⟩ := hw.rep ht
  have l2 : lineOk 2 = true := rfl
  simp [hsl, lotsin_ok ht, l2, e1, e2, r1, r2]
  refine (nothings_ok (by show 1 ≤ n; omega)).monoQ fun d o1 hd => ?_
  have h1 : o1.n + 1 = n := hd.1
  exact ⟨by omega, d, _, _, _, _, _, _, _, _, _, _, hd.2, rfl⟩
end K59
namespace K59
open PySem L2 TQ
/-- lots behind the first two -/
def Lat (d : TQ.D) : Prop := ∃ (i : Int) (is : List Int), d = .list ((i :: is).map .int) ∧ (i ≠ 0 ∨ is ≠ [])
theorem lots_lat {t : Nat} (ht : T3 t) : ∀ d ∈ (lotsD t).drop 2, Lat d := by
  rcases ht with rfl | rfl | rfl <;> simp only [lotsD, List.drop_succ_cons, List.drop_zero, List.mem_cons, List.not_mem_nil, or_false] <;> intro d hd
  · exact hd.elim
  · rcases hd with rfl | rfl
    · exact ⟨1, [], rfl, .inl (by decide)⟩
    · exact ⟨0, [1], rfl, .inr (by simp)⟩
  · rcases hd with rfl | rfl | rfl | rfl | rfl | rfl
    · exact ⟨1, [], rfl, .inl (by decide)⟩
    · exact ⟨2, [], rfl, .inl (by decide)⟩
    · exact ⟨0, [1], rfl, .inr (by simp)⟩
    · exact ⟨0, [2], rfl, .inr (by simp)⟩
    · exact ⟨1, [2], rfl, .inl (by decide)⟩
    · exact ⟨0, [1, 2], rfl, .inr (by simp)⟩
theorem ints_rp {A : List Nat} {S : Sto} : ∀ {xs : List Val} {is : List Int}, RpL A S xs (is.map .int) → xs = is.map .int
  | _, [], h => by cases h; rfl
  | _, i :: is, h => by
    cases h with
    | cons a h => rw [a.int, ints_rp h]; rfl
theorem rp_ints {A : List Nat} {S : Sto} : ∀ (is : List Int), RpL A S (is.map .int) (is.map .int)
  | [] => .nil
  | i :: is => .cons ⟨1, rfl⟩ (rp_ints is)
theorem told_ok {A : List Nat} {S : Sto} {v : Val} {t : Nat} (ht : T3 t) (h : Rp A S v (.list (lotsD t))) : ∃ k8 b0 b1 rest, v = .ref k8 ∧ k8 ∉ A ∧ b0 ∉ A ∧ b1 ∉ A ∧ S[k8]? = some (.ref b0 :: .ref b1 :: rest) ∧ S[b0]? = some [] ∧ S[b1]? = some [.int 0] ∧ k8 ≠ b0 ∧ k8 ≠ b1 ∧ b0 ≠ b1 ∧ RpL (k8 :: b0 :: b1 :: A) S rest ((lotsD t).drop 2) := by
  have e : lotsD t = .list [] :: .list [.int 0] :: (lotsD t).drop 2 := by rcases ht with rfl | rfl | rfl <;> rfl
  rw [e] at h
  obtain ⟨k8, xs, rfl, hk8, e8, hx⟩ := h.lst
  cases hx with | cons x0 hx => cases hx with | cons x1 hx =>
  obtain ⟨b0, y0, rfl, h0, e0, r0⟩ := x0.lst
  obtain ⟨b1, y1, rfl, h1, e1, r1⟩ := x1.lst
  cases r0
  have : y1 = [.int 0] := ints_rp (is := [0]) r1
  subst this
  have n80 : k8 ≠ b0 := fun z => by subst z; rw [e8] at e0; cases e0
  have n81 : k8 ≠ b1 := fun z => by subst z; rw [e8] at e1; cases e1
  have n01 : b0 ≠ b1 := fun z => by subst z; rw [e0] at e1; cases e1
  refine ⟨k8, b0, b1, _, rfl, hk8, h0, h1, e8, e0, e1, n80, n81, n01, ?_⟩
  have key : ∀ {vs : List Val} {ds : List TQ.D}, RpL A S vs ds → (∀ d ∈ ds, Lat d) → RpL (k8 :: b0 :: b1 :: A) S vs ds := by
    intro vs ds r
    induction r with
    | nil => intro _; exact .nil
    | cons a _ ih =>
      intro hl
      refine .cons ?_ (ih fun d hd => hl d (List.mem_cons_of_mem _ hd))
      rename_i v' vs' d' ds' _
      obtain ⟨i, is, rfl, hi⟩ := hl d' (by simp)
      obtain ⟨c, ys, rfl, hc, ec, rc⟩ := a.lst
      have := ints_rp rc
      subst this
      refine Rp.mkL ?_ ec (rp_ints (i :: is))
      simp only [List.mem_cons, not_or]
      refine ⟨fun z => ?_, fun z => ?_, fun z => ?_, hc⟩
      · subst z; rw [e8] at ec; simp at ec
      · subst z; rw [e0] at ec; simp at ec
      · subst z; rw [e1] at ec
        simp at ec
        rcases hi with hi | hi
        · exact hi ec.1.symm
        · exact hi ec.2
  exact key hx (lots_lat ht)
/-- after the two marks -/
theorem marked_ok {A B : List Nat} {S : Sto} {k8 b0 b1 t : Nat} {rest : List Val} (ht : T3 t) (hB : ∀ k ∈ B, k ∈ A) (h8 : k8 ∉ A) (h0 : b0 ∉ A) (h1 : b1 ∉ A) (e8 : S[k8]? = some (.ref b0 :: .ref b1 :: rest)) (e0 : S[b0]? = some []) (e1 : S[b1]? = some [.int 0]) (n80 : k8 ≠ b0) (n81 : k8 ≠ b1) (n01 : b0 ≠ b1) (hr : RpL (k8 :: b0 :: b1 :: A) S rest ((lotsD t).drop 2)) :
    Rp B ((S.set b0 [.str "mark"]).set b1 [.int 0, .str "mark"]) (.ref k8) (.list (markD t)) := by
  have l0 := (List.getElem?_eq_some_iff.mp e0).1
  have l1 := (List.getElem?_eq_some_iff.mp e1).1
  have f8 : ((S.set b0 [.str "mark"]).set b1 [.int 0, .str "mark"])[k8]? = some (.ref b0 :: .ref b1 :: rest) := by
    rw [List.getElem?_set_ne (Ne.symm n81), List.getElem?_set_ne (Ne.symm n80)]; exact e8
  have f0 : ((S.set b0 [.str "mark"]).set b1 [.int 0, .str "mark"])[b0]? = some [.str "mark"] := by
    rw [List.getElem?_set_ne (Ne.symm n01), List.getElem?_set_self l0]
  have f1 : ((S.set b0 [.str "mark"]).set b1 [.int 0, .str "mark"])[b1]? = some [.int 0, .str "mark"] := List.getElem?_set_self (by simpa using l1)
  have K : Kx [] [b0, b1] S ((S.set b0 [.str "mark"]).set b1 [.int 0, .str "mark"]) := (Kx.set (by simp) _).trans (Kx.set (A := [b0, b1]) (by simp) _) fun j hj => .inl hj
  refine Rp.mkL (fun z => h8 (hB _ z)) f8 ?_
  refine .cons (Rp.mkL (fun z => h0 (hB _ z)) f0 (.cons ⟨1, rfl⟩ .nil)) (.cons (Rp.mkL (fun z => h1 (hB _ z)) f1 (.cons ⟨1, rfl⟩ (.cons ⟨1, rfl⟩ .nil))) ?_)
  refine hr.kx' K (fun k hk => by simp at hk ⊢; rcases hk with rfl | rfl <;> simp) fun k hk => .inl (by simp [hB k hk])
end K59
namespace K59
open PySem L2 TQ
/-- the calls' list, the cells -/
structure Iv (n m : Nat) (B : List Nat) (v4 vw : Val) (nt w : TQ.D) (S : Sto) : Prop where
  m : S[m]? = some [.clo 0 [n], .clo 1 [n], .clo 2 [n + 1, n]]
  c4 : S[n]? = some [.cmark, v4]
  c2 : S[n + 1]? = some [.cmark, vw]
  r4 : Rp B S v4 nt
  r2 : Rp B S vw w
  b : ∀ j ∈ B, j < S.length
variable {n m k : Nat} {B : List Nat} {v4 vw : Val} {nt w : TQ.D} {S S' : Sto}
theorem pn_m {v : Val} {d : TQ.D} (h : Rp B S v d) : Pn [.cmark, v] := fun ns => by
  show Val.cmark :: (TQ.hide ns v :: []) = _
  rw [h.hide ns]
/-- a lambda's call: the def is called, and raises -/
theorem lam_bad {f : Str} {own : List (Nat × Nat)} {τ : Tau} {us : List Pv} {vs : List Val} (I : Iv n m B v4 vw nt w S) (al : AL ⟨none, []⟩ B S us vs) (hs : ∀ S, S[n]? = some [.cmark, v4] → S[n + 1]? = some [.cmark, vw] → sync own τ S = S)
    (h : ∀ o, okx ((q (k + 3)).fn f us o) (fun _ _ => False) (fun c e o' => c = "InvalidNumber" ∧ e = nt ∧ o' = o)) :
    ∃ d S', ((PL D (k + 3)).fn f vs (sync own τ S)) = .exc "InvalidNumber" d S' ∧ sync own τ S' = S' ∧ Rp B S' d nt ∧ (∀ (j : Nat) (xs : List Val), S[j]? = some xs → S'[j]? = some xs) ∧ S.length ≤ S'.length ∧ S'[n]? = some [.cmark, v4] ∧ S'[n + 1]? = some [.cmark, vw] := by
  rw [hs S I.c4 I.c2]
  obtain ⟨c, d, S', e, d', n', K, _, r, hX⟩ := raise_at (g := ⟨none, []⟩) (n := 0) (k := k + 3) (f := f) (X := fun c e _ => c = "InvalidNumber" ∧ e = nt) hH hF (fun k hk => by cases hk) I.b al (.inl rfl) (fun s => (h ⟨s, 0⟩).mono (fun _ _ z => z) fun _ _ _ z => ⟨z.1, z.2.1⟩)
  obtain ⟨rfl, rfl⟩ := hX fun _ => 0
  have a4 := K.get I.c4 (by simp) (pn_m I.r4)
  have a2 := K.get I.c2 (by simp) (pn_m I.r2)
  exact ⟨d, S', e, hs S' a4 a2, r, fun j xs ej => K.getC ej (by simp) (hideL_0 xs), K.1, a4, a2⟩
theorem Iv.keep (I : Iv n m B v4 vw nt w S) (h : ∀ (j : Nat) (xs : List Val), S[j]? = some xs → S'[j]? = some xs) (l : S.length ≤ S'.length) : Iv n m B v4 vw nt w S' := by
  have K : Kx [] [] S S' := ⟨l, fun j xs e _ _ => h j xs e⟩
  exact ⟨h _ _ I.m, h _ _ I.c4, h _ _ I.c2, I.r4.kx K (by simp), I.r2.kx K (by simp), fun j hj => Nat.lt_of_lt_of_le (I.b j hj) l⟩
/-- the first lambda -/
theorem clo0_ok (hnt : NT nt) (I : Iv n m B v4 vw nt w S) : ∃ d S', (PL D (k + 4)).lam 0 [n] [v4] [] S = .exc "InvalidNumber" d S' ∧ Rp B S' d nt ∧ Iv n m B v4 vw nt w S' := by
  have al : AL ⟨none, []⟩ B S [mkP nt] [v4] := .cons I.r4 .nil
  obtain ⟨d, S', e, es, r, hk, hl, _, _⟩ := lam_bad (k := k) (own := [(0, n)]) (τ := [some v4]) I al (fun S a _ => by
    show S.set n [.cmark, v4] = S
    exact set_same a) (fun o => lotsin_bad hnt)
  refine ⟨d, S', ?_, r, I.keep hk hl⟩
  have e1 : ev { PL D (k + 3) with own := [(0, n)], blk := false } [some v4] (.call "lots_in" [(.var 0)]) S = .exc "InvalidNumber" d S' := by
    simp only [ev, evv, dflt, evAs, rdV, E.bind, getO, E.pure, List.getElem?_cons_zero, Option.getD_some]
    exact e
  show endLm [(0, n)] [some v4] (ev { PL D (k + 3) with own := [(0, n)], blk := false } [some v4] (.call "lots_in" [(.var 0)]) S) = _
  rw [e1]
  simp only [endLm, es]
theorem clo1_ok (hnt : NT nt) (I : Iv n m B v4 vw nt w S) : ∃ d S', (PL D (k + 4)).lam 1 [n] [v4] [] S = .exc "InvalidNumber" d S' ∧ Rp B S' d nt ∧ Iv n m B v4 vw nt w S' := by
  have al : AL ⟨none, []⟩ B S [mkP nt, mkP .none] [v4, .non] := .cons I.r4 (.cons ⟨1, rfl⟩ .nil)
  obtain ⟨d, S', e, es, r, hk, hl, _, _⟩ := lam_bad (k := k) (own := [(0, n)]) (τ := [some v4]) I al (fun S a _ => by
    show S.set n [.cmark, v4] = S
    exact set_same a) (fun o => worths_bad hnt)
  refine ⟨d, S', ?_, r, I.keep hk hl⟩
  have e1 : ev { PL D (k + 3) with own := [(0, n)], blk := false } [some v4] (.call "are_worths" [(.var 0), (.cst .non)]) S = .exc "InvalidNumber" d S' := by
    simp only [ev, evv, dflt, evAs, rdV, E.bind, getO, E.pure, List.getElem?_cons_zero, Option.getD_some]
    exact e
  show endLm [(0, n)] [some v4] (ev { PL D (k + 3) with own := [(0, n)], blk := false } [some v4] (.call "are_worths" [(.var 0), (.cst .non)]) S) = _
  rw [e1]
  simp only [endLm, es]
theorem clo2_ok (hnt : NT nt) (I : Iv n m B v4 vw nt w S) : ∃ d S', (PL D (k + 4)).lam 2 [n + 1, n] [vw, v4] [] S = .exc "InvalidNumber" d S' ∧ Rp B S' d nt ∧ Iv n m B v4 vw nt w S' := by
  have al : AL ⟨none, []⟩ B S [mkP nt, mkP w] [v4, vw] := .cons I.r4 (.cons I.r2 .nil)
  obtain ⟨d, S', e, es, r, hk, hl, _, _⟩ := lam_bad (k := k) (own := [(0, n + 1), (1, n)]) (τ := [some vw, some v4]) I al (fun S a b => by
    show (S.set n [.cmark, v4]).set (n + 1) [.cmark, vw] = S
    rw [set_same a, set_same b]) (fun o => worths_bad hnt)
  refine ⟨d, S', ?_, r, I.keep hk hl⟩
  have e1 : ev { PL D (k + 3) with own := [(0, n + 1), (1, n)], blk := false } [some vw, some v4] (.call "are_worths" [(.var 1), (.var 0)]) S = .exc "InvalidNumber" d S' := by
    simp only [ev, evv, dflt, evAs, rdV, E.bind, getO, E.pure, List.getElem?_cons_zero, List.getElem?_cons_succ, Option.getD_some]
    exact e
  show endLm [(0, n + 1), (1, n)] [some vw, some v4] (ev { PL D (k + 3) with own := [(0, n + 1), (1, n)], blk := false } [some vw, some v4] (.call "are_worths" [(.var 1), (.var 0)]) S) = _
  rw [e1]
  simp only [endLm, es]
theorem isE_pay : D.isE "InvalidNumber" "PayError" = some true := by kernel_rfl
/-- the exception is caught -/
theorem err_ok {j : Nat} {rs : List Nat} (h : ∃ d S', cloE (PL D (k + 4)) j rs [] S = .exc "InvalidNumber" d S' ∧ Rp B S' d nt ∧ Iv n m B v4 vw nt w S') : Ok ((PL D (k + 5)).fn "_law_error" [.clo j rs] S) fun v S' => ∃ d, v = .exc "InvalidNumber" d ∧ Rp B S' d nt ∧ Iv n m B v4 vw nt w S' := by
  obtain ⟨d, S', e, r, I⟩ := h
  rw [f_law_error]
  refine w_PL rfl rfl (by decide) ?_
  have e1 : exS (PL D (k + 4)) (.tryc (.cval (.var 0) []) "PayError" 1 2) [some (.clo j rs), some .non, none] S = .ok (.nx, [some (.clo j rs), some (.exc "InvalidNumber" d), none]) S' := by
    have e2 : evT (PL D (k + 4)) [some (.clo j rs), some .non, none] (.cval (.var 0) []) S = .exc "InvalidNumber" d S' := by
      simp only [evT, ev, evv, dflt, evAs, rdV, E.bind, getO, E.pure, ckF, quietE, cvalE, List.getElem?_cons_zero, Option.getD_some]
      rw [callE_no own_PL]
      exact e
    simp only [exS, tryM, e2, isE_PL, isE_pay]
    rfl
  have eb : d_law_error.body = [(.asg (.nm 1) (.cst .non)), (.tryc (.cval (.var 0) []) "PayError" 1 2), (.ret (.var 1))] := rfl
  rw [eb]
  have es : d_law_error.size - d_law_error.pars = 2 := rfl
  rw [es]
  rw [s_cons, s_asg]
  simp only [w_cst, cstV]
  refine ⟨by simp, ?_⟩
  show Ok (exSs (PL D (k + 4)) [(.tryc (.cval (.var 0) []) "PayError" 1 2), (.ret (.var 1))] [some (.clo j rs), some .non, none] S) _
  rw [s_cons, e1]
  simp
  exact ⟨r, I⟩
end K59
namespace K59
open PySem L2 TQ
variable {n m k : Nat} {B : List Nat} {v4 vw : Val} {nt w : TQ.D} {S S' : Sto}
theorem cell_of {v : Val} {d : TQ.D} {j : Nat} (h : S[j]? = some [.cmark, v]) (r : Rp B S v d) : cellV S j = some v := by
  unfold cellV
  rw [h]
  cases v <;> first | rfl | skip
  obtain ⟨i, r⟩ := r
  cases i <;> simp [rp] at r
theorem cal0 (hnt : NT nt) (I : Iv n m B v4 vw nt w S) : ∃ d S', cloE (PL D (k + 4)) 0 [n] [] S = .exc "InvalidNumber" d S' ∧ Rp B S' d nt ∧ Iv n m B v4 vw nt w S' := by
  have : cloE (PL D (k + 4)) 0 [n] [] S = (PL D (k + 4)).lam 0 [n] [v4] [] S := by
    simp only [cloE, mapO, cell_of I.c4 I.r4]
  rw [this]; exact clo0_ok hnt I
theorem cal1 (hnt : NT nt) (I : Iv n m B v4 vw nt w S) : ∃ d S', cloE (PL D (k + 4)) 1 [n] [] S = .exc "InvalidNumber" d S' ∧ Rp B S' d nt ∧ Iv n m B v4 vw nt w S' := by
  have : cloE (PL D (k + 4)) 1 [n] [] S = (PL D (k + 4)).lam 1 [n] [v4] [] S := by
    simp only [cloE, mapO, cell_of I.c4 I.r4]
  rw [this]; exact clo1_ok hnt I
theorem cal2 (hnt : NT nt) (I : Iv n m B v4 vw nt w S) : ∃ d S', cloE (PL D (k + 4)) 2 [n + 1, n] [] S = .exc "InvalidNumber" d S' ∧ Rp B S' d nt ∧ Iv n m B v4 vw nt w S' := by
  have : cloE (PL D (k + 4)) 2 [n + 1, n] [] S = (PL D (k + 4)).lam 2 [n + 1, n] [vw, v4] [] S := by
    simp only [cloE, mapO, cell_of I.c4 I.r4, cell_of I.c2 I.r2]
  rw [this]; exact clo2_ok hnt I
theorem isE_inv : D.isE "InvalidNumber" "InvalidNumber" = some true := by kernel_rfl
theorem isE_val : D.isE "InvalidNumber" "ValueError" = some true := by kernel_rfl
theorem refused_ok {j : Nat} {rs : List Nat} (hnt : NT nt) (I : Iv n m B v4 vw nt w S) (h : ∃ d S', cloE (PL D (k + 4)) j rs [] S = .exc "InvalidNumber" d S' ∧ Rp B S' d nt ∧ Iv n m B v4 vw nt w S') : Ok ((PL D (k + 6)).fn "_law_refused" [.clo j rs, .int 0, v4] S) fun v S' => v = .bl true ∧ Iv n m B v4 vw nt w S' := by
  rw [f_law_refused]
  refine w_PL rfl rfl (by decide) ?_
  simp [d_law_refused, cstV]
  refine (err_ok h).mono fun v S1 hv => ?_
  obtain ⟨d, rfl, r, I1⟩ := hv
  have l1 : lineOk 1 = true := rfl
  have i1 : isiAny (PL D (k + 5)) (.exc "InvalidNumber" d) ["InvalidNumber"] = some true := by simp [isiAny, isiV, isE_inv]
  have i2 : isiAny (PL D (k + 5)) (.exc "InvalidNumber" d) ["ValueError"] = some true := by simp [isiAny, isiV, isE_val]
  simp [i1, l1]
  refine w_lc (fun c nn i acc S => c = .rng 0 1 ∧ nn = 1 ∧ S = S1 ++ [[Val.bl true]] ∧ acc = (if i = 0 then [] else [Val.bl true])) ?_ ?_ ?_ ?_
  · have i62 : in62 1 = true := by decide
    simp [lenS, i62]
  · rintro c nn i acc S hi ⟨rfl, rfl, _⟩
    rfl
  · rintro c nn i acc S hi ⟨rfl, rfl, rfl, rfl⟩
    have : i = 0 := by omega
    subst this
    refine ⟨_, _, rfl, rfl, ?_⟩
    have eq0 : ∀ S, cmpS .eq S (.int 0) (.int 0) = some true := fun S => rfl
    simp [wipeT, eq0]
  · rintro c nn acc S ⟨rfl, rfl, rfl, rfl⟩
    refine ⟨rfl, ?_⟩
    have x1 : (S1 ++ [[Val.bl true]] ++ [[Val.bl true]])[S1.length]? = some [Val.bl true] := by simp
    have x2 : (S1 ++ [[Val.bl true]] ++ [[Val.bl true]])[(S1 ++ [[Val.bl true]]).length]? = some [Val.bl true] := by simp
    have I2 : Iv n m B v4 vw nt w (S1 ++ [[Val.bl true]] ++ [[Val.bl true]]) := I1.keep (fun j xs e => by
      have := (List.getElem?_eq_some_iff.mp e).1
      rw [List.append_assoc, List.getElem?_append_left this]; exact e) (by simp)
    have r2 : Rp B (S1 ++ [[Val.bl true]] ++ [[Val.bl true]]) d nt := r.kx (cl := []) (A := []) (by rw [List.append_assoc]; exact Kx.app _) (by simp)
    show cmpS Cm.eq (S1 ++ [[Val.bl true]] ++ [[Val.bl true]]) _ _ = _ ∧ _ ∧ Ok (fldE _ _ (S1 ++ [[Val.bl true]] ++ [[Val.bl true]])) _
    generalize (S1 ++ [[Val.bl true]] ++ [[Val.bl true]]) = S2 at *
    have rp : biD "repr" [nt] = some (.str nt.shown) ∧ cmpD .eq (.str nt.shown) (.str nt.shown) = some true := by
      unfold NT at hnt
      simp only [List.mem_cons, List.not_mem_nil, or_false] at hnt
      rcases hnt with rfl | rfl | rfl | rfl | rfl | rfl <;> exact ⟨by kernel_rfl, by kernel_rfl⟩
    have b : ∀ {v : Val}, Rp B S2 v nt → biRepr [v] S2 = .ok (.str nt.shown) S2 := by
      intro v hv
      rcases bi_okD (A := B) (.cons hv.lk .nil) rp.1 with ⟨z, ez, rz, _⟩ | ⟨_, _, z, _⟩
      · rw [rz.str] at ez; exact ez
      · cases z
    refine ⟨cmp_ok (A := B) (x := .list [.bool true]) (y := .list [.bool true]) ⟨_, _, rfl, x1, .cons ⟨1, rfl⟩ .nil⟩ ⟨_, _, rfl, x2, .cons ⟨1, rfl⟩ .nil⟩ rfl, i2, ?_⟩
    show Ok (biRepr [d] S2) _
    rw [b r2]
    show Ok (biRepr [v4] S2) _
    rw [b I2.r4]
    exact ⟨cmp_ok (A := B) (x := .str nt.shown) (y := .str nt.shown) ⟨1, rfl⟩ ⟨1, rfl⟩ rp.2, I2⟩
theorem allrefd (hnt : NT nt) (I : Iv n m B v4 vw nt w S) : Ok ((PL D (k + 7)).fn "_law_all_refused" [.ref m, .int 0, v4] S) fun v _ => v = .bl true := by
  rw [f_law_all_refused]
  refine w_PL rfl rfl (by decide) ?_
  simp [d_law_all_refused, cstV]
  refine w_lc (fun c nn i acc S => c = .lst (.ref m) ∧ nn = 3 ∧ acc = [] ∧ Iv n m B v4 vw nt w S) ?_ ?_ ?_ ?_
  · simp
    exact ⟨_, rfl, _, by simp [Src.len, itemsOf, I.m], rfl, rfl, I⟩
  · rintro c nn i acc S hi ⟨rfl, rfl, rfl, I⟩
    simp [Src.len, itemsOf, I.m]
  · rintro c nn i acc S hi ⟨rfl, rfl, rfl, I⟩
    have key : ∀ {j : Nat} {rs : List Nat}, (∃ d S', cloE (PL D (k + 4)) j rs [] S = .exc "InvalidNumber" d S' ∧ Rp B S' d nt ∧ Iv n m B v4 vw nt w S') → Ok (evIf (PL D (k + 6)).inn [some (.ref m), some (.int 0), some v4, some (.clo j rs)] [(.nt (.call "_law_refused" [(.var 3), (.var 1), (.var 2)]))] S) fun b S1 => if b = true then Ok (ev (PL D (k + 6)).inn [some (.ref m), some (.int 0), some v4, some (.clo j rs)] (.cst (.int 1)) S1) (fun x S2 => Src.lst (.ref m) = .lst (.ref m) ∧ 3 = 3 ∧ [] ++ [x] = [] ∧ Iv n m B v4 vw nt w S2) else Src.lst (.ref m) = .lst (.ref m) ∧ 3 = 3 ∧ ([] : List Val) = [] ∧ Iv n m B v4 vw nt w S1 := by
      intro j rs h
      simp
      refine (refused_ok hnt I h).mono fun v S2 hv => ?_
      obtain ⟨rfl, I2⟩ := hv
      exact ⟨rfl, I2⟩
    have hc : i = 0 ∨ i = 1 ∨ i = 2 := by omega
    rcases hc with rfl | rfl | rfl
    · exact ⟨.clo 0 [n], _, by simp [Src.get, itemsOf, I.m], rfl, key (cal0 hnt I)⟩
    · exact ⟨.clo 1 [n], _, by simp [Src.get, itemsOf, I.m], rfl, key (cal1 hnt I)⟩
    · exact ⟨.clo 2 [n + 1, n], _, by simp [Src.get, itemsOf, I.m], rfl, key (cal2 hnt I)⟩
  · rintro c nn acc S ⟨rfl, rfl, rfl, I⟩
    refine ⟨rfl, rfl, ?_⟩
    have x1 : (S ++ [([] : List Val)] ++ [([] : List Val)])[S.length]? = some [] := by simp
    have x2 : (S ++ [([] : List Val)] ++ [([] : List Val)])[(S ++ [([] : List Val)]).length]? = some [] := by simp
    exact cmp_ok (A := B) (x := .list []) (y := .list []) ⟨_, _, rfl, x1, .nil⟩ ⟨_, _, rfl, x2, .nil⟩ rfl
end K59
namespace K59
open PySem L2 TQ
def QA (n : Nat) : FlP × TQ.Env → Om → Prop := fun r o' => ∃ t w, T3 t ∧ WV t w ∧ n ≤ o'.n + 62 ∧ r = (.nx, [some .gen, some (mkP (.int (t : Nat))), some (mkP w), none, none, none, none, none, none, none, none, none])
theorem blockA {k n : Nat} (hn : 100 ≤ n) (s : Nat → Int) : okx (pxSs (q (k + 8)) (d_law_good.body.take 2) [some .gen, none, none, none, none, none, none, none, none, none, none, none] ⟨s, n⟩) (QA n) Xf := by
  simp [d_law_good]
  refine (betw_ok (a := 1) (c := 3) (by omega) (by omega) (by show 0 < n; omega)).monoQ fun d o1 hd => ?_
  obtain ⟨e1, t, rfl, t1, t3⟩ := hd
  have e1 : o1.n + 1 = n := e1
  obtain ⟨t, rfl⟩ : ∃ u : Nat, t = (u : Int) := ⟨t.toNat, by omega⟩
  have ht : T3 t := by unfold T3; omega
  refine (worths_draw ht (by omega)).monoQ fun d o2 hd => ?_
  exact ⟨t, d, ht, hd.2, by omega, rfl⟩
/-- the three calls are refused -/
theorem allref_ok {k m n : Nat} {S : Sto} {B : List Nat} {v4 vw : Val} {nt w : TQ.D} (hnt : NT nt) (hm : S[m]? = some [.clo 0 [n], .clo 1 [n], .clo 2 [n + 1, n]]) (hm1 : m ≠ n) (hm2 : m ≠ n + 1) (h4 : S[n]? = some [.cmark, v4]) (h2 : S[n + 1]? = some [.cmark, vw]) (r4 : Rp B S v4 nt) (r2 : Rp B S vw w) (hB : ∀ j ∈ B, j < S.length) (hn : n ∈ B) (hn1 : n + 1 ∈ B) : Ok ((PL D (k + 8)).fn "_law_all_refused" [.ref m, .int 0, v4] S) fun v _ => v = .bl true := by
  exact allrefd (k := k + 1) hnt ⟨hm, h4, h2, r4, r2, hB⟩
theorem good_ok {k p n : Nat} {S : Sto} (hG : Gn ⟨some p, []⟩ S n) (hn : 100 ≤ n) : Ok ((PL D (k + 9)).fn "_law_good" [.ref p] S) fun v _ => v = .bl true := by
  rw [f_law_good]
  have hz : d_law_good.pars ≤ d_law_good.size := by decide
  refine w_runC (d := d_law_good) rfl rfl rfl hz ?_
  generalize hP0 : ({ PL D (k + 8) with own := places [4, 2] S.length, blk := false } : Pr) = P0
  have hp : p < S.length := by
    rcases hG with h | ⟨k, _, _, _, e, e2, _⟩
    · omega
    · cases e; exact (List.getElem?_eq_some_iff.mp e2).1
  obtain ⟨g, hg⟩ : ∃ g : GC, g = ⟨some p, [S.length, S.length + 1]⟩ := ⟨_, rfl⟩
  obtain ⟨B, hBe⟩ : ∃ B : List Nat, B = [p, S.length, S.length + 1] := ⟨_, rfl⟩
  have C : CxP g (q (k + 8)) P0 := hP0 ▸ CxP.of hH hF (by subst hg; intro k hk; cases hk; simp; omega) (by subst hg; intro q hq; simp [places] at hq; rcases hq with rfl | rfl <;> simp)
  have Cn : CxP ⟨none, [S.length, S.length + 1]⟩ (q (k + 8)) P0 := hP0 ▸ CxP.of hH hF (by intro k hk; cases hk) (by intro q hq; simp [places] at hq; rcases hq with rfl | rfl <;> simp)
  have hblk : P0.blk = false := by rw [← hP0]
  have S0len : (S ++ List.replicate [4, 2].length dcell).length = S.length + 2 := by simp
  have hB0 : Bd g B [] (S ++ List.replicate [4, 2].length dcell) := ⟨by subst hg hBe; intro k hk; simp [GC.toList] at hk ⊢; omega, by subst hBe; intro k hk; rw [S0len]; simp at hk; omega, by simp, by simp⟩
  have G0 : Gn g (S ++ List.replicate [4, 2].length dcell) n := by
    have : Gn g S n := by subst hg; exact hG
    exact this.app _
  have al : AL g B (S ++ List.replicate [4, 2].length dcell) [.gen] [.ref p] := .cons ⟨p, by subst hg; rfl, rfl⟩ .nil
  have eb : d_law_good.body = d_law_good.body.take 2 ++ d_law_good.body.drop 2 := (List.take_append_drop 2 _).symm
  rw [eb]
  refine s_app ?_
  refine (block_at C (l := d_law_good.body.take 2) (by simp [d_law_good, FOks, FOk]) hB0 (ER.entry al 11) G0 (blockA hn)).mono fun r S1 h => ?_
  obtain ⟨qq, n1, K1, G1, ⟨M1, m1, hB1, hE1, hf⟩, hq⟩ := h
  obtain ⟨t, w, ht, hw, hn1, rfl⟩ := hq fun _ => 0
  have hn1 : n ≤ n1 + 62 := hn1
  obtain ⟨f, τ1⟩ := r
  cases f <;> first | exact hf.elim | skip
  obtain ⟨a0, a1, a2, a3, a4, a5, a6, a7, a8, a9, a10, a11, eτ⟩ := len12 (show τ1.length = 12 from hE1.len)
  have eτ : τ1 = [a0, a1, a2, a3, a4, a5, a6, a7, a8, a9, a10, a11] := eτ
  subst eτ
  obtain ⟨v0, x0, r0, _⟩ := hE1.slot 0 .gen rfl
  obtain ⟨v1, x1, r1, _⟩ := hE1.slot 1 (mkP (.int t)) rfl
  obtain ⟨vw, x2, r2, _⟩ := hE1.slot 2 (mkP w) rfl
  simp at x0 x1 x2
  subst x0 x1 x2
  obtain ⟨p', hp', rfl⟩ := r0
  have hp' : p' = p := by rw [hg] at hp'; simp at hp'; exact hp'.symm
  subst hp'
  have r1 : Rp (B ++ M1) S1 v1 (.int t) := r1
  cases r1.int
  have rw1 : Rp B S1 vw w := Rp.sub r2 fun j hj => List.mem_append_left _ hj
  have hB1 : Bd g B [] S1 := hB1.sub (by simp)
  clear hE1 m1 hf r2 r1 hq
  obtain ⟨rep1, rep2⟩ := hw.rep ht
  have e3 : d_law_good.body.drop 2 = (.par3 6 7 8 (.bif "repr" [(.var 2)]) (.call "_law_things_lots" [(.var 1)]) (.call "lots_in" [(.var 1)])) :: d_law_good.body.drop 3 := rfl
  have hbr : biE "repr" [vw] S1 = .ok (.str w.shown) S1 := by
    rcases bi_okD (A := B) (.cons (Rp.lk rw1) .nil) rep1 with ⟨z, ez, rz, _⟩ | ⟨_, _, z, _⟩
    · rw [ez, rz.str]
    · cases z
  rw [e3]
  generalize hrest : d_law_good.body.drop 3 = rest
  show Ok (exSs _ _ _ S1) _
  rw [s_cons, s_par3]
  simp [w_callO, -bi_repr]
  rw [hbr]
  simp only [ok_ok]
  have hBs : ∀ k ∈ B, k < S1.length := hB1.BS
  refine (call_ownD C hblk (us := [mkP (.int t)]) hB1.gB hBs (.cons ⟨1, rfl⟩ .nil) G1 (Q := fun d o' => d = .list (lotsD t) ∧ o'.n = n1) (fun s => by rw [llots_ok ht]; exact ⟨rfl, rfl⟩)).mono fun vd S2 h => ?_
  obtain ⟨d2, n2, K2, G2, rd, q2⟩ := h
  obtain ⟨rfl, hn2⟩ := q2 fun _ => 0
  have hn2 : n2 = n1 := hn2
  subst hn2
  have LL1 : S.length + 2 ≤ S1.length := by have := K1.1; rw [S0len] at this; exact this
  have LL2 := K2.1
  have G2' : Gn (⟨none, [S.length, S.length + 1]⟩ : GC) S2 0 := .inl rfl
  refine (call_ownD Cn hblk (B := List.range S2.length) (us := [mkP (.int t)]) (fun k hk => by simp [GC.toList] at hk; simp; omega) (fun k hk => by simpa using hk) (.cons ⟨1, rfl⟩ .nil) G2' (Q := fun d o' => d = .list (lotsD t)) (fun s => by rw [lotsin_ok ht]; exact rfl)).mono fun vt S3 h => ?_
  obtain ⟨d3, n3, K3, _, rt, q3⟩ := h
  have q3 := q3 fun _ => 0
  subst q3
  have K3 : Kx [S.length, S.length + 1] [S.length, S.length + 1] S2 S3 := K3
  obtain ⟨k8, b0, b1, rest8, rfl, h8, h0, h1, e8, e0, e1, n80, n81, n01, hr8⟩ := told_ok ht rt
  have eB : ∀ j ∈ B, j < S2.length := fun j hj => Nat.lt_of_lt_of_le (hBs j hj) LL2
  have eB' : ∀ j ∈ B, j ∈ List.range S2.length := fun j hj => by simpa using eB j hj
  have ecB : ∀ j ∈ [S.length, S.length + 1], j ∈ B := fun j hj => by rw [hBe]; simp at hj ⊢; omega
  have egB : ∀ j ∈ g.toList, j ∈ B := hB1.gB
  have rw3 : Rp B S3 vw w := (rw1.kx K2 egB).kx K3 ecB
  have rd3 : Rp B S3 vd (.list (lotsD t)) := rd.kx K3 ecB
  have rt3 : Rp B S3 (.ref k8) (.list (lotsD t)) := rt.sub eB'
  have G3 : Gn g S3 n2 := G2.kx K3 (fun k hk => by rw [hp'] at hk; cases hk; simp; omega)
  have hB3 : Bd g B [] S3 := hB1.up (Nat.le_trans LL2 K3.1)
  have er3 : ER g B [] S3 [some (Val.ref p'), some (Val.int t), some vw, a3, a4, a5, some (Val.str w.shown), some vd, some (.ref k8), a9, a10, a11] [some .gen, some (mkP (.int t)), some (mkP w), none, none, none, some (mkP (.str w.shown)), some (mkP (.list (lotsD t))), some (mkP (.list (lotsD t))), none, none, none] :=
    EL.er (.sl ⟨p', hp', rfl⟩ (.sl ⟨1, rfl⟩ (.sl rw3 (.sk (.sk (.sk (.sl ⟨1, rfl⟩ (.sl rd3 (.sl rt3 (.sk (.sk (.sk .nil))))))))))))
  subst hrest
  have e5 : d_law_good.body.drop 3 = (d_law_good.body.drop 3).take 2 ++ d_law_good.body.drop 5 := rfl
  rw [e5]
  refine s_app ?_
  obtain ⟨⟨f, τ2⟩, S4, ex4, h⟩ := (block_at C (l := (d_law_good.body.drop 3).take 2) (by simp [d_law_good, FOks, FOk]) hB3 er3 G3 (fun s => blockB (by omega) ht hw s)).ex
  rw [ex4]
  obtain ⟨q4, n4, K4, G4, ⟨M4, m4, hB4, hE4, hf⟩, hq4⟩ := h
  obtain ⟨hn4, x', y', rfl⟩ := hq4 fun _ => 0
  have hn4 : n2 ≤ n4 + 16 := hn4
  cases f <;> first | exact hf.elim | skip
  have ea : asgL ((d_law_good.body.drop 3).take 2) = [3, 9] := by simp [d_law_good, asgL, asgS, Pat.slots]
  have kp := keep_l _ ex4
  rw [ea] at kp
  obtain ⟨c0, c1, c2, c3, c4, c5, c6, c7, c8, c9, c10, c11, eτ2⟩ := len12 (show τ2.length = 12 from hE4.len)
  have eτ2 : τ2 = [c0, c1, c2, c3, c4, c5, c6, c7, c8, c9, c10, c11] := eτ2
  subst eτ2
  have j0 := kp 0 (by decide)
  have j1 := kp 1 (by decide)
  have j2 := kp 2 (by decide)
  have j6 := kp 6 (by decide)
  have j7 := kp 7 (by decide)
  have j8 := kp 8 (by decide)
  simp at j0 j1 j2 j6 j7 j8
  subst j0 j1 j2 j6 j7 j8
  clear hE4 kp m4 hf hq4 ex4 er3
  have aR : ∀ j ∈ Al g [], j ∈ List.range S2.length := fun j hj => eB' j (egB j (by simpa [Al] using hj))
  have f8 : S4[k8]? = some (.ref b0 :: .ref b1 :: rest8) := K4.get e8 (fun z => h8 (aR _ z)) (fun ns => by show Val.ref b0 :: Val.ref b1 :: hideL ns rest8 = _; rw [hr8.pn ns])
  have f0 : S4[b0]? = some [] := K4.get e0 (fun z => h0 (aR _ z)) (fun ns => rfl)
  have f1 : S4[b1]? = some [.int 0] := K4.get e1 (fun z => h1 (aR _ z)) (fun ns => rfl)
  have fr : RpL (k8 :: b0 :: b1 :: List.range S2.length) S4 rest8 ((lotsD t).drop 2) := hr8.kx K4 fun j hj => by simp [List.mem_range.mp (aR j hj)]
  have l0 := (List.getElem?_eq_some_iff.mp f0).1
  have l1 := (List.getElem?_eq_some_iff.mp f1).1
  have w3' : Rp (B ++ [b0, b1]) S4 vw w := by
    have u2 : Rp (B ++ [b0, b1]) S2 vw w := rw1.kx' K2 egB fun j hj => by
      rcases List.mem_append.mp hj with hj | hj
      · exact .inl hj
      · right
        simp at hj
        rcases hj with rfl | rfl
        · have := h0; simp at this; omega
        · have := h1; simp at this; omega
    exact (u2.kx K3 fun j hj => List.mem_append_left _ (ecB j hj)).kx K4 fun j hj => List.mem_append_left _ (egB j (by simpa [Al] using hj))
  have hB4' : Bd g B [] S4 := hB3.up K4.1
  have e6 : d_law_good.body.drop 5 = (.ex (.mth "append" (.ix (.var 8) (.cst (.int 0))) [(.cst (.str "mark"))])) :: (.ex (.mth "append" (.ix (.var 8) (.cst (.int 1))) [(.cst (.str "mark"))])) :: d_law_good.body.drop 7 := rfl
  rw [e6]
  generalize hrest : d_law_good.body.drop 7 = rest
  show Ok (exSs P0 _ _ S4) _
  have z0 : L2.atI (Val.ref b0 :: Val.ref b1 :: rest8) 0 = some (.ref b0) := atI0
  have z1 : L2.atI (Val.ref b0 :: Val.ref b1 :: rest8) 1 = some (.ref b1) := atI1
  have ck : ∀ {b : Nat} {S : Sto} {Q : Unit → Sto → Prop}, Ok (ckM "append" (.ref b) S) Q ↔ Q () S := Iff.rfl
  have ap : ∀ {b : Nat} {v : Val} {xs : List Val} {S : Sto} {Q : Val → Sto → Prop}, S[b]? = some xs → xs.length < sizeLine → Q .non (S.set b (xs ++ [v])) → Ok (mthE "append" (.ref b) [v] S) Q := by
    intro b v xs S Q e hl hq
    show Ok (mAppend (.ref b) [v] S) Q
    simp only [mAppend, e, hl, if_true]
    exact hq
  rw [s_cons, s_ex, w_mth]
  simp [cstV, f8, z0, ck]
  refine ap f0 (by decide) ?_
  have g8 : (S4.set b0 ([] ++ [.str "mark"]))[k8]? = some (.ref b0 :: .ref b1 :: rest8) := by rw [List.getElem?_set_ne (Ne.symm n80)]; exact f8
  have g1 : (S4.set b0 ([] ++ [.str "mark"]))[b1]? = some [.int 0] := by rw [List.getElem?_set_ne n01]; exact f1
  refine (ix_ok' (show seqOf _ (.ref k8) = some _ from g8)).mpr ⟨_, z1, ?_⟩
  rw [ck]
  refine ap g1 (by decide) ?_
  have fmk := marked_ok (B := B) ht eB' h8 h0 h1 f8 f0 f1 n80 n81 n01 fr
  have K5 : Kx [] [b0, b1] S4 ((S4.set b0 [.str "mark"]).set b1 [.int 0, .str "mark"]) := (Kx.set (by simp) _).trans (Kx.set (A := [b0, b1]) (by simp) _) fun j hj => .inl hj
  have w5 : Rp B ((S4.set b0 [.str "mark"]).set b1 [.int 0, .str "mark"]) vw w := (w3'.kx K5 fun j hj => List.mem_append_right _ hj).sub fun j hj => List.mem_append_left _ hj
  have G5 : Gn g ((S4.set b0 [.str "mark"]).set b1 [.int 0, .str "mark"]) n4 := G4.kx K5 (fun k hk => by
    rw [hp'] at hk; cases hk
    have q0 := h0; have q1 := h1
    simp at q0 q1 ⊢
    omega)
  have hB5 : Bd g B [] ((S4.set b0 [.str "mark"]).set b1 [.int 0, .str "mark"]) := hB4'.up K5.1
  show Ok (exSs P0 rest _ ((S4.set b0 [.str "mark"]).set b1 [.int 0, .str "mark"])) _
  generalize ((S4.set b0 [.str "mark"]).set b1 [.int 0, .str "mark"]) = S5 at *
  have er5 : ER g B [] S5 [some (Val.ref p'), some (Val.int t), some vw, c3, c4, c5, some (Val.str w.shown), some vd, some (.ref k8), c9, c10, c11] [some .gen, some (mkP (.int t)), some (mkP w), none, none, none, some (mkP (.str w.shown)), none, some (mkP (.list (markD t))), none, none, none] :=
    EL.er (.sl ⟨p', hp', rfl⟩ (.sl ⟨1, rfl⟩ (.sl w5 (.sk (.sk (.sk (.sl ⟨1, rfl⟩ (.sk (.sl fmk (.sk (.sk (.sk .nil))))))))))))
  subst hrest
  have e7 : d_law_good.body.drop 7 = (d_law_good.body.drop 7).take 2 ++ d_law_good.body.drop 9 := rfl
  rw [e7]
  refine s_app ?_
  obtain ⟨⟨f, τ3⟩, S6, ex6, h⟩ := (block_at C (l := (d_law_good.body.drop 7).take 2) (by simp [d_law_good, FOks, FOk]) hB5 er5 G5 (fun s => blockC (by omega) ht hw s)).ex
  rw [ex6]
  obtain ⟨q6, n6, K6, G6, ⟨M6, m6, hB6, hE6, hf⟩, hq6⟩ := h
  obtain ⟨hn6, nt, u0, u1, u2, u3, u6, u7, u8, u9, u10, u11, hnt, rfl⟩ := hq6 fun _ => 0
  cases f <;> first | exact hf.elim | skip
  have ea6 : asgL ((d_law_good.body.drop 7).take 2) = [4] := by simp [d_law_good, asgL, asgS, Pat.slots]
  have kp := keep_l _ ex6
  rw [ea6] at kp
  obtain ⟨v4, y4, r4, _⟩ := hE6.slot 4 (mkP nt) rfl
  obtain ⟨d0, d1, d2, d3, d4, d5, d6, d7, d8, d9, d10, d11, eτ3⟩ := len12 (show τ3.length = 12 from hE6.len)
  have eτ3 : τ3 = [d0, d1, d2, d3, d4, d5, d6, d7, d8, d9, d10, d11] := eτ3
  subst eτ3
  have j2 := kp 2 (by decide)
  simp at j2 y4
  subst j2 y4
  have hv4 : Rp B S6 v4 nt := Rp.sub r4 fun j hj => List.mem_append_left _ hj
  have w6 : Rp B S6 vw w := w5.kx K6 fun j hj => egB j (by simpa [Al] using hj)
  clear hE6 kp m6 hf hq6 ex6 er5 r4
  have e9 : d_law_good.body.drop 9 = [(.asg (.nm 5) (.lst [(.lam 0 [4])])), (.ex (.mth "append" (.var 5) [(.lam 1 [4])])), (.ex (.mth "append" (.var 5) [(.lam 2 [2, 4])]))] := rfl
  rw [e9]
  have lk4 : P0.own.lookup 4 = some S.length := by rw [← hP0]; rfl
  have lk2 : P0.own.lookup 2 = some (S.length + 1) := by rw [← hP0]; rfl
  have hfn : P0.fn = (PL D (k + 8)).fn := by rw [← hP0]
  have l1' : lineOk 1 = true := rfl
  simp [lamE, hblk, lk4, lk2, l1', ck]
  refine ap (b := S6.length) (xs := [.clo 0 [S.length]]) (by simp) (show 1 < sizeLine by decide) ?_
  refine ap (b := S6.length) (xs := [.clo 0 [S.length], .clo 1 [S.length]]) (by simp) (show 2 < sizeLine by decide) ?_
  have LL6 : S.length + 2 ≤ S6.length := by
    have q1 := K6.1; have q2 := K5.1; have q3 := K4.1; have q4 := K3.1
    omega
  have eS : ((S6 ++ [[Val.clo 0 [S.length]]]).set S6.length ([.clo 0 [S.length]] ++ [.clo 1 [S.length]])).set S6.length ([.clo 0 [S.length], .clo 1 [S.length]] ++ [.clo 2 [S.length + 1, S.length]]) = S6 ++ [[.clo 0 [S.length], .clo 1 [S.length], .clo 2 [S.length + 1, S.length]]] := by
    simp [List.set_append]
  rw [eS, hfn]
  unfold callE
  rw [hblk]
  simp only [Bool.false_eq_true, if_false]
  have hown : P0.own = [(4, S.length), (2, S.length + 1)] := by rw [← hP0]; rfl
  rw [hown]
  have sL : (S6 ++ [[Val.clo 0 [S.length], .clo 1 [S.length], .clo 2 [S.length + 1, S.length]]]).length = S6.length + 1 := by simp
  have es : sync [(4, S.length), (2, S.length + 1)] [d0, d1, some vw, d3, some v4, some (Val.ref S6.length), d6, d7, d8, d9, d10, d11] (S6 ++ [[Val.clo 0 [S.length], Val.clo 1 [S.length], Val.clo 2 [S.length + 1, S.length]]]) = ((S6 ++ [[Val.clo 0 [S.length], Val.clo 1 [S.length], Val.clo 2 [S.length + 1, S.length]]]).set (S.length + 1) [.cmark, vw]).set S.length [.cmark, v4] := rfl
  rw [es]
  have K7 : Kx [] [S.length, S.length + 1] S6 (((S6 ++ [[Val.clo 0 [S.length], .clo 1 [S.length], .clo 2 [S.length + 1, S.length]]]).set (S.length + 1) [.cmark, vw]).set S.length [.cmark, v4]) := ((Kx.app _).trans (Kx.set (A := [S.length, S.length + 1]) (by simp) _) fun j hj => .inl hj).trans (Kx.set (A := [S.length, S.length + 1]) (by simp) _) fun j hj => .inl hj
  refine allref_ok (n := S.length) (B := B) (w := w) hnt ?_ (by omega) (by omega) ?_ ?_ (hv4.kx K7 ecB) (w6.kx K7 ecB) (fun j hj => ?_) (ecB _ (by simp)) (ecB _ (by simp))
  · rw [List.getElem?_set_ne (by omega), List.getElem?_set_ne (by omega)]; simp
  · rw [List.getElem?_set_self (by simp; omega)]
  · rw [List.getElem?_set_ne (by omega), List.getElem?_set_self (by simp; omega)]
  · simp
    have := eB j hj
    have q1 := K6.1; have q2 := K5.1; have q3 := K4.1; have q4 := K3.1
    omega
end K59
namespace K59
open PySem L2 TQ
theorem cell_ok {k : Nat} {S : Sto} {ns : List Int} {i : Nat} (hn : ns.length ≤ 63) : Ok ((PL D (k + 1)).fn "_law_cell" [.scr (ns.map .int), .int i] S) fun v S' => ∃ z : Int, v = .int z := by
  rw [f_law_cell]
  refine w_PL rfl rfl (by decide) ?_
  simp [d_law_cell, cstV, lenS, itemsOf]
  by_cases h : i < ns.length
  · refine .inr ⟨h, .int ns[i], ?_, _, rfl⟩
    rw [atI_nat (by simpa using h)]
    simp
  · refine .inl ⟨by omega, ?_⟩
    have e : cutL (ns.map Val.int) none (some 1) = (cutL ns none (some 1)).map Val.int := by
      unfold cutL
      simp [List.map_take, List.map_drop]
    have hl : (cutL ns none (some 1)).length ≤ ns.length := by unfold cutL; simp [List.length_take, List.length_drop]; omega
    have hi : ∀ xs : List Int, intsV (xs.map Val.int) = some xs := by
      intro xs
      induction xs with
      | nil => rfl
      | cons x xs ih => simp [intsV, ih]
    show Ok (alloc (cutL (ns.map Val.int) none (some 1)) S) _
    rw [e, okw_alloc]
    refine ⟨line_le (by simp; omega), ?_⟩
    simp [biSum, itemsOf, hi]
theorem gen_ok {k : Nat} {S : Sto} {ns : List Int} {i : Nat} (hn : ns.length ≤ 63) (hi : i < 8) : Ok ((PL D (k + 2)).fn "_law_generator" [.scr (ns.map .int), .int i] S) fun v S' => ∃ p, v = .ref p ∧ Gn ⟨some p, []⟩ S' 100 := by
  rw [f_law_generator]
  refine w_PL rfl rfl (by decide) ?_
  simp [d_law_generator, cstV]
  refine (cell_ok hn).mono fun v S1 hv => ?_
  obtain ⟨z, rfl⟩ := hv
  have p1 : powOk 10 18 = true := by decide
  have p2 : powOk 10 60 = true := by decide
  have p3 : powOk (10 ^ 60) 10 = true := by decide
  simp [p1, p2, p3]
  refine ⟨p3, mul_small (by omega) (by omega) (by omega) (by omega), rfl, .inr ⟨S1.length, _, _, _, rfl, by simp; exact ⟨rfl, rfl, rfl⟩, ?_, ?_, ?_, ?_, ?_⟩⟩
  · exact Int.emod_nonneg _ (by decide)
  · exact Int.emod_nonneg _ (by decide)
  · exact Int.emod_lt_of_pos _ (by decide)
  · omega
  · omega
end K59
namespace K59
open PySem L2 TQ
theorem law_ok {k : Nat} {ns : List Int} (hn : ns.length ≤ 63) : Ok ((PL D (k + 10)).fn "law" [.scr (ns.map .int)] []) fun v S' => v = .bl true := by
  rw [flaw]
  refine w_PL rfl rfl (by decide) ?_
  have eb : dlaw.body = (.fr (.nm 1) .rng [(.cst (.int 8))] [(.ife (.nt (.call "_law_good" [(.call "_law_generator" [(.var 0), (.var 1)])])) [(.ret (.cst (.bl false)))] [])]) :: dlaw.body.drop 1 := rfl
  have es : dlaw.size - dlaw.pars = 1 := rfl
  rw [eb, es]
  generalize hrest : dlaw.body.drop 1 = rest
  rw [s_cons]
  with_reducible refine s_fr (fun c nn i τ S => c = .rng 0 8 ∧ nn = 8 ∧ ∃ o, τ = [some (.scr (ns.map .int)), o]) ?_ ?_ ?_ ?_
  · have i62 : in62 8 = true := by decide
    simp [cstV, i62]
  · rintro c nn i τ S hi ⟨rfl, rfl, _⟩
    rfl
  · rintro c nn i τ S hi ⟨rfl, rfl, o, rfl⟩
    refine ⟨_, _, rfl, rfl, ?_⟩
    simp
    refine (gen_ok hn hi).mono fun v S1 hv => ?_
    obtain ⟨p, rfl, G⟩ := hv
    refine (good_ok G (by omega)).mono fun v S2 hv => ?_
    subst hv
    exact .inr rfl
  · rintro c nn τ S ⟨rfl, rfl, o, rfl⟩
    subst hrest
    have hc : ∀ s, pxSs (q (k + 9)) (dlaw.body.drop 1) [none, none] ⟨s, 0⟩ = .ok (.rt (.bool true), [none, none]) ⟨s, 0⟩ := fun s => by kernel_rfl
    have C : CxP ⟨none, []⟩ (q (k + 9)) (PL D (k + 9)) := snd_L hH hF (k + 9) _ (fun k hk => by cases hk)
    refine (block_at C (B := []) (M := []) (n := 0) (l := dlaw.body.drop 1) (by simp [dlaw, FOks, FOk]) ⟨by simp [GC.toList], by simp, by simp, by simp⟩ (EL.er (.sk (.sk .nil))) (.inl rfl) (Q := fun p _ => p = (.rt (.bool true), [none, none])) (fun s => by rw [hc s]; exact rfl)).mono fun r S2 h => ?_
    obtain ⟨q2, n2, _, _, ⟨_, _, _, _, hf⟩, hq⟩ := h
    have := hq fun _ => 0
    subst this
    obtain ⟨f, τ⟩ := r
    cases f <;> first | exact hf.elim | skip
    exact Rp.bl hf
end K59
namespace K59
open PySem PySem.Spec PyProof.Rows L2 TQ
theorem initT : ∃ q0 q1 q2 q3 q4 q5 q6 q7 q8 q9, IniT prog q0 q1 q2 q3 q4 q5 q6 q7 q8 q9 := by
  refine ⟨_, _, _, _, _, _, _, _, _, _, ⟨rfl, ⟨_, rfl, rfl⟩, by kernel_rfl, by kernel_rfl, by kernel_rfl, by kernel_rfl, by kernel_rfl, by decide +kernel, by kernel_rfl, by kernel_rfl, by kernel_rfl, by kernel_rfl, fun T kV doc pm an cdv ct cc u v its h => ?_⟩⟩
  match its, h with
  | [d], _ => exact ⟨_, rfl, rfl⟩
theorem kwT : KwAll D D.kws :=
  ⟨⟨7, _, rfl, rfl, fun kV doc pm an cdv ct us ws zs h1 h2 h3 => match us, ws, h1, h2, h3 with | [], [w0], _, _, h3 => by cases h3; rfl, rfl⟩,
  ⟨⟨10, _, rfl, rfl, fun kV doc pm an cdv ct us ws zs h1 h2 h3 => match us, ws, h1, h2, h3 with | [], [w0, w1], _, _, h3 => by cases h3; rfl, rfl⟩,
  trivial⟩⟩
theorem chkT : D.fe.all (fun e => chkD D e && okPar (defAt D.prog e.row).params (e.ps.map sS)) = true := by
  show List.all [_, _, _, _, _, _, _, _, _, _, _, _, _, _, _, _, _, _, _, _, _, _, _, _, _, _, _, _, _, _, _] _ = true
  simp only [List.all_cons, List.all_nil, Bool.and_true]
  exact Bool.and_eq_true_iff.mpr ⟨cis_whole, Bool.and_eq_true_iff.mpr ⟨ccommon_divisor, Bool.and_eq_true_iff.mpr ⟨cis_fraction, Bool.and_eq_true_iff.mpr ⟨cis_amount, Bool.and_eq_true_iff.mpr ⟨care_amounts, Bool.and_eq_true_iff.mpr ⟨ccheck_things, Bool.and_eq_true_iff.mpr ⟨clots_by, Bool.and_eq_true_iff.mpr ⟨clots_in, Bool.and_eq_true_iff.mpr ⟨cis_worth_by, Bool.and_eq_true_iff.mpr ⟨care_worths_by, Bool.and_eq_true_iff.mpr ⟨care_worths, Bool.and_eq_true_iff.mpr ⟨c_law_hash, Bool.and_eq_true_iff.mpr ⟨c_law_random, Bool.and_eq_true_iff.mpr ⟨c_law_cell, Bool.and_eq_true_iff.mpr ⟨c_law_generator, Bool.and_eq_true_iff.mpr ⟨c_law_between, Bool.and_eq_true_iff.mpr ⟨c_law_pick, Bool.and_eq_true_iff.mpr ⟨c_law_error, Bool.and_eq_true_iff.mpr ⟨c_law_refused, Bool.and_eq_true_iff.mpr ⟨c_law_lowest, Bool.and_eq_true_iff.mpr ⟨c_law_is_number, Bool.and_eq_true_iff.mpr ⟨c_law_is_fraction, Bool.and_eq_true_iff.mpr ⟨c_law_things_lots, Bool.and_eq_true_iff.mpr ⟨c_law_worth_list, Bool.and_eq_true_iff.mpr ⟨c_law_worths, Bool.and_eq_true_iff.mpr ⟨c_law_are_worths, Bool.and_eq_true_iff.mpr ⟨c_law_no_things, Bool.and_eq_true_iff.mpr ⟨c_law_no_worths, Bool.and_eq_true_iff.mpr ⟨c_law_all_refused, Bool.and_eq_true_iff.mpr ⟨c_law_good, claw⟩⟩⟩⟩⟩⟩⟩⟩⟩⟩⟩⟩⟩⟩⟩⟩⟩⟩⟩⟩⟩⟩⟩⟩⟩⟩⟩⟩⟩⟩
theorem stat : Stat D := ⟨chkT, by decide +kernel, by decide +kernel, initT, by decide +kernel, kwT⟩
end K59
namespace K59
open PySem PySem.Spec PyProof.Rows L2 TQ
abbrev R : PySem.W.OpenRow := PySem.W.OpenLaw.row PySem.Challenge.rw_truthpays_k59_whole_lots_and_worths
abbrev hk : PySem.W.Hook := hookY D 4
def ob (s : PySem.W.SharedT) : AlY := obsY D 4 (HandSHeadRun.getT s)
theorem ob_eq (s : PySem.W.SharedT) : ob s = hk.obs s.abs := obsY_eq D (HandSHeadRun.getT_eq s)
def loose : List Str := (["PayError", "InvalidNumber", "is_whole", "common_divisor", "is_fraction", "is_amount", "are_amounts", "MOST_THINGS", "MOST_TAKERS", "check_things", "lots_by", "lots_in", "is_worth_by", "are_worths_by", "are_worths", "_law_hash", "_law_random", "_law_cell", "_law_generator", "_law_between", "_law_pick", "_law_error", "_law_refused", "_law_lowest", "_law_is_number", "_law_is_fraction", "_law_things_lots", "_law_worth_list", "_law_worths", "_law_are_worths", "_law_no_things", "_law_no_worths", "_law_all_refused", "_law_good"] : List String).map PySem.Str.ofString
theorem run (w : World) : HandSHeadRun.RunEq R (PySem.W.view R.prog [38]) hk ob 6000 loose w := by
  intro os
  kernel_rfl
end K59
open PySem PySem.W PySem.Calls PyProof.Rows
theorem K59.holds_of {kk : Nat} (hr : L2.Room (kk + 1) callerA) (hrun : ∀ ns : List Int, ns.length ≤ 63 → (∀ z ∈ ns, Builtin.Int.intBits z ≤ 1048576) → ∃ S', (TQ.PL K59.D kk).fn "law" [.scr (ns.map .int)] [] = .ok (.bl true) S') : PySem.Challenge.rw_truthpays_k59_whole_lots_and_worths.Holds := by
  w_on; o_law
  refine HandSHeadRun.head_any (r := OpenLaw.row PySem.Challenge.rw_truthpays_k59_whole_lots_and_worths) (q := view (OpenLaw.row PySem.Challenge.rw_truthpays_k59_whole_lots_and_worths).prog [38]) (H := K59.hk) (ob := K59.ob) (M := 6000) (loose := K59.loose) (d := HandSHeadRun.topDef (OpenLaw.row PySem.Challenge.rw_truthpays_k59_whole_lots_and_worths).prog 38) (kwd := []) K59.ob_eq
    (by kernel_rfl) (fun s => by kernel_rfl) K59.run (by kernel_rfl) (by kernel_rfl) (by kernel_rfl) (by rfl) (by first | assumption | decide +kernel) (by decide +kernel) ⟨rfl, rfl, rfl, rfl, rfl, by decide +kernel⟩ ?hw ?hc
  case hw => w_witness2
  case hc =>
    refine TQ.walkQ (l := PySem.Challenge.rw_truthpays_k59_whole_lots_and_worths) (n := 63) (x := "script") rfl (by decide) (by kernel_rfl) hr ((TQ.PL K59.D kk).fn "law") ?F hrun
    intro w mg fa h Y G hmg0
    have hmg : mg ("law" : PySem.Str) = some (.ref fa) := by
      have e : (HandSHeadRun.topDef (OpenLaw.row PySem.Challenge.rw_truthpays_k59_whole_lots_and_worths).prog 38).name = ("law" : PySem.Str) := by kernel_rfl
      rw [← e]
      exact hmg0
    exact TQ.facts_walk K59.stat (kk := kk) (e := ⟨"law", 38, ["script"], ["script", "index"], K59.dlaw⟩) (by kernel_rfl) rfl Y G hmg
theorem PySem.Challenge.cw_truthpays_k59_whole_lots_and_worths_holds : PySem.Challenge.rw_truthpays_k59_whole_lots_and_worths.Holds := by
  refine K59.holds_of (kk := 10) ⟨by decide, by decide, by decide⟩ fun ns h1 h2 => ?_
  obtain ⟨v, S', e, rfl⟩ := (K59.law_ok (k := 0) h1).ex
  exact ⟨S', e⟩
