import PyProof.Rows.All
import PyProof.ReprLen
import PyProof.ReprRoads
import HandS.ForMost
import HandS.Exc
import HandS.ExcOwn
import HandS.IsInst
import HandS.TupAny
import HandS.TupMul
import HandS.Defaults
import HandS.Style
import PyProof.Draws
import HandS.Zip
import HandS.List
import HandS.Deep
import PyProof.ConsumeWalk
import PyProof.CallFns
import HandS.Dict
import KE.KExcIs
import HandS.ExcField
import HandS.ExcIs
import HandS.TryMany
import HandS.ExcInit
import PyProof.AssignAttr
import OpenK.KOps
import HandS.FStr
import HandS.Ends
import HandS.HeadEnd
import HandS.Head2
import HandS.HeadHook2
import Wide.All
import OpenK.AllK
import Wide.FinOn
import KE.KStateDown
import PySem.Challenge.RW_restkeepers_k50_maps_refused
set_option autoImplicit false
set_option linter.all false
set_option Elab.async false
set_option maxRecDepth 100000
namespace RK

/-- a value, read whole -/
inductive PV where
  | non | bl (b : Bool) | int (i : Int) | str (x : List Nat) | tup (xs : List PV) | lst (xs : List PV)
  | ins (c : Nat) (fs : List PV) | dct (ks vs : List PV) | pot | scr (ns : List Int) | exv (c : Nat) (fs : List PV) | clo (k : Nat) (cs : List PV)
  | rp (p : PV) | si (i : Int) | js (ps : List PV)

/-- outcomes: a value, an exception (class, fields), a draw below n, or stuck -/
inductive Tr (α : Type) where
  | ret (a : α) | exc (c : Nat) (fs : List PV) | draw (n : Nat) (k : Nat → Tr α) | fail

namespace Tr
def bind {α β : Type} : Tr α → (α → Tr β) → Tr β
  | .ret a, f => f a
  | .exc c fs, _ => .exc c fs
  | .draw n k, f => .draw n fun d => bind (k d) f
  | .fail, _ => .fail
/-- exceptions are not let -/
def noexc {α : Type} : Tr α → Tr α
  | .ret a => .ret a
  | .exc _ _ => .fail
  | .draw n k => .draw n fun d => noexc (k d)
  | .fail => .fail
/-- an exception handled -/
def hand {α : Type} : Tr α → (Nat → List PV → Tr α) → Tr α
  | .ret a, _ => .ret a
  | .exc c fs, f => f c fs
  | .draw n k, f => .draw n fun d => hand (k d) f
  | .fail, _ => .fail
/-- all outcomes are wanted ones -/
def All {α : Type} (Q : α → Prop) (E : Nat → List PV → Prop) : Tr α → Prop
  | .ret a => Q a
  | .exc c fs => E c fs
  | .draw n k => 0 < n ∧ ∀ d, d < n → All Q E (k d)
  | .fail => False
section
variable {α β : Type} {Q Q' : α → Prop} {E E' : Nat → List PV → Prop}
theorem All.mono : ∀ {t : Tr α}, t.All Q E → (∀ a, Q a → Q' a) → (∀ c fs, E c fs → E' c fs) → t.All Q' E'
  | .ret a, h, q, _ => q a h
  | .exc c fs, h, _, e => e c fs h
  | .draw n k, h, q, e => ⟨h.1, fun d hd => All.mono (h.2 d hd) q e⟩
  | .fail, h, _, _ => h.elim
theorem all_bind {R : β → Prop} {f : α → Tr β} : ∀ {t : Tr α}, (t.bind f).All R E ↔ t.All (fun a => (f a).All R E) E
  | .ret a => Iff.rfl
  | .exc c fs => Iff.rfl
  | .draw n k => ⟨fun h => ⟨h.1, fun d hd => all_bind.mp (h.2 d hd)⟩, fun h => ⟨h.1, fun d hd => all_bind.mpr (h.2 d hd)⟩⟩
  | .fail => Iff.rfl
theorem all_noexc : ∀ {t : Tr α}, t.noexc.All Q E → t.All Q (fun _ _ => False)
  | .ret a, h => h
  | .exc c fs, h => h
  | .draw n k, h => ⟨h.1, fun d hd => all_noexc (h.2 d hd)⟩
  | .fail, h => h
theorem all_hand {f : Nat → List PV → Tr α} : ∀ {t : Tr α}, (t.hand f).All Q E ↔ t.All Q (fun c fs => (f c fs).All Q E)
  | .ret a => Iff.rfl
  | .exc c fs => Iff.rfl
  | .draw n k => ⟨fun h => ⟨h.1, fun d hd => all_hand.mp (h.2 d hd)⟩, fun h => ⟨h.1, fun d hd => all_hand.mpr (h.2 d hd)⟩⟩
  | .fail => Iff.rfl
end
def upto (p : Nat → Bool) : Nat → Bool
  | 0 => true
  | n + 1 => p n && upto p n
theorem upto_ok {p : Nat → Bool} : ∀ {n : Nat}, upto p n = true → ∀ d, d < n → p d = true
  | n + 1, h, d, hd => by
    have h' : (p n && upto p n) = true := h
    rw [Bool.and_eq_true] at h'
    rcases Nat.lt_succ_iff_lt_or_eq.mp hd with q | q
    · exact upto_ok h'.2 d q
    · rw [q]; exact h'.1
/-- by computation -/
def chk {α : Type} (q : α → Bool) (e : Nat → List PV → Bool) : Tr α → Bool
  | .ret a => q a
  | .exc c fs => e c fs
  | .draw n k => Nat.blt 0 n && upto (fun d => chk q e (k d)) n
  | .fail => false
theorem chk_all {α : Type} {q : α → Bool} {e : Nat → List PV → Bool} : ∀ {t : Tr α}, t.chk q e = true → t.All (fun a => q a = true) (fun c fs => e c fs = true)
  | .ret a, h => h
  | .exc c fs, h => h
  | .draw n k, h => by
    have h' : (Nat.blt 0 n && upto (fun d => chk q e (k d)) n) = true := h
    rw [Bool.and_eq_true] at h'
    exact ⟨Nat.blt_eq.mp h'.1, fun d hd => chk_all (upto_ok h'.2 d hd)⟩
  | .fail, h => nomatch (show false = true from h)
end Tr

abbrev Env := List (Option PV)
abbrev Ec := Env → Tr PV
abbrev Tc := Env → Tr Bool
/-- several values -/
abbrev Ac := Env → Tr (List PV)
inductive Fl where
  | nx (ρ : Env) | rt (v : PV) | bk (ρ : Env) | ct (ρ : Env)
abbrev Sc := Env → Tr Fl
/-- targets -/
abbrev Gc := PV → Env → Tr Env

def look : Env → Nat → Option PV
  | [], _ => none
  | a :: _, 0 => a
  | _ :: r, n + 1 => look r n
def put : Env → Nat → Option PV → Env
  | [], _, _ => []
  | _ :: r, 0, v => v :: r
  | a :: r, n + 1, v => a :: put r n v
def ofOpt {α : Type} : Option α → Tr α
  | some a => .ret a
  | none => .fail
def okN (n : Nat) : Bool := Nat.ble n 16777216

def cVar (i : Nat) : Ec := fun ρ => ofOpt (look ρ i)
def cC (v : PV) : Ec := fun _ => .ret v
def cBin (op : PV → PV → Tr PV) (a b : Ec) : Ec := fun ρ => (a ρ).bind fun x => (b ρ).bind fun y => op x y
def cUn (op : PV → Tr PV) (a : Ec) : Ec := fun ρ => (a ρ).bind op

def oAdd : PV → PV → Tr PV
  | .int i, .int j => .ret (.int (i + j))
  | .tup xs, .tup ys => if okN (xs.length + ys.length) then .ret (.tup (xs ++ ys)) else .fail
  | .lst xs, .lst ys => if okN (xs.length + ys.length) then .ret (.lst (xs ++ ys)) else .fail
  | _, _ => .fail
def oSub : PV → PV → Tr PV
  | .int i, .int j => .ret (.int (i - j))
  | _, _ => .fail
/-- within -2^64 .. 2^64 -/
def small : Int → Bool
  | .ofNat n => Nat.blt n (2 ^ 64)
  | .negSucc n => Nat.blt n (2 ^ 63)
def repN {α : Type} : Nat → List α → List α
  | 0, _ => []
  | n + 1, xs => xs ++ repN n xs
def oMul : PV → PV → Tr PV
  | .int i, .int j => if small i || small j then .ret (.int (i * j)) else .fail
  | .lst xs, .int k => if Nat.blt k.natAbs (2 ^ 62) && okN (xs.length * k.toNat) then .ret (.lst (repN k.toNat xs)) else .fail
  | .tup xs, .int k => if Nat.ble k.natAbs 1000 && Nat.ble xs.length 1000 then .ret (.tup (repN k.toNat xs)) else .fail
  | _, _ => .fail
def pos : Int → Bool
  | .ofNat (_ + 1) => true
  | _ => false
def oMod : PV → PV → Tr PV
  | .int i, .int j => if pos j then .ret (.int (i % j)) else .fail
  | _, _ => .fail
def oDiv : PV → PV → Tr PV
  | .int i, .int j => if pos j && Nat.blt j.toNat 1073741824 then .ret (.int (i / j)) else .fail
  | _, _ => .fail
def oPow : PV → PV → Tr PV
  | .int i, .int j => (match j with
    | .ofNat n => if small i && Nat.ble n 1000000 then .ret (.int (i ^ n)) else .fail
    | _ => .fail)
  | _, _ => .fail
def oNeg : PV → Tr PV
  | .int i => .ret (.int (-i))
  | _ => .fail
def oBl (f : Bool → Bool) : PV → Tr PV
  | .bl b => .ret (.bl (f b))
  | _ => .fail
def iLt (i j : Int) : Bool := match i, j with
  | .ofNat a, .ofNat b => Nat.blt a b
  | .ofNat _, .negSucc _ => false
  | .negSucc _, .ofNat _ => true
  | .negSucc a, .negSucc b => Nat.blt b a
def iEq (i j : Int) : Bool := match i, j with
  | .ofNat a, .ofNat b => Nat.beq a b
  | .negSucc a, .negSucc b => Nat.beq a b
  | _, _ => false
theorem iLt_eq (i j : Int) : iLt i j = decide (i < j) := by
  rw [Bool.eq_iff_iff, decide_eq_true_iff]
  cases i with
  | ofNat a => cases j with
    | ofNat b => show Nat.blt a b = true ↔ _; rw [Nat.blt_eq]; exact Int.ofNat_lt.symm
    | negSucc b => exact ⟨fun h => (nomatch (show false = true from h)), fun h => by simp at h; omega⟩
  | negSucc a => cases j with
    | ofNat b => exact ⟨fun _ => by simp; omega, fun _ => rfl⟩
    | negSucc b => show Nat.blt b a = true ↔ _; rw [Nat.blt_eq]; omega
theorem iEq_eq (i j : Int) : iEq i j = decide (i = j) := by
  rw [Bool.eq_iff_iff, decide_eq_true_iff]
  cases i with
  | ofNat a => cases j with
    | ofNat b => show Nat.beq a b = true ↔ _; rw [Nat.beq_eq]; exact ⟨fun h => by rw [h], fun h => Int.ofNat.inj h⟩
    | negSucc b => exact ⟨fun h => (nomatch (show false = true from h)), fun h => (nomatch h)⟩
  | negSucc a => cases j with
    | ofNat b => exact ⟨fun h => (nomatch (show false = true from h)), fun h => (nomatch h)⟩
    | negSucc b => show Nat.beq a b = true ↔ _; rw [Nat.beq_eq]; exact ⟨fun h => by rw [h], fun h => Int.negSucc.inj h⟩
def oLt : PV → PV → Tr PV
  | .int i, .int j => .ret (.bl (iLt i j))
  | _, _ => .fail
def oLe : PV → PV → Tr PV
  | .int i, .int j => .ret (.bl (!iLt j i))
  | _, _ => .fail
def oGt : PV → PV → Tr PV
  | .int i, .int j => .ret (.bl (iLt j i))
  | _, _ => .fail
def oGe : PV → PV → Tr PV
  | .int i, .int j => .ret (.bl (!iLt i j))
  | _, _ => .fail
def isNon : PV → Bool
  | .non => true
  | _ => false
def oIsNon (neg : Bool) (x : PV) : Tr PV := .ret (.bl (xor neg (isNon x)))

def tVal (a : Ec) : Tc := fun ρ => (a ρ).bind fun x => match x with
  | .bl b => .ret b
  | _ => .fail
def tNot (t : Tc) : Tc := fun ρ => (t ρ).bind fun b => .ret (!b)
def tAnd (t u : Tc) : Tc := fun ρ => (t ρ).bind fun b => match b with
  | true => u ρ
  | false => .ret false
def tOr (t u : Tc) : Tc := fun ρ => (t ρ).bind fun b => match b with
  | true => .ret true
  | false => u ρ
def cAnd (a b : Ec) : Ec := fun ρ => (a ρ).bind fun x => match x with
  | .bl true => b ρ
  | .bl false => .ret (.bl false)
  | _ => .fail
def cOr (a b : Ec) : Ec := fun ρ => (a ρ).bind fun x => match x with
  | .bl true => .ret (.bl true)
  | .bl false => b ρ
  | _ => .fail
def cNot (a : Ec) : Ec := cUn (oBl not) a
def cIf (t : Tc) (a b : Ec) : Ec := fun ρ => (t ρ).bind fun c => match c with
  | true => a ρ
  | false => b ρ

def aNil : Ac := fun _ => .ret []
def aCons (a : Ec) (r : Ac) : Ac := fun ρ => (a ρ).bind fun x => (r ρ).bind fun xs => .ret (x :: xs)
def cTup (a : Ac) : Ec := fun ρ => (a ρ).bind fun xs => if okN xs.length then .ret (.tup xs) else .fail
def cLst (a : Ac) : Ec := fun ρ => (a ρ).bind fun xs => if okN xs.length then .ret (.lst xs) else .fail
def cCall (F : List PV → Tr PV) (a : Ac) : Ec := fun ρ => (a ρ).bind F

def sSeq (s t : Sc) : Sc := fun ρ => (s ρ).bind fun f => match f with
  | .nx ρ' => t ρ'
  | .rt v => .ret (.rt v)
  | .bk ρ' => .ret (.bk ρ')
  | .ct ρ' => .ret (.ct ρ')
def sSkip : Sc := fun ρ => .ret (.nx ρ)
def sRet (a : Ec) : Sc := fun ρ => (a ρ).bind fun v => .ret (.rt v)
def sRetN : Sc := fun _ => .ret (.rt .non)
def sDrop (a : Ec) : Sc := fun ρ => (a ρ).bind fun _ => .ret (.nx ρ)
def sIf (t : Tc) (a b : Sc) : Sc := fun ρ => (t ρ).bind fun c => match c with
  | true => a ρ
  | false => b ρ
def sSet (i : Nat) (a : Ec) : Sc := fun ρ => (a ρ).bind fun v => .ret (.nx (put ρ i (some v)))
/-- a def's body, run; e: where it falls off its end -/
def body (e : Tr PV) (n : Nat) (s : Sc) (args : List PV) : Tr PV := (s (args.map some ++ List.replicate (n - args.length) none)).bind fun f => match f with
  | .nx _ => e
  | .rt v => .ret v
  | _ => .fail
end RK

namespace RK
open PySem PySem.Spec PyProof.Rows L2
abbrev St := L2.St

mutual
def toD : PV → PyData
  | .non => .none
  | .bl b => .bool b
  | .int i => .int i
  | .str l => .str ⟨⟨l⟩⟩
  | .tup xs => .tuple (toDs xs)
  | .lst xs => .list (toDs xs)
  | .dct ks vs => .dict ((toDs ks).zip (toDs vs))
  | .rp p => .str (toD p).shown
  | .si i => .str (toString i : String)
  | .js ps => .str (cats ps)
  | _ => .none
def toDs : List PV → List PyData
  | [] => []
  | x :: xs => toD x :: toDs xs
/-- texts one behind another -/
def cats : List PV → Str
  | [] => Str.empty
  | p :: ps => (match toD p with
    | .str x => x
    | _ => Str.empty) ++ cats ps
end
def textOf (p : PV) : Str := match toD p with
  | .str x => x
  | _ => Str.empty
/-- a told text -/
def isTx : PV → Bool
  | .rp _ => true
  | .si _ => true
  | .js _ => true
  | _ => false

/-- what a law's text fixes: the written part, the classes' addresses and attributes, the exceptions' -/
structure Kn where
  K : PySem.W.Frag
  cls : Nat → Addr
  fld : Nat → List Str
  exn : Nat → Addr
  efl : Nat → List Str

/-- the ground: what never changes any more, and the pots -/
structure Gh where
  B : Hp
  P : Addr → Prop

/-- a pot: two numbers -/
def IsPot (o : HO) : Prop := ∃ x y : Int, o = .lst [.int x, .int y] ∧ 0 ≤ x ∧ x.natAbs < 2 ^ 1100000 ∧ 0 ≤ y ∧ y < 2147483648

section
variable (k : Kn) (g : Gh)
mutual
inductive Rep : PV → V → Prop where
  | non : Rep .non .non
  | bl (b : Bool) : Rep (.bl b) (.bl b)
  | int (i : Int) : Rep (.int i) (.int i)
  | str (l : List Nat) : Rep (.str l) (.str ⟨⟨l⟩⟩)
  | tup {a : Addr} {vs : List V} {ps : List PV} : SqT k.K g.B a vs → Reps ps vs → Rep (.tup ps) (.ref a)
  | lst {a : Addr} {vs : List V} {ps : List PV} : g.B a = some (.lst vs) → Reps ps vs → Rep (.lst ps) (.ref a)
  | ins {c : Nat} {a dx : Addr} {fs : List (Str × V)} {ps : List PV} : g.B a = some (.ins (k.cls c) dx fs) → g.B dx = some (.own a) → fs.map Prod.fst = k.fld c → Reps ps (fs.map Prod.snd) → Rep (.ins c ps) (.ref a)
  | pot {a : Addr} : g.P a → Rep .pot (.ref a)
  | scr {a : Addr} {ns : List Int} : SqL k.K g.B a (ns.map V.int) → Rep (.scr ns) (.ref a)
  | rp (p : PV) : Rep (.rp p) (.str (textOf (.rp p)))
  | si (i : Int) : Rep (.si i) (.str (textOf (.si i)))
  | js (ps : List PV) : Rep (.js ps) (.str (textOf (.js ps)))
  | dct {a : Addr} {kvs : List (Key × V)} {ks vs : List PV} : g.B a = some (.dK kvs) → Reps ks (kvs.map fun q => kV q.1) → Reps vs (kvs.map Prod.snd) → Rep (.dct ks vs) (.ref a)
inductive Reps : List PV → List V → Prop where
  | nil : Reps [] []
  | cons {p : PV} {v : V} {ps : List PV} {vs : List V} : Rep p v → Reps ps vs → Reps (p :: ps) (v :: vs)
end
end

structure Le (g g' : Gh) : Prop where
  b : ∀ a o, g.B a = some o → g'.B a = some o
  p : ∀ a, g.P a → g'.P a
theorem Le.refl (g : Gh) : Le g g := ⟨fun _ _ h => h, fun _ h => h⟩
theorem Le.trans {g g' g'' : Gh} (x : Le g g') (y : Le g' g'') : Le g g'' := ⟨fun a o h => y.b a o (x.b a o h), fun a h => y.p a (x.p a h)⟩
theorem sqT_le {K : PySem.W.Frag} {H H' : Hp} (e : ∀ a o, H a = some o → H' a = some o) {a : Addr} {vs : List V} (h : SqT K H a vs) : SqT K H' a vs := by
  rcases h with (h | ⟨o, h⟩) | h
  · exact .inl (.inl (e _ _ h))
  · exact .inl (.inr ⟨o, e _ _ h⟩)
  · exact .inr h
theorem sqL_le {K : PySem.W.Frag} {H H' : Hp} (e : ∀ a o, H a = some o → H' a = some o) {a : Addr} {vs : List V} (h : SqL K H a vs) : SqL K H' a vs := by
  rcases h with (h | ⟨o, h⟩) | h
  · exact .inl (.inl (e _ _ h))
  · exact .inl (.inr ⟨o, e _ _ h⟩)
  · exact .inr h
section
variable {k : Kn} {g g' g0 : Gh} {H H' H0 H1 : Hp}
mutual
theorem Rep.mono (l : Le g g') : ∀ {p : PV} {v : V}, Rep k g p v → Rep k g' p v
  | _, _, .non => .non
  | _, _, .bl b => .bl b
  | _, _, .int i => .int i
  | _, _, .str x => .str x
  | _, _, .tup h r => .tup (sqT_le l.b h) (Reps.mono l r)
  | _, _, .lst h r => .lst (l.b _ _ h) (Reps.mono l r)
  | _, _, .ins h h2 e r => .ins (l.b _ _ h) (l.b _ _ h2) e (Reps.mono l r)
  | _, _, .pot h => .pot (l.p _ h)
  | _, _, .scr h => .scr (sqL_le l.b h)
  | _, _, .rp p => .rp p
  | _, _, .si i => .si i
  | _, _, .js ps => .js ps
  | _, _, .dct h r r' => .dct (l.b _ _ h) (Reps.mono l r) (Reps.mono l r')
theorem Reps.mono (l : Le g g') : ∀ {ps : List PV} {vs : List V}, Reps k g ps vs → Reps k g' ps vs
  | _, _, .nil => .nil
  | _, _, .cons r t => .cons (Rep.mono l r) (Reps.mono l t)
end
theorem Reps.length : ∀ {ps : List PV} {vs : List V}, Reps k g ps vs → ps.length = vs.length
  | _, _, .nil => rfl
  | _, _, .cons _ t => by simp [Reps.length t]
theorem Reps.append : ∀ {ps qs : List PV} {vs ws : List V}, Reps k g ps vs → Reps k g qs ws → Reps k g (ps ++ qs) (vs ++ ws)
  | _, _, _, _, .nil, s => s
  | _, _, _, _, .cons r t, s => .cons r (Reps.append t s)
theorem Reps.get : ∀ {ps : List PV} {vs : List V} {i : Nat} {v : V}, Reps k g ps vs → vs[i]? = some v → ∃ p, ps[i]? = some p ∧ Rep k g p v
  | _, _, _, _, .nil, e => by simp at e
  | _, _, 0, _, .cons r _, e => by simp at e; subst e; exact ⟨_, rfl, r⟩
  | _, _, i + 1, v, .cons _ t, e => by
    obtain ⟨p, h1, h2⟩ := Reps.get (i := i) (v := v) t (by simpa using e)
    exact ⟨p, by simpa using h1, h2⟩
theorem Reps.get' : ∀ {ps : List PV} {vs : List V} {i : Nat} {p : PV}, Reps k g ps vs → ps[i]? = some p → ∃ v, vs[i]? = some v ∧ Rep k g p v
  | _, _, _, _, .nil, e => by simp at e
  | _, _, 0, _, .cons r _, e => by simp at e; subst e; exact ⟨_, rfl, r⟩
  | _, _, i + 1, v, .cons _ t, e => by
    obtain ⟨p, h1, h2⟩ := Reps.get' (i := i) (p := v) t (by simpa using e)
    exact ⟨p, by simpa using h1, h2⟩
theorem Reps.take : ∀ {ps : List PV} {vs : List V} (n : Nat), Reps k g ps vs → Reps k g (ps.take n) (vs.take n)
  | _, _, 0, _ => .nil
  | _, _, _ + 1, .nil => .nil
  | _, _, n + 1, .cons r t => .cons r (Reps.take n t)
theorem Reps.drop : ∀ {ps : List PV} {vs : List V} (n : Nat), Reps k g ps vs → Reps k g (ps.drop n) (vs.drop n)
  | _, _, 0, r => r
  | _, _, _ + 1, .nil => .nil
  | _, _, n + 1, .cons _ t => Reps.drop n t
theorem Reps.set {p : PV} {v : V} (r : Rep k g p v) : ∀ {ps : List PV} {vs : List V} (i : Nat), Reps k g ps vs → Reps k g (ps.set i p) (vs.set i v)
  | _, _, _, .nil => .nil
  | _, _, 0, .cons _ t => .cons r t
  | _, _, i + 1, .cons q t => .cons q (Reps.set r i t)

/-- the ground stands in the heap -/
structure Wd (g : Gh) (H : Hp) : Prop where
  sub : ∀ a o, g.B a = some o → H a = some o
  pot : ∀ a, g.P a → g.B a = none ∧ ∃ o, H a = some o ∧ IsPot o
/-- from (g, H) on to (g', H'): all but the pots is kept, what is new was not there -/
structure Gr (g : Gh) (H : Hp) (g' : Gh) (H' : Hp) : Prop where
  le : Le g g'
  keep : ∀ a o, H a = some o → ¬ g.P a → H' a = some o
  newB : ∀ a o, g'.B a = some o → g.B a = some o ∨ H a = none
  newP : ∀ a, g'.P a → g.P a ∨ H a = none
theorem Gr.refl (g : Gh) (H : Hp) : Gr g H g H := ⟨.refl g, fun _ _ h _ => h, fun _ _ h => .inl h, fun _ h => .inl h⟩
theorem Gr.back {g : Gh} {H : Hp} {g' : Gh} {H' : Hp} (x : Gr g H g' H') (w : Wd g' H') {a : Addr} (h : H' a = none) : H a = none := by
  cases e : H a with
  | none => rfl
  | some o =>
    by_cases hp : g.P a
    · obtain ⟨_, o', ho, _⟩ := w.pot a (x.le.p a hp)
      rw [h] at ho; cases ho
    · have := x.keep a o e hp
      rw [h] at this; cases this
theorem Gr.trans {g : Gh} {H : Hp} {g1 : Gh} {H1 : Hp} {g2 : Gh} {H2 : Hp} (x : Gr g H g1 H1) (w : Wd g1 H1) (y : Gr g1 H1 g2 H2) : Gr g H g2 H2 := by
  refine ⟨x.le.trans y.le, fun a o h hp => ?_, fun a o h => ?_, fun a h => ?_⟩
  · refine y.keep a o (x.keep a o h hp) fun hp1 => ?_
    rcases x.newP a hp1 with q | q
    · exact hp q
    · rw [h] at q; cases q
  · rcases y.newB a o h with q | q
    · exact x.newB a o q
    · exact .inr (x.back w q)
  · rcases y.newP a h with q | q
    · exact x.newP a q
    · exact .inr (x.back w q)
/-- an object laid, out of the ground -/
theorem Gr.laid {p : Addr} {o : HO} (hp : H p = none) : Gr g H g (upd H p o) :=
  ⟨.refl g, fun a u h _ => by rw [upd_ne (ne_of_none h hp)]; exact h, fun _ _ h => .inl h, fun _ h => .inl h⟩
theorem Wd.laid {p : Addr} {o : HO} (w : Wd g H) (hp : H p = none) : Wd g (upd H p o) := by
  refine ⟨fun a u h => ?_, fun a h => ?_⟩
  · rw [upd_ne (ne_of_none (w.sub a u h) hp)]; exact w.sub a u h
  · obtain ⟨h1, u, h2, h3⟩ := w.pot a h
    exact ⟨h1, u, by rw [upd_ne (ne_of_none h2 hp)]; exact h2, h3⟩
/-- the ground with what stands at p -/
def Gh.add (g : Gh) (p : Addr) (o : HO) : Gh := ⟨upd g.B p o, g.P⟩
theorem add_at {p : Addr} {o : HO} : (g.add p o).B p = some o := upd_same
theorem Le.add {p : Addr} {o : HO} (h : g.B p = none) : Le g (g.add p o) := ⟨fun a u e => by
  show upd g.B p o a = _
  rw [upd_ne (ne_of_none e h)]; exact e, fun _ h => h⟩
theorem Wd.add {p : Addr} {o : HO} (w : Wd g H) (h : H p = some o) (hb : g.B p = none) (hP : ¬ g.P p) : Wd (g.add p o) H := by
  refine ⟨fun a u e => ?_, fun a e => ?_⟩
  · by_cases q : a = p
    · subst q
      have e : upd g.B a o a = some u := e
      rw [upd_same] at e; cases e; exact h
    · have e : upd g.B p o a = some u := e
      rw [upd_ne q] at e; exact w.sub a u e
  · obtain ⟨h1, h2⟩ := w.pot a e
    refine ⟨?_, h2⟩
    show upd g.B p o a = none
    rw [upd_ne (fun q => hP (by rw [← q]; exact e))]; exact h1
theorem Gr.add {p : Addr} {o : HO} (x : Gr g H g' H') (hb : g'.B p = none) (hn : H p = none) : Gr g H (g'.add p o) H' := by
  refine ⟨x.le.trans (.add hb), x.keep, fun a u e => ?_, x.newP⟩
  by_cases q : a = p
  · subst q; exact .inr hn
  · have e : upd g'.B p o a = some u := e
    rw [upd_ne q] at e; exact x.newB a u e
theorem Wd.none_b (w : Wd g H) {p : Addr} (h : H p = none) : g.B p = none := by
  cases e : g.B p with
  | none => rfl
  | some o => have := w.sub p o e; rw [h] at this; cases this
theorem Wd.none_p (w : Wd g H) {p : Addr} (h : H p = none) : ¬ g.P p := fun e => by
  obtain ⟨_, o, ho, _⟩ := w.pot p e
  rw [h] at ho; cases ho
/-- a new object into the ground at once -/
theorem Wd.new {p : Addr} {o : HO} (w : Wd g H) (hp : H p = none) : Wd (g.add p o) (upd H p o) := (w.laid hp).add upd_same (w.none_b hp) (w.none_p hp)
theorem Gr.new {p : Addr} {o : HO} (w : Wd g H) (hp : H p = none) : Gr g H (g.add p o) (upd H p o) := (Gr.laid hp).add (w.none_b hp) hp

/-- a list that is read alone -/
def View (k : Kn) (g : Gh) (H : Hp) (p : PV) (v : V) : Prop := Rep k g p v ∨ ∃ (a : Addr) (vs : List V) (ps : List PV), p = .lst ps ∧ v = .ref a ∧ H a = some (.lst vs) ∧ ¬ g.P a ∧ Reps k g ps vs
/-- a new list, not seen by anything: Hp the heap ahead of it -/
def Fresh (k : Kn) (Hq : Hp) (g : Gh) (H : Hp) (p : PV) (v : V) : Prop := ∃ (a : Addr) (vs : List V) (ps : List PV), p = .lst ps ∧ v = .ref a ∧ H a = some (.lst vs) ∧ ¬ g.P a ∧ g.B a = none ∧ Hq a = none ∧ Reps k g ps vs
theorem View.of_rep {p : PV} {v : V} (r : Rep k g p v) : View k g H p v := .inl r
theorem Fresh.view {p : PV} {v : V} (r : Fresh k H0 g H p v) : View k g H p v := by
  obtain ⟨a, vs, ps, h1, h2, h3, h4, _, _, h5⟩ := r
  exact .inr ⟨a, vs, ps, h1, h2, h3, h4, h5⟩
theorem View.grow {p : PV} {v : V} (r : View k g H p v) (x : Gr g H g' H') : View k g' H' p v := by
  rcases r with r | ⟨a, vs, ps, h1, h2, h3, h4, h5⟩
  · exact .inl (r.mono x.le)
  · refine .inr ⟨a, vs, ps, h1, h2, x.keep a _ h3 h4, fun q => ?_, h5.mono x.le⟩
    rcases x.newP a q with q | q
    · exact h4 q
    · rw [h3] at q; cases q
/-- what a viewed list is in the heap -/
theorem View.lst {ps : List PV} {v : V} (w : Wd g H) (r : View k g H (.lst ps) v) : ∃ a vs, v = .ref a ∧ H a = some (.lst vs) ∧ ¬ g.P a ∧ Reps k g ps vs := by
  rcases r with r | ⟨a, vs, ps', h1, h2, h3, h4, h5⟩
  · cases r with
    | lst h r =>
      refine ⟨_, _, rfl, w.sub _ _ h, fun q => ?_, r⟩
      rw [(w.pot _ q).1] at h; cases h
  · cases h1
    exact ⟨a, vs, h2, h3, h4, h5⟩
theorem View.rep {p : PV} {v : V} (r : View k g H p v) (h : ∀ ps, p ≠ .lst ps) : Rep k g p v := by
  rcases r with r | ⟨_, _, ps, h1, _⟩
  · exact r
  · exact absurd h1 (h ps)

/-- the exception at hand in a suite: its slot, its address, its number, its fields, its dict -/
structure Exn where
  i : Nat
  a : Addr
  n : Nat
  fs : List PV
  d : Addr
structure Fm where
  k : Kn
  own : List Nat
  g0 : Gh
  H0 : Hp
  gl : Gh
  ex : Option Exn
/-- an exception's dict -/
def XAt (k : Kn) (g : Gh) (x : Exn) : Prop := ∃ fvs, g.B x.d = some (.xd ((k.efl x.n).zip fvs)) ∧ fvs.length = (k.efl x.n).length ∧ Reps k g x.fs fvs
theorem XAt.mono {k : Kn} {g g' : Gh} {x : Exn} (h : XAt k g x) (l : Le g g') : XAt k g' x := by
  obtain ⟨fvs, h1, h2, h3⟩ := h
  exact ⟨fvs, l.b _ _ h1, h2, h3.mono l⟩
structure GI (Γ : Fm) (g : Gh) (ρ : Env) (σ : St) (H : Hp) : Prop where
  wd : Wd g H
  gr : Gr Γ.g0 Γ.H0 g H
  vars : ∀ i p, look ρ i = some p → i ∉ Γ.own → ∃ v, σ[i]? = some (some v) ∧ Rep Γ.k g p v
  owns : ∀ i p, look ρ i = some p → i ∈ Γ.own → ∃ a vs ps, σ[i]? = some (some (.ref a)) ∧ p = .lst ps ∧ H a = some (.lst vs) ∧ ¬ g.P a ∧ g.B a = none ∧ Γ.H0 a = none ∧ Reps Γ.k g ps vs
  inj : ∀ i j p q a, i ∈ Γ.own → j ∈ Γ.own → look ρ i = some p → look ρ j = some q → σ[i]? = some (some (.ref a)) → σ[j]? = some (some (.ref a)) → i = j
  len : ρ.length = σ.length
  fl : Le Γ.gl g
  exf : ∀ x, Γ.ex = some x → look ρ x.i = none → σ[x.i]? = some (some (.ref x.a)) ∧ XAt Γ.k g x
theorem GI.grow {Γ : Fm} {ρ : Env} {σ : St} (G : GI Γ g ρ σ H) (w : Wd g' H') (x : Gr g H g' H') : GI Γ g' ρ σ H' := by
  refine ⟨w, G.gr.trans G.wd x, fun i p e n => ?_, fun i p e n => ?_, G.inj, G.len, G.fl.trans x.le, fun e he hn => let ⟨h1, h2⟩ := G.exf e he hn; ⟨h1, h2.mono x.le⟩⟩
  · obtain ⟨v, h1, h2⟩ := G.vars i p e n
    exact ⟨v, h1, h2.mono x.le⟩
  · obtain ⟨a, vs, ps, h1, h2, h3, h4, h5, h6, h7⟩ := G.owns i p e n
    refine ⟨a, vs, ps, h1, h2, x.keep a _ h3 h4, fun q => ?_, ?_, h6, h7.mono x.le⟩
    · rcases x.newP a q with q | q
      · exact h4 q
      · rw [h3] at q; cases q
    · cases e : g'.B a with
      | none => rfl
      | some o =>
        rcases x.newB a o e with q | q
        · rw [h5] at q; cases q
        · rw [h3] at q; cases q
/-- the exception of a code -/
def XRep (k : Kn) (g : Gh) (n : Nat) (fs : List PV) (cls : Value) (d : Option Addr) : Prop := cls = .ref (k.exn n) ∧ ∃ dx fvs, d = some dx ∧ g.B dx = some (.xd ((k.efl n).zip fvs)) ∧ fvs.length = (k.efl n).length ∧ Reps k g fs fvs
/-- modes of a result: pre-heap, ground, heap, pure value, value -/
abbrev Md := Hp → Gh → Hp → PV → V → Prop
def zV (k : Kn) : Md := fun _ g _ p v => Rep k g p v
def zW (k : Kn) : Md := fun _ g H p v => View k g H p v
def zF (k : Kn) : Md := fun H0 g H p v => Fresh k H0 g H p v
def XW (Γ : Fm) (g : Gh) (H : Hp) (σ : St) (W : WX) : Nat → List PV → Prop := fun n fs => ∀ g' H' cls d, Wd g' H' → Gr g H g' H' → XRep Γ.k g' n fs cls d → W cls d σ H'
def PZ (z : Md) (g : Gh) (H : Hp) (Q : VK) : PV → Prop := fun p => ∀ g' H' v, Wd g' H' → Gr g H g' H' → z H g' H' p v → Q v H'
def RX (Γ : Fm) (z : Md) (c : Ec) (W : WX) : TE := fun σ H Q => ∃ g ρ, GI Γ g ρ σ H ∧ (c ρ).All (PZ z g H Q) (XW Γ g H σ W)
def RT (Γ : Fm) (c : Tc) (W : WX) : TT := fun σ H Q => ∃ g ρ, GI Γ g ρ σ H ∧ (c ρ).All (fun b => ∀ g' H', Wd g' H' → Gr g H g' H' → Q b H') (XW Γ g H σ W)
def RA (Γ : Fm) (m : Nat) (c : Ac) (W : WX) : TA := fun σ H Q => ∃ g ρ, GI Γ g ρ σ H ∧ (c ρ).All (fun ps => ps.length = m → ∀ g' H' vs, Wd g' H' → Gr g H g' H' → Reps Γ.k g' ps vs → Q vs H') (XW Γ g H σ W)
/-- the judgements -/
def SX (Γ : Fm) (z : Md) (X : Cx) (e : Expr) (c : Ec) : Prop := ∀ W, Takes X W → PE X e (RX Γ z c W)
abbrev SE (Γ : Fm) (X : Cx) (e : Expr) (c : Ec) : Prop := SX Γ (zV Γ.k) X e c
abbrev SV (Γ : Fm) (X : Cx) (e : Expr) (c : Ec) : Prop := SX Γ (zW Γ.k) X e c
abbrev SF (Γ : Fm) (X : Cx) (e : Expr) (c : Ec) : Prop := SX Γ (zF Γ.k) X e c
def ST (Γ : Fm) (X : Cx) (e : Expr) (c : Tc) : Prop := ∀ W, Takes X W → PT X e (RT Γ c W)
def SA (Γ : Fm) (X : Cx) (es : List Expr) (c : Ac) : Prop := ∀ W, Takes X W → PA X es (RA Γ es.length c W)
theorem _root_.L2.PE.imp {X : Cx} {e : Expr} {t t' : TE} (h : PE X e t) (i : ∀ σ H Q, t' σ H Q → t σ H Q) : PE X e t' := ⟨fun pins s σ H Q I q => h.run pins s σ H Q I (i σ H Q q)⟩
theorem _root_.L2.PT.imp {X : Cx} {e : Expr} {t t' : TT} (h : PT X e t) (i : ∀ σ H Q, t' σ H Q → t σ H Q) : PT X e t' := ⟨fun pins s σ H Q I q => h.run pins s σ H Q I (i σ H Q q)⟩
theorem _root_.L2.PA.imp {X : Cx} {e : List Expr} {t t' : TA} (h : PA X e t) (i : ∀ σ H Q, t' σ H Q → t σ H Q) : PA X e t' := ⟨fun pos pins s σ H Q I q => h.run pos pins s σ H Q I (i σ H Q q)⟩
theorem _root_.L2.PS.imp {X : Cx} {e : Stmt} {t t' : TS} (h : PS X e t) (i : ∀ D σ H, t' D σ H → t D σ H) : PS X e t' := ⟨fun pins s σ H D I q => h.run pins s σ H D I (i D σ H q)⟩
theorem _root_.L2.PSs.imp {X : Cx} {e : List Stmt} {t t' : TS} (h : PSs X e t) (i : ∀ D σ H, t' D σ H → t D σ H) : PSs X e t' := ⟨fun pins s σ H D I q => h.run pins s σ H D I (i D σ H q)⟩
section
variable {Γ : Fm} {X : Cx} {e a b : Expr} {c ca cb : Ec} {W : WX} {σ : St} {Q : VK} {pos : Pos}
theorem XW.grow {ρ : Env} {n : Nat} {fs : List PV} (G : GI Γ g ρ σ H) (w : Wd g' H') (x : Gr g H g' H') (h : XW Γ g H σ W n fs) : XW Γ g' H' σ W n fs := fun g2 H2 cls d w2 x2 r => h g2 H2 cls d w2 (x.trans w x2) r
theorem PZ.grow {z : Md} (hz : ∀ H H' g2 H2 p v, (∀ a, H' a = none → H a = none) → z H' g2 H2 p v → z H g2 H2 p v) {p : PV} (w : Wd g' H') (x : Gr g H g' H') (h : PZ z g H Q p) : PZ z g' H' Q p :=
  fun g2 H2 v w2 x2 r => h g2 H2 v w2 (x.trans w x2) (hz _ _ _ _ _ _ (fun a q => x.back w q) r)
/-- weaker modes -/
theorem SX.toV (h : SE Γ X e c) : SV Γ X e c := fun W tk => (h W tk).imp fun σ H Q ⟨g, ρ, G, q⟩ => ⟨g, ρ, G, q.mono (fun p q g' H' v w x r => q g' H' v w x (.inl r)) fun _ _ q => q⟩
theorem SX.ofF (h : SF Γ X e c) : SE Γ X e c := fun W tk => (h W tk).imp fun σ H Q ⟨g, ρ, G, q⟩ => ⟨g, ρ, G, q.mono (fun p q g' H' v w x r => by
  obtain ⟨a, vs, ps, h1, h2, h3, h4, h5, h6, h7⟩ := r
  subst h1 h2
  exact q (g'.add a (.lst vs)) H' _ (w.add h3 h5 h4) (x.add h5 h6) (.lst add_at (h7.mono (.add h5)))) fun _ _ q => q⟩
theorem SX.ofFV (h : SF Γ X e c) : SV Γ X e c := h.ofF.toV
end
end
end RK

namespace RK
open PySem PySem.Spec PyProof.Rows L2
theorem takesF {X : Cx} : Takes X (fun _ _ _ _ => False) := fun _ _ x => by
  obtain ⟨_, _, _, _, _, _, _, _, _, _, _, _, _, _, _, _, z⟩ := x
  exact z.elim
/-- a mode that looks back on less -/
class MdOk (z : Md) : Prop where
  back : ∀ (H H' : Hp) g2 H2 p v, (∀ a, H' a = none → H a = none) → z H' g2 H2 p v → z H g2 H2 p v
instance {k : Kn} : MdOk (zV k) := ⟨fun _ _ _ _ _ _ _ h => h⟩
instance {k : Kn} : MdOk (zW k) := ⟨fun _ _ _ _ _ _ _ h => h⟩
instance {k : Kn} : MdOk (zF k) := ⟨fun _ _ _ _ _ _ b h => by
  obtain ⟨a, vs, ps, h1, h2, h3, h4, h5, h6, h7⟩ := h
  exact ⟨a, vs, ps, h1, h2, h3, h4, h5, b a h6, h7⟩⟩
section
variable {Γ : Fm} {X : Cx} {e a b : Expr} {es : List Expr} {c ca cb : Ec} {ct cu : Tc} {aa : Ac} {W : WX} {σ : L2.St} {Q : VK} {pos : Pos} {z : Md} {g g' : Gh} {H H' : Hp}
theorem PZ.gr [MdOk z] {p : PV} (w : Wd g' H') (x : Gr g H g' H') (h : PZ z g H Q p) : PZ z g' H' Q p := h.grow (fun _ _ _ _ _ _ b q => MdOk.back _ _ _ _ _ _ b q) w x

theorem se_var {i : Nat} {x : Str} (hN : X.N[i]? = some x) (hv : Vis X.env.scope x) (ho : Γ.own.contains i = false) (hd : (x == ("__debug__" : Str)) = false := by decide) (hcd : (x == ("__classdict__" : Str)) = false := by decide) : SE Γ X (.Name x pos) (cVar i) := fun W tk => (pe_var hN hv hd hcd).imp fun σ H Q ⟨g, ρ, G, q⟩ => by
  cases e : look ρ i with
  | none =>
    have q : (ofOpt (look ρ i)).All _ _ := q
    rw [e] at q
    exact (show False from q).elim
  | some p =>
    have q : (ofOpt (look ρ i)).All _ _ := q
    rw [e] at q
    obtain ⟨v, h1, h2⟩ := G.vars i p e (by intro h; rw [List.contains_iff_mem.mpr h] at ho; cases ho)
    exact ⟨v, h1, q g H v G.wd (.refl g H) h2⟩
/-- a list of one's own, read alone -/
theorem sv_own {i : Nat} {x : Str} (hN : X.N[i]? = some x) (hv : Vis X.env.scope x) (ho : Γ.own.contains i = true) (hd : (x == ("__debug__" : Str)) = false := by decide) (hcd : (x == ("__classdict__" : Str)) = false := by decide) : SV Γ X (.Name x pos) (cVar i) := fun W tk => (pe_var hN hv hd hcd).imp fun σ H Q ⟨g, ρ, G, q⟩ => by
  cases e : look ρ i with
  | none =>
    have q : (ofOpt (look ρ i)).All _ _ := q
    rw [e] at q
    exact (show False from q).elim
  | some p =>
    have q : (ofOpt (look ρ i)).All _ _ := q
    rw [e] at q
    obtain ⟨a, vs, ps, h1, h2, h3, h4, h5, h6, h7⟩ := G.owns i p e (List.contains_iff_mem.mp ho)
    exact ⟨.ref a, h1, q g H _ G.wd (.refl g H) (.inr ⟨a, vs, ps, h2, rfl, h3, h4, h7⟩)⟩
theorem RX.const {v : V} {p : PV} (r : ∀ g, Rep Γ.k g p v) {σ : L2.St} {H : Hp} {Q : VK} (h : RX Γ (zV Γ.k) (cC p) W σ H Q) : tC v σ H Q := by
  obtain ⟨g, ρ, G, q⟩ := h
  exact q g H v G.wd (.refl g H) (r g)
theorem se_int {i : Int} {j pos} : SE Γ X (.Constant (.int i) j pos) (cC (.int i)) := fun W tk => pe_int.imp fun σ H Q h => h.const fun _ => .int i
theorem se_bl {b : Bool} {j pos} : SE Γ X (.Constant (.bool b) j pos) (cC (.bl b)) := fun W tk => pe_bl.imp fun σ H Q h => h.const fun _ => .bl b
theorem se_non {j pos} : SE Γ X (.Constant .none j pos) (cC .non) := fun W tk => pe_non.imp fun σ H Q h => h.const fun _ => .non
theorem se_str {x : String} {l : List Nat} {j pos} (h : Str.ofString x = ⟨⟨l⟩⟩) : SE Γ X (.Constant (.str x) j pos) (cC (.str l)) := fun W tk => pe_str.imp fun σ H Q q => by
  rw [h]
  exact q.const fun _ => .str l
/-- a constant of the module -/
theorem se_glob {x : Str} {v : V} {u : Value} {p : PV} (hg : Gl X x) (hm : X.mg x = some u) (r : RelV v u) (hp : ∀ g, Rep Γ.k g p v) (hd : (x == ("__debug__" : Str)) = false := by decide) : SE Γ X (.Name x pos) (cC p) := fun W tk => (pe_glob hg hm r hd).imp fun σ H Q h => h.const hp

structure OpS (k : Kn) (z : Md) (X : Cx) (f : Value → Value → Sem Value) (o : PV → PV → Tr PV) : Prop where
  ex : ∃ r : R2, OpR X f r ∧ ∀ g H p q x y Q E, Wd g H → View k g H p x → View k g H q y → (o p q).All (PZ z g H Q) E → r x y H Q
theorem sx_bin [MdOk z] {op : Operator} {o : PV → PV → Tr PV} (ho : OpS Γ.k z X (binaryOp op) o) (ha : SV Γ X a ca) (hb : SV Γ X b cb) : SX Γ z X (.BinOp a op b pos) (cBin o ca cb) := fun W tk => by
  obtain ⟨r, hr, hs⟩ := ho.ex
  exact (pe_op hr (ha W tk) (hb W tk)).imp fun σ H Q ⟨g, ρ, G, q⟩ => ⟨g, ρ, G, (Tr.all_bind.mp q).mono (fun p q1 g1 H1 x w1 x1 rx => ⟨g1, ρ, G.grow w1 x1, (Tr.all_bind.mp q1).mono (fun p2 q2 g2 H2 y w2 x2 ry =>
    hs g2 H2 p p2 x y Q _ w2 (rx.grow x2) ry (q2.mono (fun _ h => h.gr w2 (x1.trans w1 x2)) fun _ _ _ => trivial)) fun _ _ h => h.grow G w1 x1⟩) fun _ _ h => h⟩
theorem sx_cmp [MdOk z] {op : CmpOp} {o : PV → PV → Tr PV} (ho : OpS Γ.k z X (compareOp op) o) (ha : SV Γ X a ca) (hb : SV Γ X b cb) (hm : behindInMarks op b = false) : SX Γ z X (.Compare a [op] [b] pos) (cBin o ca cb) := fun W tk => by
  obtain ⟨r, hr, hs⟩ := ho.ex
  exact (pe_cmpR hr (ha W tk) (hb W tk) hm).imp fun σ H Q ⟨g, ρ, G, q⟩ => ⟨g, ρ, G, (Tr.all_bind.mp q).mono (fun p q1 g1 H1 x w1 x1 rx => ⟨g1, ρ, G.grow w1 x1, (Tr.all_bind.mp q1).mono (fun p2 q2 g2 H2 y w2 x2 ry =>
    hs g2 H2 p p2 x y Q _ w2 (rx.grow x2) ry (q2.mono (fun _ h => h.gr w2 (x1.trans w1 x2)) fun _ _ _ => trivial)) fun _ _ h => h.grow G w1 x1⟩) fun _ _ h => h⟩
theorem oblk {r : Tr Bool} {g : Gh} {H : Hp} {Q : Bool → Hp → Prop} {E : Nat → List PV → Prop} (h : r.All (fun b => ∀ g' H', Wd g' H' → Gr g H g' H' → Q b H') E) (w : Wd g H) : r.All (fun b => Q b H) E := h.mono (fun b q => q g H w (.refl g H)) fun _ _ q => q
/-- a value's test -/
theorem tval_all {p : PV} {g : Gh} {H : Hp} {Q : Bool → Hp → Prop} {E : Nat → List PV → Prop} (h : (match p with | .bl b => Tr.ret b | _ => Tr.fail).All (fun b => ∀ g' H', Wd g' H' → Gr g H g' H' → Q b H') E) : ∃ b, p = .bl b ∧ ∀ g' H', Wd g' H' → Gr g H g' H' → Q b H' := by
  cases p with
  | bl b => exact ⟨b, rfl, h⟩
  | _ => exact (show False from h).elim
theorem st_val (h : SE Γ X e c) (he : ∀ whole, isTrue e X.env whole = (do let v ← whole; standAt e.pos; holding [v] (truthy v))) : ST Γ X e (tVal c) := fun W tk => (pt_val (h W tk) he).imp fun σ H Q ⟨g, ρ, G, q⟩ => ⟨g, ρ, G, (Tr.all_bind.mp q).mono (fun p q1 g1 H1 v w1 x1 r => by
  obtain ⟨b, rfl, q2⟩ := tval_all q1
  cases r
  exact ⟨b, rfl, q2 g1 H1 w1 x1⟩) fun _ _ h => h⟩
theorem st_cmp {op : CmpOp} {o : PV → PV → Tr PV} (ho : OpS Γ.k (zV Γ.k) X (compareOp op) o) (ha : SV Γ X a ca) (hb : SV Γ X b cb) (hm : behindInMarks op b = false) : ST Γ X (.Compare a [op] [b] pos) (tVal (cBin o ca cb)) := fun W tk => by
  obtain ⟨r, hr, hs⟩ := ho.ex
  refine (pt_cmpR hr (ha W tk) (hb W tk) hm).imp fun σ H Q ⟨g, ρ, G, q⟩ => ⟨g, ρ, G, (Tr.all_bind.mp (Tr.all_bind.mp q)).mono (fun p q1 g1 H1 x w1 x1 rx => ⟨g1, ρ, G.grow w1 x1, (Tr.all_bind.mp q1).mono (fun p2 q2 g2 H2 y w2 x2 ry =>
    hs g2 H2 p p2 x y _ (fun _ _ => True) w2 (rx.grow x2) ry (q2.mono (fun z h g3 H3 v w3 x3 r3 => ?_) fun _ _ _ => trivial)) fun _ _ h => h.grow G w1 x1⟩) fun _ _ h => h⟩
  obtain ⟨b, rfl, q2⟩ := tval_all h
  cases r3
  exact ⟨b, rfl, q2 g3 H3 w3 ((x1.trans w1 x2).trans w2 x3)⟩
/-- is None -/
theorem isN_rep {k : Kn} {p : PV} {v : V} (r : View k g H p v) : decide (v = .non) = isNon p := by
  rcases r with r | ⟨a, vs, ps, h1, h2, _⟩
  · cases r <;> rfl
  · subst h1 h2; rfl
theorem se_isN {j pos'} (ha : SV Γ X a ca) : SE Γ X (.Compare a [.Is] [.Constant .none j pos'] pos) (cUn (oIsNon false) ca) := fun W tk => (pe_cmp (pc_isN (ha W tk)) (by exact nobehind _ (by decide) (by decide))).imp fun σ H Q ⟨g, ρ, G, q⟩ => ⟨g, ρ, G, (Tr.all_bind.mp q).mono (fun p q1 g1 H1 v w1 x1 r => by
  have e : (xor false (isNon p)) = isNon p := by cases isNon p <;> rfl
  show Q (.bl (decide (v = .non))) H1
  rw [isN_rep r, ← e]
  exact q1 g1 H1 _ w1 x1 (.bl _)) fun _ _ h => h⟩
theorem se_notN {j pos'} (ha : SV Γ X a ca) : SE Γ X (.Compare a [.IsNot] [.Constant .none j pos'] pos) (cUn (oIsNon true) ca) := fun W tk => (pe_cmp (pc_notN (ha W tk)) (by exact nobehind _ (by decide) (by decide))).imp fun σ H Q ⟨g, ρ, G, q⟩ => ⟨g, ρ, G, (Tr.all_bind.mp q).mono (fun p q1 g1 H1 v w1 x1 r => by
  have e : (xor true (isNon p)) = !isNon p := by cases isNon p <;> rfl
  show Q (.bl (!decide (v = .non))) H1
  rw [isN_rep r, ← e]
  exact q1 g1 H1 _ w1 x1 (.bl _)) fun _ _ h => h⟩
theorem pt_cmp' {op : CmpOp} {t : TE} (h : PC X op a b t) (h1 : behindInMarks op b = false) : PT X (.Compare a [op] [b] pos) (tB t) := pt_cmp h h1
theorem st_isN {j pos'} (ha : SV Γ X a ca) : ST Γ X (.Compare a [.Is] [.Constant .none j pos'] pos) (tVal (cUn (oIsNon false) ca)) := fun W tk => (pt_cmp' (pc_isN (ha W tk)) (by exact nobehind _ (by decide) (by decide))).imp fun σ H Q ⟨g, ρ, G, q⟩ => ⟨g, ρ, G, (Tr.all_bind.mp (Tr.all_bind.mp q)).mono (fun p q1 g1 H1 v w1 x1 r => by
  have e : (xor false (isNon p)) = isNon p := by cases isNon p <;> rfl
  refine ⟨isNon p, by rw [isN_rep r], ?_⟩
  rw [← e]
  exact q1 g1 H1 w1 x1) fun _ _ h => h⟩
theorem st_notN {j pos'} (ha : SV Γ X a ca) : ST Γ X (.Compare a [.IsNot] [.Constant .none j pos'] pos) (tVal (cUn (oIsNon true) ca)) := fun W tk => (pt_cmp' (pc_notN (ha W tk)) (by exact nobehind _ (by decide) (by decide))).imp fun σ H Q ⟨g, ρ, G, q⟩ => ⟨g, ρ, G, (Tr.all_bind.mp (Tr.all_bind.mp q)).mono (fun p q1 g1 H1 v w1 x1 r => by
  have e : (xor true (isNon p)) = !isNon p := by cases isNon p <;> rfl
  refine ⟨!isNon p, by rw [isN_rep r], ?_⟩
  rw [← e]
  exact q1 g1 H1 w1 x1) fun _ _ h => h⟩
theorem se_un {op : UnaryOp} {o : PV → Tr PV} {r : V → Hp → VK → Prop} (hr : UnR X (unaryOp op) r) (hs : ∀ g H p x Q E, Wd g H → Rep Γ.k g p x → (o p).All (PZ (zV Γ.k) g H Q) E → r x H Q) (ha : SE Γ X a ca) : SE Γ X (.UnaryOp op a pos) (cUn o ca) := fun W tk => (pe_un hr (ha W tk)).imp fun σ H Q ⟨g, ρ, G, q⟩ => ⟨g, ρ, G, (Tr.all_bind.mp q).mono (fun p q1 g1 H1 v w1 x1 r => hs g1 H1 p v Q _ w1 r (q1.mono (fun _ h => h.gr w1 x1) fun _ _ h => h)) fun _ _ h => h⟩
theorem se_neg (ha : SE Γ X a ca) : SE Γ X (.UnaryOp .USub a pos) (cUn oNeg ca) := se_un un_neg (fun g H p x Q E w r q => by
  cases r with
  | int i => exact ⟨i, rfl, q g H _ w (.refl g H) (.int _)⟩
  | _ => exact (show False from q).elim) ha

theorem st_and1 (ha : ST Γ X a ct) : ∀ W, Takes X W → PW X (.BoolOp .And [a] pos) (RT Γ ct W) := fun W tk => pw_and1 (ha W tk)
theorem st_or1 (ha : ST Γ X a ct) : ∀ W, Takes X W → PW X (.BoolOp .Or [a] pos) (RT Γ ct W) := fun W tk => pw_or1 (ha W tk)
theorem PW.imp {t t' : TT} (h : PW X e t) (i : ∀ σ H Q, t' σ H Q → t σ H Q) : PW X e t' := ⟨fun wh pins s σ H Q I q => h.run wh pins s σ H Q I (i σ H Q q)⟩
def SW (Γ : Fm) (X : Cx) (e : Expr) (c : Tc) : Prop := ∀ W, Takes X W → PW X e (RT Γ c W)
theorem SW.st (h : SW Γ X e ct) : ST Γ X e ct := fun W tk => (h W tk).pt
theorem sw_and1 (ha : ST Γ X a ct) : SW Γ X (.BoolOp .And [a] pos) ct := fun W tk => pw_and1 (ha W tk)
theorem sw_or1 (ha : ST Γ X a ct) : SW Γ X (.BoolOp .Or [a] pos) ct := fun W tk => pw_or1 (ha W tk)
theorem sw_and {rest : List Expr} (ha : ST Γ X a ct) (hb : SW Γ X (.BoolOp .And (b :: rest) pos) cu) : SW Γ X (.BoolOp .And (a :: b :: rest) pos) (tAnd ct cu) := fun W tk => PW.imp (pw_and (ha W tk) (hb W tk)) fun σ H Q ⟨g, ρ, G, q⟩ => ⟨g, ρ, G, (Tr.all_bind.mp q).mono (fun b q1 g1 H1 w1 x1 => by
  cases b with
  | true =>
    rw [if_pos rfl]
    exact ⟨g1, ρ, G.grow w1 x1, Tr.All.mono (show (cu ρ).All _ _ from q1) (fun b h g2 H2 w2 x2 => h g2 H2 w2 (x1.trans w1 x2)) fun _ _ h => h.grow G w1 x1⟩
  | false =>
    rw [if_neg (by decide)]
    exact q1 g1 H1 w1 x1) fun _ _ h => h⟩
theorem sw_or {rest : List Expr} (ha : ST Γ X a ct) (hb : SW Γ X (.BoolOp .Or (b :: rest) pos) cu) : SW Γ X (.BoolOp .Or (a :: b :: rest) pos) (tOr ct cu) := fun W tk => PW.imp (pw_or (ha W tk) (hb W tk)) fun σ H Q ⟨g, ρ, G, q⟩ => ⟨g, ρ, G, (Tr.all_bind.mp q).mono (fun b q1 g1 H1 w1 x1 => by
  cases b with
  | false =>
    rw [if_neg (by decide)]
    exact ⟨g1, ρ, G.grow w1 x1, Tr.All.mono (show (cu ρ).All _ _ from q1) (fun b h g2 H2 w2 x2 => h g2 H2 w2 (x1.trans w1 x2)) fun _ _ h => h.grow G w1 x1⟩
  | true =>
    rw [if_pos rfl]
    exact q1 g1 H1 w1 x1) fun _ _ h => h⟩
theorem st_not (ha : ST Γ X a ct) : ST Γ X (.UnaryOp .Not a pos) (tNot ct) := fun W tk => (pt_not (ha W tk)).imp fun σ H Q ⟨g, ρ, G, q⟩ => ⟨g, ρ, G, (Tr.all_bind.mp q).mono (fun b q1 g1 H1 w1 x1 => q1 g1 H1 w1 x1) fun _ _ h => h⟩
/-- .. as values -/
theorem se_one {op} (h : SE Γ X a ca) : SE Γ X (.BoolOp op [a] pos) ca := fun W tk => pe_one (h W tk)
theorem se_and {rest : List Expr} (ha : SE Γ X a ca) (hb : SE Γ X (.BoolOp .And (b :: rest) pos) cb) : SE Γ X (.BoolOp .And (a :: b :: rest) pos) (cAnd ca cb) := fun W tk => (pe_and (ha W tk) (hb W tk)).imp fun σ H Q ⟨g, ρ, G, q⟩ => ⟨g, ρ, G, (Tr.all_bind.mp q).mono (fun p q1 g1 H1 v w1 x1 r => by
  cases r with
  | bl c =>
    refine ⟨c, rfl, ?_⟩
    cases c with
    | true =>
      rw [if_pos rfl]
      exact ⟨g1, ρ, G.grow w1 x1, Tr.All.mono (show (cb ρ).All _ _ from q1) (fun _ h => h.gr w1 x1) fun _ _ h => h.grow G w1 x1⟩
    | false =>
      rw [if_neg (by decide)]
      exact q1 g1 H1 _ w1 x1 (.bl false)
  | _ => exact (show False from q1).elim) fun _ _ h => h⟩
theorem se_or {rest : List Expr} (ha : SE Γ X a ca) (hb : SE Γ X (.BoolOp .Or (b :: rest) pos) cb) : SE Γ X (.BoolOp .Or (a :: b :: rest) pos) (cOr ca cb) := fun W tk => (pe_or (ha W tk) (hb W tk)).imp fun σ H Q ⟨g, ρ, G, q⟩ => ⟨g, ρ, G, (Tr.all_bind.mp q).mono (fun p q1 g1 H1 v w1 x1 r => by
  cases r with
  | bl c =>
    refine ⟨c, rfl, ?_⟩
    cases c with
    | false =>
      rw [if_neg (by decide)]
      exact ⟨g1, ρ, G.grow w1 x1, Tr.All.mono (show (cb ρ).All _ _ from q1) (fun _ h => h.gr w1 x1) fun _ _ h => h.grow G w1 x1⟩
    | true =>
      rw [if_pos rfl]
      exact q1 g1 H1 _ w1 x1 (.bl true)
  | _ => exact (show False from q1).elim) fun _ _ h => h⟩
theorem se_not (ha : SE Γ X a ca) : SE Γ X (.UnaryOp .Not a pos) (cNot ca) := fun W tk => (pe_not (ha W tk)).imp fun σ H Q ⟨g, ρ, G, q⟩ => ⟨g, ρ, G, (Tr.all_bind.mp q).mono (fun p q1 g1 H1 v w1 x1 r => by
  cases r with
  | bl c => exact ⟨c, rfl, q1 g1 H1 _ w1 x1 (.bl _)⟩
  | _ => exact (show False from q1).elim) fun _ _ h => h⟩
theorem sx_if [MdOk z] {t : Expr} (ht : ST Γ X t ct) (ha : SX Γ z X a ca) (hb : SX Γ z X b cb) : SX Γ z X (.IfExp t a b pos) (cIf ct ca cb) := fun W tk => (pe_ifExp (ht W tk) (ha W tk) (hb W tk)).imp fun σ H Q ⟨g, ρ, G, q⟩ => ⟨g, ρ, G, (Tr.all_bind.mp q).mono (fun b q1 g1 H1 w1 x1 => by
  cases b with
  | true =>
    rw [if_pos rfl]
    exact ⟨g1, ρ, G.grow w1 x1, Tr.All.mono (show (ca ρ).All _ _ from q1) (fun _ h => h.gr w1 x1) fun _ _ h => h.grow G w1 x1⟩
  | false =>
    rw [if_neg (by decide)]
    exact ⟨g1, ρ, G.grow w1 x1, Tr.All.mono (show (cb ρ).All _ _ from q1) (fun _ h => h.gr w1 x1) fun _ _ h => h.grow G w1 x1⟩) fun _ _ h => h⟩

theorem sa_nil : SA Γ X [] aNil := fun W tk => pa_nil.imp fun σ H Q ⟨g, ρ, G, q⟩ => q rfl g H [] G.wd (.refl g H) .nil
theorem sa_cons (ha : SE Γ X a ca) (hr : SA Γ X es aa) (hs : starEach (a :: es) X.env = (false, eval a X.env) :: starEach es X.env := by rfl) : SA Γ X (a :: es) (aCons ca aa) := fun W tk => (pa_cons (ha W tk) (hr W tk) hs).imp fun σ H Q ⟨g, ρ, G, q⟩ => ⟨g, ρ, G, (Tr.all_bind.mp q).mono (fun p q1 g1 H1 x w1 x1 rx => ⟨g1, ρ, G.grow w1 x1, (Tr.all_bind.mp q1).mono (fun ps q2 hl g2 H2 vs w2 x2 rs =>
  q2 (by simp [hl]) g2 H2 (x :: vs) w2 (x1.trans w1 x2) (.cons (rx.mono x2.le) rs)) fun _ _ h => h.grow G w1 x1⟩) fun _ _ h => h⟩
theorem okN_le {n : Nat} (h : okN n = true) : n ≤ sizeLine := by rw [sizeLine_eq]; exact Nat.le_of_ble_eq_true h
theorem if_all {c : Bool} {α : Type} {t : Tr α} {R : α → Prop} {E : Nat → List PV → Prop} (h : (if c = true then t else .fail).All R E) : c = true ∧ t.All R E := by
  cases c with
  | true => exact ⟨rfl, h⟩
  | false => exact (show False from h).elim
theorem se_tup {x1} (h : SA Γ X es aa) : SE Γ X (.Tuple es x1 pos) (cTup aa) := fun W tk => (pe_tup (h W tk)).imp fun σ H Q ⟨g, ρ, G, q⟩ => ⟨g, ρ, G, (Tr.all_bind.mp q).mono (fun ps q1 _ g1 H1 vs w1 x1 rs => by
  obtain ⟨h1, h2⟩ := if_all q1
  refine ⟨by rw [← rs.length]; exact okN_le h1, fun p hp => ?_⟩
  exact h2 (g1.add p (.tup vs)) _ _ (w1.new hp) (x1.trans w1 (.new w1 hp)) (.tup (.of add_at) (rs.mono (.add (w1.none_b hp))))) fun _ _ h => h⟩
theorem sf_lst (h : SA Γ X es aa) : SF Γ X (.List es pos) (cLst aa) := fun W tk => (pe_lst (h W tk)).imp fun σ H Q ⟨g, ρ, G, q⟩ => ⟨g, ρ, G, (Tr.all_bind.mp q).mono (fun ps q1 _ g1 H1 vs w1 x1 rs => by
  obtain ⟨h1, h2⟩ := if_all q1
  refine ⟨by rw [← rs.length]; exact okN_le h1, fun p hp => ?_⟩
  exact h2 g1 _ _ (w1.laid hp) (x1.trans w1 (.laid hp)) ⟨p, vs, ps, rfl, rfl, upd_same, w1.none_p hp, w1.none_b hp, x1.back w1 hp, rs⟩) fun _ _ h => h⟩
end
end RK

namespace RK
open PySem PySem.Spec PyProof.Rows L2
/-- room for calls, and no guard around (for repr) -/
structure Rm (k : Nat) (A : Around) : Prop where
  rm : Room k A
  gd : A.guards = some []
theorem Rm.mono {j k : Nat} {A : Around} (r : Rm k A) (h : j ≤ k) : Rm j A := ⟨r.rm.mono h, r.gd⟩
theorem Rm.deeper {k : Nat} {A : Around} (r : Rm (k + 1) A) (env : PySem.Env) : Rm k (A.deeper env) := ⟨r.rm.deeper env, r.gd⟩
/-- where a def runs -/
structure Wh where
  P : Program
  w : World
  K : PySem.W.Frag
  mg : Str → Option Value
  base : Heap
abbrev Wh.has (T : Wh) (X : Cx) : Prop := X.prog = T.P ∧ X.w = T.w ∧ X.K = T.K ∧ X.mg = T.mg ∧ X.base = T.base
/-- a def keeps its promise -/
structure FnG (T : Wh) (k : Nat) (f : Addr) (fd : FuncData) (ps : List Str) (sp : Sp) : Prop where
  len : ∀ vs H Q E, sp vs H Q E → vs.length = ps.length
  run : ∀ (A : Around) (outer : List PySem.Env) (s : Shared) (H : Hp) (args : Args) (us : List Value) (vs : List V) (Q : VK) (E : XK),
    Rm k A → Env0 T.P T.w T.K T.mg T.base A outer s H → BindsTo s fd args (ps.zip us) → Vals vs us → sp vs H Q E →
    codeAny (model T.P T.w) A (.call (.ref f) args) (CR (L2.CX T.P T.w) outer T.P T.w H s Q E) s
theorem FnG.mono {T : Wh} {j k : Nat} {f : Addr} {fd : FuncData} {ps : List Str} {sp : Sp} (F : FnG T j f fd ps sp) (h : j ≤ k) : FnG T k f fd ps sp := ⟨F.len, fun A outer s H args us vs Q E r => F.run A outer s H args us vs Q E (r.mono h)⟩
theorem FnG.imp {T : Wh} {k : Nat} {f : Addr} {fd : FuncData} {ps : List Str} {sp sp' : Sp} (F : FnG T k f fd ps sp) (h : ∀ vs H Q E, sp' vs H Q E → sp vs H Q E) : FnG T k f fd ps sp' :=
  ⟨fun vs H Q E q => F.len vs H Q E (h _ _ _ _ q), fun A outer s H args us vs Q E r e b v q => F.run A outer s H args us vs Q E r e b v (h _ _ _ _ q)⟩
theorem FnG.of {T : Wh} {k : Nat} {f : Addr} {fd : FuncData} {ps : List Str} {sp : Sp} (F : FnOk T.P T.w T.K T.mg T.base (L2.CX T.P T.w) k f fd ps sp) : FnG T k f fd ps sp :=
  ⟨F.len, fun A outer s H args us vs Q E r => F.run A outer s H args us vs Q E r.rm⟩
/-- the promise by a pure function -/
def SpC (k : Kn) (z : Md) (n : Nat) (F : List PV → Tr PV) : Sp := fun vs H Q E => ∃ g ps, Wd g H ∧ Reps k g ps vs ∧ vs.length = n ∧
  (F ps).All (PZ z g H Q) (fun m fs => ∀ g' H' cls d, Wd g' H' → Gr g H g' H' → XRep k g' m fs cls d → E cls d H')
theorem SpC.imp {k : Kn} {z : Md} {n : Nat} {F F' : List PV → Tr PV} (h : ∀ ps Q E, ps.length = n → (F' ps).All Q E → (F ps).All Q E) {vs : List V} {H : Hp} {Q : VK} {E : XK} (q : SpC k z n F' vs H Q E) : SpC k z n F vs H Q E := by
  obtain ⟨g, ps, w, r, l, a⟩ := q
  exact ⟨g, ps, w, r, l, h ps _ _ (by rw [r.length]; exact l) a⟩
/-- another function that asks more -/
theorem FnG.by {T : Wh} {k : Nat} {f : Addr} {fd : FuncData} {ps : List Str} {kn : Kn} {z : Md} {n : Nat} {F F' : List PV → Tr PV} (G : FnG T k f fd ps (SpC kn z n F)) (h : ∀ xs Q E, xs.length = n → (F' xs).All Q E → (F xs).All Q E) : FnG T k f fd ps (SpC kn z n F') := G.imp fun vs H Q E q => q.imp h
/-- a fresh list is a value -/
theorem FnG.toV {T : Wh} {k : Nat} {f : Addr} {fd : FuncData} {ps : List Str} {kn : Kn} {n : Nat} {F : List PV → Tr PV} (G : FnG T k f fd ps (SpC kn (zF kn) n F)) : FnG T k f fd ps (SpC kn (zV kn) n F) := G.imp fun vs H Q E ⟨g, xs, w, r, l, a⟩ => ⟨g, xs, w, r, l, a.mono (fun p q g' H' v w' x' fr => by
  obtain ⟨a, vs, ps, h1, h2, h3, h4, h5, h6, h7⟩ := fr
  subst h1 h2
  exact q (g'.add a (.lst vs)) H' _ (w'.add h3 h5 h4) (x'.add h5 h6) (.lst add_at (h7.mono (.add h5)))) fun _ _ q => q⟩

def RFl (Γ : Fm) (z : Md) (D : Ends) : Fl → Prop
  | .nx ρ => ∀ g σ H, GI Γ g ρ σ H → D.nx σ H
  | .bk ρ => ∀ g σ H, GI Γ g ρ σ H → D.bk σ H
  | .ct ρ => ∀ g σ H, GI Γ g ρ σ H → D.ct σ H
  | .rt p => ∀ g H v, Wd g H → Gr Γ.g0 Γ.H0 g H → z Γ.H0 g H p v → D.rt v H
def XS (Γ : Fm) (W : WX) : Nat → List PV → Prop := fun n fs => ∀ g σ H cls d, Wd g H → Gr Γ.g0 Γ.H0 g H → XRep Γ.k g n fs cls d → W cls d σ H
def RS (Γ : Fm) (z : Md) (c : Sc) (W : WX) : TS := fun D σ H => ∃ g ρ, GI Γ g ρ σ H ∧ (c ρ).All (RFl Γ z D) (XS Γ W)
def SS (Γ : Fm) (z : Md) (X : Cx) (st : Stmt) (c : Sc) : Prop := ∀ W, Takes X W → PS X st (RS Γ z c W)
def SB (Γ : Fm) (z : Md) (X : Cx) (sts : List Stmt) (c : Sc) : Prop := ∀ W, Takes X W → PSs X sts (RS Γ z c W)
theorem look_start : ∀ {ps : List PV} {n i : Nat} {p : PV}, look (ps.map some ++ List.replicate n none) i = some p → ps[i]? = some p
  | [], 0, i, p, h => by cases h
  | [], n + 1, 0, p, h => by cases h
  | [], n + 1, i + 1, p, h => by
    have h' : look (([] : List PV).map some ++ List.replicate n none) i = some p := h
    have := look_start h'
    simp at this
  | q :: ps, n, 0, p, h => by
    have h' : some q = some p := h
    simpa using h'
  | q :: ps, n, i + 1, p, h => by
    have h' : look (ps.map some ++ List.replicate n none) i = some p := h
    simpa using look_start h'
theorem gi_start {k : Kn} {g : Gh} {H : Hp} {own : List Nat} {ps : List PV} {vs : List V} {N : List Str} {n : Nat} (w : Wd g H) (r : Reps k g ps vs) (hn : N.length = n) (hl : vs.length ≤ N.length) (ho : ∀ i, i < vs.length → i ∉ own) : GI ⟨k, own, g, H, g, none⟩ g (ps.map some ++ List.replicate (n - ps.length) none) (L2.start N vs) H := by
  have hlen := r.length
  have lt : ∀ {i : Nat} {p : PV}, look (ps.map some ++ List.replicate (n - ps.length) none) i = some p → i < vs.length := fun {i p} h => by
    obtain ⟨h1, _⟩ := List.getElem?_eq_some_iff.mp (look_start h)
    omega
  refine ⟨w, .refl g H, fun i p h _ => ?_, fun i p h ho' => absurd ho' (ho i (lt h)), fun i j p q a hi _ h _ _ _ => absurd hi (ho i (lt h)), ?_, .refl g, fun e he => (nomatch he)⟩
  · obtain ⟨v, h1, h2⟩ := r.get' (look_start h)
    refine ⟨v, ?_, h2⟩
    unfold L2.start
    have hi := lt h
    rw [List.getElem?_append_left (by simpa using hi), List.getElem?_map, h1]
    rfl
  · unfold L2.start
    simp only [List.length_append, List.length_map, List.length_replicate]
    omega
/-- THE RULE: a def by its body's code -/
theorem fn_bodyZ {T : Wh} {x qual : Str} {params : Arguments} {bd : List Stmt} {scope : Scope} {dvs : List V} {kws : List (Str × V)} {f : Addr} {fd : FuncData} {kk : Nat} {N ps : List Str} {kn : Kn} {z : Md} {n : Nat} {c : Sc} {own : List Nat} {en : Tr PV}
    (he : ∀ g H g' H' Q E, Wd g' H' → Gr g H g' H' → en.All (PZ z g H Q) E → Q .non H')
    (D : FunD T.K x qual params bd scope dvs kws f fd) (S : FnScope N ps scope) (hps : ps.length = n) (ho : ∀ i ∈ own, n ≤ i)
    (hb : ∀ (cdv : Value) (A : Around) (outer : List PySem.Env) (s : Shared) (H : Hp) (E : XK) (g : Gh), Rm kk (A.deeper (envOfC qual scope s.heap.objs.size f cdv)) →
      SB ⟨kn, own, g, H, g, none⟩ z (cxOf (L2.CX T.P T.w) T.P T.w T.K T.mg T.base N qual scope f cdv A outer s H E) bd c) : FnG T (kk + 1) f fd ps (SpC kn z n (body en N.length c)) := by
  obtain ⟨oc, od, dV, kV, doc, pm, an, cdv, ct, osl, rfl, lk, hcd, _, _⟩ := D.ex
  refine ⟨fun vs H Q E h => by obtain ⟨g, xs, _, _, l, _⟩ := h; omega, fun A outer s H args us vs Q E hr e0 bb r h => ?_⟩
  obtain ⟨g, xs, wd, rx, l, al⟩ := h
  have KX : T.K.In s.heap := e0.mod.kin.keeps fun b o e => (e0.bs b o e).1
  have hkind : ∀ y ∈ ps.zip us, scope.names.lookup y.1 = some .local ∨ (scope.names.lookup y.1 = some .cell ∧ ((cellsFrom (s.heap.objs.size + 1) scope.names []).lookup y.1).isSome = true) := by
    intro y hy
    rcases S.par y.1 (List.of_mem_zip (a := y.1) (b := y.2) hy).1 with q | q
    · exact .inl q
    · exact .inr ⟨q, PySem.W.cellsFrom_some _ _ _ (.inl q)⟩
  refine codeAny_call_function hr.rm.depth (KX _ _ lk) rfl S.co S.gen rfl (PySem.W.codeRec_of KX hcd) (bb _ _ _ _ ?_)
  refine wpAny_newFunctionEnv_cells S.kind hkind fun env he' s1 ic => ?_
  subst he'
  have lim := e0.mod.nolimit.keeps (h' := s.heap) fun b o e => (e0.bs b o e).1
  refine ⟨lim.keeps ic.toInCall.keep, codeAny_func ?_⟩
  have hb' := hb cdv A outer s H E g (hr.deeper _) _ (takes_of (E := E) rfl rfl rfl rfl)
  have I := inv_start (CX := L2.CX T.P T.w) (f := f) (E := E) S hr.rm.hd e0 (by omega) r ic
  have hpl : ps.length ≤ N.length := by
    have := congrArg List.length S.pre
    rw [List.length_take] at this
    omega
  have G := gi_start (own := own) (n := N.length) wd rx rfl (by omega) (fun i hi hm => by have := ho i hm; omega)
  refine wpAny_mono (hb'.run [] s1 _ H { nx := fun _ H' => Q .non H', rt := Q } I ⟨g, _, G, Tr.All.mono (Tr.all_bind.mp al) (fun fl q => ?_) fun m fs q g' σ' H' cls d w x xr => q g' H' cls d w x xr⟩) (fun fl s' hs => ?_) fun e s' h => h
  · cases fl with
    | nx ρ => exact fun g' σ' H' G' => he g H g' H' Q _ G'.wd G'.gr q
    | rt p => exact fun g' H' v w x r => q g' H' v w x r
    | bk ρ => exact (show False from q).elim
    | ct ρ => exact (show False from q).elim
  · cases fl with
    | ret u =>
      obtain ⟨v, σ', H', J, rv, q⟩ := hs
      exact ⟨v, H', J.os, J.bare, J.base, J.hok, rv, q⟩
    | next =>
      obtain ⟨σ', H', J, q⟩ := hs
      exact ⟨.non, H', J.os, J.bare, J.base, J.hok, rfl, q⟩
    | brk => exact (let ⟨_, _, _, q⟩ := hs; False.elim q)
    | cont => exact (let ⟨_, _, _, q⟩ := hs; False.elim q)
theorem end_V {k : Kn} : ∀ (g : Gh) (H : Hp) (g' : Gh) (H' : Hp) (Q : VK) (E : Nat → List PV → Prop), Wd g' H' → Gr g H g' H' → (Tr.ret PV.non).All (PZ (zV k) g H Q) E → Q .non H' := fun g H g' H' Q E w x q => q g' H' .non w x .non
theorem end_F {z : Md} : ∀ (g : Gh) (H : Hp) (g' : Gh) (H' : Hp) (Q : VK) (E : Nat → List PV → Prop), Wd g' H' → Gr g H g' H' → (Tr.fail : Tr PV).All (PZ z g H Q) E → Q .non H' := fun g H g' H' Q E w x q => (show False from q).elim

section
variable {Γ : Fm} {X : Cx} {e a b : Expr} {es : List Expr} {c ca cb : Ec} {ct cu : Tc} {aa : Ac} {sa sb : Sc} {W : WX} {pos : Pos} {z : Md} {st : Stmt} {sts : List Stmt} {g g' : Gh} {H H' : Hp}
theorem XS.xw {σ : L2.St} {ρ : RK.Env} {n : Nat} {fs : List PV} (G : GI Γ g ρ σ H) (h : XS Γ W n fs) : XW Γ g H σ W n fs := fun g' H' cls d w x r => h g' σ H' cls d w (G.gr.trans G.wd x) r
theorem sb_nil : SB Γ z X [] sSkip := fun W tk => pss_nil.imp fun D σ H ⟨g, ρ, G, q⟩ => q g σ H G
theorem sb_cons (h1 : SS Γ z X st sa) (h2 : SB Γ z X sts sb) : SB Γ z X (st :: sts) (sSeq sa sb) := fun W tk => (pss_cons (h1 W tk) (h2 W tk)).imp fun D σ H ⟨g, ρ, G, q⟩ => ⟨g, ρ, G, (Tr.all_bind.mp q).mono (fun fl q1 => by
  cases fl with
  | nx ρ' => exact fun g' σ' H' G' => ⟨g', ρ', G', q1⟩
  | rt p => exact q1
  | bk ρ' => exact q1
  | ct ρ' => exact q1) fun _ _ h => h⟩
theorem sb_one (h1 : SS Γ z X st sa) : SB Γ z X [st] sa := fun W tk => pss_one (h1 W tk)
theorem ss_pass : SS Γ z X (.Pass pos) sSkip := fun W tk => ps_pass.imp fun D σ H ⟨g, ρ, G, q⟩ => q g σ H G
theorem ss_ret (h : SE Γ X e c) : SS Γ (zV Γ.k) X (.Return (some e) pos) (sRet c) := fun W tk => (ps_ret (h W tk)).imp fun D σ H ⟨g, ρ, G, q⟩ => ⟨g, ρ, G, (Tr.all_bind.mp q).mono (fun p q1 g' H' v w x r => q1 g' H' v w (G.gr.trans G.wd x) r) fun _ _ h => h.xw G⟩
theorem ss_retF (h : SF Γ X e c) : SS Γ (zF Γ.k) X (.Return (some e) pos) (sRet c) := fun W tk => (ps_ret (h W tk)).imp fun D σ H ⟨g, ρ, G, q⟩ => ⟨g, ρ, G, (Tr.all_bind.mp q).mono (fun p q1 g' H' v w x r => q1 g' H' v w (G.gr.trans G.wd x) (MdOk.back _ _ _ _ _ _ (fun a ha => G.gr.back G.wd ha) r)) fun _ _ h => h.xw G⟩
theorem ss_retN : SS Γ (zV Γ.k) X (.Return none pos) sRetN := fun W tk => ps_retN.imp fun D σ H ⟨g, ρ, G, q⟩ => q g H .non G.wd G.gr .non
/-- a list of one's own, handed out -/
theorem own_out {ρ : RK.Env} {σ : L2.St} {i : Nat} (G : GI Γ g ρ σ H) (ho : Γ.own.contains i = true) {p : PV} (e : look ρ i = some p) : ∃ v, σ[i]? = some (some v) ∧ Fresh Γ.k Γ.H0 g H p v := by
  obtain ⟨a, vs, ps, h1, h2, h3, h4, h5, h6, h7⟩ := G.owns i p e (List.contains_iff_mem.mp ho)
  exact ⟨_, h1, a, vs, ps, h2, rfl, h3, h4, h5, h6, h7⟩
theorem ss_retOwn {i : Nat} {x : Str} {p : Pos} (hN : X.N[i]? = some x) (hv : Vis X.env.scope x) (ho : Γ.own.contains i = true) (hd : (x == ("__debug__" : Str)) = false := by decide) (hcd : (x == ("__classdict__" : Str)) = false := by decide) : SS Γ (zF Γ.k) X (.Return (some (.Name x p)) pos) (sRet (cVar i)) := fun W tk => (ps_ret (pe_var hN hv hd hcd)).imp fun D σ H ⟨g, ρ, G, q⟩ => by
  have q := Tr.all_bind.mp q
  cases e : look ρ i with
  | none =>
    have q : (ofOpt (look ρ i)).All _ _ := q
    rw [e] at q
    exact (show False from q).elim
  | some p =>
    have q : (ofOpt (look ρ i)).All _ _ := q
    rw [e] at q
    obtain ⟨v, h1, h2⟩ := own_out G ho e
    exact ⟨v, h1, q g H v G.wd G.gr h2⟩
/-- .. as a value -/
theorem SS.retV (h : SS Γ (zF Γ.k) X st (sRet c)) : SS Γ (zV Γ.k) X st (sRet c) := fun W tk => (h W tk).imp fun D σ H ⟨g, ρ, G, q⟩ => ⟨g, ρ, G, Tr.all_bind.mpr ((Tr.all_bind.mp q).mono (fun p q1 g' H' v w x r => by
  obtain ⟨a, vs, ps, h1, h2, h3, h4, h5, h6, h7⟩ := r
  subst h1 h2
  exact q1 (g'.add a (.lst vs)) H' _ (w.add h3 h5 h4) (x.add h5 h6) (.lst add_at (h7.mono (.add h5)))) fun _ _ h => h)⟩
theorem ss_if {t : Expr} {as bs : List Stmt} (ht : ST Γ X t ct) (ha : SB Γ z X as sa) (hb : SB Γ z X bs sb) : SS Γ z X (.If t as bs pos) (sIf ct sa sb) := fun W tk => (ps_if (ht W tk) (ha W tk) (hb W tk)).imp fun D σ H ⟨g, ρ, G, q⟩ => ⟨g, ρ, G, (Tr.all_bind.mp q).mono (fun b q1 g1 H1 w1 x1 => by
  cases b with
  | true =>
    rw [if_pos rfl]
    exact ⟨g1, ρ, G.grow w1 x1, q1⟩
  | false =>
    rw [if_neg (by decide)]
    exact ⟨g1, ρ, G.grow w1 x1, q1⟩) fun _ _ h => h.xw G⟩
theorem ss_drop (h : SV Γ X e c) (hs : swapsWith e none pos.line X.env = pure false := by rfl) : SS Γ z X (.Expr e pos) (sDrop c) := fun W tk => (ps_expr (h W tk) hs).imp fun D σ H ⟨g, ρ, G, q⟩ => ⟨g, ρ, G, (Tr.all_bind.mp q).mono (fun p q1 g' H' v w x r => q1 g' σ H' (G.grow w x)) fun _ _ h => h.xw G⟩
theorem look_put : ∀ {ρ : RK.Env} {i j : Nat} {v : Option PV} {p : PV}, look (put ρ i v) j = some p → (j = i ∧ v = some p) ∨ (j ≠ i ∧ look ρ j = some p)
  | [], i, j, v, p, h => by cases h
  | a :: r, 0, 0, v, p, h => .inl ⟨rfl, h⟩
  | a :: r, 0, j + 1, v, p, h => .inr ⟨Nat.succ_ne_zero j, h⟩
  | a :: r, i + 1, 0, v, p, h => .inr ⟨Ne.symm (Nat.succ_ne_zero i), h⟩
  | a :: r, i + 1, j + 1, v, p, h => by
    have h' : look (put r i v) j = some p := h
    rcases look_put h' with ⟨e, q⟩ | ⟨n, q⟩
    · exact .inl ⟨by rw [e], q⟩
    · exact .inr ⟨fun z => n (Nat.succ.inj z), q⟩
theorem put_length : ∀ (ρ : RK.Env) (i : Nat) (v : Option PV), (put ρ i v).length = ρ.length
  | [], _, _ => rfl
  | _ :: _, 0, _ => rfl
  | a :: r, i + 1, v => by show (put r i v).length + 1 = r.length + 1; rw [put_length r i v]
theorem look_lt : ∀ {ρ : RK.Env} {i : Nat} {p : PV}, look ρ i = some p → i < ρ.length
  | _ :: _, 0, _, _ => Nat.zero_lt_succ _
  | _ :: r, i + 1, p, h => Nat.succ_lt_succ (look_lt (ρ := r) h)
theorem look_put_none : ∀ {ρ : RK.Env} {i j : Nat} {p : PV}, look (put ρ i (some p)) j = none → look ρ j = none ∧ (j ≠ i ∨ ρ.length ≤ i)
  | [], i, j, p, h => ⟨h, .inr (Nat.zero_le _)⟩
  | a :: r, 0, 0, p, h => by cases (show some p = none from h)
  | a :: r, 0, j + 1, p, h => ⟨h, .inl (Nat.succ_ne_zero j)⟩
  | a :: r, i + 1, 0, p, h => ⟨h, .inl (Ne.symm (Nat.succ_ne_zero i))⟩
  | a :: r, i + 1, j + 1, p, h => by
    have h' : look (put r i (some p)) j = none := h
    obtain ⟨h1, h2⟩ := look_put_none h'
    refine ⟨h1, h2.imp (fun n e => n (Nat.succ.inj e)) fun l => Nat.succ_le_succ l⟩
theorem GI.exf_put {ρ : RK.Env} {σ : L2.St} {i : Nat} {p : PV} {v : Option V} (G : GI Γ g ρ σ H) : ∀ x, Γ.ex = some x → look (RK.put ρ i (some p)) x.i = none → (σ.set i v)[x.i]? = some (some (.ref x.a)) ∧ XAt Γ.k g x := fun x hx hn => by
  obtain ⟨h1, h2⟩ := look_put_none hn
  obtain ⟨h3, h4⟩ := G.exf x hx h1
  refine ⟨?_, h4⟩
  rcases h2 with h2 | h2
  · rw [List.getElem?_set_ne (Ne.symm h2)]; exact h3
  · rw [List.set_eq_of_length_le (by rw [← G.len]; exact h2)]; exact h3
theorem GI.put {ρ : RK.Env} {σ : L2.St} {i : Nat} {p : PV} {v : V} (G : GI Γ g ρ σ H) (ho : Γ.own.contains i = false) (r : Rep Γ.k g p v) : GI Γ g (RK.put ρ i (some p)) (σ.set i (some v)) H := by
  have hi : i ∉ Γ.own := fun h => by rw [List.contains_iff_mem.mpr h] at ho; cases ho
  have ne : ∀ {j}, j ∈ Γ.own → i ≠ j := fun h z => hi (by rw [z]; exact h)
  refine ⟨G.wd, G.gr, fun j q h n => ?_, fun j q h n => ?_, fun j l q q' a hj hl h h' e e' => ?_, by rw [put_length, List.length_set]; exact G.len, G.fl, G.exf_put⟩
  · rcases look_put h with ⟨e, z⟩ | ⟨n', z⟩
    · subst e
      cases z
      have hl := look_lt h
      rw [put_length, G.len] at hl
      exact ⟨v, by rw [List.getElem?_set_self hl], r⟩
    · obtain ⟨u, h1, h2⟩ := G.vars j q z n
      exact ⟨u, by rw [List.getElem?_set_ne (Ne.symm n')]; exact h1, h2⟩
  · rcases look_put h with ⟨e, z⟩ | ⟨n', z⟩
    · exact absurd n (by rw [e]; exact hi)
    · obtain ⟨a, vs, ps, h1, h2⟩ := G.owns j q z n
      exact ⟨a, vs, ps, by rw [List.getElem?_set_ne (Ne.symm n')]; exact h1, h2⟩
  · rcases look_put h with ⟨z, _⟩ | ⟨_, z⟩
    · exact absurd z.symm (ne hj)
    rcases look_put h' with ⟨z', _⟩ | ⟨_, z'⟩
    · exact absurd z'.symm (ne hl)
    rw [List.getElem?_set_ne (ne hj)] at e
    rw [List.getElem?_set_ne (ne hl)] at e'
    exact G.inj j l q q' a hj hl z z' e e'
/-- a new list into a place of one's own: H the heap ahead of it -/
theorem GI.putF {ρ : RK.Env} {σ : L2.St} {i : Nat} {p : PV} {v : V} (G : GI Γ g ρ σ H) (w : Wd g' H') (x : Gr g H g' H') (ho : Γ.own.contains i = true) (r : Fresh Γ.k H g' H' p v) : GI Γ g' (RK.put ρ i (some p)) (σ.set i (some v)) H' := by
  have hi := List.contains_iff_mem.mp ho
  have G' := G.grow w x
  obtain ⟨a, vs, ps, h1, h2, h3, h4, h5, h6, h7⟩ := r
  subst h1 h2
  have old : ∀ {j : Nat} {q : PV} {b : Addr}, j ∈ Γ.own → look ρ j = some q → σ[j]? = some (some (.ref b)) → b ≠ a := fun {j q b} hj hq e z => by
    obtain ⟨b', vs', ps', k1, _, k3, _⟩ := G.owns j q hq hj
    rw [e] at k1; cases k1
    rw [z, h6] at k3; cases k3
  refine ⟨w, G'.gr, fun j q h n => ?_, fun j q h n => ?_, fun j l q q' b hj hl h h' e e' => ?_, by rw [put_length, List.length_set]; exact G.len, G'.fl, G'.exf_put⟩
  · rcases look_put h with ⟨e, z⟩ | ⟨n', z⟩
    · exact absurd hi (by rw [← e]; exact n)
    · obtain ⟨u, k1, k2⟩ := G'.vars j q z n
      exact ⟨u, by rw [List.getElem?_set_ne (Ne.symm n')]; exact k1, k2⟩
  · rcases look_put h with ⟨e, z⟩ | ⟨n', z⟩
    · subst e
      cases z
      have hl := look_lt h
      rw [put_length, G.len] at hl
      exact ⟨a, vs, ps, by rw [List.getElem?_set_self hl], rfl, h3, h4, h5, G.gr.back G.wd h6, h7⟩
    · obtain ⟨b, us, qs, k1, k2⟩ := G'.owns j q z n
      exact ⟨b, us, qs, by rw [List.getElem?_set_ne (Ne.symm n')]; exact k1, k2⟩
  · have hlen : ∀ {m : Nat} {q : PV}, look (RK.put ρ i (some (.lst ps))) m = some q → m < σ.length := fun {m q} z => by
      have := look_lt z
      rw [put_length, G.len] at this
      exact this
    rcases look_put h with ⟨z, _⟩ | ⟨n1, z⟩ <;> rcases look_put h' with ⟨z', _⟩ | ⟨n2, z'⟩
    · rw [z, z']
    · subst z
      rw [List.getElem?_set_self (hlen h)] at e
      rw [List.getElem?_set_ne (Ne.symm n2)] at e'
      cases e
      exact absurd rfl (old hl z' e')
    · subst z'
      rw [List.getElem?_set_self (hlen h')] at e'
      rw [List.getElem?_set_ne (Ne.symm n1)] at e
      cases e'
      exact absurd rfl (old hj z e)
    · rw [List.getElem?_set_ne (Ne.symm n1)] at e
      rw [List.getElem?_set_ne (Ne.symm n2)] at e'
      exact G.inj j l q q' b hj hl z z' e e'
theorem ss_set {i : Nat} {x : Str} {pos' : Pos} (hN : X.N.Nodup) (hi : X.N[i]? = some x) (hx : Loc X.env.scope x) (ho : Γ.own.contains i = false) (h : SE Γ X e c) (hs : swapsWith e (some (.Name x pos')) pos.line X.env = pure false := by rfl) (hf : X.fn x = true ∨ X.env.scope.names.lookup x = some .local := by first | exact .inl rfl | exact .inr rfl | assumption) :
    SS Γ z X (.Assign [.Name x pos'] e pos) (sSet i c) := fun W tk => (ps_set hN hi hx (h W tk) hs hf).imp fun D σ H ⟨g, ρ, G, q⟩ => ⟨g, ρ, G, (Tr.all_bind.mp q).mono (fun p q1 g' H' v w x r => q1 g' _ H' ((G.grow w x).put ho r)) fun _ _ h => h.xw G⟩
theorem ss_setF {i : Nat} {x : Str} {pos' : Pos} (hN : X.N.Nodup) (hi : X.N[i]? = some x) (hx : Loc X.env.scope x) (ho : Γ.own.contains i = true) (h : SF Γ X e c) (hs : swapsWith e (some (.Name x pos')) pos.line X.env = pure false := by rfl) (hf : X.fn x = true ∨ X.env.scope.names.lookup x = some .local := by first | exact .inl rfl | exact .inr rfl | assumption) :
    SS Γ z X (.Assign [.Name x pos'] e pos) (sSet i c) := fun W tk => (ps_set hN hi hx (h W tk) hs hf).imp fun D σ H ⟨g, ρ, G, q⟩ => ⟨g, ρ, G, (Tr.all_bind.mp q).mono (fun p q1 g' H' v w x r => q1 g' _ H' (G.putF w x ho r)) fun _ _ h => h.xw G⟩
end
end RK

namespace RK
open PySem PySem.Spec PyProof.Rows L2
/-- in the parameters' order -/
def gath {α : Type} (l : List α) : List Nat → List α
  | [] => []
  | i :: r => match l[i]? with
    | some a => a :: gath l r
    | none => gath l r
theorem vals_gath {vs : List V} {us : List Value} (r : Vals vs us) : ∀ o : List Nat, Vals (gath vs o) (gath us o)
  | [] => .nil
  | i :: o => by
    unfold gath
    cases e : vs[i]? with
    | none =>
      rw [r.none_of e]
      exact vals_gath r o
    | some v =>
      obtain ⟨u, h1, h2⟩ := r.get e
      rw [h1]
      exact .cons h2 (vals_gath r o)
theorem reps_gath {k : Kn} {g : Gh} {ps : List PV} {vs : List V} (r : Reps k g ps vs) : ∀ o : List Nat, Reps k g (gath ps o) (gath vs o)
  | [] => .nil
  | i :: o => by
    unfold gath
    cases e : vs[i]? with
    | none =>
      have e' : ps[i]? = none := by
        have h := List.getElem?_eq_none_iff.mp e
        exact List.getElem?_eq_none_iff.mpr (by rw [r.length]; exact h)
      rw [e']
      exact reps_gath r o
    | some v =>
      obtain ⟨p, h1, h2⟩ := r.get e
      rw [h1]
      exact .cons h2 (reps_gath r o)
/-- n positional values, keywords ks: the parameters' values by order o -/
structure Bd (K : PySem.W.Frag) (fd : FuncData) (ps : List Str) (n : Nat) (ks : List Str) (o : List Nat) : Prop where
  to : ∀ (s : Shared) (us ws : List Value), K.In s.heap → us.length = n → ws.length = ks.length → BindsTo s fd ⟨us, ks.zip ws⟩ (ps.zip (gath (us ++ ws) o))
def cCallK (F : List PV → Tr PV) (o : List Nat) (a b : Ac) : Ec := fun ρ => (a ρ).bind fun xs => (b ρ).bind fun ys => F (gath (xs ++ ys) o)
section
variable {Γ : Fm} {X : Cx} {e a b : Expr} {es : List Expr} {c ca cb : Ec} {ct cu : Tc} {aa ab : Ac} {W : WX} {pos : Pos} {z : Md} {g g' : Gh} {H H' : Hp} {T : Wh} {k n : Nat} {f : Addr} {fd : FuncData} {ps ks : List Str} {sp : Sp} {F : List PV → Tr PV} {o : List Nat} {x : Str} {p : Pos} {kws : List Keyword} {Q : VK} {σ : L2.St} {s : Shared} {pins : List (Addr × Obj)}
/-- the callee runs -/
theorem run_g (hT : T.has X) (G : FnG T k f fd ps sp) (hr : Rm k X.A) {args : Args} {us : List Value} {vs : List V} (hb : BindsTo s fd args (ps.zip us)) (tk : Takes X W) (I : Inv X pins σ H s) (r : Vals vs us) (h : sp vs H Q (WE W σ)) : wpAny (model X.prog X.w) X.A (call (.ref f) args.pos args.kw) (EP X pins σ Q) X.xe s := by
  obtain ⟨h1, h2, h3, h4, h5⟩ := hT
  obtain ⟨P, w, K, mg, base⟩ := T
  simp only at h1 h2 h3 h4 h5
  subst h1 h2 h3 h4 h5
  refine wpAny_call (codeAny_mono (G.run X.A X.stack s H args us vs Q (WE W σ) hr I.env0 hb r h) fun r s' hq => ?_)
  cases r with
  | error e => exact passAt tk σ pins H s e s' I hq
  | ok fl =>
    cases fl with
    | ret u => exact I.after hq
    | next => exact False.elim hq
    | brk => exact False.elim hq
    | cont => exact False.elim hq
theorem Reps.app {k : Kn} {ps qs : List PV} {vs ws : List V} (l : Le g g') (r : Reps k g ps vs) (t : Reps k g' qs ws) : Reps k g' (ps ++ qs) (vs ++ ws) := (r.mono l).append t
/-- what a call's reading asks -/
theorem spc_of [MdOk z] {ρ : RK.Env} (G : GI Γ g ρ σ H) {xs : List PV} {vs : List V} {g1 : Gh} {H1 : Hp} (w1 : Wd g1 H1) (x1 : Gr g H g1 H1) (r : Reps Γ.k g1 xs vs) (hl : vs.length = n) (q : (F xs).All (PZ z g H Q) (XW Γ g H σ W)) : SpC Γ.k z n F vs H1 Q (WE W σ) :=
  ⟨g1, xs, w1, r, hl, q.mono (fun _ h => h.gr w1 x1) fun m fs h g' H' cls d w x xr => h g' H' cls d w (x1.trans w1 x) xr⟩
/-- f(e, ..) -/
theorem sx_call [MdOk z] (hT : T.has X) (G : FnG T k f fd ps (SpC Γ.k z n F)) (hr : Rm k X.A) (hg : Gl X x) (hm : X.mg x = some (.ref f)) (hk : PySem.W.keepIn X.K (.ref f) = true) (hb : Binds X.K fd ps []) (ha : SA Γ X (e :: es) aa) (hps : ps.length = n) (hln : (e :: es).length = n)
    (hdb : (x == ("__debug__" : Str)) = false := by decide) (he : starEach (e :: es) X.env = (false, eval e X.env) :: starEach es X.env := by rfl) (hpl : (backTo pos (starEach es X.env)).any (·.1) = false := by rfl) :
    SX Γ z X (.Call (.Name x p) (e :: es) [] pos) (cCall F aa) := fun W tk => by
  refine ⟨fun pins s σ H Q I h => ?_⟩
  obtain ⟨g, ρ, Gi, q⟩ := h
  refine wpAny_Call_Name_kw (ld_glob I hg hm ?_ hdb)
  refine PySem.W.callWith_K (h₀ := X.base) I.ok.mod.kin hk (thn ((ha W tk).run pos pins s σ H (fun vs H1 => vs.length = n ∧ SpC Γ.k z n F vs H1 Q (WE W σ)) I ⟨g, ρ, Gi, (Tr.all_bind.mp q).mono (fun xs h hl g1 H1 vs w1 x1 r => ?_) fun _ _ h => h⟩) fun us s1 ⟨vs, H1, I1, r, hl, q1⟩ => ⟨I1.kIn, ?_⟩) he hpl
  · have hv : vs.length = n := by rw [← r.length, hl, hln]
    exact ⟨hv, spc_of Gi w1 x1 r hv h⟩
  · have b := hb s1 us I1.kIn (by rw [List.append_nil, ← r.length, hl, hps])
    rw [List.append_nil] at b
    exact run_g hT G hr b tk I1 r q1
/-- f() -/
theorem sx_call0 [MdOk z] (hT : T.has X) (G : FnG T k f fd ps (SpC Γ.k z 0 F)) (hr : Rm k X.A) (hg : Gl X x) (hm : X.mg x = some (.ref f)) (hk : PySem.W.keepIn X.K (.ref f) = true) (hb : Binds X.K fd ps []) (hps : ps.length = 0) (hdb : (x == ("__debug__" : Str)) = false := by decide) :
    SX Γ z X (.Call (.Name x p) [] [] pos) (cCall F aNil) := fun W tk => by
  refine ⟨fun pins s σ H Q I h => ?_⟩
  obtain ⟨g, ρ, Gi, q⟩ := h
  refine wpAny_Call_Name_kw (ld_glob I hg hm ?_ hdb)
  have b := hb s [] I.kIn (by simp [hps])
  exact PySem.W.callWith_K0 I.kIn hk (run_g hT G hr b tk I .nil (spc_of (vs := []) Gi Gi.wd (.refl g H) .nil rfl q))
/-- keywords' values -/
def SK (Γ : Fm) (X : Cx) (kws : List Keyword) (c : Ac) : Prop := ∀ W, Takes X W → PK X kws (RA Γ kws.length c W)
theorem sk_nil : SK Γ X [] aNil := fun W tk => ⟨fun pos pins s σ H Q I ⟨g, ρ, G, q⟩ => pk_nil.run pos pins s σ H Q I (q rfl g H [] G.wd (.refl g H) .nil)⟩
theorem sk_cons {nm : Option Str} {kpos : Pos} (ha : SE Γ X a ca) (hr : SK Γ X kws aa) : SK Γ X (⟨nm, a, kpos⟩ :: kws) (aCons ca aa) := fun W tk => ⟨fun pos pins s σ H Q I ⟨g, ρ, G, q⟩ => (pk_cons (ha W tk) (hr W tk)).run pos pins s σ H Q I ⟨g, ρ, G, (Tr.all_bind.mp q).mono (fun p q1 g1 H1 x w1 x1 rx => ⟨g1, ρ, G.grow w1 x1, (Tr.all_bind.mp q1).mono (fun ps q2 hl g2 H2 vs w2 x2 rs =>
  q2 (by simp [hl]) g2 H2 (x :: vs) w2 (x1.trans w1 x2) (.cons (rx.mono x2.le) rs)) fun _ _ h => h.grow G w1 x1⟩) fun _ _ h => h⟩⟩
/-- f(k = e, ..) -/
theorem sx_callK0 [MdOk z] (hT : T.has X) (G : FnG T k f fd ps (SpC Γ.k z n F)) (hr : Rm k X.A) (hg : Gl X x) (hm : X.mg x = some (.ref f)) (hk : PySem.W.keepIn X.K (.ref f) = true) (hb : Bd X.K fd ps 0 ks o) (ha : SK Γ X kws ab) (hln : kws.length = ks.length) (hol : ∀ l : List V, l.length = ks.length → (gath l o).length = n)
    (hall : (backToKw pos (keywordEach kws X.env)).all (·.1.isSome) = true := by rfl) (hks : (backToKw pos (keywordEach kws X.env)).filterMap (·.1) = ks := by rfl) (hdb : (x == ("__debug__" : Str)) = false := by decide)
    (hpl : ((backTo pos (starEach [] X.env)).any (·.1) || (backToKw pos (keywordEach kws X.env)).any (·.1.isNone)) = false := by rfl) :
    SX Γ z X (.Call (.Name x p) [] kws pos) (cCallK F o aNil ab) := fun W tk => by
  refine ⟨fun pins s σ H Q I h => ?_⟩
  obtain ⟨g, ρ, Gi, q⟩ := h
  have q : ((ab ρ).bind fun ys => F (gath ([] ++ ys) o)).All _ _ := q
  refine wpAny_Call_Name_kw (ld_glob I hg hm ?_ hdb)
  refine PySem.W.callWith_KW0 (h₀ := X.base) I.ok.mod.kin hk hall (thn ((ha W tk).run pos pins s σ H (fun vs H1 => vs.length = ks.length ∧ SpC Γ.k z n F (gath vs o) H1 Q (WE W σ)) I ⟨g, ρ, Gi, (Tr.all_bind.mp q).mono (fun xs h hl g1 H1 vs w1 x1 r => ?_) fun _ _ h => h⟩) fun us s1 ⟨vs, H1, I1, r, hl, q1⟩ => ⟨I1.kIn, ?_⟩) hpl
  · have hv : vs.length = ks.length := by rw [← r.length, hl, hln]
    exact ⟨hv, spc_of Gi w1 x1 (reps_gath r o) (hol vs hv) h⟩
  · rw [hks]
    have b := hb.to s1 [] us I1.kIn rfl (by rw [← r.length, hl])
    exact run_g (args := ⟨[], ks.zip us⟩) hT G hr b tk I1 (vals_gath r o) q1
/-- f(e, .., k = e, ..) -/
theorem sx_callK [MdOk z] {m : Nat} (hT : T.has X) (G : FnG T k f fd ps (SpC Γ.k z n F)) (hr : Rm k X.A) (hg : Gl X x) (hm : X.mg x = some (.ref f)) (hk : PySem.W.keepIn X.K (.ref f) = true) (hb : Bd X.K fd ps m ks o) (ha : SA Γ X (e :: es) aa) (hkw : SK Γ X kws ab) (hml : (e :: es).length = m) (hln : kws.length = ks.length) (hol : ∀ l : List V, l.length = m + ks.length → (gath l o).length = n)
    (hall : (backToKw pos (keywordEach kws X.env)).all (·.1.isSome) = true := by rfl) (hks : (backToKw pos (keywordEach kws X.env)).filterMap (·.1) = ks := by rfl) (hdb : (x == ("__debug__" : Str)) = false := by decide) (he : starEach (e :: es) X.env = (false, eval e X.env) :: starEach es X.env := by rfl)
    (hpl : ((backTo pos (starEach (e :: es) X.env)).any (·.1) || (backToKw pos (keywordEach kws X.env)).any (·.1.isNone)) = false := by rfl) :
    SX Γ z X (.Call (.Name x p) (e :: es) kws pos) (cCallK F o aa ab) := fun W tk => by
  refine ⟨fun pins s σ H Q I h => ?_⟩
  obtain ⟨g, ρ, Gi, q⟩ := h
  refine wpAny_Call_Name_kw (ld_glob I hg hm ?_ hdb)
  refine PySem.W.callWith_KW (h₀ := X.base) I.ok.mod.kin hk hall (thn ((ha W tk).run pos pins s σ H (fun vs H1 => vs.length = m ∧ RA Γ kws.length ab W σ H1 fun zs H2 => zs.length = ks.length ∧ SpC Γ.k z n F (gath (vs ++ zs) o) H2 Q (WE W σ)) I ⟨g, ρ, Gi, (Tr.all_bind.mp q).mono (fun xs h hl g1 H1 vs w1 x1 r => ?_) fun _ _ h => h⟩) fun us s1 ⟨vs, H1, I1, r, hl, q1⟩ => ?_) hpl he
  · have hv : vs.length = m := by rw [← r.length, hl, hml]
    refine ⟨hv, g1, ρ, Gi.grow w1 x1, (Tr.all_bind.mp h).mono (fun ys h' hl' g2 H2 zs w2 x2 r2 => ?_) fun _ _ h => h.grow Gi w1 x1⟩
    have hz : zs.length = ks.length := by rw [← r2.length, hl', hln]
    exact ⟨hz, spc_of Gi w2 (x1.trans w1 x2) (reps_gath (Reps.app x2.le r r2) o) (hol _ (by rw [List.length_append, hv, hz])) h'⟩
  · refine thn ((hkw W tk).run pos pins s1 σ H1 _ I1 q1) fun ws s2 ⟨zs, H2, I2, rz, hz, q2⟩ => ⟨I2.kIn, ?_⟩
    rw [hks]
    have b := hb.to s2 us ws I2.kIn (by rw [← r.length, hl]) (by rw [← rz.length, hz])
    exact run_g (args := ⟨us, ks.zip ws⟩) hT G hr b tk I2 (vals_gath (r.append rz) o) q2
end
end RK

namespace RK
open PySem PySem.Spec PyProof.Rows L2
section
variable {k : Kn} {X : Cx} {z : Md} {g g' : Gh} {H H' : Hp} {Q : VK} {E : Nat → List PV → Prop}
theorem OpS.mk' {f : Value → Value → Sem Value} {o : PV → PV → Tr PV} {r : R2} (hr : OpR X f r) (h : ∀ g H p q x y Q E, Wd g H → View k g H p x → View k g H q y → (o p q).All (PZ z g H Q) E → r x y H Q) : OpS k z X f o := ⟨r, hr, h⟩
theorem PZ.here {p : PV} {v : V} (w : Wd g H) (q : PZ z g H Q p) (r : z H g H p v) : Q v H := q g H v w (.refl g H) r
/-- a new tuple, a new list -/
theorem PZ.newT {ps : List PV} {vs : List V} {p : Addr} (w : Wd g H) (q : PZ (zV k) g H Q (.tup ps)) (hp : H p = none) (r : Reps k g ps vs) : Q (.ref p) (upd H p (.tup vs)) :=
  q (g.add p (.tup vs)) _ _ (w.new hp) (.new w hp) (.tup (.of add_at) (r.mono (.add (w.none_b hp))))
theorem PZ.newL {ps : List PV} {vs : List V} {p : Addr} (w : Wd g H) (q : PZ (zV k) g H Q (.lst ps)) (hp : H p = none) (r : Reps k g ps vs) : Q (.ref p) (upd H p (.lst vs)) :=
  q (g.add p (.lst vs)) _ _ (w.new hp) (.new w hp) (.lst add_at (r.mono (.add (w.none_b hp))))
theorem PZ.newF {ps : List PV} {vs : List V} {p : Addr} (w : Wd g H) (q : PZ (zF k) g H Q (.lst ps)) (hp : H p = none) (r : Reps k g ps vs) : Q (.ref p) (upd H p (.lst vs)) :=
  q g _ _ (w.laid hp) (.laid hp) ⟨p, vs, ps, rfl, rfl, upd_same, w.none_p hp, w.none_b hp, hp, r⟩
theorem View.int {i : Int} {v : V} (r : View k g H (.int i) v) : v = .int i := by cases r.rep (fun _ h => nomatch h); rfl
theorem View.bl {b : Bool} {v : V} (r : View k g H (.bl b) v) : v = .bl b := by cases r.rep (fun _ h => nomatch h); rfl
theorem View.str {l : List Nat} {v : V} (r : View k g H (.str l) v) : v = .str ⟨⟨l⟩⟩ := by cases r.rep (fun _ h => nomatch h); rfl
theorem View.non {v : V} (r : View k g H .non v) : v = .non := by cases r.rep (fun _ h => nomatch h); rfl
theorem View.tup {ps : List PV} {v : V} (w : Wd g H) (r : View k g H (.tup ps) v) : ∃ a vs, v = .ref a ∧ SqT k.K H a vs ∧ SqT k.K g.B a vs ∧ Reps k g ps vs := by
  cases r.rep (fun _ h => nomatch h) with
  | tup h rr => exact ⟨_, _, rfl, sqT_le w.sub h, h, rr⟩
/-- two ints -/
theorem opS_int {f : Value → Value → Sem Value} {C : Int → Int → Prop} {G : Int → Int → PV} {G' : Int → Int → V} {o : PV → PV → Tr PV} (hr : OpR X f (rI C G')) (hG : ∀ g i j, Rep k g (G i j) (G' i j)) (ho : ∀ p q R E, (o p q).All R E → ∃ i j, p = .int i ∧ q = .int j ∧ C i j ∧ R (G i j)) : OpS k (zV k) X f o :=
  .mk' hr fun g H p q x y Q E w rx ry a => by
    obtain ⟨i, j, rfl, rfl, hc, q⟩ := ho _ _ _ _ a
    exact ⟨i, j, rx.int, ry.int, hc, q.here w (hG g i j)⟩
theorem opS_int0 {f : Value → Value → Sem Value} {G : Int → Int → PV} {G' : Int → Int → V} {o : PV → PV → Tr PV} (hr : OpR X f (rI0 G')) (hG : ∀ g i j, Rep k g (G i j) (G' i j)) (ho : ∀ p q R E, (o p q).All R E → ∃ i j, p = .int i ∧ q = .int j ∧ R (G i j)) : OpS k (zV k) X f o :=
  .mk' hr fun g H p q x y Q E w rx ry a => by
    obtain ⟨i, j, rfl, rfl, q⟩ := ho _ _ _ _ a
    exact ⟨i, j, rx.int, ry.int, q.here w (hG g i j)⟩
theorem op_sub' : OpS k (zV k) X (binaryOp .Sub) oSub := opS_int0 (G := fun i j => .int (i - j)) op_sub (fun g i j => .int _) fun p q R E a => by
  cases p with
  | int i => cases q with
    | int j => exact ⟨i, j, rfl, rfl, a⟩
    | _ => exact (show False from a).elim
  | _ => exact (show False from a).elim
theorem pos_ok {j : Int} (h : pos j = true) : 0 < j := by
  unfold pos at h
  split at h
  · exact Int.ofNat_lt.mpr (Nat.succ_pos _)
  · cases h
theorem small_ok {i : Int} (h : small i = true) : -(2 ^ 64) < i ∧ i < 2 ^ 64 := by
  unfold small at h
  split at h
  · have := Nat.blt_eq.mp h
    constructor <;> simp <;> omega
  · have := Nat.blt_eq.mp h
    constructor <;> simp <;> omega
theorem op_mod' : OpS k (zV k) X (binaryOp .Mod) oMod := opS_int (G := fun i j => .int (i % j)) op_mod (fun g i j => .int _) fun p q R E a => by
  cases p with
  | int i => cases q with
    | int j =>
      obtain ⟨h1, h2⟩ := if_all a
      exact ⟨i, j, rfl, rfl, pos_ok h1, h2⟩
    | _ => exact (show False from a).elim
  | _ => exact (show False from a).elim
theorem op_div' : OpS k (zV k) X (binaryOp .FloorDiv) oDiv := opS_int (G := fun i j => .int (i / j)) op_fdiv (fun g i j => .int _) fun p q R E a => by
  cases p with
  | int i => cases q with
    | int j =>
      obtain ⟨h1, h2⟩ := if_all a
      rw [Bool.and_eq_true] at h1
      have h3 := pos_ok h1.1
      have h4 := Nat.blt_eq.mp h1.2
      exact ⟨i, j, rfl, rfl, ⟨h3, by omega⟩, h2⟩
    | _ => exact (show False from a).elim
  | _ => exact (show False from a).elim
theorem op_pow' : OpS k (zV k) X (binaryOp .Pow) oPow := opS_int (G := fun i j => .int (i ^ j.toNat)) op_pow (fun g i j => .int _) fun p q R E a => by
  cases p with
  | int i => cases q with
    | int j => cases j with
      | ofNat n =>
        obtain ⟨h1, h2⟩ := if_all a
        rw [Bool.and_eq_true] at h1
        have h3 := small_ok h1.1
        have h4 := Nat.le_of_ble_eq_true h1.2
        exact ⟨i, _, rfl, rfl, ⟨by simp, by simp; omega, by omega⟩, h2⟩
      | negSucc n => exact (show False from a).elim
    | _ => exact (show False from a).elim
  | _ => exact (show False from a).elim
theorem op_lt' : OpS k (zV k) X (compareOp .Lt) oLt := opS_int0 (G := fun i j => .bl (decide (i < j))) op_lt (fun g i j => .bl _) fun p q R E a => by
  cases p with
  | int i => cases q with
    | int j => exact ⟨i, j, rfl, rfl, by rw [← iLt_eq]; exact a⟩
    | _ => exact (show False from a).elim
  | _ => exact (show False from a).elim
theorem op_gt' : OpS k (zV k) X (compareOp .Gt) oGt := opS_int0 (G := fun i j => .bl (decide (j < i))) op_gt (fun g i j => .bl _) fun p q R E a => by
  cases p with
  | int i => cases q with
    | int j => exact ⟨i, j, rfl, rfl, by rw [← iLt_eq]; exact a⟩
    | _ => exact (show False from a).elim
  | _ => exact (show False from a).elim
theorem not_lt_dec (i j : Int) : (!iLt j i) = decide (i ≤ j) := by
  rw [iLt_eq, Bool.eq_iff_iff]
  simp
theorem op_le' : OpS k (zV k) X (compareOp .LtE) oLe := opS_int0 (G := fun i j => .bl (decide (i ≤ j))) op_le (fun g i j => .bl _) fun p q R E a => by
  cases p with
  | int i => cases q with
    | int j => exact ⟨i, j, rfl, rfl, by rw [← not_lt_dec]; exact a⟩
    | _ => exact (show False from a).elim
  | _ => exact (show False from a).elim
theorem op_ge' : OpS k (zV k) X (compareOp .GtE) oGe := opS_int0 (G := fun i j => .bl (decide (j ≤ i))) op_ge (fun g i j => .bl _) fun p q R E a => by
  cases p with
  | int i => cases q with
    | int j => exact ⟨i, j, rfl, rfl, by rw [← not_lt_dec]; exact a⟩
    | _ => exact (show False from a).elim
  | _ => exact (show False from a).elim
theorem op_add' (hK : X.K = k.K) : OpS k (zV k) X (binaryOp .Add) oAdd := .mk' (op_add.or (op_cat.or op_catA)) fun g H p q x y Q E w rx ry a => by
  cases p with
  | int i => cases q with
    | int j => exact .inl ⟨i, j, rx.int, ry.int, PZ.here w a (.int _)⟩
    | _ => exact (show False from a).elim
  | lst ps => cases q with
    | lst qs =>
      obtain ⟨h1, h2⟩ := if_all a
      obtain ⟨l, vs, rfl, e1, _, r1⟩ := rx.lst w
      obtain ⟨b, us, rfl, e2, _, r2⟩ := ry.lst w
      refine .inr (.inl ⟨l, b, vs, us, rfl, rfl, e1, e2, by rw [← r1.length, ← r2.length]; exact okN_le h1, fun p hp => PZ.newL w h2 hp (r1.append r2)⟩)
    | _ => exact (show False from a).elim
  | tup ps => cases q with
    | tup qs =>
      obtain ⟨h1, h2⟩ := if_all a
      obtain ⟨l, vs, rfl, e1, f1, r1⟩ := rx.tup w
      obtain ⟨b, us, rfl, e2, f2, r2⟩ := ry.tup w
      refine .inr (.inr ⟨l, b, vs, us, rfl, rfl, hK ▸ e1, hK ▸ e2, by rw [← r1.length, ← r2.length]; exact okN_le h1, fun h => ?_, fun h h' => ?_, fun h h' p hp => PZ.newT w h2 hp (r1.append r2)⟩)
      · subst h
        cases r1
        exact PZ.here w h2 (.tup f2 r2)
      · subst h'
        cases r2
        refine PZ.here w h2 (.tup f1 ?_)
        rw [List.append_nil]
        exact r1
    | _ => exact (show False from a).elim
  | _ => exact (show False from a).elim
/-- two lists, to a new one -/
def oCat : PV → PV → Tr PV
  | .lst xs, .lst ys => if okN (xs.length + ys.length) then .ret (.lst (xs ++ ys)) else .fail
  | _, _ => .fail
theorem op_addF : OpS k (zF k) X (binaryOp .Add) oCat := .mk' op_cat fun g H p q x y Q E w rx ry a => by
  cases p with
  | lst ps => cases q with
    | lst qs =>
      obtain ⟨h1, h2⟩ := if_all a
      obtain ⟨l, vs, rfl, e1, _, r1⟩ := rx.lst w
      obtain ⟨b, us, rfl, e2, _, r2⟩ := ry.lst w
      exact ⟨l, b, vs, us, rfl, rfl, e1, e2, by rw [← r1.length, ← r2.length]; exact okN_le h1, fun p hp => PZ.newF w h2 hp (r1.append r2)⟩
    | _ => exact (show False from a).elim
  | _ => exact (show False from a).elim
theorem repN_flat {α : Type} : ∀ (n : Nat) (xs : List α), repN n xs = (List.replicate n xs).flatten
  | 0, _ => rfl
  | n + 1, xs => by rw [List.replicate_succ, List.flatten_cons, ← repN_flat n xs]; rfl
theorem Reps.rep {ps : List PV} {vs : List V} (r : Reps k g ps vs) : ∀ n : Nat, Reps k g (repN n ps) (List.replicate n vs).flatten
  | 0 => .nil
  | n + 1 => by rw [List.replicate_succ, List.flatten_cons]; exact r.append (Reps.rep r n)
theorem lst_mul {ps : List PV} {i : Int} {x y : V} (w : Wd g H) (rx : View k g H (.lst ps) x) (ry : View k g H (.int i) y) (h : (Nat.blt i.natAbs (2 ^ 62) && okN (ps.length * i.toNat)) = true) (hq : ∀ p vs, H p = none → Reps k g (repN i.toNat ps) vs → Q (.ref p) (upd H p (.lst vs))) : rRep x y H Q := by
  rw [Bool.and_eq_true] at h
  have h1 := Nat.blt_eq.mp h.1
  obtain ⟨l, vs, rfl, e1, _, r1⟩ := rx.lst w
  exact ⟨l, i, vs, rfl, ry.int, e1, by omega, by omega, by rw [← r1.length]; exact okN_le h.2, fun p hp => hq p _ hp (r1.rep _)⟩
/-- a tuple times 1, or an empty one: the same object -/
theorem tup_same (l : Addr) (items : Array Value) (n : Nat) (dd : Option Addr) (sl : Array (Option Value)) (x : Int) (u : Tok) (c0 : (decide (x < -(2 ^ 63)) || decide (x ≥ 2 ^ 63)) = false) (c1 : (items.isEmpty || x == 1) = true) :
    Meets (Builtin.«tuple.__mul__» ⟨[.ref l, .int x u], []⟩) (fun _ R s => s.heap.get? l = some { cls := .type "tuple", dict := dd, data := .seq items n, slots := sl } ∧ R (.ok (.ret (Value.ref l))) s) :=
  .of_wp fun prog w A R s h => by
    obtain ⟨hp, g, d, tk, os⟩ := s
    obtain ⟨hl, h⟩ := h
    have f1 := AutoSeq1.idx_int
    wp_walk using wpAny_loadPart' hl
    repeat (first
      | (refine wpAny_ite_false (decide_eq_false (by rw [c0]; exact Bool.false_ne_true)) ?_; wp_walk using wpAny_loadPart' hl)
      | (refine wpAny_ite_true (decide_eq_true c1) ?_; wp_walk using wpAny_loadPart' hl))
    exact ⟨_, rfl, h⟩
/-- .. times 0 or less: a new empty one -/
theorem tup_none (l : Addr) (items : Array Value) (n : Nat) (dd : Option Addr) (sl : Array (Option Value)) (x : Int) (u : Tok) (c0 : (decide (x < -(2 ^ 63)) || decide (x ≥ 2 ^ 63)) = false) (c1 : (items.isEmpty || x == 1) = false) (c2 : (decide (x ≤ 0) || items.isEmpty) = true) :
    Meets (Builtin.«tuple.__mul__» ⟨[.ref l, .int x u], []⟩) (fun _ R s => s.heap.get? l = some { cls := .type "tuple", dict := dd, data := .seq items n, slots := sl } ∧
      R (.ok (.ret (Value.ref s.heap.objs.size))) { s with heap := s.heap.push { cls := Value.type "tuple", data := Data.seq #[] }, toks := s.toks }) :=
  .of_wp fun prog w A R s h => by
    obtain ⟨hp, g, d, tk, os⟩ := s
    obtain ⟨hl, h⟩ := h
    have f1 := AutoSeq1.idx_int
    wp_walk using wpAny_loadPart' hl
    repeat (first
      | (refine wpAny_ite_false (decide_eq_false (by rw [c0]; exact Bool.false_ne_true)) ?_; wp_walk using wpAny_loadPart' hl)
      | (refine wpAny_ite_false (decide_eq_false (by rw [c1]; exact Bool.false_ne_true)) ?_; wp_walk using wpAny_loadPart' hl)
      | (refine wpAny_ite_true (decide_eq_true c2) ?_; wp_walk using wpAny_loadPart' hl))
    exact ⟨_, rfl, h⟩
/-- tuple * int, within a thousand -/
def rRepA (K : PySem.W.Frag) : R2 := fun x y H Q => ∃ l i xs, x = .ref l ∧ y = .int i ∧ SqT K H l xs ∧ i.natAbs ≤ 1000 ∧ xs.length ≤ 1000 ∧
  ((xs = [] ∨ i = 1) → Q (.ref l) H) ∧ (¬ (xs = [] ∨ i = 1) → ∀ p, H p = none → Q (.ref p) (upd H p (.tup (List.replicate i.toNat xs).flatten)))
theorem op_repA : OpR X (binaryOp .Mult) (rRepA X.K) := by
  intro pins s σ H x y v u Q I rx ry h
  obtain ⟨l, i, xs, rfl, rfl, hT, hi, hz, q1, q2⟩ := h
  by_cases hbig : xs ≠ [] ∧ 2 ≤ i
  · exact op_repT pins s σ H _ _ v u Q I rx ry ⟨l, i, xs, rfl, rfl, hT, hbig.1, hbig.2, by omega, hz, q2 (fun h => h.elim hbig.1 (fun h => by omega))⟩
  · cases rx
    obtain ⟨t, rfl⟩ := ry
    obtain ⟨its, r, ⟨⟨cls, dd, data, sl⟩, ho, hc, n, hd⟩, hs⟩ := I.tuple hT
    simp only at hc hd
    subst hc hd
    have hem : its.toArray.isEmpty = xs.isEmpty := by
      cases r <;> rfl
    have c0 : (decide (i < -(2 ^ 63)) || decide (i ≥ 2 ^ 63)) = false := by
      rw [decide_eq_false (by omega), decide_eq_false (by omega)]
      rfl
    have road : ∀ {R : Value → Shared → Prop}, wpAny (model X.prog X.w) X.A (call (.builtin "tuple.__mul__") [.ref l, .int i t]) R X.xe s → wpAny (model X.prog X.w) X.A (binaryOp .Mult (.ref l) (.int i t)) R X.xe s := fun {R} hcall =>
      wpAny_binaryOp_repeat_ref (T := "tuple") (U := "int") (by decide) ⟨_, ho, rfl⟩ (fun s' => typeIs_int s' i t) noFill_tuple_mul F.fills_int_mul F.slot_int_rmul repeat_tuple F.slot_int_index.lookup
        (call_meets F.slot_int_rmul (typeIs_int s i t) F.entry_int_rmul (F.args_int_rmul_2 _ _) (int_rmul_tuple i t l its.toArray n dd sl) ⟨ho, rfl, ⟨_, ho, rfl⟩, hcall⟩)
    refine road ?_
    by_cases hsame : xs = [] ∨ i = 1
    · have c1 : (its.toArray.isEmpty || i == 1) = true := by
        rw [hem]
        rcases hsame with h | h
        · subst h; rfl
        · subst h; cases xs.isEmpty <;> rfl
      exact call_meets F.slot_tuple_mul ⟨_, ho, rfl⟩ F.entry_tuple_mul (F.args_tuple_mul_2 _ _) (tup_same l its.toArray n dd sl i t c0 c1) ⟨ho, .ref l, H, I, rfl, q1 hsame⟩
    · have hne : xs ≠ [] := fun h => hsame (.inl h)
      have hxe : xs.isEmpty = false := by
        cases xs with
        | nil => exact absurd rfl hne
        | cons _ _ => rfl
      have c1 : (its.toArray.isEmpty || i == 1) = false := by
        rw [hem, hxe, Bool.false_or]
        exact beq_eq_false_iff_ne.mpr fun h => hsame (.inr h)
      have c2 : (decide (i ≤ 0) || its.toArray.isEmpty) = true := by
        have h0 : i ≤ 0 := by
          have h1 : i ≠ 1 := fun h => hsame (.inr h)
          have h2 : ¬ 2 ≤ i := fun h => hbig ⟨hne, h⟩
          omega
        rw [decide_eq_true h0]
        rfl
      have hn : i.toNat = 0 := by
        have h0 : i ≤ 0 := by
          have h1 : i ≠ 1 := fun h => hsame (.inr h)
          have h2 : ¬ 2 ≤ i := fun h => hbig ⟨hne, h⟩
          omega
        omega
      refine call_meets F.slot_tuple_mul ⟨_, ho, rfl⟩ F.entry_tuple_mul (F.args_tuple_mul_2 _ _) (tup_none l its.toArray n dd sl i t c0 c1 c2) ⟨ho, ?_⟩
      have q3 := q2 hsame
      rw [hn] at q3
      exact ⟨.ref s.heap.objs.size, _, I.laid (t' := s.toks) (o := .tup []) (fun b ob q => Heap.get?_push_of_some _ q) (Nat.le_refl _) ⟨Nat.zero_le _, [], .nil, IsTup.new _ _⟩, rfl, q3 _ (I.hok.fresh (Nat.le_refl _))⟩
theorem op_mul' (hK : X.K = k.K) : OpS k (zV k) X (binaryOp .Mult) oMul := .mk' (op_mul.or (op_rep.or op_repA)) fun g H p q x y Q E w rx ry a => by
  cases p with
  | int i => cases q with
    | int j =>
      obtain ⟨h1, h2⟩ := if_all a
      refine .inl ⟨i, j, rx.int, ry.int, ?_, PZ.here w h2 (.int _)⟩
      rw [Bool.or_eq_true] at h1
      exact h1.imp small_ok small_ok
    | _ => exact (show False from a).elim
  | lst ps => cases q with
    | int i =>
      obtain ⟨h1, h2⟩ := if_all a
      exact .inr (.inl (lst_mul w rx ry h1 fun p vs hp r => PZ.newL w h2 hp r))
    | _ => exact (show False from a).elim
  | tup ps => cases q with
    | int i =>
      obtain ⟨h1, h2⟩ := if_all a
      rw [Bool.and_eq_true] at h1
      obtain ⟨l, vs, rfl, e1, f1, r1⟩ := rx.tup w
      refine .inr (.inr ⟨l, i, vs, rfl, ry.int, hK ▸ e1, Nat.le_of_ble_eq_true h1.1, by rw [← r1.length]; exact Nat.le_of_ble_eq_true h1.2, fun h => ?_, fun h p hp => PZ.newT w h2 hp (r1.rep _)⟩)
      refine PZ.here w h2 (.tup f1 ?_)
      rcases h with h | h
      · subst h
        cases r1
        rw [repN_flat]
        have e : (List.replicate i.toNat ([] : List PV)).flatten = [] := by simp
        rw [e]
        exact .nil
      · subst h
        show Reps k g (ps ++ []) vs
        rw [List.append_nil]
        exact r1
    | _ => exact (show False from a).elim
  | _ => exact (show False from a).elim
def oRepL : PV → PV → Tr PV
  | .lst xs, .int k => if Nat.blt k.natAbs (2 ^ 62) && okN (xs.length * k.toNat) then .ret (.lst (repN k.toNat xs)) else .fail
  | _, _ => .fail
theorem op_mulF : OpS k (zF k) X (binaryOp .Mult) oRepL := .mk' op_rep fun g H p q x y Q E w rx ry a => by
  cases p with
  | lst ps => cases q with
    | int i =>
      obtain ⟨h1, h2⟩ := if_all a
      exact lst_mul w rx ry h1 fun p vs hp r => PZ.newF w h2 hp r
    | _ => exact (show False from a).elim
  | _ => exact (show False from a).elim
end
end RK

namespace RK
open PySem PySem.Spec PyProof.Rows L2
def lEq : List Nat → List Nat → Bool
  | [], [] => true
  | a :: l, b :: r => Nat.beq a b && lEq l r
  | _, _ => false
theorem lEq_iff : ∀ {l r : List Nat}, lEq l r = true ↔ l = r
  | [], [] => ⟨fun _ => rfl, fun _ => rfl⟩
  | [], _ :: _ => ⟨fun h => (nomatch (show false = true from h)), fun h => (nomatch h)⟩
  | _ :: _, [] => ⟨fun h => (nomatch (show false = true from h)), fun h => (nomatch h)⟩
  | a :: l, b :: r => by
    show (Nat.beq a b && lEq l r) = true ↔ _
    rw [Bool.and_eq_true, Nat.beq_eq, lEq_iff, List.cons.injEq]
def bEq : Bool → Bool → Bool
  | true, true => true
  | false, false => true
  | _, _ => false
def b2I : Bool → Int
  | true => 1
  | false => 0
def cpOk : List Nat → Bool
  | [] => true
  | c :: r => Nat.blt c 0x110000 && cpOk r
/-- an int that is told in at most some forty signs -/
def intOk (i : Int) : Bool := Nat.blt i.natAbs (10 ^ 40)
mutual
/-- what repr is asked of -/
def isR : PV → Bool
  | .non => true
  | .bl _ => true
  | .int i => intOk i
  | .str l => cpOk l
  | .tup xs => isRs xs
  | .lst xs => isRs xs
  | .dct ks vs => isRs ks && isRs vs && Nat.beq ks.length vs.length
  | _ => false
def isRs : List PV → Bool
  | [] => true
  | x :: xs => isR x && isRs xs
end
mutual
/-- a text, written or told -/
def txOk : PV → Bool
  | .str l => cpOk l
  | .rp p => isR p
  | .si i => intOk i
  | .js ps => txOks ps
  | _ => false
def txOks : List PV → Bool
  | [] => true
  | x :: xs => txOk x && txOks xs
end
mutual
/-- none, bools, ints, texts, lists and tuples of these, n deep -/
def isD : Nat → PV → Bool
  | _, .non => true
  | _, .bl _ => true
  | _, .int _ => true
  | _, .str l => cpOk l
  | n + 1, .tup xs => isDs n xs
  | n + 1, .lst xs => isDs n xs
  | _, .rp p => isR p
  | _, .si i => intOk i
  | _, .js ps => txOks ps
  | _, _ => false
def isDs : Nat → List PV → Bool
  | _, [] => true
  | n, x :: xs => isD n x && isDs n xs
end
mutual
def same : PV → PV → Bool
  | .non, .non => true
  | .bl a, .bl b => bEq a b
  | .int i, .int j => iEq i j
  | .str x, .str y => lEq x y
  | .tup xs, .tup ys => sames xs ys
  | .lst xs, .lst ys => sames xs ys
  | .dct a b, .dct c d => sames a c && sames b d
  | .ins a x, .ins b y => Nat.beq a b && sames x y
  | .rp p, .rp q => same p q
  | .si i, .si j => iEq i j
  | .js x, .js y => sames x y
  | _, _ => false
def sames : List PV → List PV → Bool
  | [], [] => true
  | x :: xs, y :: ys => same x y && sames xs ys
  | _, _ => false
end
theorem bEq_iff {a b : Bool} : bEq a b = true ↔ a = b := by cases a <;> cases b <;> decide
theorem iEq_iff {a b : Int} : iEq a b = true ↔ a = b := by rw [iEq_eq, decide_eq_true_iff]
mutual
theorem same_eq : ∀ {p q : PV}, same p q = true → p = q := by
  intro p q h
  cases p <;> cases q <;> simp only [same, Bool.and_eq_true] at h <;> first
    | rfl
    | (cases h; done)
    | (rw [bEq_iff.mp h]; done)
    | (rw [iEq_iff.mp h]; done)
    | (rw [lEq_iff.mp h]; done)
    | (rw [sames_eq h]; done)
    | (rw [same_eq h]; done)
    | (rw [sames_eq h.1, sames_eq h.2]; done)
    | (rw [Nat.beq_eq.mp h.1, sames_eq h.2]; done)
termination_by p q => sizeOf p
theorem sames_eq : ∀ {p q : List PV}, sames p q = true → p = q := by
  intro p q h
  cases p with
  | nil => cases q with
    | nil => rfl
    | cons y ys => simp only [sames] at h; cases h
  | cons x xs => cases q with
    | nil => simp only [sames] at h; cases h
    | cons y ys =>
      simp only [sames, Bool.and_eq_true] at h
      rw [same_eq h.1, sames_eq h.2]
termination_by p q => sizeOf p
end
def isTl : PV → Bool
  | .str _ => true
  | .rp _ => true
  | .si _ => true
  | .js _ => true
  | _ => false
def textL (p : PV) : List Nat := (textOf p).cps.toList
def eqT (p q : PV) : Bool := isTl p && isTl q && (same p q || lEq (textL p) (textL q))
mutual
def eqP : PV → PV → Bool
  | .non, .non => true
  | .bl a, .bl b => bEq a b
  | .bl a, .int j => iEq (b2I a) j
  | .int i, .bl b => iEq i (b2I b)
  | .int i, .int j => iEq i j
  | .str x, .str y => lEq x y
  | .lst xs, .lst ys => eqPs xs ys
  | .tup xs, .tup ys => eqPs xs ys
  | .rp p, q => eqT (.rp p) q
  | .si i, q => eqT (.si i) q
  | .js ps, q => eqT (.js ps) q
  | .str l, q => eqT (.str l) q
  | _, _ => false
def eqPs : List PV → List PV → Bool
  | [], [] => true
  | x :: xs, y :: ys => eqP x y && eqPs xs ys
  | _, _ => false
end
theorem ok_app (a b : Str) : PyData.strOk (a ++ b) = (PyData.strOk a && PyData.strOk b) := by
  obtain ⟨⟨a⟩⟩ := a
  obtain ⟨⟨b⟩⟩ := b
  show ((⟨a⟩ : Array Nat) ++ ⟨b⟩).all _ = _
  simp [PyData.strOk]
theorem ok_of (s : String) : PyData.strOk (Str.ofString s) = true := by
  unfold PyData.strOk Str.ofString
  rw [cpsOfBytes_string]
  simp only [List.all_toArray, List.all_map, List.all_eq_true]
  intro c hc
  have h := c.valid
  simp only [UInt32.isValidChar, Nat.isValidChar] at h
  show decide (c.toNat < 0x110000) = true
  have : c.toNat = c.val.toNat := rfl
  exact decide_eq_true (by omega)
theorem ok_empty : PyData.strOk Str.empty = true := by simp [PyData.strOk, Str.empty]
theorem ok_join {sep : Str} (hs : PyData.strOk sep = true) : ∀ {l : List Str}, (∀ x ∈ l, PyData.strOk x = true) → PyData.strOk (Str.join sep l) = true
  | [], _ => ok_empty
  | [x], h => h x (by simp)
  | x :: y :: r, h => by
    show PyData.strOk (x ++ sep ++ Str.join sep (y :: r)) = true
    rw [ok_app, ok_app, h x (by simp), hs, ok_join hs fun z hz => h z (by simp at hz ⊢; exact .inr hz)]
    rfl
theorem hex_ok (w c : Nat) : ∀ d ∈ List.replicate w 48 ++ (Nat.toDigits 16 c).map Char.toNat, d < 0x110000 := by
  intro d hd
  rcases List.mem_append.mp hd with h | h
  · rw [(List.mem_replicate.mp h).2]; decide
  · obtain ⟨ch, _, rfl⟩ := List.mem_map.mp h
    have h := ch.valid
    simp only [UInt32.isValidChar, Nat.isValidChar] at h
    have : ch.toNat = ch.val.toNat := rfl
    omega
theorem reprChar_ok {q c : Nat} (hc : c < 0x110000) : ∀ d ∈ Builtin.Str.reprChar q c, d < 0x110000 := by
  intro d hd
  unfold Builtin.Str.reprChar at hd
  simp only at hd
  split at hd
  · rcases List.mem_cons.mp hd with h | h
    · rw [h]; decide
    · rw [List.mem_singleton.mp h]; exact hc
  split at hd
  · rcases List.mem_cons.mp hd with h | h
    · rw [h]; decide
    · rw [List.mem_singleton.mp h]; decide
  split at hd
  · rcases List.mem_cons.mp hd with h | h
    · rw [h]; decide
    · rw [List.mem_singleton.mp h]; decide
  split at hd
  · rcases List.mem_cons.mp hd with h | h
    · rw [h]; decide
    · rw [List.mem_singleton.mp h]; decide
  split at hd
  · rw [List.mem_singleton.mp hd]; exact hc
  have esc : ∀ {u w : Nat}, u < 0x110000 → d ∈ [92, u] ++ (List.replicate w 48 ++ (Nat.toDigits 16 c).map Char.toNat) → d < 0x110000 := fun {u w} hu h => by
    rcases List.mem_append.mp h with h | h
    · rcases List.mem_cons.mp h with h | h
      · rw [h]; decide
      · rw [List.mem_singleton.mp h]; exact hu
    · exact hex_ok _ _ d h
  split at hd
  · exact esc (by decide) hd
  split at hd
  · exact esc (by decide) hd
  · exact esc (by decide) hd
theorem ok_repr {x : Str} (h : PyData.strOk x = true) : PyData.strOk (reprText x) = true := by
  have hq : reprQuote x < 0x110000 := by unfold reprQuote; split <;> decide
  have go : ∀ (l : List Nat) (acc : Array Nat), (∀ c ∈ l, c < 0x110000) → (∀ c ∈ acc, c < 0x110000) → ∀ c ∈ l.foldl (fun out c => out ++ (Builtin.Str.reprChar (reprQuote x) c).toArray) acc, c < 0x110000 := by
    intro l
    induction l with
    | nil => intro acc _ h2; exact h2
    | cons a r ih =>
      intro acc h1 h2
      refine ih _ (fun c hc => h1 c (by simp [hc])) fun c hc => ?_
      rcases Array.mem_append.mp hc with hc | hc
      · exact h2 c hc
      · exact reprChar_ok (h1 a (by simp)) c (by simpa using hc)
  unfold PyData.strOk reprText
  rw [Array.all_eq_true_iff_forall_mem]
  intro c hc
  refine decide_eq_true ?_
  rcases Array.mem_push.mp hc with hc | hc
  · rw [← Array.foldl_toList] at hc
    refine go x.cps.toList #[reprQuote x] (fun c hc => ?_) (fun c hc => by simp at hc; rw [hc]; exact hq) c hc
    unfold PyData.strOk at h
    rw [Array.all_eq_true_iff_forall_mem] at h
    exact of_decide_eq_true (h c (by simpa using hc))
  · rw [hc]; exact hq
theorem cpOk_str : ∀ {l : List Nat}, cpOk l = true → PyData.strOk ⟨⟨l⟩⟩ = true := fun {l} h => by
  unfold PyData.strOk
  rw [← Array.all_toList]
  show l.all _ = true
  induction l with
  | nil => rfl
  | cons c r ih =>
    have h' : (Nat.blt c 0x110000 && cpOk r) = true := h
    rw [Bool.and_eq_true, Nat.blt_eq] at h'
    rw [List.all_cons, ih h'.2, Bool.and_true]
    exact decide_eq_true h'.1
theorem ok_lit (s : String) : PyData.strOk (Str.ofString s) = true := ok_of s
theorem mem_zw {α β γ : Type} {f : α → β → γ} : ∀ {l : List α} {r : List β} {x : γ}, x ∈ List.zipWith f l r → ∃ a b, a ∈ l ∧ b ∈ r ∧ f a b = x
  | [], _, _, h => by simp at h
  | _ :: _, [], _, h => by simp at h
  | a :: l, b :: r, x, h => by
    simp only [List.zipWith_cons_cons, List.mem_cons] at h
    rcases h with rfl | h
    · exact ⟨a, b, by simp, by simp, rfl⟩
    · obtain ⟨a', b', h1, h2, h3⟩ := mem_zw h
      exact ⟨a', b', by simp [h1], by simp [h2], h3⟩
mutual
theorem shown_ok : ∀ {p : PV}, isR p = true → PyData.strOk (toD p).shown = true
  | .non, _ => by simp only [toD, PyData.shown_none]; exact ok_of _
  | .bl b, _ => by simp only [toD, PyData.shown_bool]; cases b <;> exact ok_of _
  | .int i, _ => by simp only [toD, PyData.shown_int]; exact ok_of _
  | .str l, h => by simp only [toD, PyData.shown_str]; exact ok_repr (cpOk_str (by simpa only [isR] using h))
  | .tup xs, h => by
    simp only [toD, PyData.shown_tuple]
    rw [ok_app, ok_app, ok_of, ok_join (ok_of _) (showns_ok (by simpa only [isR] using h)), ok_of]
    rfl
  | .lst xs, h => by
    simp only [toD, PyData.shown_list]
    rw [ok_app, ok_app, ok_of, ok_join (ok_of _) (showns_ok (by simpa only [isR] using h)), ok_of]
    rfl
  | .dct ks vs, h => by
    simp only [isR, Bool.and_eq_true] at h
    simp only [toD, PyData.shown_dict]
    have h1 := showns_ok h.1.1
    have h2 := showns_ok h.1.2
    rw [ok_app, ok_app, ok_of, ok_join (ok_of _) (fun x hx => ?_), ok_of]
    · rfl
    · rw [PyData.shownKv_eq] at hx
      obtain ⟨a, b, ha, hb, rfl⟩ : ∃ a b, a ∈ PyData.shownAll (((toDs ks).zip (toDs vs)).map (·.1)) ∧ b ∈ PyData.shownAll (((toDs ks).zip (toDs vs)).map (·.2)) ∧ a ++ (": " : Str) ++ b = x := by
        exact mem_zw hx
      have sub1 : ∀ (xs ys : List PyData) (a : Str), a ∈ PyData.shownAll ((xs.zip ys).map (·.1)) → a ∈ PyData.shownAll xs := by
        intro xs
        induction xs with
        | nil => intro ys a h; simpa using h
        | cons x xs ih =>
          intro ys a h
          cases ys with
          | nil => simp [PyData.shownAll] at h
          | cons y ys =>
            simp only [List.zip_cons_cons, List.map_cons, PyData.shownAll, List.mem_cons] at h ⊢
            exact h.imp id (ih ys a)
      have sub2 : ∀ (xs ys : List PyData) (a : Str), a ∈ PyData.shownAll ((xs.zip ys).map (·.2)) → a ∈ PyData.shownAll ys := by
        intro xs
        induction xs with
        | nil => intro ys a h; simp [PyData.shownAll] at h
        | cons x xs ih =>
          intro ys a h
          cases ys with
          | nil => simp [PyData.shownAll] at h
          | cons y ys =>
            simp only [List.zip_cons_cons, List.map_cons, PyData.shownAll, List.mem_cons] at h ⊢
            exact h.imp id (ih ys a)
      rw [ok_app, ok_app, h1 a (sub1 _ _ a ha), h2 b (sub2 _ _ b hb), ok_of]
      rfl
  | .ins _ _, h => by simp only [isR] at h; cases h
  | .pot, h => by simp only [isR] at h; cases h
  | .scr _, h => by simp only [isR] at h; cases h
  | .exv _ _, h => by simp only [isR] at h; cases h
  | .clo _ _, h => by simp only [isR] at h; cases h
  | .rp _, h => by simp only [isR] at h; cases h
  | .si _, h => by simp only [isR] at h; cases h
  | .js _, h => by simp only [isR] at h; cases h
theorem showns_ok : ∀ {ps : List PV}, isRs ps = true → ∀ x ∈ PyData.shownAll (toDs ps), PyData.strOk x = true
  | [], _, x, h => by simp [toDs, PyData.shownAll] at h
  | p :: ps, h, x, hx => by
    simp only [isRs, Bool.and_eq_true] at h
    simp only [toDs, PyData.shownAll, List.mem_cons] at hx
    rcases hx with rfl | hx
    · exact shown_ok h.1
    · exact showns_ok h.2 x hx
end
theorem tl_str : ∀ {p : PV}, isTl p = true → toD p = .str (textOf p)
  | .str _, _ => by simp only [textOf, toD]
  | .rp _, _ => by simp only [textOf, toD]
  | .si _, _ => by simp only [textOf, toD]
  | .js _, _ => by simp only [textOf, toD]
  | .non, h | .bl _, h | .int _, h | .tup _, h | .lst _, h | .dct _ _, h | .ins _ _, h | .pot, h | .scr _, h | .exv _ _, h | .clo _ _, h => (nomatch (show false = true from h))
mutual
theorem tx_ok : ∀ {p : PV}, txOk p = true → isTl p = true ∧ PyData.strOk (textOf p) = true
  | .str l, h => ⟨rfl, by simp only [textOf, toD]; exact cpOk_str (by simpa only [txOk] using h)⟩
  | .rp p, h => ⟨rfl, by simp only [textOf, toD]; exact shown_ok (by simpa only [txOk] using h)⟩
  | .si i, h => ⟨rfl, by simp only [textOf, toD]; exact ok_of _⟩
  | .js ps, h => ⟨rfl, by simp only [textOf, toD]; exact txs_ok (by simpa only [txOk] using h)⟩
  | .non, h | .bl _, h | .int _, h | .tup _, h | .lst _, h | .dct _ _, h | .ins _ _, h | .pot, h | .scr _, h | .exv _ _, h | .clo _ _, h => by simp only [txOk] at h; cases h
theorem txs_ok : ∀ {ps : List PV}, txOks ps = true → PyData.strOk (cats ps) = true
  | [], _ => by simp only [cats]; exact ok_empty
  | p :: ps, h => by
    simp only [txOks, Bool.and_eq_true] at h
    obtain ⟨h1, h2⟩ := tx_ok h.1
    simp only [cats]
    rw [tl_str h1, ok_app, h2, txs_ok h.2]
    rfl
end
mutual
theorem isD_lay : ∀ {n : Nat} {p : PV}, isD n p = true → (toD p).canLay0 = true ∧ (toD p).depth ≤ n
  | _, .non, _ => ⟨by simp only [toD, PyData.canLay0], by simp only [toD, PyData.depth]; omega⟩
  | _, .bl _, _ => ⟨by simp only [toD, PyData.canLay0], by simp only [toD, PyData.depth]; omega⟩
  | _, .int _, _ => ⟨by simp only [toD, PyData.canLay0], by simp only [toD, PyData.depth]; omega⟩
  | _, .str l, h => ⟨by simp only [toD, PyData.canLay0]; exact cpOk_str (by cases ‹Nat› <;> exact h), by simp only [toD, PyData.depth]; omega⟩
  | n + 1, .tup xs, h => by
    obtain ⟨h1, h2⟩ := isDs_lay (n := n) (ps := xs) (by simpa only [isD] using h)
    exact ⟨by simp only [toD, PyData.canLay0]; exact h1, by simp only [toD, PyData.depth]; omega⟩
  | n + 1, .lst xs, h => by
    obtain ⟨h1, h2⟩ := isDs_lay (n := n) (ps := xs) (by simpa only [isD] using h)
    exact ⟨by simp only [toD, PyData.canLay0]; exact h1, by simp only [toD, PyData.depth]; omega⟩
  | 0, .tup xs, h => by simp only [isD] at h; cases h
  | 0, .lst xs, h => by simp only [isD] at h; cases h
  | n, .ins _ _, h => by cases n <;> (simp only [isD] at h; cases h)
  | n, .dct _ _, h => by cases n <;> (simp only [isD] at h; cases h)
  | n, .pot, h => by cases n <;> (simp only [isD] at h; cases h)
  | n, .scr _, h => by cases n <;> (simp only [isD] at h; cases h)
  | n, .exv _ _, h => by cases n <;> (simp only [isD] at h; cases h)
  | n, .clo _ _, h => by cases n <;> (simp only [isD] at h; cases h)
  | n, .rp p, h => by
    have h' : isR p = true := by cases n <;> simpa only [isD] using h
    refine ⟨?_, by simp only [toD, PyData.depth]; omega⟩
    simp only [toD, PyData.canLay0]
    exact shown_ok h'
  | n, .si i, h => by
    refine ⟨?_, by simp only [toD, PyData.depth]; omega⟩
    simp only [toD, PyData.canLay0]
    exact ok_of _
  | n, .js ps, h => by
    have h' : txOks ps = true := by cases n <;> simpa only [isD] using h
    refine ⟨?_, by simp only [toD, PyData.depth]; omega⟩
    simp only [toD, PyData.canLay0]
    exact txs_ok h'
theorem isDs_lay : ∀ {n : Nat} {ps : List PV}, isDs n ps = true → PyData.canLayAll0 (toDs ps) = true ∧ PyData.depthAll (toDs ps) ≤ n
  | _, [], _ => ⟨by simp only [toDs, PyData.canLayAll0], by simp only [toDs, PyData.depthAll]; omega⟩
  | n, x :: xs, h => by
    have h' : isD n x = true ∧ isDs n xs = true := by
      have h := h
      simp only [isDs, Bool.and_eq_true] at h
      exact h
    obtain ⟨a1, a2⟩ := isD_lay h'.1
    obtain ⟨b1, b2⟩ := isDs_lay h'.2
    exact ⟨by simp only [toDs, PyData.canLayAll0, Bool.and_eq_true]; exact ⟨a1, b1⟩, by simp only [toDs, PyData.depthAll]; omega⟩
end
theorem isD_shaped {n : Nat} (hn : n ≤ 64) {p : PV} (h : isD n p = true) : SeqAt.shaped (toD p) = true := by
  obtain ⟨h1, h2⟩ := isD_lay h
  unfold SeqAt.shaped
  rw [h1, Bool.true_and]
  exact decide_eq_true (by omega)
section
variable {k : Kn} {g : Gh} {H : Hp}
mutual
theorem Rep.dp (w : Wd g H) : ∀ {n : Nat} {p : PV} {v : V}, Rep k g p v → isD n p = true → Dp k.K H v (toD p)
  | _, _, _, .non, _ => by simp only [toD]; exact .non
  | _, _, _, .bl b, _ => by simp only [toD]; exact .bl b
  | _, _, _, .int i, _ => by simp only [toD]; exact .int i
  | _, _, _, .str l, _ => by simp only [toD]; exact .str _
  | n + 1, _, _, .tup h r, q => by simp only [toD]; exact .tup (sqT_le w.sub h) (Reps.dp w r (n := n) (by simpa only [isD] using q))
  | n + 1, _, _, .lst h r, q => by simp only [toD]; exact .lst (.of (w.sub _ _ h)) (Reps.dp w r (n := n) (by simpa only [isD] using q))
  | 0, _, _, .tup h r, q => by simp only [isD] at q; cases q
  | 0, _, _, .lst h r, q => by simp only [isD] at q; cases q
  | n, _, _, .ins _ _ _ _, q => by cases n <;> (simp only [isD] at q; cases q)
  | n, _, _, .pot _, q => by cases n <;> (simp only [isD] at q; cases q)
  | n, _, _, .scr _, q => by cases n <;> (simp only [isD] at q; cases q)
  | n, _, _, .dct _ _ _, q => by cases n <;> (simp only [isD] at q; cases q)
  | _, _, _, .rp p, _ => by rw [tl_str (p := .rp p) rfl]; exact .str _
  | _, _, _, .si p, _ => by rw [tl_str (p := .si p) rfl]; exact .str _
  | _, _, _, .js p, _ => by rw [tl_str (p := .js p) rfl]; exact .str _
theorem Reps.dp (w : Wd g H) : ∀ {n : Nat} {ps : List PV} {vs : List V}, Reps k g ps vs → isDs n ps = true → DpAll k.K H vs (toDs ps)
  | _, _, _, .nil, _ => by simp only [toDs]; exact .nil
  | n, _, _, .cons r t, q => by
    have q' := q
    simp only [isDs, Bool.and_eq_true] at q'
    simp only [toDs]
    exact .cons (Rep.dp w r q'.1) (Reps.dp w t q'.2)
end
theorem View.dp (w : Wd g H) {n : Nat} {p : PV} {v : V} (r : View k g H p v) (h : isD n p = true) : Dp k.K H v (toD p) := by
  rcases r with r | ⟨a, vs, ps, h1, h2, h3, _, h5⟩
  · exact r.dp w h
  · subst h1 h2
    cases n with
    | zero => simp only [isD] at h; cases h
    | succ n =>
      simp only [toD]
      exact .lst (.of h3) (h5.dp w (n := n) (by simpa only [isD] using h))
end
theorem str_eq {x y : List Nat} : ((⟨⟨x⟩⟩ : Str) == ⟨⟨y⟩⟩) = lEq x y := by
  rw [Bool.eq_iff_iff, beq_iff_eq, lEq_iff]
  constructor
  · intro h
    injection h with h
    injection h
  · intro h
    rw [h]
theorem bEq_eq (a b : Bool) : (a == b) = bEq a b := by cases a <;> cases b <;> rfl
theorem iEq_beq (i j : Int) : (i == j) = iEq i j := by rw [iEq_eq]; exact Bool.beq_eq_decide_eq i j
theorem b2I_eq (a : Bool) : (if a = true then (1 : Int) else 0) = b2I a := by cases a <;> rfl
theorem str_list {x y : Str} : (x == y) = lEq x.cps.toList y.cps.toList := by
  obtain ⟨⟨x⟩⟩ := x
  obtain ⟨⟨y⟩⟩ := y
  exact str_eq
theorem eqT_eq {m : Nat} {p q : PV} (hp : isTl p = true) (hq : isD m q = true) : PyData.eqv (toD p) (toD q) = eqT p q := by
  rw [tl_str hp]
  cases hl : isTl q with
  | true =>
    rw [tl_str hl]
    unfold eqT
    rw [hp, hl]
    simp only [PyData.eqv, Bool.true_and]
    rw [str_list]
    cases hs : same p q with
    | false => rfl
    | true =>
      have := same_eq hs
      subst this
      rw [Bool.true_or]
      exact lEq_iff.mpr rfl
  | false =>
    unfold eqT
    rw [hl, Bool.and_false, Bool.false_and]
    cases q <;> first | (simp only [toD, PyData.eqv]; done) | (cases hl; done) | (cases m <;> (simp only [isD] at hq; cases hq))
mutual
theorem eqP_eq : ∀ {n m : Nat} {p q : PV}, isD n p = true → isD m q = true → PyData.eqv (toD p) (toD q) = eqP p q := by
  intro n m p q hp hq
  cases p with
  | tup xs =>
    cases n with
    | zero => simp only [isD] at hp; cases hp
    | succ n =>
      cases q with
      | tup ys =>
        cases m with
        | zero => simp only [isD] at hq; cases hq
        | succ m =>
          simp only [toD, PyData.eqv, eqP]
          exact eqPs_eq (n := n) (m := m) (by simpa only [isD] using hp) (by simpa only [isD] using hq)
      | _ => first | (simp only [toD, PyData.eqv, eqP]; done) | (cases m <;> (simp only [isD] at hq; cases hq))
  | lst xs =>
    cases n with
    | zero => simp only [isD] at hp; cases hp
    | succ n =>
      cases q with
      | lst ys =>
        cases m with
        | zero => simp only [isD] at hq; cases hq
        | succ m =>
          simp only [toD, PyData.eqv, eqP]
          exact eqPs_eq (n := n) (m := m) (by simpa only [isD] using hp) (by simpa only [isD] using hq)
      | _ => first | (simp only [toD, PyData.eqv, eqP]; done) | (cases m <;> (simp only [isD] at hq; cases hq))
  | non => cases q with
    | _ => first | (simp only [toD, PyData.eqv, eqP]; done) | (cases m <;> (simp only [isD] at hq; cases hq))
  | bl a => cases q with
    | bl b => simp only [toD, PyData.eqv, eqP]; exact bEq_eq a b
    | int j => simp only [toD, PyData.eqv, eqP]; rw [b2I_eq]; exact iEq_beq _ _
    | _ => first | (simp only [toD, PyData.eqv, eqP]; done) | (cases m <;> (simp only [isD] at hq; cases hq))
  | int i => cases q with
    | bl b => simp only [toD, PyData.eqv, eqP]; rw [b2I_eq]; exact iEq_beq _ _
    | int j => simp only [toD, PyData.eqv, eqP]; exact iEq_beq _ _
    | _ => first | (simp only [toD, PyData.eqv, eqP]; done) | (cases m <;> (simp only [isD] at hq; cases hq))
  | str x => cases q with
    | str y => simp only [toD, PyData.eqv, eqP]; exact str_eq
    | _ => exact (eqT_eq (p := .str x) rfl hq).trans (by simp only [eqP])
  | rp x => exact (eqT_eq (p := .rp x) rfl hq).trans (by cases q <;> simp only [eqP])
  | si x => exact (eqT_eq (p := .si x) rfl hq).trans (by cases q <;> simp only [eqP])
  | js x => exact (eqT_eq (p := .js x) rfl hq).trans (by cases q <;> simp only [eqP])
  | _ => cases n <;> (simp only [isD] at hp; cases hp)
termination_by n m p q => sizeOf p
theorem eqPs_eq : ∀ {n m : Nat} {p q : List PV}, isDs n p = true → isDs m q = true → PyData.eqvAll (toDs p) (toDs q) = eqPs p q := by
  intro n m p q hp hq
  cases p with
  | nil => cases q with
    | nil => simp only [toDs, PyData.eqvAll, eqPs]
    | cons y ys => simp only [toDs, PyData.eqvAll, eqPs]
  | cons x xs => cases q with
    | nil => simp only [toDs, PyData.eqvAll, eqPs]
    | cons y ys =>
      simp only [isDs, Bool.and_eq_true] at hp hq
      simp only [toDs, PyData.eqvAll, eqPs]
      rw [eqP_eq hp.1 hq.1, eqPs_eq hp.2 hq.2]
termination_by n m p q => sizeOf p
end
def oEq (neg : Bool) (p q : PV) : Tr PV := if isD 12 p && isD 12 q then .ret (.bl (xor neg (eqP p q))) else .fail
section
variable {k : Kn} {X : Cx} {z : Md} {g : Gh} {H : Hp} {Q : VK} {E : Nat → List PV → Prop}
theorem op_eq' (hK : X.K = k.K) (hu : X.A.units + 64 < cLine) : OpS k (zV k) X (compareOp .Eq) (oEq false) := .mk' (op_eqD hu) fun g H p q x y Q E w rx ry a => by
  obtain ⟨h1, h2⟩ := if_all a
  rw [Bool.and_eq_true] at h1
  refine ⟨toD p, toD q, hK ▸ rx.dp w h1.1, hK ▸ ry.dp w h1.2, isD_shaped (by decide) h1.1, isD_shaped (by decide) h1.2, ?_⟩
  rw [eqP_eq h1.1 h1.2]
  have e : (xor false (eqP p q)) = eqP p q := by cases eqP p q <;> rfl
  rw [← e]
  exact PZ.here w h2 (.bl _)
theorem op_ne' (hK : X.K = k.K) (hu : X.A.units + 64 < cLine) : OpS k (zV k) X (compareOp .NotEq) (oEq true) := .mk' (op_neD hu) fun g H p q x y Q E w rx ry a => by
  obtain ⟨h1, h2⟩ := if_all a
  rw [Bool.and_eq_true] at h1
  refine ⟨toD p, toD q, hK ▸ rx.dp w h1.1, hK ▸ ry.dp w h1.2, isD_shaped (by decide) h1.1, isD_shaped (by decide) h1.2, ?_⟩
  rw [eqP_eq h1.1 h1.2]
  have e : (xor true (eqP p q)) = !eqP p q := by cases eqP p q <;> rfl
  rw [← e]
  exact PZ.here w h2 (.bl _)
end
end RK

set_option maxHeartbeats 1000000
namespace RK
open PySem PySem.Spec PyProof.Rows L2
def sNm : Bool → String
  | true => "list_iterator"
  | false => "tuple_iterator"
def SIt (h : Heap) : Bool → Addr → Addr → Nat → Prop
  | true, it, l, i => h.IsListIter it l i
  | false, it, l, i => h.IsTupleIter it l i
def SSq (h : Heap) : Bool → Addr → Array Value → Prop
  | true, l, xs => h.IsList l xs
  | false, l, xs => h.IsTuple l xs
theorem SIt.at {h h' : Heap} {b : Bool} {it l : Addr} {i : Nat} (x : SIt h b it l i) (e : ∀ o, h.get? it = some o → h'.get? it = some o) : SIt h' b it l i := by
  cases b
  · exact Heap.IsTupleIter.at x e
  · exact Heap.IsListIter.at x e
theorem SSq.at {h h' : Heap} {b : Bool} {l : Addr} {xs : Array Value} (x : SSq h b l xs) (e : ∀ o, h.get? l = some o → h'.get? l = some o) : SSq h' b l xs := by
  cases b
  · exact Heap.IsTuple.at x e
  · exact Heap.IsList.at x e
theorem SIt.obj {h : Heap} {b : Bool} {it l : Addr} {i : Nat} (x : SIt h b it l i) : ∃ o, h.get? it = some o ∧ (∀ v, o.data ≠ .cell v) ∧ o.cls = .type (sNm b) := by
  cases b
  · obtain ⟨o, h1, h2, h3⟩ := x
    exact ⟨o, h1, fun v e => (by rw [h3] at e; cases e), h2⟩
  · obtain ⟨o, h1, h2, h3⟩ := x
    exact ⟨o, h1, fun v e => (by rw [h3] at e; cases e), h2⟩
theorem SSq.lt {h : Heap} {b : Bool} {l : Addr} {xs : Array Value} (x : SSq h b l xs) : l < h.objs.size := by
  cases b <;> exact (let ⟨_, e, _⟩ := x; Heap.lt_size e)
theorem SIt.lt {h : Heap} {b : Bool} {it l : Addr} {i : Nat} (x : SIt h b it l i) : it < h.objs.size := let ⟨_, e, _⟩ := x.obj; Heap.lt_size e
section
variable {prog : Program} {w : World} {A : Around} {E : Value → Shared → Prop} {s : Shared}
theorem nextS {b : Bool} {it l : Addr} {i : Nat} {xs : Array Value} {x : Value} {Q : Value → Shared → Prop} (h1 : SIt s.heap b it l i) (h2 : SSq s.heap b l xs) (hx : xs[i]? = some x)
    (hQ : ∀ h', SIt h' b it l (i + 1) → Heap.SameBut it s.heap h' → Q x { s with heap := h' }) : wpAny (model prog w) A (Builtin.SmallTypes.nextOf (.ref it)) Q E s := by
  cases b
  · exact RZ.nextOf_tuple_item h1 h2 hx hQ
  · exact wpAny_nextOf_list_item h1 h2 hx hQ
theorem nextE {b : Bool} {it l : Addr} {i : Nat} {xs : Array Value} {Q : Value → Shared → Prop} (hh : A.handled = none) (h1 : SIt s.heap b it l i) (h2 : SSq s.heap b l xs) (hx : xs[i]? = none)
    (hE : ∀ h' e, Heap.ExtBut it s.heap h' → (∃ o, h'.get? e = some o ∧ o.cls = .type "StopIteration") → E (.ref e) { s with heap := h' }) : wpAny (model prog w) A (Builtin.SmallTypes.nextOf (.ref it)) Q E s := by
  cases b
  · exact RZ.nextOf_tuple_end hh h1 h2 hx hE
  · exact wpAny_nextOf_list_end hh h1 h2 hx hE
theorem drawS (hh : A.handled = none) (b : Bool) (it l : Addr) (ne : l ≠ it) (xs : Array Value) : Draws prog w A it [it, l] xs.size (fun i v => xs[i]? = some v) (fun i h => SIt h b it l i ∧ SSq h b l xs) where
  live := fun _ _ q => let ⟨o, e, _⟩ := q.1.obj; ⟨o, e⟩
  frame := fun _ _ _ q kp => ⟨q.1.at fun o e => kp it (by simp) o e, q.2.at fun o e => kp l (by simp) o e⟩
  item := fun i s Q E hi q kQ => nextS q.1 q.2 (x := xs[i]) (by simp [hi]) fun h' q' sb => kQ _ h' s.toks (by simp [hi]) ⟨q', q.2.at fun o e => sb.extBut _ _ ne e⟩ sb
  done := fun s Q E q kE => nextE hh q.1 q.2 (by simp) kE

/-- two drawn iterators behind a zip -/
structure Zp (z T O i j : Addr) (fi fj : List Addr) : Prop where
  ne : T ≠ z ∧ O ≠ z ∧ i ≠ z ∧ j ≠ z ∧ T ≠ O ∧ T ≠ i ∧ T ≠ j ∧ O ≠ i ∧ O ≠ j ∧ i ≠ j
  f1 : z ∉ fi ∧ O ∉ fi ∧ j ∉ fi
  f2 : z ∉ fj ∧ O ∉ fj ∧ i ∉ fj
variable {z T O i j : Addr} {fi fj : List Addr} {n m ki kj : Nat} {Pi Pj : Nat → Value → Prop} {Si Sj : Nat → Heap → Prop} {u v : Value}
theorem zp_item {Q : Value → Shared → Prop} (D : Zp z T O i j fi fj) (d1 : Draws prog w A i fi n Pi Si) (d2 : Draws prog w A j fj m Pj Sj) (hz : IsZip s.heap z T O .none) (hT : IsPair s.heap T (.ref i) (.ref j)) (hO : IsPair s.heap O u v) (q1 : Si ki s.heap) (q2 : Sj kj s.heap) (l1 : ki < n) (l2 : kj < m)
    (hQ : ∀ x y h' tk, Pi ki x → Pj kj y → IsZip h' z T O (rawInt s.heap.objs.size) → IsPair h' O x y → Si (ki + 1) h' → Sj (kj + 1) h' → IsPair h' s.heap.objs.size x y → (∀ c o, c ≠ z → c ≠ O → c ≠ i → c ≠ j → s.heap.get? c = some o → h'.get? c = some o) → Q (.ref s.heap.objs.size) { s with heap := h', toks := tk }) :
    wpAny (model prog w) A (Builtin.«zip.__next__» ⟨[.ref z], []⟩) (fun fin s' => ∃ r, fin = .done (.ret r) ∧ Q r s') E s := by
  obtain ⟨hp, gg, dd, t0, oo⟩ := s
  obtain ⟨⟨nT, nO, ni, nj, nTO, nTi, nTj, nOi, nOj, nij⟩, ⟨a1, a2, a3⟩, b1, b2, b3⟩ := D
  show wpAny _ _ (field (.ref z) 2 >>= _) _ _ _
  refine wpAny_bind (wpAny_field hz rfl (x := .bool false) rfl ?_)
  show wpAny _ _ (field (.ref z) 3 >>= _) _ _ _
  refine wpAny_bind (wpAny_field hz rfl (x := .ref T) rfl (wpAny_bind (wpAny_seqItems hT rfl ?_)))
  show wpAny _ _ (Builtin.SmallTypes.ownedTupleIsFree (.ref z) >>= _) _ _ _
  refine wpAny_bind ?_
  unfold Builtin.SmallTypes.ownedTupleIsFree
  refine wpAny_bind (wpAny_field hz rfl (x := .none) rfl (wpAny_pure ?_))
  simp only [if_true]
  refine wpAny_bind (wpAny_rule (wpAny_bind (wpAny_field hz rfl (x := .ref O) rfl ?_)))
  refine wpAny_bind (wpAny_setField_rec hz (by simp) fun g1 z1 s1 => ?_)
  have z1 : IsZip g1 z T O .ellipsis := z1
  have s1 : Heap.SameBut z hp g1 := s1
  have k1 : ∀ c o, c ≠ z → hp.get? c = some o → g1.get? c = some o := fun c o h e => s1.extBut _ _ h e
  refine wpAny_bind ?_
  simp only [List.zipIdx_cons, List.zipIdx_nil, List.forIn_cons, List.forIn_nil]
  refine wpAny_bind (wpAny_bind (wpAny_onRaise ?_))
  show wpAny _ _ (Builtin.SmallTypes.nextOf (.ref i) >>= _) _ _ _
  have e1 : Si ki g1 := d1.frame _ _ _ q1 fun b hb o e => k1 b o (fun q => a1 (q ▸ hb)) e
  refine wpAny_bind (d1.item ki ⟨g1, gg, dd, t0, oo⟩ _ _ l1 e1 fun x g2 t2 hx e2 s2 => wpAny_pure ?_)
  have s2 : Heap.SameBut i g1 g2 := s2
  have k2 : ∀ c o, c ≠ z → c ≠ i → hp.get? c = some o → g2.get? c = some o := fun c o h h' e => s2.extBut _ _ h' (k1 c o h e)
  have z2 : IsZip g2 z T O .ellipsis := s2.extBut _ _ (Ne.symm ni) z1
  have o2 : IsPair g2 O u v := k2 _ _ nO nOi hO
  refine wpAny_bind (wpAny_seqItems o2 rfl (wpAny_bind (wpAny_updateSeq_pair o2 fun g3 o3 s3 => ?_)))
  have o3 : IsPair g3 O x v := o3
  have s3 : Heap.SameBut O g2 g3 := s3
  have k3 : ∀ c o, c ≠ z → c ≠ i → c ≠ O → hp.get? c = some o → g3.get? c = some o := fun c o h h' h'' e => s3.extBut _ _ h'' (k2 c o h h' e)
  have z3 : IsZip g3 z T O .ellipsis := s3.extBut _ _ (Ne.symm nO) z2
  have e3 : Si (ki + 1) g3 := d1.frame _ _ _ e2 fun b hb o e => s3.extBut _ _ (fun q => a2 (q ▸ hb)) e
  refine wpAny_bind (wpAny_letGo (wpAny_pure ?_))
  refine wpAny_bind (wpAny_bind (wpAny_onRaise ?_))
  show wpAny _ _ (Builtin.SmallTypes.nextOf (.ref j) >>= _) _ _ _
  have c3 : Sj kj g3 := d2.frame _ _ _ q2 fun b hb o e => k3 b o (fun q => b1 (q ▸ hb)) (fun q => b3 (q ▸ hb)) (fun q => b2 (q ▸ hb)) e
  refine wpAny_bind (d2.item kj ⟨g3, gg, dd, t2, oo⟩ _ _ l2 c3 fun y g4 t4 hy c4 s4 => wpAny_pure ?_)
  have s4 : Heap.SameBut j g3 g4 := s4
  have z4 : IsZip g4 z T O .ellipsis := s4.extBut _ _ (Ne.symm nj) z3
  have o4 : IsPair g4 O x v := s4.extBut _ _ nOj o3
  have e4 : Si (ki + 1) g4 := d1.frame _ _ _ e3 fun b hb o e => s4.extBut _ _ (fun q => a3 (q ▸ hb)) e
  refine wpAny_bind (wpAny_seqItems o4 rfl (wpAny_bind (wpAny_updateSeq_pair o4 fun g5 o5 s5 => ?_)))
  have o5 : IsPair g5 O x y := o5
  have s5 : Heap.SameBut O g4 g5 := s5
  have z5 : IsZip g5 z T O .ellipsis := s5.extBut _ _ (Ne.symm nO) z4
  have e5 : Si (ki + 1) g5 := d1.frame _ _ _ e4 fun b hb o e => s5.extBut _ _ (fun q => a2 (q ▸ hb)) e
  have c5 : Sj (kj + 1) g5 := d2.frame _ _ _ c4 fun b hb o e => s5.extBut _ _ (fun q => b2 (q ▸ hb)) e
  have k5 : ∀ c o, c ≠ z → c ≠ O → c ≠ i → c ≠ j → hp.get? c = some o → g5.get? c = some o := fun c o h1 h2 h3 h4 e => s5.extBut _ _ h2 (s4.extBut _ _ h4 (k3 c o h1 h3 h2 e))
  have w5 : g5.objs.size = hp.objs.size := by rw [s5.1, s4.1, s3.1, s2.1, s1.1]
  refine wpAny_bind (wpAny_letGo (wpAny_pure (wpAny_pure (wpAny_bind (wpAny_seqItems o5 rfl (wpAny_bind (wpAny_newTuple ?_)))))))
  show wpAny _ _ (Builtin.SmallTypes.ownedTupleHandOut (.ref z) (.ref g5.objs.size) >>= _) _ _ _
  refine wpAny_bind ?_
  unfold Builtin.SmallTypes.ownedTupleHandOut
  have z6 : IsZip (g5.push { cls := .type "tuple", data := .seq #[x, y] }) z T O .ellipsis := Heap.get?_push_of_some _ z5
  refine wpAny_bind (wpAny_setField_rec z6 (by simp) fun g7 z7 s7 => ?_)
  have z7 : IsZip g7 z T O (rawInt g5.objs.size) := z7
  refine wpAny_setField_rec z7 (by simp) fun g8 z8 s8 => ?_
  have z8 : IsZip g8 z T O (rawInt g5.objs.size) := z8
  have up : ∀ c o, c ≠ z → g5.get? c = some o → g8.get? c = some o := fun c o h e => s8.extBut _ _ h (s7.extBut _ _ h (Heap.get?_push_of_some _ e))
  have lz : g5.objs.size ≠ z := Nat.ne_of_gt (Heap.lt_size z5)
  have p8 : IsPair g8 g5.objs.size x y := s8.extBut _ _ lz (s7.extBut _ _ lz (Heap.get?_push_size _ rfl))
  refine wpAny_pure ⟨_, rfl, ?_⟩
  show Q (.ref g5.objs.size) _
  rw [w5] at z8 p8 ⊢
  exact hQ x y g8 t4 hx hy z8 (up _ _ nO o5) (d1.frame _ _ _ e5 fun b hb o e => up b o (fun q => a1 (q ▸ hb)) e) (d2.frame _ _ _ c5 fun b hb o e => up b o (fun q => b1 (q ▸ hb)) e) p8 fun c o h1 h2 h3 h4 e => up c o h1 (k5 c o h1 h2 h3 h4 e)
theorem zp_end {Q : Fin → Shared → Prop} (hh : A.handled = none) (D : Zp z T O i j fi fj) (d1 : Draws prog w A i fi n Pi Si) (d2 : Draws prog w A j fj m Pj Sj) (hz : IsZip s.heap z T O .none) (hT : IsPair s.heap T (.ref i) (.ref j)) (hO : IsPair s.heap O u v) (q1 : Si ki s.heap) (q2 : Sj kj s.heap) (l1 : ki = n ∨ (ki < n ∧ kj = m))
    (hE : ∀ h' tk e, (∀ c o, c ≠ z → c ≠ O → c ≠ i → c ≠ j → s.heap.get? c = some o → h'.get? c = some o) → (∃ o, h'.get? e = some o ∧ o.cls = .type "StopIteration") → E (.ref e) { s with heap := h', toks := tk }) :
    wpAny (model prog w) A (Builtin.«zip.__next__» ⟨[.ref z], []⟩) Q E s := by
  obtain ⟨hp, gg, dd, t0, oo⟩ := s
  obtain ⟨⟨nT, nO, ni, nj, nTO, nTi, nTj, nOi, nOj, nij⟩, ⟨a1, a2, a3⟩, b1, b2, b3⟩ := D
  show wpAny _ _ (field (.ref z) 2 >>= _) _ _ _
  refine wpAny_bind (wpAny_field hz rfl (x := .bool false) rfl ?_)
  show wpAny _ _ (field (.ref z) 3 >>= _) _ _ _
  refine wpAny_bind (wpAny_field hz rfl (x := .ref T) rfl (wpAny_bind (wpAny_seqItems hT rfl ?_)))
  show wpAny _ _ (Builtin.SmallTypes.ownedTupleIsFree (.ref z) >>= _) _ _ _
  refine wpAny_bind ?_
  unfold Builtin.SmallTypes.ownedTupleIsFree
  refine wpAny_bind (wpAny_field hz rfl (x := .none) rfl (wpAny_pure ?_))
  simp only [if_true]
  refine wpAny_bind (wpAny_rule (wpAny_bind (wpAny_field hz rfl (x := .ref O) rfl ?_)))
  refine wpAny_bind (wpAny_setField_rec hz (by simp) fun g1 z1 s1 => ?_)
  have z1 : IsZip g1 z T O .ellipsis := z1
  have s1 : Heap.SameBut z hp g1 := s1
  have k1 : ∀ c o, c ≠ z → hp.get? c = some o → g1.get? c = some o := fun c o h e => s1.extBut _ _ h e
  refine wpAny_bind ?_
  simp only [List.zipIdx_cons, List.zipIdx_nil, List.forIn_cons, List.forIn_nil]
  refine wpAny_bind (wpAny_bind (wpAny_onRaise ?_))
  show wpAny _ _ (Builtin.SmallTypes.nextOf (.ref i) >>= _) _ _ _
  have e1 : Si ki g1 := d1.frame _ _ _ q1 fun b hb o e => k1 b o (fun q => a1 (q ▸ hb)) e
  rcases l1 with rfl | ⟨l1, rfl⟩
  · refine wpAny_bind (d1.done ⟨g1, gg, dd, t0, oo⟩ _ _ e1 fun g2 e x2 he => ?_)
    have x2 : Heap.ExtBut i g1 g2 := x2
    obtain ⟨oe, h1, h2⟩ := he
    have z2 : IsZip g2 z T O .ellipsis := x2 _ _ (Ne.symm ni) z1
    have ez : e ≠ z := fun q => by
      rw [q, z2] at h1
      cases h1
      simp at h2
    exact wpAny_setField_rec z2 (by simp) fun g3 _ s3 => hE g3 t0 e (fun c o h1 _ h3 _ q => s3.extBut _ _ h1 (x2 _ _ h3 (k1 c o h1 q))) ⟨oe, s3.extBut _ _ ez h1, h2⟩
  refine wpAny_bind (d1.item ki ⟨g1, gg, dd, t0, oo⟩ _ _ l1 e1 fun x g2 t2 hx e2 s2 => wpAny_pure ?_)
  have s2 : Heap.SameBut i g1 g2 := s2
  have k2 : ∀ c o, c ≠ z → c ≠ i → hp.get? c = some o → g2.get? c = some o := fun c o h h' e => s2.extBut _ _ h' (k1 c o h e)
  have z2 : IsZip g2 z T O .ellipsis := s2.extBut _ _ (Ne.symm ni) z1
  have o2 : IsPair g2 O u v := k2 _ _ nO nOi hO
  refine wpAny_bind (wpAny_seqItems o2 rfl (wpAny_bind (wpAny_updateSeq_pair o2 fun g3 o3 s3 => ?_)))
  have s3 : Heap.SameBut O g2 g3 := s3
  have k3 : ∀ c o, c ≠ z → c ≠ i → c ≠ O → hp.get? c = some o → g3.get? c = some o := fun c o h h' h'' e => s3.extBut _ _ h'' (k2 c o h h' e)
  have z3 : IsZip g3 z T O .ellipsis := s3.extBut _ _ (Ne.symm nO) z2
  refine wpAny_bind (wpAny_letGo (wpAny_pure ?_))
  refine wpAny_bind (wpAny_bind (wpAny_onRaise ?_))
  show wpAny _ _ (Builtin.SmallTypes.nextOf (.ref j) >>= _) _ _ _
  have c3 : Sj kj g3 := d2.frame _ _ _ q2 fun b hb o e => k3 b o (fun q => b1 (q ▸ hb)) (fun q => b3 (q ▸ hb)) (fun q => b2 (q ▸ hb)) e
  refine wpAny_bind (d2.done ⟨g3, gg, dd, t2, oo⟩ _ _ c3 fun g4 e x4 he => ?_)
  have x4 : Heap.ExtBut j g3 g4 := x4
  obtain ⟨oe, h1, h2⟩ := he
  have z4 : IsZip g4 z T O .ellipsis := x4 _ _ (Ne.symm nj) z3
  have ez : e ≠ z := fun q => by
    rw [q, z4] at h1
    cases h1
    simp at h2
  exact wpAny_setField_rec z4 (by simp) fun g5 _ s5 => hE g5 t2 e (fun c o h1 h2 h3 h4 q => s5.extBut _ _ h1 (x4 _ _ h4 (k3 c o h1 h3 h2 q))) ⟨oe, s5.extBut _ _ ez h1, h2⟩
theorem zp_next {Q : Option Value → Shared → Prop} (D : Zp z T O i j fi fj) (d1 : Draws prog w A.in1 i fi n Pi Si) (d2 : Draws prog w A.in1 j fj m Pj Sj) (hz : IsZip s.heap z T O .none) (hT : IsPair s.heap T (.ref i) (.ref j)) (hO : IsPair s.heap O u v) (q1 : Si ki s.heap) (q2 : Sj kj s.heap) (l1 : ki < n) (l2 : kj < m)
    (hQ : ∀ x y h' tk, Pi ki x → Pj kj y → IsZip h' z T O (rawInt s.heap.objs.size) → IsPair h' O x y → Si (ki + 1) h' → Sj (kj + 1) h' → IsPair h' s.heap.objs.size x y → (∀ c o, c ≠ z → c ≠ O → c ≠ i → c ≠ j → s.heap.get? c = some o → h'.get? c = some o) → Q (some (.ref s.heap.objs.size)) { s with heap := h', toks := tk }) :
    wpAny (model prog w) A (pyNext (.ref z)) Q E s := by
  have ty : s.TypeIs (.ref z) "zip" := ⟨_, hz, rfl⟩
  unfold pyNext
  refine wpAny_bind (wpAny_attempt (wpAny_callSpecial?_slot (name := Str.ofString "__next__") ty F.slot_zip_next (wpAny_call_entry F.slot_zip_next ty F.entry_zip_next ?_ (F.args_zip_next_1 _))))
  exact zp_item D d1 d2 hz hT hO q1 q2 l1 l2 fun x y h' tk a b c d e f g h => wpAny_pure (hQ x y h' tk a b c d e f g h)
theorem zp_stop {Q : Option Value → Shared → Prop} (hh : A.handled = none) (D : Zp z T O i j fi fj) (d1 : Draws prog w A.in1 i fi n Pi Si) (d2 : Draws prog w A.in1 j fj m Pj Sj) (hz : IsZip s.heap z T O .none) (hT : IsPair s.heap T (.ref i) (.ref j)) (hO : IsPair s.heap O u v) (q1 : Si ki s.heap) (q2 : Sj kj s.heap) (l1 : ki = n ∨ (ki < n ∧ kj = m))
    (hQ : ∀ h' tk, (∀ c o, c ≠ z → c ≠ O → c ≠ i → c ≠ j → s.heap.get? c = some o → h'.get? c = some o) → Q none { s with heap := h', toks := tk }) : wpAny (model prog w) A (pyNext (.ref z)) Q E s := by
  have ty : s.TypeIs (.ref z) "zip" := ⟨_, hz, rfl⟩
  unfold pyNext
  refine wpAny_bind (wpAny_attempt (wpAny_callSpecial?_slot (name := Str.ofString "__next__") ty F.slot_zip_next (wpAny_call_entry F.slot_zip_next ty F.entry_zip_next ?_ (F.args_zip_next_1 _))))
  refine zp_end hh D d1 d2 hz hT hO q1 q2 l1 fun h' tk e hk he => ?_
  obtain ⟨o, h1, h2⟩ := he
  exact wpAny_bind (wpAny_isInstance (T := "StopIteration") (b := true) ⟨o, h1, h2⟩ isSubtype_stop (wpAny_pure (hQ h' tk hk)))
end

def lNm : Bool → String
  | true => "list"
  | false => "tuple"
theorem iterS {prog : Program} {w : World} {A : Around} {E : Value → Shared → Prop} {s : Shared} {b : Bool} {l : Addr} {xs : Array Value} {Q : Value → Shared → Prop} (h2 : SSq s.heap b l xs)
    (hQ : Q (.ref s.heap.objs.size) { s with heap := s.heap.push { cls := .type (sNm b), data := .fields #[.ref l, .int 0 0] } }) : wpAny (model prog w) A (pyIter (.ref l)) Q E s := by
  cases b
  · exact wpAny_pyIter_tuple (show s.heap.IsTuple l xs from h2) hQ
  · exact wpAny_pyIter_list (show s.heap.IsList l xs from h2) hQ
theorem SIt.new {h : Heap} {b : Bool} {l : Addr} : SIt (h.push { cls := .type (sNm b), data := .fields #[.ref l, .int 0 0] }) b h.objs.size l 0 := by
  cases b <;> exact ⟨_, Heap.get?_push_size _ rfl, rfl, rfl⟩
theorem SSq.push {h : Heap} {b : Bool} {l : Addr} {xs : Array Value} (x : SSq h b l xs) (o : Obj) : SSq (h.push o) b l xs := x.at fun _ e => Heap.get?_push_of_some _ e
theorem SSq.typeIs {s : Shared} {b : Bool} {l : Addr} {xs : Array Value} (x : SSq s.heap b l xs) : s.TypeIs (.ref l) (lNm b) := by
  cases b <;> exact (let ⟨o, e, c, _⟩ := x; ⟨o, e, c⟩)
theorem zip_made (b c : Bool) (l r : Addr) (xs ys : Array Value) :
    Meets (Builtin.«zip.__new__» ⟨[.type "zip", .ref l, .ref r], []⟩) (fun _ R s => SSq s.heap b l xs ∧ SSq s.heap c r ys ∧
      (∀ h', IsZip h' (s.heap.objs.size + 4) (s.heap.objs.size + 2) (s.heap.objs.size + 3) .none → IsPair h' (s.heap.objs.size + 2) (.ref s.heap.objs.size) (.ref (s.heap.objs.size + 1)) → IsPair h' (s.heap.objs.size + 3) .none .none →
        SIt h' b s.heap.objs.size l 0 → SIt h' c (s.heap.objs.size + 1) r 0 → (∀ a o, s.heap.get? a = some o → h'.get? a = some o) → R (.ok (.ret (.ref (s.heap.objs.size + 4)))) { s with heap := h' })) :=
  .of_wp fun prog w A R s h => by
    obtain ⟨hp, g, d, tk, os⟩ := s
    obtain ⟨h1, h2, h⟩ := h
    have sub := sub_zip
    have p1 : SSq (Shared.heap ⟨hp, g, d, tk, os⟩) b l xs := h1
    have p2 : SSq (Shared.heap ⟨hp.push { cls := .type (sNm b), data := .fields #[.ref l, .int 0 0] }, g, d, tk, os⟩) c r ys := SSq.push h2 _
    wp_walk using iterS p1, iterS p2
    refine ⟨_, rfl, ?_⟩
    generalize e1 : hp.push { cls := .type (sNm b), data := .fields #[.ref l, .int 0 0] } = q1
    generalize e2 : q1.push { cls := .type (sNm c), data := .fields #[.ref r, .int 0 0] } = q2
    have w1 : q1.objs.size = hp.objs.size + 1 := by rw [← e1]; exact Heap.size_push ..
    have w2 : q2.objs.size = hp.objs.size + 2 := by rw [← e2, Heap.size_push, w1]
    have w3 : ∀ o, (q2.push o).objs.size = hp.objs.size + 3 := fun o => by rw [Heap.size_push, w2]
    have w4 : ∀ o o', ((q2.push o).push o').objs.size = hp.objs.size + 4 := fun o o' => by rw [Heap.size_push, w3]
    have i1 : SIt q1 b hp.objs.size l 0 := by rw [← e1]; exact SIt.new
    have i2 : SIt q2 c (hp.objs.size + 1) r 0 := by rw [← e2, ← w1]; exact SIt.new
    have i1' : SIt q2 b hp.objs.size l 0 := by rw [← e2]; exact i1.at fun o e => Heap.get?_push_of_some _ e
    rw [w4, w1, w2, w3]
    refine h _ ?_ ?_ ?_ (i1'.at fun o e => Heap.get?_push_of_some _ (Heap.get?_push_of_some _ (Heap.get?_push_of_some _ e))) (i2.at fun o e => Heap.get?_push_of_some _ (Heap.get?_push_of_some _ (Heap.get?_push_of_some _ e))) fun a o e => Heap.get?_push_of_some _ (Heap.get?_push_of_some _ (Heap.get?_push_of_some _ ?_))
    · have := Heap.get?_push_size ((q2.push { cls := .type "tuple", data := .seq #[.ref hp.objs.size, .ref (hp.objs.size + 1)] }).push { cls := .type "tuple", data := .seq #[.none, .none] }) (o := { cls := .type "zip", data := .fields #[.none, .bool false, .bool false, .ref (hp.objs.size + 2), .ref (hp.objs.size + 3)] }) rfl
      rw [w4] at this
      exact this
    · refine Heap.get?_push_of_some _ (Heap.get?_push_of_some _ ?_)
      have := Heap.get?_push_size q2 (o := { cls := .type "tuple", data := .seq #[.ref hp.objs.size, .ref (hp.objs.size + 1)] }) rfl
      rw [w2] at this
      exact this
    · refine Heap.get?_push_of_some _ ?_
      have := Heap.get?_push_size (q2.push { cls := .type "tuple", data := .seq #[.ref hp.objs.size, .ref (hp.objs.size + 1)] }) (o := { cls := .type "tuple", data := .seq #[.none, .none] }) rfl
      rw [w3] at this
      exact this
    · rw [← e2, ← e1]
      exact Heap.get?_push_of_some _ (Heap.get?_push_of_some _ e)
theorem enum_made (b : Bool) (l : Addr) (xs : Array Value) :
    Meets (Builtin.«enumerate.__new__» ⟨[.type "enumerate", .ref l], []⟩) (fun _ R s => SSq s.heap b l xs ∧
      (∀ h', IsEnum h' (s.heap.objs.size + 1) s.heap.objs.size 0 .none → SIt h' b s.heap.objs.size l 0 → (∀ a o, s.heap.get? a = some o → h'.get? a = some o) → R (.ok (.ret (.ref (s.heap.objs.size + 1)))) { s with heap := h' })) :=
  .of_wp fun prog w A R s h => by
    obtain ⟨hp, g, d, tk, os⟩ := s
    obtain ⟨h1, h⟩ := h
    have sub := sub_enumerate
    have p1 : SSq (Shared.heap ⟨hp, g, d, tk, os⟩) b l xs := h1
    have fin : R (.ok (.ret (.ref (hp.push { cls := .type (sNm b), data := .fields #[.ref l, .int 0 0] }).objs.size))) { heap := (hp.push { cls := .type (sNm b), data := .fields #[.ref l, .int 0 0] }).push { cls := .type "enumerate", data := .fields #[.none, .bool false, .ref hp.objs.size, rawInt 0, .none, .none] }, gens := g, drawn := d, toks := tk, os := os } := by
      have w1 : (hp.push { cls := .type (sNm b), data := .fields #[.ref l, .int 0 0] }).objs.size = hp.objs.size + 1 := Heap.size_push ..
      rw [w1]
      refine h _ ?_ (SIt.new.at fun o e => Heap.get?_push_of_some _ e) fun a o e => Heap.get?_push_of_some _ (Heap.get?_push_of_some _ e)
      have := Heap.get?_push_size (hp.push { cls := .type (sNm b), data := .fields #[.ref l, .int 0 0] }) (o := { cls := .type "enumerate", data := .fields #[.none, .bool false, .ref hp.objs.size, rawInt 0, .none, .none] }) rfl
      rw [w1] at this
      exact this
    have h3 : ∃ o, hp.get? l = some o ∧ o.cls = .type (lNm b) := by cases b <;> exact (let ⟨o, e, c, _⟩ := h1; ⟨o, e, c⟩)
    obtain ⟨⟨c, dd, dt, sl⟩, ho, hc⟩ := h3
    have hc : c = .type (lNm b) := hc
    subst hc
    wp_walk using AutoSeq1.wpAny_loadPart' ho
    refine wpAny_stack_any fun st => wpAny_pure ?_
    split
    · rename_i c _ _ _ _ _
      cases (c == Value.type "enumerate")
      · wp_walk using AutoSeq1.wpAny_loadPart' ho, iterS p1
        exact ⟨_, rfl, fin⟩
      · wp_walk using AutoSeq1.wpAny_loadPart' ho, iterS p1
        exact ⟨_, rfl, fin⟩
    · wp_walk using AutoSeq1.wpAny_loadPart' ho, iterS p1
      exact ⟨_, rfl, fin⟩
end RK

set_option maxHeartbeats 1000000
namespace RK
open PySem PySem.Spec PyProof.Rows L2
/-- the list (true) or the tuple (false) at a -/
def SqB (K : PySem.W.Frag) (H : Hp) : Bool → Addr → List V → Prop
  | true, a, vs => SqL K H a vs
  | false, a, vs => SqT K H a vs
section
variable {X : Cx} {pins : List (Addr × Obj)} {σ : L2.St} {H : Hp} {s : Shared}
theorem seqB (I : Inv X pins σ H s) {b : Bool} {a : Addr} {vs : List V} (h : SqB X.K H b a vs) : ∃ its : List Value, Vals vs its ∧ SSq s.heap b a its.toArray := by
  cases b
  · obtain ⟨its, r, p, _⟩ := I.tuple h
    exact ⟨its, r, p⟩
  · obtain ⟨its, r, p, _⟩ := I.list h
    exact ⟨its, r, p.isList⟩
theorem seqB_inj (I : Inv X pins σ H s) {b : Bool} {a : Addr} {vs ws : List V} (h : SqB X.K H b a vs) (h' : SqB X.K H b a ws) : vs = ws := by
  cases b
  · exact I.tuple_inj h h'
  · exact I.list_inj h h'
end
def ItB (K : PySem.W.Frag) : Bool → Addr → It
  | true, a => Itl K a
  | false, a => Itt K a
/-- .. in pairs (place, item) -/
def ItE (K : PySem.W.Frag) (b : Bool) (a : Addr) : It :=
  ⟨fun i H => ∃ (vs : List V) (x : V), SqB K H b a vs ∧ vs[i]? = some x, fun i H v H' => ∃ T x, v = .ref T ∧ H T = none ∧ H' = upd H T (.tup [.int (i : Nat), x]) ∧ ∀ vs, SqB K H b a vs → vs[i]? = some x, fun i H => ∃ vs : List V, SqB K H b a vs ∧ vs.length ≤ i⟩
/-- two, in pairs -/
def ItZ (K : PySem.W.Frag) (b c : Bool) (a r : Addr) : It :=
  ⟨fun i H => ∃ (vs ws : List V) (x y : V), SqB K H b a vs ∧ SqB K H c r ws ∧ vs[i]? = some x ∧ ws[i]? = some y, fun i H v H' => ∃ T x y, v = .ref T ∧ H T = none ∧ H' = upd H T (.tup [x, y]) ∧ (∀ vs, SqB K H b a vs → vs[i]? = some x) ∧ ∀ ws, SqB K H c r ws → ws[i]? = some y,
    fun i H => ∃ vs ws : List V, SqB K H b a vs ∧ SqB K H c r ws ∧ (vs.length ≤ i ∨ ws.length ≤ i)⟩
theorem pair_laid {X : Cx} {pins : List (Addr × Obj)} {σ : L2.St} {H : Hp} {s : Shared} {h' : Heap} {tk : Nat} {ch : List Addr} {x y : V} {u v : Value} (I : Inv X pins σ H s) (rx : RelV x u) (ry : RelV y v) (kp : ∀ b o, b ∉ ch → s.heap.get? b = some o → h'.get? b = some o) (hf : ∀ b ∈ ch, FpOk X pins H b) (hT : h'.get? s.heap.objs.size = some { cls := .type "tuple", data := .seq #[u, v] }) :
    Inv X pins σ (upd H s.heap.objs.size (.tup [x, y])) { s with heap := h', toks := tk } :=
  I.turnedNew (t' := tk) kp hf (Nat.le_refl _) ⟨by show 2 ≤ sizeLine; decide, [u, v], .cons rx (.cons ry .nil), ⟨_, hT, rfl, _, rfl⟩⟩
theorem turn_enumB {P : Program} {w : World} {K : PySem.W.Frag} {elts : List Expr} {kk : Nat} {tpos : Pos} (b : Bool) {a e it : Addr} (ne : e ≠ it) (nl : a ≠ it) (ne2 : e ≠ a) :
    Turn P w K (.Tuple elts kk tpos) (ItE K b a) [e, it] e (fun i h => (∃ old, IsEnum h e it ((i : Nat) : Int) old) ∧ SIt h b it a i) where
  mem := by simp
  obj := fun i h q c hc => by
    obtain ⟨⟨old, q1⟩, q2⟩ := q
    have hc : c = e ∨ c = it := by simpa using hc
    rcases hc with rfl | rfl
    · exact ⟨_, q1, fun v z => nomatch z⟩
    · obtain ⟨o, h1, h2, _⟩ := q2.obj
      exact ⟨o, h1, h2⟩
  keep := fun i h h' q kp => ⟨let ⟨old, q1⟩ := q.1; ⟨old, kp e (by simp) _ q1⟩, q.2.at fun o z => kp it (by simp) o z⟩
  item := by
    intro X hP hw hK hc i pins s σ H E I hf q hg
    subst hP hw hK
    obtain ⟨⟨old, q1⟩, q2⟩ := q
    obtain ⟨vs, x, hq, hx⟩ := hg
    obtain ⟨its, rv, p⟩ := seqB I hq
    have hi : i < its.toArray.size := by
      have := rv.length
      have := (List.getElem?_eq_some_iff.mp hx).1
      simp only [List.size_toArray]
      omega
    have el := Heap.lt_size q1
    have il := q2.lt
    refine wpAny_pyNext_enum_itemD (drawS (A := X.A.in1) (I.ok.hd hc) b it a nl its.toArray) q1 ⟨q2, p⟩ hi ne (by simp [ne, ne2]) fun u h' tk hu ho hst hT hsz hk => ?_
    refine ⟨_, rfl, wpAny_letOwnedTupleGo_enum (s := { s with heap := h', toks := tk + 1 }) ho fun h2 he sb => ?_⟩
    obtain ⟨u', hu', ru⟩ := rv.get hx
    have hu : its.toArray[i]? = some u := hu
    have eu : u = u' := by
      rw [List.getElem?_toArray, hu'] at hu
      exact (Option.some.inj hu).symm
    subst eu
    have I1 : Inv X pins σ (upd H s.heap.objs.size (.tup [.int (i : Nat), x])) { s with heap := h2, toks := tk + 1 } :=
      pair_laid (ch := [e, it]) (tk := tk + 1) I ⟨tk, rfl⟩ ru (fun c o hb q => (sb.2 c (fun z => hb (by simp [z]))).trans (hk c o (fun z => hb (by simp [z])) (fun z => hb (by simp [z])) q)) hf ((sb.2 _ (Nat.ne_of_gt el)).trans hT)
    refine ⟨.ref s.heap.objs.size, _, I1, rfl, ⟨_, x, rfl, I.hok.fresh (Nat.le_refl _), rfl, fun ys hy => by rw [seqB_inj I hy hq]; exact hx⟩, ⟨⟨u, he⟩, hst.1.at fun o z => (sb.2 it (Ne.symm ne)).trans z⟩, fun c hcm => ?_⟩
    have cl : c < s.heap.objs.size := by
      have hcm : c = e ∨ c = it := by simpa using hcm
      rcases hcm with rfl | rfl
      · exact el
      · exact il
    rw [upd_ne (Nat.ne_of_lt cl)]
    exact (hf c hcm).1
  done := by
    intro X hP hw hK hc i pins s σ H E I hf q hg
    subst hP hw hK
    obtain ⟨⟨old, q1⟩, q2⟩ := q
    obtain ⟨vs, hq, hx⟩ := hg
    obtain ⟨its, rv, p⟩ := seqB I hq
    have hl := rv.length
    have D : Draws X.prog X.w X.A.in1 it [it, a] 0 (fun _ _ => True) (fun _ h => SIt h b it a i ∧ SSq h b a its.toArray) :=
      { live := fun _ _ q => let ⟨o, e, _⟩ := q.1.obj; ⟨o, e⟩
        frame := fun _ _ _ q kp => ⟨q.1.at fun o e => kp it (by simp) o e, q.2.at fun o e => kp a (by simp) o e⟩
        item := fun j s Q E hj q kQ => absurd hj (Nat.not_lt_zero j)
        done := fun s Q E q kE => nextE (show X.A.in1.handled = none from I.ok.hd hc) q.1 q.2 (by simp; omega) kE }
    obtain ⟨f0, f1, f2, f3, f4, f5⟩ := hf it (by simp)
    exact wpAny_pyNext_enum_endD D q1 ⟨q2, p⟩ fun h' eb => ⟨rfl, I.turned (t' := s.toks) (fun b o hb q => eb b o hb q) f0 f1 f3 f4 f5⟩
  self := fun A i s Q E q h => let ⟨_, q1⟩ := q.1; wpAny_pyIter_enum q1 h
/-- the places of a zip -/
structure Za (z T O i j a r : Addr) : Prop where
  p : Zp z T O i j [i, a] [j, r]
  l : a ≠ i
  r : r ≠ j
theorem turn_zipB {P : Program} {w : World} {K : PySem.W.Frag} {elts : List Expr} {kk : Nat} {tpos : Pos} (b c : Bool) {a r z T O i' j' : Addr} (Z : Za z T O i' j' a r) :
    Turn P w K (.Tuple elts kk tpos) (ItZ K b c a r) [z, T, O, i', j'] z (fun i h => IsZip h z T O .none ∧ IsPair h T (.ref i') (.ref j') ∧ (∃ x y, IsPair h O x y) ∧ SIt h b i' a i ∧ SIt h c j' r i) where
  mem := by simp
  obj := fun i h q d hd => by
    obtain ⟨q1, q2, ⟨x, y, q3⟩, q4, q5⟩ := q
    have hd : d = z ∨ d = T ∨ d = O ∨ d = i' ∨ d = j' := by simpa using hd
    rcases hd with rfl | rfl | rfl | rfl | rfl
    · exact ⟨_, q1, fun v z => nomatch z⟩
    · exact ⟨_, q2, fun v z => nomatch z⟩
    · exact ⟨_, q3, fun v z => nomatch z⟩
    · obtain ⟨o, h1, h2, _⟩ := q4.obj
      exact ⟨o, h1, h2⟩
    · obtain ⟨o, h1, h2, _⟩ := q5.obj
      exact ⟨o, h1, h2⟩
  keep := fun i h h' q kp => ⟨kp z (by simp) _ q.1, kp T (by simp) _ q.2.1, let ⟨x, y, q3⟩ := q.2.2.1; ⟨x, y, kp O (by simp) _ q3⟩, q.2.2.2.1.at fun o e => kp i' (by simp) o e, q.2.2.2.2.at fun o e => kp j' (by simp) o e⟩
  item := by
    intro X hP hw hK hc i pins s σ H E I hf q hg
    subst hP hw hK
    obtain ⟨q1, q2, ⟨x0, y0, q3⟩, q4, q5⟩ := q
    obtain ⟨vs, ws, x, y, ha, hr, hx, hy⟩ := hg
    obtain ⟨its, rv, pa⟩ := seqB I ha
    obtain ⟨its2, rv2, pr⟩ := seqB I hr
    obtain ⟨nT, nO, ni, nj, nTO, nTi, nTj, nOi, nOj, nij⟩ := id Z.p.ne
    have zl : z < s.heap.objs.size := Heap.lt_size q1
    have hi : i < its.toArray.size := by
      have := rv.length
      have := (List.getElem?_eq_some_iff.mp hx).1
      simp only [List.size_toArray]
      omega
    have hj : i < its2.toArray.size := by
      have := rv2.length
      have := (List.getElem?_eq_some_iff.mp hy).1
      simp only [List.size_toArray]
      omega
    refine zp_next Z.p (drawS (A := X.A.in1) (I.ok.hd hc) b i' a Z.l its.toArray) (drawS (A := X.A.in1) (I.ok.hd hc) c j' r Z.r its2.toArray) q1 q2 q3 ⟨q4, pa⟩ ⟨q5, pr⟩ hi hj fun u v h' tk hu hv z' O' s1 s2 hT hk => ?_
    refine ⟨_, rfl, wpAny_letOwnedTupleGo_zip (s := { s with heap := h', toks := tk }) z' fun h2 z2 sb => ?_⟩
    obtain ⟨u', hu', ru⟩ := rv.get hx
    obtain ⟨v', hv', rv'⟩ := rv2.get hy
    have eu : u = u' := by
      have hu : its.toArray[i]? = some u := hu
      rw [List.getElem?_toArray, hu'] at hu
      exact (Option.some.inj hu).symm
    have ev : v = v' := by
      have hv : its2.toArray[i]? = some v := hv
      rw [List.getElem?_toArray, hv'] at hv
      exact (Option.some.inj hv).symm
    subst eu ev
    have I1 : Inv X pins σ (upd H s.heap.objs.size (.tup [x, y])) { s with heap := h2, toks := tk } :=
      pair_laid (ch := [z, T, O, i', j']) (tk := tk) I ru rv' (fun d o hb q => (sb.2 d (fun e => hb (by simp [e]))).trans (hk d o (fun e => hb (by simp [e])) (fun e => hb (by simp [e])) (fun e => hb (by simp [e])) (fun e => hb (by simp [e])) q)) hf ((sb.2 _ (Nat.ne_of_gt zl)).trans hT)
    refine ⟨.ref s.heap.objs.size, _, I1, rfl, ⟨_, x, y, rfl, I.hok.fresh (Nat.le_refl _), rfl, fun ys h => by rw [seqB_inj I h ha]; exact hx, fun ys h => by rw [seqB_inj I h hr]; exact hy⟩, ⟨z2, ?_, ⟨u, v, ?_⟩, ?_, ?_⟩, fun d hd => ?_⟩
    · exact (sb.2 _ nT).trans (hk _ _ nT nTO nTi nTj q2)
    · exact (sb.2 _ nO).trans O'
    · exact s1.1.at fun o e => (sb.2 _ ni).trans e
    · exact s2.1.at fun o e => (sb.2 _ nj).trans e
    · have dl : d < s.heap.objs.size := by
        have hd : d = z ∨ d = T ∨ d = O ∨ d = i' ∨ d = j' := by simpa using hd
        rcases hd with rfl | rfl | rfl | rfl | rfl
        · exact zl
        · exact Heap.lt_size q2
        · exact Heap.lt_size q3
        · exact q4.lt
        · exact q5.lt
      rw [upd_ne (Nat.ne_of_lt dl)]
      exact (hf d hd).1
  done := by
    intro X hP hw hK hc i pins s σ H E I hf q hg
    subst hP hw hK
    obtain ⟨q1, q2, ⟨x0, y0, q3⟩, q4, q5⟩ := q
    obtain ⟨vs, ws, ha, hr, hend⟩ := hg
    obtain ⟨its, rv, pa⟩ := seqB I ha
    obtain ⟨its2, rv2, pr⟩ := seqB I hr
    have l1 := rv.length
    have l2 := rv2.length
    have hhd : X.A.in1.handled = none := I.ok.hd hc
    have turnL : ∀ (h' : Heap) (tk : Nat), (∀ d o, d ≠ z → d ≠ O → d ≠ i' → d ≠ j' → s.heap.get? d = some o → h'.get? d = some o) → Inv X pins σ H { s with heap := h', toks := tk } := fun h' tk hk =>
      I.turnedL (t' := tk) (ch := [z, T, O, i', j']) (fun d o hb q => hk d o (fun e => hb (by simp [e])) (fun e => hb (by simp [e])) (fun e => hb (by simp [e])) (fun e => hb (by simp [e])) q) hf
    by_cases h1 : i < its.length
    · have h2 : ¬ i < its2.length := by omega
      have D2 : Draws X.prog X.w X.A.in1 j' [j', r] 0 (fun _ _ => True) (fun _ h => SIt h c j' r i ∧ SSq h c r its2.toArray) :=
        { live := fun _ _ q => let ⟨o, e, _⟩ := q.1.obj; ⟨o, e⟩
          frame := fun _ _ _ q kp => ⟨q.1.at fun o e => kp j' (by simp) o e, q.2.at fun o e => kp r (by simp) o e⟩
          item := fun j s Q E hj q kQ => absurd hj (Nat.not_lt_zero j)
          done := fun s Q E q kE => nextE hhd q.1 q.2 (by simp; omega) kE }
      exact zp_stop (I.ok.hd hc) Z.p (drawS (A := X.A.in1) hhd b i' a Z.l its.toArray) D2 q1 q2 q3 ⟨q4, pa⟩ (kj := 0) ⟨q5, pr⟩ (.inr ⟨by simpa using h1, rfl⟩) fun h' tk hk => ⟨rfl, turnL h' tk hk⟩
    · have D1 : Draws X.prog X.w X.A.in1 i' [i', a] 0 (fun _ _ => True) (fun _ h => SIt h b i' a i ∧ SSq h b a its.toArray) :=
        { live := fun _ _ q => let ⟨o, e, _⟩ := q.1.obj; ⟨o, e⟩
          frame := fun _ _ _ q kp => ⟨q.1.at fun o e => kp i' (by simp) o e, q.2.at fun o e => kp a (by simp) o e⟩
          item := fun j s Q E hj q kQ => absurd hj (Nat.not_lt_zero j)
          done := fun s Q E q kE => nextE hhd q.1 q.2 (by simp; omega) kE }
      exact zp_stop (I.ok.hd hc) Z.p D1 (drawS (A := X.A.in1) hhd c j' r Z.r its2.toArray) q1 q2 q3 (ki := 0) ⟨q4, pa⟩ (kj := i) ⟨q5, pr⟩ (.inl rfl) fun h' tk hk => ⟨rfl, turnL h' tk hk⟩
  self := fun A i s Q E q h => wpAny_pyIter_zip q.1 h

section
variable {X : Cx} {tg : Expr}
def iSeq (K : PySem.W.Frag) (tl : TE) : TI := fun σ H R => tl σ H fun x H1 => ∃ b a, x = .ref a ∧ (∃ vs, SqB K H1 b a vs) ∧ R (ItB K b a) H1
theorem pi_seq {l : Expr} {tl : TE} (hl : PE X l tl) : PI X tg l (iSeq X.K tl) := by
  refine ⟨fun pins s σ H R I h => thn (hl.run pins s σ H _ I h) fun v s1 ⟨x, H1, I1, r1, b, a, e, ⟨vs, hq⟩, q⟩ => ?_⟩
  subst e
  cases r1
  obtain ⟨its, rv, p⟩ := seqB I1 hq
  refine iterS p ⟨s1.heap.objs.size, [s1.heap.objs.size], fun i h => SIt h b s1.heap.objs.size a i, _, H1, rfl, I1.kept (t' := s1.toks) fun b o e => Heap.get?_push_of_some _ e, ?_, SIt.new, fun c hc => ?_, q⟩
  · cases b
    · exact turn_tuple a _
    · exact turn_list a _
  · have e : c = s1.heap.objs.size := by simpa using hc
    subst e
    exact I1.fpOk (Nat.le_refl _) (I1.hok.fresh (Nat.le_refl _))
def iEnB (K : PySem.W.Frag) (ta : TA) : TI := fun σ H R => ta σ H fun us H1 => ∃ b a vs, us = [.ref a] ∧ SqB K H1 b a vs ∧ R (ItE K b a) H1
theorem pi_enB {e : Expr} {ta : TA} {p pos tpos : Pos} {elts : List Expr} {kk : Nat} (hg : Gl X "enumerate") (hm : X.mg "enumerate" = none) (ha : PA X [e] ta) (hs : starEach [e] X.env = [(false, eval e X.env)] := by rfl) :
    PI X (.Tuple elts kk tpos) (.Call (.Name "enumerate" p) [e] [] pos) (iEnB X.K ta) := by
  refine ⟨fun pins s σ H R I h => ?_⟩
  refine Call_ (ld_blt I hg hm boot_enumerate (PyProof.Rows.callWith_type1 (thn (ha.run pos pins s σ H _ I h) fun us s1 ⟨vs, H1, I1, r1, q1⟩ => ?_) hs rfl))
  obtain ⟨b, a, xs, ex, hq, q⟩ := q1
  subst ex
  cases r1 with
  | cons r rr =>
    cases rr
    cases r
    obtain ⟨its, rv, p'⟩ := seqB I1 hq
    refine callType_new F.called_enumerate (by decide) (F.typeCall_enumerate_1 _) (F.newCall_enumerate_1 _) (fun obj => F.args_object_init_2 obj _) F.entry_enumerate_new (enum_made b a its.toArray) ⟨p', fun h' he hit hk => ⟨⟨_, he, rfl⟩, wpAny_pyIter_enum he ?_⟩⟩
    have I2 : Inv X pins σ H1 { s1 with heap := h' } := I1.kept (t' := s1.toks) hk
    refine ⟨s1.heap.objs.size + 1, [s1.heap.objs.size + 1, s1.heap.objs.size], _, _, H1, rfl, I2, turn_enumB b (Nat.succ_ne_self _) (Nat.ne_of_lt p'.lt) (Nat.ne_of_gt (Nat.lt_succ_of_lt p'.lt)), ⟨⟨.none, he⟩, hit⟩, fun c hc => ?_, q⟩
    have hc : c = s1.heap.objs.size + 1 ∨ c = s1.heap.objs.size := by simpa using hc
    have hle : s1.heap.objs.size ≤ c := by
      rcases hc with rfl | rfl
      · exact Nat.le_add_right _ _
      · exact Nat.le_refl _
    exact I1.fpOk hle (I1.hok.fresh hle)
def iZiB (K : PySem.W.Frag) (ta : TA) : TI := fun σ H R => ta σ H fun us H1 => ∃ b c a r vs ws, us = [.ref a, .ref r] ∧ SqB K H1 b a vs ∧ SqB K H1 c r ws ∧ R (ItZ K b c a r) H1
theorem neAdd {n k m : Nat} (h : k ≠ m) : n + k ≠ n + m := fun e => h (Nat.add_left_cancel e)
theorem neLt {n a k : Nat} (h : a < n) : a ≠ n + k := Nat.ne_of_lt (Nat.lt_of_lt_of_le h (Nat.le_add_right n k))
theorem nin2 {x a b : Addr} (h1 : x ≠ a) (h2 : x ≠ b) : x ∉ [a, b] := by simp [h1, h2]
theorem za_new {n a r : Nat} (h1 : a < n) (h2 : r < n) : Za (n + 4) (n + 2) (n + 3) n (n + 1) a r :=
  ⟨⟨⟨neAdd (by decide), neAdd (by decide), neAdd (k := 0) (by decide), neAdd (by decide), neAdd (by decide), neAdd (m := 0) (by decide), neAdd (by decide), neAdd (m := 0) (by decide), neAdd (by decide), neAdd (k := 0) (by decide)⟩,
    ⟨nin2 (neAdd (m := 0) (by decide)) (neLt h1).symm, nin2 (neAdd (m := 0) (by decide)) (neLt h1).symm, nin2 (neAdd (m := 0) (by decide)) (neLt h1).symm⟩,
    nin2 (neAdd (by decide)) (neLt h2).symm, nin2 (neAdd (by decide)) (neLt h2).symm, nin2 (neAdd (k := 0) (by decide)) (neLt (k := 0) h2).symm⟩, neLt (k := 0) h1, neLt h2⟩
theorem pi_ziB {e e2 : Expr} {ta : TA} {p pos tpos : Pos} {elts : List Expr} {kk : Nat} (hg : Gl X "zip") (hm : X.mg "zip" = none) (ha : PA X [e, e2] ta)
    (hs : starEach [e, e2] X.env = (false, eval e X.env) :: starEach [e2] X.env := by rfl) (hpl : (backTo pos (starEach [e2] X.env)).any (·.1) = false := by rfl) :
    PI X (.Tuple elts kk tpos) (.Call (.Name "zip" p) [e, e2] [] pos) (iZiB X.K ta) := by
  refine ⟨fun pins s σ H R I h => ?_⟩
  refine Call_ (ld_blt I hg hm PyProof.Rows.boot_zip (PyProof.Rows.callWith_type1 (thn (ha.run pos pins s σ H _ I h) fun us s1 ⟨vs, H1, I1, r1, q1⟩ => ?_) hs hpl))
  obtain ⟨b, c, a, r', xs, ys, ex, hx, hy, q⟩ := q1
  subst ex
  cases r1 with
  | cons r rr =>
    cases rr with
    | cons r2 rr =>
      cases rr
      cases r
      cases r2
      obtain ⟨its, rv, pa⟩ := seqB I1 hx
      obtain ⟨its2, rv2, pr⟩ := seqB I1 hy
      refine callType_new F.called_zip (by decide) (F.typeCall_zip_2 _ _) (F.newCall_zip_2 _ _) (fun obj => F.args_object_init_3 obj _ _) F.entry_zip_new (zip_made b c a r' its.toArray its2.toArray) ⟨pa, pr, fun h' hz hT hO h1 h2 hk => ⟨⟨_, hz, rfl⟩, wpAny_pyIter_zip hz ?_⟩⟩
      have I2 : Inv X pins σ H1 { s1 with heap := h' } := I1.kept (t' := s1.toks) hk
      refine ⟨s1.heap.objs.size + 4, [s1.heap.objs.size + 4, s1.heap.objs.size + 2, s1.heap.objs.size + 3, s1.heap.objs.size, s1.heap.objs.size + 1], _, _, H1, rfl, I2, turn_zipB b c (za_new pa.lt pr.lt), ⟨hz, hT, ⟨_, _, hO⟩, h1, h2⟩, fun d hd => ?_, q⟩
      have hd : d = s1.heap.objs.size + 4 ∨ d = s1.heap.objs.size + 2 ∨ d = s1.heap.objs.size + 3 ∨ d = s1.heap.objs.size ∨ d = s1.heap.objs.size + 1 := by simpa using hd
      have hle : s1.heap.objs.size ≤ d := by
        rcases hd with rfl | rfl | rfl | rfl | rfl
        · exact Nat.le_add_right _ _
        · exact Nat.le_add_right _ _
        · exact Nat.le_add_right _ _
        · exact Nat.le_refl _
        · exact Nat.le_add_right _ _
      exact I1.fpOk hle (I1.hok.fresh hle)
end
end RK

namespace RK
open PySem PySem.Spec PyProof.Rows L2
abbrev Jc := RK.Env → Tr (List PV)
def iOf : PV → Tr (List PV)
  | .lst xs => .ret xs
  | .tup xs => .ret xs
  | _ => .fail
def rng : Int → Nat → List PV
  | _, 0 => []
  | i, n + 1 => .int i :: rng (i + 1) n
def rOk : Int → Bool
  | .ofNat n => Nat.blt n 4611686018427387904
  | .negSucc n => Nat.blt n 4611686018427387904
def enumL : Int → List PV → List PV
  | _, [] => []
  | i, x :: xs => .tup [.int i, x] :: enumL (i + 1) xs
def zipL : List PV → List PV → List PV
  | x :: xs, y :: ys => .tup [x, y] :: zipL xs ys
  | _, _ => []
def jSeq (a : Ec) : Jc := fun ρ => (a ρ).bind iOf
def jRng1 (a : Ec) : Jc := fun ρ => (a ρ).bind fun p => match p with
  | .int j => if rOk j then .ret (rng 0 j.toNat) else .fail
  | _ => .fail
def jRng2 (a b : Ec) : Jc := fun ρ => (a ρ).bind fun p => (b ρ).bind fun q => match p, q with
  | .int i, .int j => if rOk i && rOk j then .ret (rng i (j - i).toNat) else .fail
  | _, _ => .fail
def jEnum (a : Ec) : Jc := fun ρ => (a ρ).bind fun p => (iOf p).bind fun xs => .ret (enumL 0 xs)
def jZip (a b : Ec) : Jc := fun ρ => (a ρ).bind fun p => (b ρ).bind fun q => (iOf p).bind fun xs => (iOf q).bind fun ys => .ret (zipL xs ys)
def gSt (i : Nat) : Gc := fun p ρ => .ret (put ρ i (some p))
abbrev Gcs := List PV → RK.Env → Tr RK.Env
def gsNil : Gcs := fun ps ρ => match ps with
  | [] => .ret ρ
  | _ => .fail
def gsCons (g : Gc) (r : Gcs) : Gcs := fun ps ρ => match ps with
  | p :: qs => (g p ρ).bind fun ρ' => r qs ρ'
  | [] => .fail
def gTupc (n : Nat) (r : Gcs) : Gc := fun p ρ => match p with
  | .tup ps => if Nat.beq ps.length n then r ps ρ else .fail
  | _ => .fail
def wipeE (ρ : RK.Env) : List Nat → RK.Env
  | [] => ρ
  | v :: vs => put (wipeE ρ vs) v none
def lcGo (f : PV → Tr (Option PV)) : List PV → Tr (List PV)
  | [] => .ret []
  | p :: r => (f p).bind fun o => (lcGo f r).bind fun vs => .ret (match o with
    | some v => v :: vs
    | none => vs)
def cYes : Tc := fun _ => .ret true
def lcF (vs : List Nat) (gc : Gc) (tc : Tc) (ec : Ec) (ρ : RK.Env) : PV → Tr (Option PV) := fun p => ((gc p (wipeE ρ vs)).bind fun ρ' => (tc ρ').bind fun b => match b with
  | true => (ec ρ').bind fun v => .ret (some v)
  | false => .ret none).noexc
def cLc (vs : List Nat) (jc : Jc) (gc : Gc) (tc : Tc) (ec : Ec) : Ec := fun ρ => (jc ρ).bind fun ps => if okN ps.length then (lcGo (lcF vs gc tc ec ρ) ps).bind fun l => .ret (.lst l) else .fail

inductive Views (k : Kn) (g : Gh) (H : Hp) : List PV → List V → Prop where
  | nil : Views k g H [] []
  | cons {p : PV} {v : V} {ps : List PV} {vs : List V} : View k g H p v → Views k g H ps vs → Views k g H (p :: ps) (v :: vs)
theorem Views.grow {k : Kn} {g g' : Gh} {H H' : Hp} : ∀ {ps : List PV} {vs : List V}, Views k g H ps vs → Gr g H g' H' → Views k g' H' ps vs
  | _, _, .nil, _ => .nil
  | _, _, .cons r t, x => .cons (r.grow x) (Views.grow t x)
def RAV (Γ : Fm) (m : Nat) (c : Ac) (W : WX) : TA := fun σ H Q => ∃ g ρ, GI Γ g ρ σ H ∧ (c ρ).All (fun ps => ps.length = m → ∀ g' H' vs, Wd g' H' → Gr g H g' H' → Views Γ.k g' H' ps vs → Q vs H') (XW Γ g H σ W)
def SAV (Γ : Fm) (X : Cx) (es : List Expr) (c : Ac) : Prop := ∀ W, Takes X W → PA X es (RAV Γ es.length c W)
section
variable {Γ : Fm} {X : Cx} {e a b : Expr} {es : List Expr} {c ca cb : Ec} {ct cu : Tc} {aa : Ac} {W : WX} {σ : L2.St} {Q : VK} {pos : Pos} {z : Md} {g g' : Gh} {H H' : Hp}
theorem sav_nil : SAV Γ X [] aNil := fun W tk => pa_nil.imp fun σ H Q ⟨g, ρ, G, q⟩ => q rfl g H [] G.wd (.refl g H) .nil
theorem sav_cons (ha : SV Γ X e c) (hr : SAV Γ X es aa) (hs : starEach (e :: es) X.env = (false, eval e X.env) :: starEach es X.env := by rfl) : SAV Γ X (e :: es) (aCons c aa) := fun W tk => (pa_cons (ha W tk) (hr W tk) hs).imp fun σ H Q ⟨g, ρ, G, q⟩ => ⟨g, ρ, G, (Tr.all_bind.mp q).mono (fun p q1 g1 H1 x w1 x1 rx => ⟨g1, ρ, G.grow w1 x1, (Tr.all_bind.mp q1).mono (fun ps q2 hl g2 H2 vs w2 x2 rs =>
  q2 (by simp [hl]) g2 H2 (x :: vs) w2 (x1.trans w1 x2) (.cons (rx.grow x2) rs)) fun _ _ h => h.grow G w1 x1⟩) fun _ _ h => h⟩

def Walk (k : Kn) (J : It) (ps : List PV) (g2 : Gh) (H2 : Hp) : Prop := ∀ i, (ps[i]? = none → J.stop i H2) ∧ ∀ p, ps[i]? = some p → J.go i H2 ∧ ∀ x H3, J.yld i H2 x H3 → ∃ g3, Wd g3 H3 ∧ Gr g2 H2 g3 H3 ∧ Rep k g3 p x
/-- over what may be read alone; over what stands for good -/
def RJ (Γ : Fm) (c : Jc) (W : WX) : TI := fun σ H R => ∃ g ρ, GI Γ g ρ σ H ∧ (c ρ).All (fun ps => ∀ g' H' J, Wd g' H' → Gr g H g' H' → (∀ g2 H2, Wd g2 H2 → Gr g' H' g2 H2 → Walk Γ.k J ps g2 H2) → R J H') (XW Γ g H σ W)
def RI (Γ : Fm) (c : Jc) (W : WX) : TI := fun σ H R => ∃ g ρ, GI Γ g ρ σ H ∧ (c ρ).All (fun ps => ∀ g' H' J, Wd g' H' → Gr g H g' H' → (∀ g2 H2, Wd g2 H2 → Le g' g2 → Walk Γ.k J ps g2 H2) → R J H') (XW Γ g H σ W)
def SJ (Γ : Fm) (X : Cx) (tg e : Expr) (c : Jc) : Prop := ∀ W, Takes X W → PI X tg e (RJ Γ c W)
def SI (Γ : Fm) (X : Cx) (tg e : Expr) (c : Jc) : Prop := ∀ W, Takes X W → PI X tg e (RI Γ c W)
theorem _root_.L2.PI.imp {X : Cx} {tg e : Expr} {t t' : TI} (h : PI X tg e t) (i : ∀ σ H R, t' σ H R → t σ H R) : PI X tg e t' := ⟨fun pins s σ H R I q => h.run pins s σ H R I (i σ H R q)⟩
theorem SI.toJ {tg : Expr} {c : Jc} (h : SI Γ X tg e c) : SJ Γ X tg e c := fun W tk => (h W tk).imp fun σ H R ⟨g, ρ, G, q⟩ => ⟨g, ρ, G, q.mono (fun ps q1 g' H' J w x f => q1 g' H' J w x fun g2 H2 w2 x2 => f g2 H2 w2 x2.le) fun _ _ h => h⟩
theorem sqB_le {K : PySem.W.Frag} {H H' : Hp} (e : ∀ a o, H a = some o → H' a = some o) {b : Bool} {a : Addr} {vs : List V} (h : SqB K H b a vs) : SqB K H' b a vs := by
  cases b
  · exact sqT_le e h
  · exact sqL_le e h
/-- what is walked -/
structure Ws (k : Kn) (b : Bool) (a : Addr) (ps : List PV) (g2 : Gh) (H2 : Hp) : Prop where
  ex : ∃ vs, SqB k.K H2 b a vs ∧ Reps k g2 ps vs
theorem rep_ws {k : Kn} {p : PV} {v : V} {R : List PV → Prop} {E : Nat → List PV → Prop} (r : Rep k g p v) (h : (iOf p).All R E) : ∃ b a ps, v = .ref a ∧ R ps ∧ ∀ g2 H2, Wd g2 H2 → Le g g2 → Ws k b a ps g2 H2 := by
  cases r with
  | tup hq rr => exact ⟨false, _, _, rfl, h, fun g2 H2 w l => ⟨_, sqT_le w.sub (sqT_le l.b hq), rr.mono l⟩⟩
  | lst hq rr => exact ⟨true, _, _, rfl, h, fun g2 H2 w l => ⟨_, SqL.of (w.sub _ _ (l.b _ _ hq)), rr.mono l⟩⟩
  | _ => exact (show False from h).elim
theorem view_ws {k : Kn} {p : PV} {v : V} {R : List PV → Prop} {E : Nat → List PV → Prop} (r : View k g H p v) (h : (iOf p).All R E) : ∃ b a ps, v = .ref a ∧ R ps ∧ ∀ g2 H2, Wd g2 H2 → Gr g H g2 H2 → Ws k b a ps g2 H2 := by
  rcases r with r | ⟨a, vs, ps, h1, h2, h3, h4, h5⟩
  · obtain ⟨b, a, ps, h1, h2, h3⟩ := rep_ws r h
    exact ⟨b, a, ps, h1, h2, fun g2 H2 w x => h3 g2 H2 w x.le⟩
  · subst h1 h2
    exact ⟨true, a, ps, rfl, h, fun g2 H2 w x => ⟨_, SqL.of (x.keep _ _ h3 h4), h5.mono x.le⟩⟩
theorem Ws.walk {k : Kn} {b : Bool} {a : Addr} {ps : List PV} (w : Wd g H) (h : Ws k b a ps g H) : Walk k (ItB k.K b a) ps g H := fun i => by
  obtain ⟨vs, hq, r⟩ := h
  refine ⟨fun e => ?_, fun p e => ?_⟩
  · have hl : vs.length ≤ i := by rw [← r.length]; exact List.getElem?_eq_none_iff.mp e
    cases b
    · exact ⟨vs, hq, hl⟩
    · exact ⟨vs, hq, hl⟩
  · obtain ⟨v, h1, h2⟩ := r.get' e
    cases b
    · exact ⟨⟨vs, v, hq, h1⟩, fun x H3 ⟨e1, e2⟩ => by
        subst e1
        have := (e2 vs hq).symm.trans h1
        cases this
        exact ⟨g, w, .refl _ _, h2⟩⟩
    · exact ⟨⟨vs, v, hq, h1⟩, fun x H3 ⟨e1, e2⟩ => by
        subst e1
        have := (e2 vs hq).symm.trans h1
        cases this
        exact ⟨g, w, .refl _ _, h2⟩⟩
theorem enumL_get : ∀ {xs : List PV} {k i : Nat}, (enumL k xs)[i]? = xs[i]?.map fun x => .tup [.int ((k + i : Nat) : Int), x]
  | [], _, _ => by simp [enumL]
  | x :: xs, k, 0 => by simp [enumL]
  | x :: xs, k, i + 1 => by
    have e : (enumL (k : Int) (x :: xs)) = .tup [.int (k : Int), x] :: enumL ((k + 1 : Nat) : Int) xs := rfl
    rw [e, List.getElem?_cons_succ, enumL_get (k := k + 1), List.getElem?_cons_succ]
    have : k + 1 + i = k + (i + 1) := by omega
    rw [this]
theorem zipL_get : ∀ {xs ys : List PV} {i : Nat}, (zipL xs ys)[i]? = match xs[i]?, ys[i]? with
    | some x, some y => some (.tup [x, y])
    | _, _ => none
  | [], _, _ => by simp [zipL]
  | x :: xs, [], i => by
    simp only [zipL, List.getElem?_nil]
    cases (x :: xs)[i]? <;> rfl
  | x :: xs, y :: ys, 0 => by simp [zipL]
  | x :: xs, y :: ys, i + 1 => by simp only [zipL, List.getElem?_cons_succ]; exact zipL_get
theorem rng_get : ∀ {n : Nat} {lo : Int} {i : Nat}, (rng lo n)[i]? = if i < n then some (.int (lo + i)) else none
  | 0, _, _ => by simp [rng]
  | n + 1, lo, 0 => by simp [rng]
  | n + 1, lo, i + 1 => by
    simp only [rng, List.getElem?_cons_succ, rng_get, Nat.add_lt_add_iff_right]
    have : lo + 1 + (i : Int) = lo + ((i + 1 : Nat) : Int) := by omega
    rw [this]
theorem Ws.enum {k : Kn} {b : Bool} {a : Addr} {ps : List PV} (w : Wd g H) (h : Ws k b a ps g H) : Walk k (ItE k.K b a) (enumL 0 ps) g H := fun i => by
  obtain ⟨vs, hq, r⟩ := h
  have eg : (enumL 0 ps)[i]? = _ := enumL_get (k := 0)
  rw [eg]
  refine ⟨fun e => ?_, fun p e => ?_⟩
  · have hl : vs.length ≤ i := by
      rw [← r.length]
      cases e' : ps[i]? with
      | none => exact List.getElem?_eq_none_iff.mp e'
      | some q => rw [e'] at e; cases e
    exact ⟨vs, hq, hl⟩
  · cases e' : ps[i]? with
    | none => rw [e'] at e; cases e
    | some q =>
      rw [e'] at e
      cases e
      obtain ⟨v, h1, h2⟩ := r.get' e'
      refine ⟨⟨vs, v, hq, h1⟩, fun x H3 ⟨T, y, e1, e2, e3, e4⟩ => ?_⟩
      have ey := (e4 vs hq).symm.trans h1
      cases ey
      subst e1 e3
      refine ⟨g.add T (.tup [.int (i : Nat), v]), w.new e2, .new w e2, ?_⟩
      rw [Nat.zero_add]
      exact .tup (.of add_at) (.cons (.int _) (.cons (h2.mono (.add (w.none_b e2))) .nil))
theorem Ws.zip {k : Kn} {b c : Bool} {a r : Addr} {ps qs : List PV} (w : Wd g H) (h : Ws k b a ps g H) (h' : Ws k c r qs g H) : Walk k (ItZ k.K b c a r) (zipL ps qs) g H := fun i => by
  obtain ⟨vs, hq, r1⟩ := h
  obtain ⟨ws, hq', r2⟩ := h'
  rw [zipL_get]
  cases e1 : ps[i]? with
  | none => exact ⟨fun _ => ⟨vs, ws, hq, hq', .inl (by rw [← r1.length]; exact List.getElem?_eq_none_iff.mp e1)⟩, fun p e => nomatch e⟩
  | some p =>
    cases e2 : qs[i]? with
    | none => exact ⟨fun _ => ⟨vs, ws, hq, hq', .inr (by rw [← r2.length]; exact List.getElem?_eq_none_iff.mp e2)⟩, fun p e => nomatch e⟩
    | some q =>
      refine ⟨fun e => (nomatch e), fun pp e => ?_⟩
      have e : some (PV.tup [p, q]) = some pp := e
      cases e
      obtain ⟨v, h1, h2⟩ := r1.get' e1
      obtain ⟨u, h3, h4⟩ := r2.get' e2
      refine ⟨⟨vs, ws, v, u, hq, hq', h1, h3⟩, fun x H3 ⟨T, y, y', z1, z2, z3, z4, z5⟩ => ?_⟩
      have ey := (z4 vs hq).symm.trans h1
      have ey' := (z5 ws hq').symm.trans h3
      cases ey
      cases ey'
      subst z1 z3
      have lb := Le.add (o := .tup [v, u]) (w.none_b z2)
      exact ⟨g.add T (.tup [v, u]), w.new z2, .new w z2, .tup (.of add_at) (.cons (h2.mono lb) (.cons (h4.mono lb) .nil))⟩
theorem si_seq {tg : Expr} (hK : X.K = Γ.k.K) (h : SE Γ X e c) : SI Γ X tg e (jSeq c) := fun W tk => (pi_seq (h W tk)).imp fun σ H R ⟨g, ρ, G, q⟩ => ⟨g, ρ, G, (Tr.all_bind.mp q).mono (fun p q1 g1 H1 v w1 x1 r => by
  obtain ⟨b, a, ps, e, h1, h2⟩ := rep_ws r q1
  obtain ⟨vs, h3⟩ := (h2 g1 H1 w1 (.refl g1)).ex
  exact ⟨b, a, e, ⟨vs, by rw [hK]; exact h3.1⟩, h1 g1 H1 _ w1 x1 fun g2 H2 w2 l2 => by rw [hK]; exact (h2 g2 H2 w2 l2).walk w2⟩) fun _ _ h => h⟩
theorem sj_seq {tg : Expr} (hK : X.K = Γ.k.K) (h : SV Γ X e c) : SJ Γ X tg e (jSeq c) := fun W tk => (pi_seq (h W tk)).imp fun σ H R ⟨g, ρ, G, q⟩ => ⟨g, ρ, G, (Tr.all_bind.mp q).mono (fun p q1 g1 H1 v w1 x1 r => by
  obtain ⟨b, a, ps, e, h1, h2⟩ := view_ws r q1
  obtain ⟨vs, h3⟩ := (h2 g1 H1 w1 (.refl g1 H1)).ex
  exact ⟨b, a, e, ⟨vs, by rw [hK]; exact h3.1⟩, h1 g1 H1 _ w1 x1 fun g2 H2 w2 l2 => by rw [hK]; exact (h2 g2 H2 w2 l2).walk w2⟩) fun _ _ h => h⟩
end
end RK

namespace RK
open PySem PySem.Spec PyProof.Rows L2
theorem rOk_ok {j : Int} (h : rOk j = true) : -(2 ^ 62) ≤ j ∧ j < 2 ^ 62 := by
  unfold rOk at h
  split at h
  · have := Nat.blt_eq.mp h
    constructor <;> simp <;> omega
  · have := Nat.blt_eq.mp h
    constructor <;> simp <;> omega
section
variable {Γ : Fm} {X : Cx} {e a b : Expr} {es : List Expr} {c ca cb : Ec} {ct cu : Tc} {aa : Ac} {W : WX} {σ : L2.St} {Q : VK} {pos p : Pos} {z : Md} {g g' : Gh} {H H' : Hp} {tg : Expr}
theorem walk_rng {k : Kn} {lo : Int} {n : Nat} (w : Wd g H) : Walk k (Itr lo n) (rng lo n) g H := fun i => by
  rw [rng_get]
  by_cases h : i < n
  · rw [if_pos h]
    refine ⟨fun e => (nomatch e), fun p e => ?_⟩
    cases e
    exact ⟨h, fun x H3 ⟨e1, e2⟩ => by
      subst e1 e2
      exact ⟨g, w, .refl _ _, .int _⟩⟩
  · rw [if_neg h]
    exact ⟨fun _ => Nat.le_of_not_lt h, fun p e => (nomatch e)⟩
theorem pa1 (ha : PE X e (RX Γ z c W)) (hs : starEach [e] X.env = [(false, eval e X.env)]) : PA X [e] (tCons (RX Γ z c W) tNil) := pa_cons ha pa_nil hs
theorem si_rng1 (hg : Gl X "range") (hm : X.mg "range" = none) (h : SE Γ X e c) (hs : starEach [e] X.env = [(false, eval e X.env)] := by rfl) : SI Γ X tg (.Call (.Name "range" p) [e] [] pos) (jRng1 c) := fun W tk => (pi_range1 hg hm (pa1 (h W tk) hs) hs).imp fun σ H R ⟨g, ρ, G, q⟩ => ⟨g, ρ, G, (Tr.all_bind.mp q).mono (fun p q1 g1 H1 v w1 x1 r => by
  cases r with
  | int j =>
    obtain ⟨h1, h2⟩ := if_all q1
    obtain ⟨h3, h4⟩ := rOk_ok h1
    exact ⟨j, rfl, h3, h4, h2 g1 H1 _ w1 x1 fun g2 H2 w2 _ => walk_rng w2⟩
  | _ => exact (show False from q1).elim) fun _ _ h => h⟩
theorem si_rng2 (hg : Gl X "range") (hm : X.mg "range" = none) (h : SE Γ X a ca) (h' : SE Γ X b cb) (hs : starEach [a, b] X.env = (false, eval a X.env) :: starEach [b] X.env := by rfl) (hs2 : starEach [b] X.env = [(false, eval b X.env)] := by rfl) : SI Γ X tg (.Call (.Name "range" p) [a, b] [] pos) (jRng2 ca cb) := fun W tk =>
  (pi_range2 hg hm (pa_cons (h W tk) (pa1 (h' W tk) hs2) hs) (by rw [hs, hs2]) hs2).imp fun σ H R ⟨g, ρ, G, q⟩ => ⟨g, ρ, G, (Tr.all_bind.mp q).mono (fun p q1 g1 H1 v w1 x1 r => ⟨g1, ρ, G.grow w1 x1, (Tr.all_bind.mp q1).mono (fun p2 q2 g2 H2 v2 w2 x2 r2 => by
  cases r with
  | int i => cases r2 with
    | int j =>
      obtain ⟨h1, h2⟩ := if_all q2
      rw [Bool.and_eq_true] at h1
      obtain ⟨h3, h4⟩ := rOk_ok h1.1
      obtain ⟨h5, h6⟩ := rOk_ok h1.2
      exact ⟨i, j, rfl, ⟨h3, h4, h5, h6⟩, h2 g2 H2 _ w2 (x1.trans w1 x2) fun g3 H3 w3 _ => walk_rng w3⟩
    | _ => exact (show False from q2).elim
  | _ => exact (show False from q2).elim) fun _ _ h => h.grow G w1 x1⟩) fun _ _ h => h⟩
theorem sj_enum {elts : List Expr} {kk : Nat} {tpos : Pos} (hK : X.K = Γ.k.K) (hg : Gl X "enumerate") (hm : X.mg "enumerate" = none) (h : SV Γ X e c) (hs : starEach [e] X.env = [(false, eval e X.env)] := by rfl) : SJ Γ X (.Tuple elts kk tpos) (.Call (.Name "enumerate" p) [e] [] pos) (jEnum c) := fun W tk => (pi_enB hg hm (pa1 (h W tk) hs) hs).imp fun σ H R ⟨g, ρ, G, q⟩ => ⟨g, ρ, G, (Tr.all_bind.mp q).mono (fun p q1 g1 H1 v w1 x1 r => by
  obtain ⟨b, a, ps, e, h1, h2⟩ := view_ws r (Tr.all_bind.mp q1)
  obtain ⟨vs, h3⟩ := (h2 g1 H1 w1 (.refl g1 H1)).ex
  exact ⟨b, a, vs, by rw [e], by rw [hK]; exact h3.1, h1 g1 H1 _ w1 x1 fun g2 H2 w2 l2 => by rw [hK]; exact (h2 g2 H2 w2 l2).enum w2⟩) fun _ _ h => h⟩
theorem si_enum {elts : List Expr} {kk : Nat} {tpos : Pos} (hK : X.K = Γ.k.K) (hg : Gl X "enumerate") (hm : X.mg "enumerate" = none) (h : SE Γ X e c) (hs : starEach [e] X.env = [(false, eval e X.env)] := by rfl) : SI Γ X (.Tuple elts kk tpos) (.Call (.Name "enumerate" p) [e] [] pos) (jEnum c) := fun W tk => (pi_enB hg hm (pa1 (h W tk) hs) hs).imp fun σ H R ⟨g, ρ, G, q⟩ => ⟨g, ρ, G, (Tr.all_bind.mp q).mono (fun p q1 g1 H1 v w1 x1 r => by
  obtain ⟨b, a, ps, e, h1, h2⟩ := rep_ws r (Tr.all_bind.mp q1)
  obtain ⟨vs, h3⟩ := (h2 g1 H1 w1 (.refl g1)).ex
  exact ⟨b, a, vs, by rw [e], by rw [hK]; exact h3.1, h1 g1 H1 _ w1 x1 fun g2 H2 w2 l2 => by rw [hK]; exact (h2 g2 H2 w2 l2).enum w2⟩) fun _ _ h => h⟩
theorem sj_zip {elts : List Expr} {kk : Nat} {tpos : Pos} (hK : X.K = Γ.k.K) (hg : Gl X "zip") (hm : X.mg "zip" = none) (h : SV Γ X a ca) (h' : SV Γ X b cb) (hs : starEach [a, b] X.env = (false, eval a X.env) :: starEach [b] X.env := by rfl) (hs2 : starEach [b] X.env = [(false, eval b X.env)] := by rfl) (hpl : (backTo pos (starEach [b] X.env)).any (·.1) = false := by rfl) :
    SJ Γ X (.Tuple elts kk tpos) (.Call (.Name "zip" p) [a, b] [] pos) (jZip ca cb) := fun W tk =>
  (pi_ziB hg hm (pa_cons (h W tk) (pa1 (h' W tk) hs2) hs) hs hpl).imp fun σ H R ⟨g, ρ, G, q⟩ => ⟨g, ρ, G, (Tr.all_bind.mp q).mono (fun p q1 g1 H1 v w1 x1 r => ⟨g1, ρ, G.grow w1 x1, (Tr.all_bind.mp q1).mono (fun p2 q2 g2 H2 v2 w2 x2 r2 => by
  obtain ⟨b, a, ps, e, h1, h2⟩ := view_ws (r.grow x2) (Tr.all_bind.mp q2)
  obtain ⟨b', a', ps', e', h1', h2'⟩ := view_ws r2 (Tr.all_bind.mp h1)
  obtain ⟨vs, h3⟩ := (h2 g2 H2 w2 (.refl g2 H2)).ex
  obtain ⟨vs', h3'⟩ := (h2' g2 H2 w2 (.refl g2 H2)).ex
  exact ⟨b, b', a, a', vs, vs', by rw [e, e'], by rw [hK]; exact h3.1, by rw [hK]; exact h3'.1, h1' g2 H2 _ w2 (x1.trans w1 x2) fun g3 H3 w3 l3 => by rw [hK]; exact (h2 g3 H3 w3 l3).zip w3 (h2' g3 H3 w3 l3)⟩) fun _ _ h => h.grow G w1 x1⟩) fun _ _ h => h⟩
theorem si_zip {elts : List Expr} {kk : Nat} {tpos : Pos} (hK : X.K = Γ.k.K) (hg : Gl X "zip") (hm : X.mg "zip" = none) (h : SE Γ X a ca) (h' : SE Γ X b cb) (hs : starEach [a, b] X.env = (false, eval a X.env) :: starEach [b] X.env := by rfl) (hs2 : starEach [b] X.env = [(false, eval b X.env)] := by rfl) (hpl : (backTo pos (starEach [b] X.env)).any (·.1) = false := by rfl) :
    SI Γ X (.Tuple elts kk tpos) (.Call (.Name "zip" p) [a, b] [] pos) (jZip ca cb) := fun W tk =>
  (pi_ziB hg hm (pa_cons (h W tk) (pa1 (h' W tk) hs2) hs) hs hpl).imp fun σ H R ⟨g, ρ, G, q⟩ => ⟨g, ρ, G, (Tr.all_bind.mp q).mono (fun p q1 g1 H1 v w1 x1 r => ⟨g1, ρ, G.grow w1 x1, (Tr.all_bind.mp q1).mono (fun p2 q2 g2 H2 v2 w2 x2 r2 => by
  obtain ⟨b, a, ps, e, h1, h2⟩ := rep_ws (r.mono x2.le) (Tr.all_bind.mp q2)
  obtain ⟨b', a', ps', e', h1', h2'⟩ := rep_ws r2 (Tr.all_bind.mp h1)
  obtain ⟨vs, h3⟩ := (h2 g2 H2 w2 (.refl g2)).ex
  obtain ⟨vs', h3'⟩ := (h2' g2 H2 w2 (.refl g2)).ex
  exact ⟨b, b', a, a', vs, vs', by rw [e, e'], by rw [hK]; exact h3.1, by rw [hK]; exact h3'.1, h1' g2 H2 _ w2 (x1.trans w1 x2) fun g3 H3 w3 l3 => by rw [hK]; exact (h2 g3 H3 w3 l3).zip w3 (h2' g3 H3 w3 l3)⟩) fun _ _ h => h.grow G w1 x1⟩) fun _ _ h => h⟩

def Wr (ws : List Nat) (σ σ' : L2.St) : Prop := ∀ vs, (∀ i ∈ ws, i ∈ vs) → wipe σ' vs = wipe σ vs
def RG (Γ : Fm) (ws : List Nat) (gc : Gc) : TG := fun v σ H Q => ∃ g ρ p, GI Γ g ρ σ H ∧ Rep Γ.k g p v ∧ (gc p ρ).All (fun ρ' => ∀ σ', GI Γ g ρ' σ' H → Wr ws σ σ' → Q σ' H) fun _ _ => False
def RGs (Γ : Fm) (ws : List Nat) (gc : Gcs) : TGs := fun vs σ H Q => ∃ g ρ ps, GI Γ g ρ σ H ∧ Reps Γ.k g ps vs ∧ (gc ps ρ).All (fun ρ' => ∀ σ', GI Γ g ρ' σ' H → Wr ws σ σ' → Q σ' H) fun _ _ => False
def SG (Γ : Fm) (X : Cx) (tg : Expr) (ws : List Nat) (gc : Gc) : Prop := PG X tg (RG Γ ws gc)
def SGs (Γ : Fm) (X : Cx) (ts : List Expr) (ws : List Nat) (gc : Gcs) : Prop := PGs X ts (RGs Γ ws gc)
theorem wipe_set {σ : L2.St} {i : Nat} {v : Option V} : ∀ {vs : List Nat}, i ∈ vs → wipe (σ.set i v) vs = wipe σ vs
  | [], h => (nomatch h)
  | j :: vs, h => by
    unfold wipe
    by_cases e : i ∈ vs
    · rw [wipe_set e]
    · have e' : i = j := (List.mem_cons.mp h).resolve_right e
      subst e'
      have : ∀ {us : List Nat}, i ∉ us → (wipe (σ.set i v) us).set i none = (wipe σ us).set i none := by
        intro us
        induction us with
        | nil => intro _; unfold wipe; rw [List.set_set]
        | cons u us ih =>
          intro hu
          have h1 : u ≠ i := fun e => hu (by rw [e]; exact List.mem_cons_self)
          have h2 : i ∉ us := fun m => hu (List.mem_cons_of_mem _ m)
          show ((wipe (σ.set i v) us).set u none).set i none = ((wipe σ us).set u none).set i none
          rw [List.set_comm _ _ h1, ih h2, List.set_comm _ _ (Ne.symm h1)]
      exact this e
theorem Wr.refl (ws : List Nat) (σ : L2.St) : Wr ws σ σ := fun _ _ => rfl
theorem Wr.trans {ws us : List Nat} {σ σ1 σ2 : L2.St} (h : Wr ws σ σ1) (h' : Wr us σ1 σ2) : Wr (ws ++ us) σ σ2 := fun vs hv => (h' vs fun i hi => hv i (List.mem_append_right _ hi)).trans (h vs fun i hi => hv i (List.mem_append_left _ hi))
theorem sg_name {i : Nat} {x : Str} (hN : X.N.Nodup) (hi : X.N[i]? = some x) (hx : Loc X.env.scope x) (ho : Γ.own.contains i = false) (hf : X.fn x = true ∨ X.env.scope.names.lookup x = some .local := by first | exact .inl rfl | exact .inr rfl | assumption) : SG Γ X (.Name x pos) [i] (gSt i) := by
  have h := pg_name (pos := pos) hN hi hx hf
  exact ⟨fun pins s σ H v u Q I r ⟨g, ρ, p, G, rp, q⟩ => h.run pins s σ H v u Q I r (q _ (G.put ho rp) fun vs hv => wipe_set (hv i List.mem_cons_self))⟩
theorem sgs_nil : SGs Γ X [] [] gsNil := ⟨fun pins s σ H vs us Q I r ⟨g, ρ, ps, G, rp, q⟩ => pgs_nil.run pins s σ H vs us Q I r (by
  cases rp with
  | nil => exact ⟨rfl, q σ G (.refl _ _)⟩
  | cons _ _ => exact (show False from q).elim)⟩
theorem sgs_cons {t : Expr} {ts : List Expr} {ws us : List Nat} {gc : Gc} {gr : Gcs} (h1 : SG Γ X t ws gc) (h2 : SGs Γ X ts us gr) (ha : (assignEach (t :: ts) X.env).map (·.2) = assign t X.env :: (assignEach ts X.env).map (·.2) := by rfl) : SGs Γ X (t :: ts) (ws ++ us) (gsCons gc gr) := by
  have h := pgs_cons h1 h2 ha
  exact ⟨fun pins s σ H vs us' Q I r ⟨g, ρ, ps, G, rp, q⟩ => h.run pins s σ H vs us' Q I r (by
    cases rp with
    | nil => exact (show False from q).elim
    | cons r1 rr => exact ⟨_, _, rfl, g, ρ, _, G, r1, (Tr.all_bind.mp q).mono (fun ρ' q1 σ' G' wr => ⟨g, ρ', _, G', rr, q1.mono (fun ρ2 q2 σ2 G2 wr2 => q2 σ2 G2 (wr.trans wr2)) fun _ _ h => h⟩) fun _ _ h => h⟩)⟩
theorem sg_tup {ts : List Expr} {kk n : Nat} {ws : List Nat} {gr : Gcs} (hK : X.K = Γ.k.K) (hc : X.calm = true) (h : SGs Γ X ts ws gr) (hn : (assignEach ts X.env).length = n := by rfl) (hst : (assignEach ts X.env).findIdx? (·.1) = none := by rfl) : SG Γ X (.Tuple ts kk pos) ws (gTupc n gr) := by
  have h' := pg_tup (k := kk) (pos := pos) hc h hn hst
  exact ⟨fun pins s σ H v u Q I r ⟨g, ρ, p, G, rp, q⟩ => h'.run pins s σ H v u Q I r (by
    cases rp with
    | tup hq rr =>
      obtain ⟨e, q1⟩ := if_all q
      exact ⟨_, _, rfl, by rw [hK]; exact sqT_le G.wd.sub hq, by rw [← rr.length]; exact Nat.eq_of_beq_eq_true e, g, ρ, _, G, rr, q1⟩
    | _ => exact (show False from q).elim)⟩
end
end RK

namespace RK
open PySem PySem.Spec PyProof.Rows L2
section
variable {Γ : Fm} {X : Cx} {e a b : Expr} {es : List Expr} {c ca cb : Ec} {ct cu : Tc} {aa : Ac} {W : WX} {σ : L2.St} {Q : VK} {pos p : Pos} {z : Md} {g g' g1 g2 : Gh} {H H' H1 H2 : Hp} {tg : Expr} {D : Addr}
theorem GI.unset {ρ : RK.Env} {i : Nat} (G : GI Γ g ρ σ H) (hx : Γ.ex = none) (ho : Γ.own.contains i = false) : GI Γ g (RK.put ρ i none) (σ.set i none) H := by
  have hi : i ∉ Γ.own := fun h => by rw [List.contains_iff_mem.mpr h] at ho; cases ho
  have ne : ∀ {j}, j ∈ Γ.own → i ≠ j := fun h z => hi (by rw [z]; exact h)
  have back : ∀ {j q}, look (RK.put ρ i none) j = some q → j ≠ i ∧ look ρ j = some q := fun h => by
    rcases look_put h with ⟨_, z⟩ | z
    · cases z
    · exact z
  refine ⟨G.wd, G.gr, fun j q h n => ?_, fun j q h n => ?_, fun j l q q' a hj hl h h' e e' => ?_, by rw [put_length, List.length_set]; exact G.len, G.fl, fun x e => (by rw [hx] at e; cases e)⟩
  · obtain ⟨n', z⟩ := back h
    obtain ⟨u, h1, h2⟩ := G.vars j q z n
    exact ⟨u, by rw [List.getElem?_set_ne (Ne.symm n')]; exact h1, h2⟩
  · obtain ⟨n', z⟩ := back h
    obtain ⟨a, vs, ps, h1, h2⟩ := G.owns j q z n
    exact ⟨a, vs, ps, by rw [List.getElem?_set_ne (Ne.symm n')]; exact h1, h2⟩
  · rw [List.getElem?_set_ne (ne hj)] at e
    rw [List.getElem?_set_ne (ne hl)] at e'
    exact G.inj j l q q' a hj hl (back h).2 (back h').2 e e'
theorem GI.wipe {ρ : RK.Env} (G : GI Γ g ρ σ H) (hx : Γ.ex = none) : ∀ {vs : List Nat}, (vs.all fun i => !Γ.own.contains i) = true → GI Γ g (wipeE ρ vs) (L2.wipe σ vs) H
  | [], _ => G
  | v :: vs, h => by
    rw [List.all_cons, Bool.and_eq_true] at h
    have h1 : Γ.own.contains v = false := by simpa using h.1
    exact (G.wipe hx h.2).unset hx h1
/-- an object apart from the ground, changed -/
theorem Gr.upd {o : HO} (x : Gr g1 H1 g H) (h : H1 D = none) : Gr g1 H1 g (upd H D o) :=
  ⟨x.le, fun a u e n => by rw [upd_ne (ne_of_none e h)]; exact x.keep a u e n, x.newB, x.newP⟩
theorem Wd.upd {o : HO} (w : Wd g H) (hb : g.B D = none) (hp : ¬ g.P D) : Wd g (upd H D o) := by
  refine ⟨fun a u e => ?_, fun a e => ?_⟩
  · rw [upd_ne (ne_of_none e hb)]; exact w.sub a u e
  · obtain ⟨h1, u, h2, h3⟩ := w.pot a e
    exact ⟨h1, u, by rw [upd_ne (fun q => hp (by rw [← q]; exact e))]; exact h2, h3⟩
/-- a list apart -/
structure Lone (g : Gh) (H : Hp) (D : Addr) (acc : List V) : Prop where
  at' : H D = some (.lst acc)
  b : g.B D = none
  p : ¬ g.P D
theorem Lone.grow {acc : List V} (l : Lone g H D acc) (x : Gr g H g' H') : Lone g' H' D acc := by
  refine ⟨x.keep _ _ l.at' l.p, ?_, fun q => ?_⟩
  · cases e : g'.B D with
    | none => rfl
    | some o =>
      rcases x.newB D o e with q | q
      · rw [l.b] at q; cases q
      · rw [l.at'] at q; cases q
  · rcases x.newP D q with q | q
    · exact l.p q
    · rw [l.at'] at q; cases q
def STs (Γ : Fm) (X : Cx) (ifs : List Expr) (c : Tc) : Prop := ∀ W, Takes X W → PTs X ifs (RT Γ c W)
theorem sts_nil : STs Γ X [] cYes := fun W tk => ⟨fun pins s σ H Q I ⟨g, ρ, G, q⟩ => pts_nil.run pins s σ H Q I (q g H G.wd (.refl g H))⟩
theorem sts_one (h : ST Γ X e ct) : STs Γ X [e] ct := fun W tk => pts_one (h W tk)
/-- no exception is let -/
abbrev noW : WX := fun _ _ _ _ => False
theorem lc_imp (hx : Γ.ex = none) {vs ws : List Nat} {jc : Jc} {gc : Gc} {tc : Tc} {ec : Ec} (hv : (vs.all fun i => !Γ.own.contains i) = true) (hw : (ws.all fun i => vs.contains i) = true) (h : RX Γ (zF Γ.k) (cLc vs jc gc tc ec) W σ H Q) : tLc (RJ Γ jc W) (RG Γ ws gc) (RT Γ tc noW) (RX Γ (zV Γ.k) ec noW) vs σ H Q := by
  obtain ⟨g, ρ, G, q⟩ := h
  have hws : ∀ i ∈ ws, i ∈ vs := fun i hi => List.contains_iff_mem.mp (List.all_eq_true.mp hw i hi)
  refine ⟨g, ρ, G, (Tr.all_bind.mp q).mono (fun ps q1 g1 H1 J w1 x1 walk D hD => ?_) fun _ _ h => h⟩
  obtain ⟨hn, q2⟩ := if_all q1
  have hn := okN_le hn
  have q3 := Tr.all_bind.mp q2
  generalize hE : XW Γ g H σ W = E at q3
  let Iv : Nat → Hp → Prop := fun i Hh => i ≤ ps.length ∧ ∃ g2 acc accP, Wd g2 Hh ∧ Gr g1 H1 g2 Hh ∧ Lone g2 Hh D acc ∧ Reps Γ.k g2 accP acc ∧ acc.length ≤ i ∧ (lcGo (lcF vs gc tc ec ρ) (ps.drop i)).All (fun l => PZ (zF Γ.k) g H Q (.lst (accP ++ l))) E
  refine ⟨fun i m Hh => m = ps.length - i ∧ Iv i Hh, ⟨_, rfl, Nat.zero_le _, g1, [], [], w1.laid hD, .laid hD, ⟨upd_same, w1.none_b hD, w1.none_p hD⟩, .nil, Nat.zero_le _, q3⟩, ?_⟩
  rintro i m Hh ⟨rfl, hi, g2, acc, accP, w2, x2, l2, r2, n2, q4⟩
  obtain ⟨wk1, wk2⟩ := walk g2 Hh w2 x2 i
  cases e : ps[i]? with
  | none =>
    refine .inl ⟨wk1 e, ?_⟩
    have e0 : ps.drop i = [] := List.drop_eq_nil_of_le (List.getElem?_eq_none_iff.mp e)
    rw [e0] at q4
    have q5 : PZ (zF Γ.k) g H Q (.lst (accP ++ [])) := q4
    rw [List.append_nil] at q5
    exact q5 g2 Hh _ w2 (x1.trans w1 x2) ⟨D, acc, accP, rfl, rfl, l2.at', l2.p, l2.b, x1.back w1 hD, r2⟩
  | some p =>
    obtain ⟨hg, hy⟩ := wk2 p e
    have hlt : i < ps.length := (List.getElem?_eq_some_iff.mp e).1
    have ed : ps.drop i = p :: ps.drop (i + 1) := by
      rw [List.drop_eq_getElem_cons hlt]
      congr 1
      exact (List.getElem?_eq_some_iff.mp e).2
    rw [ed] at q4
    have q5 := Tr.all_noexc (Tr.all_bind.mp (show ((lcF vs gc tc ec ρ p).bind _).All _ _ from q4))
    refine .inr ⟨hg, Iv (i + 1), fun H' h' => ⟨_, by omega, rfl, h'⟩, fun x H3 hy3 => ?_⟩
    obtain ⟨g3, w3, x3, r3⟩ := hy x H3 hy3
    have X3 := x2.trans w2 x3
    refine ⟨g3, wipeE ρ vs, p, (G.grow w3 (x1.trans w1 X3)).wipe hx hv, r3, (Tr.all_bind.mp q5).mono (fun ρ' q6 σ' G' wr => ⟨(wr vs hws).trans ?_, g3, ρ', G', (Tr.all_bind.mp q6).mono (fun b q7 g4 H4 w4 x4 => ?_) fun _ _ h => h.elim⟩) fun _ _ h => h⟩
    · have idem : ∀ (us : List Nat) (τ : L2.St), (∀ j ∈ us, j ∈ vs) → L2.wipe (L2.wipe τ us) vs = L2.wipe τ vs := by
        intro us
        induction us with
        | nil => intro τ _; rfl
        | cons u us ih =>
          intro τ hu
          show L2.wipe ((L2.wipe τ us).set u none) vs = _
          rw [wipe_set (hu u List.mem_cons_self), ih τ fun j hj => hu j (List.mem_cons_of_mem _ hj)]
      exact idem vs σ fun _ h => h
    · have X4 := X3.trans w3 x4
      have l4 := (l2.grow x3).grow x4
      have r4 := (r2.mono x3.le).mono x4.le
      cases b with
      | true =>
        show if true = true then _ else _
        rw [if_pos rfl]
        refine ⟨g4, ρ', G'.grow w4 x4, (Tr.all_bind.mp q7).mono (fun v q8 g5 H5 y w5 x5 r5 => ?_) fun _ _ h => h.elim⟩
        have l5 := l4.grow x5
        refine ⟨acc, l5.at', by omega, by omega, g5, acc ++ [y], accP ++ [v], w5.upd l5.b l5.p, (X4.trans w4 x5).upd hD, ⟨upd_same, l5.b, l5.p⟩, (r4.mono x5.le).append (.cons r5 .nil), by rw [List.length_append]; simp; omega, ?_⟩
        have q9 := Tr.all_bind.mp (show ((lcGo (lcF vs gc tc ec ρ) (ps.drop (i + 1))).bind fun us => .ret (v :: us)).All _ _ from q8)
        refine q9.mono (fun l h => ?_) fun _ _ h => h
        have h : PZ (zF Γ.k) g H Q (.lst (accP ++ (v :: l))) := h
        rw [List.append_assoc]
        exact h
      | false =>
        show if false = true then _ else _
        rw [if_neg (by decide)]
        refine ⟨by omega, g4, acc, accP, w4, X4, l4, r4, by omega, ?_⟩
        exact (Tr.all_bind.mp (show ((lcGo (lcF vs gc tc ec ρ) (ps.drop (i + 1))).bind fun us => .ret us).All _ _ from q7)).mono (fun l h => h) fun _ _ h => h
/-- [elt for tg in iter if ..] -/
theorem sf_lc {elt iter : Expr} {ifs : List Expr} {scope : Scope} {own : List (Str × Nat)} {ws : List Nat} {jc : Jc} {gc : Gc} {tc : Tc} {ec : Ec} (hx : Γ.ex = none) (hc : X.calm = true) (hN : X.N.Nodup) (hj : SJ Γ X tg iter jc) (ok : BlkOk X.N X.env.scope scope own) (hv : ((own.map (·.2)).all fun i => !Γ.own.contains i) = true) (hw : (ws.all fun i => (own.map (·.2)).contains i) = true)
    (hg : ∀ (s : Shared) (H : Hp) (C : Addr) (cl : List (Str × Addr)) (fp : List Addr), SG Γ (X.blk s H scope (compEnvC scope cl C X.env) fp) tg ws gc) (ht : ∀ (s : Shared) (H : Hp) (C : Addr) (cl : List (Str × Addr)) (fp : List Addr), STs Γ (X.blk s H scope (compEnvC scope cl C X.env) fp) ifs tc)
    (he : ∀ (s : Shared) (H : Hp) (C : Addr) (cl : List (Str × Addr)) (fp : List Addr), SE Γ (X.blk s H scope (compEnvC scope cl C X.env) fp) elt ec) (hs : ∀ x, foldedSetIterable iter X.env x = pure x := by intro _; rfl) : SF Γ X (.ListComp elt [⟨tg, iter, ifs, 0⟩] scope pos) (cLc (own.map (·.2)) jc gc tc ec) := fun W tk =>
  (pe_lc hc hN (hj W tk) ok hg (fun s H C cl fp => ht s H C cl fp noW takesF) (fun s H C cl fp => he s H C cl fp noW takesF) hs).imp fun σ H Q h => lc_imp hx hv hw h
/-- name = [..] on one line -/
theorem ss_setLc {i : Nat} {y : Str} {py : Pos} {elt iter : Expr} {ifs : List Expr} {scope : Scope} {own : List (Str × Nat)} {ws : List Nat} {jc : Jc} {gc : Gc} {tc : Tc} {ec : Ec} {spos : Pos} (hx : Γ.ex = none) (hc : X.calm = true) (hN : X.N.Nodup) (hy : X.N[i]? = some y) (hyl : X.env.scope.names.lookup y = some .local) (ho : Γ.own.contains i = false)
    (hsw : swapsWith (.ListComp elt [⟨tg, iter, ifs, 0⟩] scope pos) (some (.Name y py)) spos.line X.env = pure true) (hj : SJ Γ X tg iter jc) (ok : BlkOk X.N X.env.scope scope own) (hv : ((own.map (·.2)).all fun i => !Γ.own.contains i) = true) (hw : (ws.all fun i => (own.map (·.2)).contains i) = true)
    (hg : ∀ (s : Shared) (H : Hp) (C : Addr) (cl : List (Str × Addr)) (fp : List Addr), SG Γ (X.blk s H scope (compEnvC scope cl C X.env) fp) tg ws gc) (ht : ∀ (s : Shared) (H : Hp) (C : Addr) (cl : List (Str × Addr)) (fp : List Addr), STs Γ (X.blk s H scope (compEnvC scope cl C X.env) fp) ifs tc)
    (he : ∀ (s : Shared) (H : Hp) (C : Addr) (cl : List (Str × Addr)) (fp : List Addr), SE Γ (X.blk s H scope (compEnvC scope cl C X.env) fp) elt ec) (hs : ∀ x, foldedSetIterable iter X.env x = pure x := by intro _; rfl) : SS Γ z X (.Assign [.Name y py] (.ListComp elt [⟨tg, iter, ifs, 0⟩] scope pos) spos) (sSet i (cLc (own.map (·.2)) jc gc tc ec)) := fun W tk =>
  (ps_setLc hc hN hy hyl hsw (hj W tk) ok hg (fun s H C cl fp => ht s H C cl fp noW takesF) (fun s H C cl fp => he s H C cl fp noW takesF) hs).imp fun D σ H ⟨g, ρ, G, q⟩ => lc_imp hx hv hw ⟨g, ρ, G, (Tr.all_bind.mp q).mono (fun p q1 g' H' v w x r => by
    obtain ⟨a, vs, ps, h1, h2, h3, h4, h5, h6, h7⟩ := r
    subst h1 h2
    exact q1 (g'.add a (.lst vs)) _ H' ((G.grow (w.add h3 h5 h4) (x.add h5 h6)).put ho (.lst add_at (h7.mono (.add h5))))) fun _ _ h => h.xw G⟩
theorem ss_setLcF {i : Nat} {y : Str} {py : Pos} {elt iter : Expr} {ifs : List Expr} {scope : Scope} {own : List (Str × Nat)} {ws : List Nat} {jc : Jc} {gc : Gc} {tc : Tc} {ec : Ec} {spos : Pos} (hx : Γ.ex = none) (hc : X.calm = true) (hN : X.N.Nodup) (hy : X.N[i]? = some y) (hyl : X.env.scope.names.lookup y = some .local) (ho : Γ.own.contains i = true)
    (hsw : swapsWith (.ListComp elt [⟨tg, iter, ifs, 0⟩] scope pos) (some (.Name y py)) spos.line X.env = pure true) (hj : SJ Γ X tg iter jc) (ok : BlkOk X.N X.env.scope scope own) (hv : ((own.map (·.2)).all fun i => !Γ.own.contains i) = true) (hw : (ws.all fun i => (own.map (·.2)).contains i) = true)
    (hg : ∀ (s : Shared) (H : Hp) (C : Addr) (cl : List (Str × Addr)) (fp : List Addr), SG Γ (X.blk s H scope (compEnvC scope cl C X.env) fp) tg ws gc) (ht : ∀ (s : Shared) (H : Hp) (C : Addr) (cl : List (Str × Addr)) (fp : List Addr), STs Γ (X.blk s H scope (compEnvC scope cl C X.env) fp) ifs tc)
    (he : ∀ (s : Shared) (H : Hp) (C : Addr) (cl : List (Str × Addr)) (fp : List Addr), SE Γ (X.blk s H scope (compEnvC scope cl C X.env) fp) elt ec) (hs : ∀ x, foldedSetIterable iter X.env x = pure x := by intro _; rfl) : SS Γ z X (.Assign [.Name y py] (.ListComp elt [⟨tg, iter, ifs, 0⟩] scope pos) spos) (sSet i (cLc (own.map (·.2)) jc gc tc ec)) := fun W tk =>
  (ps_setLc hc hN hy hyl hsw (hj W tk) ok hg (fun s H C cl fp => ht s H C cl fp noW takesF) (fun s H C cl fp => he s H C cl fp noW takesF) hs).imp fun D σ H ⟨g, ρ, G, q⟩ => lc_imp hx hv hw ⟨g, ρ, G, (Tr.all_bind.mp q).mono (fun p q1 g' H' v w x r => q1 g' _ H' (G.putF w x ho r)) fun _ _ h => h.xw G⟩
end
end RK

namespace RK
open PySem PySem.Spec PyProof.Rows L2
def forGo (f : PV → Sc) : List PV → Sc
  | [] => fun ρ => .ret (.nx ρ)
  | p :: r => fun ρ => (f p ρ).bind fun fl => match fl with
    | .nx ρ' => forGo f r ρ'
    | .ct ρ' => forGo f r ρ'
    | .bk ρ' => .ret (.nx ρ')
    | .rt v => .ret (.rt v)
def forF (gc : Gc) (sb : Sc) : PV → Sc := fun p ρ => (gc p ρ).noexc.bind sb
def sFor (jc : Jc) (gc : Gc) (sb : Sc) : Sc := fun ρ => (jc ρ).bind fun ps => forGo (forF gc sb) ps ρ
def sBrk : Sc := fun ρ => .ret (.bk ρ)
def sCont : Sc := fun ρ => .ret (.ct ρ)
def whGo (t : Tc) (s : Sc) : Nat → Sc
  | 0 => fun _ => .fail
  | n + 1 => fun ρ => (t ρ).bind fun b => match b with
    | false => .ret (.nx ρ)
    | true => (s ρ).bind fun fl => match fl with
      | .nx ρ' => whGo t s n ρ'
      | .ct ρ' => whGo t s n ρ'
      | .bk ρ' => .ret (.nx ρ')
      | .rt v => .ret (.rt v)
def sPar (i j : Nat) (a b : Ec) : Sc := fun ρ => (a ρ).bind fun x => (b ρ).bind fun y => .ret (.nx (put (put ρ i (some x)) j (some y)))
def sPar3 (i j l : Nat) (a b c : Ec) : Sc := fun ρ => (a ρ).bind fun x => (b ρ).bind fun y => (c ρ).bind fun w => .ret (.nx (put (put (put ρ i (some x)) j (some y)) l (some w)))
def sUnp (a : Ec) (gc : Gc) : Sc := fun ρ => (a ρ).bind fun v => (gc v ρ).noexc.bind fun ρ' => .ret (.nx ρ')
def ownL (ρ : RK.Env) (i : Nat) : Option (List PV) := match look ρ i with
  | some (.lst xs) => some xs
  | _ => none
theorem ownL_look {ρ : RK.Env} {i : Nat} {xs : List PV} (h : ownL ρ i = some xs) : look ρ i = some (.lst xs) := by
  unfold ownL at h
  split at h
  · rename_i e
    cases h
    exact e
  · cases h
def withL {α : Type} (o : Option (List PV)) (f : List PV → Tr α) : Tr α := match o with
  | some xs => f xs
  | none => .fail
theorem withL_all {α : Type} {o : Option (List PV)} {f : List PV → Tr α} {Q : α → Prop} {E : Nat → List PV → Prop} (h : (withL o f).All Q E) : ∃ xs, o = some xs ∧ (f xs).All Q E := by
  cases o with
  | none => exact (show False from h).elim
  | some xs => exact ⟨xs, rfl, h⟩
def sApp (i : Nat) (a : Ec) : Sc := fun ρ => withL (ownL ρ i) fun xs => (a ρ).bind fun v => if okN (xs.length + 1) then .ret (.nx (put ρ i (some (.lst (xs ++ [v]))))) else .fail
/-- a place in a row of n -/
def nIx (n : Nat) : Int → Option Nat
  | .ofNat j => if Nat.blt j n then some j else none
  | .negSucc m => if Nat.blt m n then some (n - (m + 1)) else none
theorem nIx_eq (n : Nat) (i : Int) : nIx n i = ixN n i := by
  cases i with
  | ofNat j =>
    show (if Nat.blt j n = true then some j else none) = ixN n (Int.ofNat j)
    unfold ixN
    have h0 : (0 : Int) ≤ Int.ofNat j := Int.natCast_nonneg j
    rw [if_pos h0]
    by_cases h : j < n
    · rw [if_pos (Nat.blt_eq.mpr h), if_pos (show Int.ofNat j < (n : Int) from Int.ofNat_lt.mpr h)]; rfl
    · rw [if_neg (fun q => h (Nat.blt_eq.mp q)), if_neg (fun q : Int.ofNat j < (n : Int) => h (Int.ofNat_lt.mp q))]
  | negSucc m =>
    show (if Nat.blt m n = true then some (n - (m + 1)) else none) = ixN n (Int.negSucc m)
    unfold ixN
    have h0 : ¬ (0 : Int) ≤ Int.negSucc m := by omega
    rw [if_neg h0]
    by_cases h : m < n
    · have h1 : -(n : Int) ≤ Int.negSucc m := by omega
      rw [if_pos (Nat.blt_eq.mpr h), if_pos h1]
      congr 1
      omega
    · have h1 : ¬ -(n : Int) ≤ Int.negSucc m := by omega
      rw [if_neg (fun q => h (Nat.blt_eq.mp q)), if_neg h1]
def gIx (i : Nat) (a : Ec) : Gc := fun v ρ => withL (ownL ρ i) fun xs => (a ρ).noexc.bind fun k => match k with
  | .int j => (match nIx xs.length j with
    | some m => .ret (put ρ i (some (.lst (xs.set m v))))
    | none => .fail)
  | _ => .fail
def sSetI (i : Nat) (a e : Ec) : Sc := fun ρ => (e ρ).bind fun v => (gIx i a v ρ).noexc.bind fun ρ' => .ret (.nx ρ')
def sSwap (i : Nat) (a b e1 e2 : Ec) : Sc := fun ρ => (e1 ρ).bind fun v => (e2 ρ).bind fun w => (gIx i a v ρ).noexc.bind fun ρ1 => (gIx i b w ρ1).noexc.bind fun ρ2 => .ret (.nx ρ2)
section
variable {Γ : Fm} {X : Cx} {e a b : Expr} {es : List Expr} {c ca cb cc : Ec} {ct cu : Tc} {sa sb : Sc} {aa : Ac} {W : WX} {σ : L2.St} {Q : VK} {pos p : Pos} {z za zb zc : Md} {g g' g1 g2 : Gh} {H H' H1 H2 : Hp} {tg : Expr} {D : Addr} {ρ : RK.Env}
theorem GI.lift {gl : Gh} (G : GI Γ g ρ σ H) (l : Le gl g) : GI { Γ with gl := gl } g ρ σ H := ⟨G.wd, G.gr, G.vars, G.owns, G.inj, G.len, l, G.exf⟩
theorem GI.low {gl : Gh} (G : GI { Γ with gl := gl } g ρ σ H) (l : Le Γ.gl gl) : GI Γ g ρ σ H := ⟨G.wd, G.gr, G.vars, G.owns, G.inj, G.len, l.trans G.fl, G.exf⟩
/-- for tg in iter: body -/
theorem ss_for {iter : Expr} {bd : List Stmt} {ws : List Nat} {jc : Jc} {gc : Gc} (hp : PassesOwn (model X.prog X.w) X.A X.env X.xe) (hc : X.calm = true) (hi : SI Γ X tg iter jc) (hg : ∀ gl, SG { Γ with gl := gl } X tg ws gc) (hb : ∀ gl, SB { Γ with gl := gl } z X bd sb)
    (hs : ∀ x, foldedSetIterable iter X.env x = pure x := by intro _; rfl) : SS Γ z X (.For tg iter bd [] pos) (sFor jc gc sb) := fun W tk => by
  have h1 : PG X tg (fun v σ H Q => ∃ gl, RG { Γ with gl := gl } ws gc v σ H Q) := ⟨fun pins s σ H v u Q I r ⟨gl, q⟩ => (hg gl).run pins s σ H v u Q I r q⟩
  have h2 : PSs X bd (fun D σ H => ∃ gl, RS { Γ with gl := gl } z sb W D σ H) := ⟨fun pins s σ H D I ⟨gl, q⟩ => (hb gl W tk).run pins s σ H D I q⟩
  refine (ps_for hp hc (hi W tk) h1 h2 hs).imp fun D σ H ⟨g, ρ, G, q⟩ => ⟨g, ρ, G, (Tr.all_bind.mp q).mono (fun ps q1 g1 H1 J w1 x1 walk => ?_) fun _ _ h => h.xw G⟩
  have G1 := G.grow w1 x1
  let Iv : Nat → L2.St → Hp → Prop := fun i σ' H' => i ≤ ps.length ∧ ∃ g2 ρ2, GI { Γ with gl := g1 } g2 ρ2 σ' H' ∧ (forGo (forF gc sb) (ps.drop i) ρ2).All (RFl Γ z D) (XS Γ W)
  refine ⟨fun i m σ' H' => m = ps.length - i ∧ Iv i σ' H', ⟨_, rfl, Nat.zero_le _, g1, ρ, G1.lift (.refl g1), q1⟩, ?_⟩
  rintro i m σ' H' ⟨rfl, hi', g2, ρ2, G2, q2⟩
  obtain ⟨wk1, wk2⟩ := walk g2 H' G2.wd G2.fl i
  cases e : ps[i]? with
  | none =>
    refine .inl ⟨wk1 e, ?_⟩
    have e0 : ps.drop i = [] := List.drop_eq_nil_of_le (List.getElem?_eq_none_iff.mp e)
    rw [e0] at q2
    exact q2 g2 σ' H' (G2.low G1.fl)
  | some p =>
    obtain ⟨hgo, hy⟩ := wk2 p e
    have hlt : i < ps.length := (List.getElem?_eq_some_iff.mp e).1
    have ed : ps.drop i = p :: ps.drop (i + 1) := by
      rw [List.drop_eq_getElem_cons hlt]
      congr 1
      exact (List.getElem?_eq_some_iff.mp e).2
    rw [ed] at q2
    have q3 := Tr.all_bind.mp (show ((forF gc sb p ρ2).bind _).All _ _ from q2)
    have q4 := Tr.all_noexc (Tr.all_bind.mp (show ((gc p ρ2).noexc.bind sb).All _ _ from q3))
    refine .inr ⟨hgo, Iv (i + 1), fun σ3 H3 h3 => ⟨_, by omega, rfl, h3⟩, fun x H3 hy3 => ?_⟩
    obtain ⟨g3, w3, x3, r3⟩ := hy x H3 hy3
    refine ⟨g1, g3, ρ2, p, G2.grow w3 x3, r3, q4.mono (fun ρ' q5 σ4 G4 wr => ⟨g1, g3, ρ', G4, q5.mono (fun fl q6 => ?_) fun n fs h => h⟩) fun _ _ h => h⟩
    cases fl with
    | nx ρ'' => exact fun g5 σ5 H5 G5 => ⟨by omega, g5, ρ'', G5, q6⟩
    | ct ρ'' => exact fun g5 σ5 H5 G5 => ⟨by omega, g5, ρ'', G5, q6⟩
    | bk ρ'' => exact fun g5 σ5 H5 G5 => q6 g5 σ5 H5 (G5.low G1.fl)
    | rt v => exact q6
theorem ss_brk : SS Γ z X (.Break pos) sBrk := fun W tk => ps_break.imp fun D σ H ⟨g, ρ, G, q⟩ => q g σ H G
theorem ss_cont : SS Γ z X (.Continue pos) sCont := fun W tk => ps_continue.imp fun D σ H ⟨g, ρ, G, q⟩ => q g σ H G
theorem ss_while {t : Expr} {bd : List Stmt} (n : Nat) (hp : PassesOwn (model X.prog X.w) X.A X.env X.xe) (ht : ST Γ X t ct) (hb : SB Γ z X bd sb) : SS Γ z X (.While t bd [] pos) (whGo ct sb n) := fun W tk => by
  refine (ps_while hp (ht W tk) (hb W tk)).imp fun D σ H ⟨g, ρ, G, q⟩ => ?_
  refine ⟨fun m σ' H' => ∃ g2 ρ2, GI Γ g2 ρ2 σ' H' ∧ (whGo ct sb m ρ2).All (RFl Γ z D) (XS Γ W), ⟨n, g, ρ, G, q⟩, ?_⟩
  rintro m σ' H' ⟨g2, ρ2, G2, q2⟩
  cases m with
  | zero => exact (show False from q2).elim
  | succ m =>
    refine ⟨g2, ρ2, G2, (Tr.all_bind.mp (show ((ct ρ2).bind _).All _ _ from q2)).mono (fun b q3 g3 H3 w3 x3 => ?_) fun _ _ h => h.xw G2⟩
    cases b with
    | false => exact q3 g3 σ' H3 (G2.grow w3 x3)
    | true =>
      show ∃ N, _
      refine ⟨fun σ4 H4 => ∃ g2 ρ2, GI Γ g2 ρ2 σ4 H4 ∧ (whGo ct sb m ρ2).All (RFl Γ z D) (XS Γ W), fun σ4 H4 h => ⟨m, Nat.lt_succ_self m, h⟩, g3, ρ2, G2.grow w3 x3, (Tr.all_bind.mp q3).mono (fun fl q4 => ?_) fun _ _ h => h⟩
      cases fl with
      | nx ρ'' => exact fun g5 σ5 H5 G5 => ⟨g5, ρ'', G5, q4⟩
      | ct ρ'' => exact fun g5 σ5 H5 G5 => ⟨g5, ρ'', G5, q4⟩
      | bk ρ'' => exact fun g5 σ5 H5 G5 => q4 g5 σ5 H5 G5
      | rt v => exact q4

def Pt (Γ : Fm) (i : Nat) (z : Md) : Prop := (Γ.own.contains i = true ∧ z = zF Γ.k) ∨ (Γ.own.contains i = false ∧ z = zV Γ.k)
theorem GI.putM {i : Nat} {q : PV} {v : V} (h : Pt Γ i z) (G : GI Γ g ρ σ H) (w : Wd g' H') (x : Gr g H g' H') (r : z H g' H' q v) : GI Γ g' (RK.put ρ i (some q)) (σ.set i (some v)) H' := by
  rcases h with ⟨h, rfl⟩ | ⟨h, rfl⟩
  · exact G.putF w x h r
  · exact (G.grow w x).put h r
theorem ss_par {i j : Nat} {x y : Str} {px py pt : Pos} {kt k2 pt2} (hc : X.calm = true) (hN : X.N.Nodup) (hi : X.N[i]? = some x) (hj : X.N[j]? = some y) (hij : i ≠ j) (hx : X.env.scope.names.lookup x = some .local) (hy : X.env.scope.names.lookup y = some .local) (h1 : Pt Γ i za) (h2 : Pt Γ j zb) (ha : SX Γ za X a ca) (hb : SX Γ zb X b cb)
    (hw : swappedStores [.Tuple [.Name x px, .Name y py] kt pt] (.Tuple [a, b] k2 pt2) X.env = pure (some [x, y]) := by rfl) (hs : swapsWithSole [.Tuple [.Name x px, .Name y py] kt pt] (.Tuple [a, b] k2 pt2) pos.line X.env = pure false := by rfl)
    (s1 : starEach [a, b] X.env = (false, eval a X.env) :: starEach [b] X.env := by rfl) (s2 : starEach [b] X.env = (false, eval b X.env) :: starEach [] X.env := by rfl) :
    SS Γ z X (.Assign [.Tuple [.Name x px, .Name y py] kt pt] (.Tuple [a, b] k2 pt2) pos) (sPar i j ca cb) := fun W tk =>
  (ps_par hc hN hi hj hij hx hy (pa_cons (ha W tk) (pa_cons (hb W tk) pa_nil s2) s1) hw hs).imp fun D σ H ⟨g, ρ, G, q⟩ => ⟨g, ρ, G, (Tr.all_bind.mp q).mono (fun p q1 g1 H1 v w1 x1 r1 => ⟨g1, ρ, G.grow w1 x1, (Tr.all_bind.mp q1).mono (fun p2 q2 g2 H2 v2 w2 x2 r2 =>
    ⟨v, v2, rfl, q2 g2 _ H2 (GI.putM h2 (GI.putM h1 G w1 x1 r1) w2 x2 r2)⟩) fun _ _ h => (h.xw G).grow G w1 x1⟩) fun _ _ h => h.xw G⟩
theorem ss_par3 {d : Expr} {i j l : Nat} {x y w : Str} {px py pw pt : Pos} {kt k2 pt2} (hc : X.calm = true) (hN : X.N.Nodup) (hi : X.N[i]? = some x) (hj : X.N[j]? = some y) (hl : X.N[l]? = some w) (hij : i ≠ j) (hil : i ≠ l) (hjl : j ≠ l) (hx : X.env.scope.names.lookup x = some .local) (hy : X.env.scope.names.lookup y = some .local) (hz : X.env.scope.names.lookup w = some .local)
    (h1 : Pt Γ i za) (h2 : Pt Γ j zb) (h3 : Pt Γ l zc) (ha : SX Γ za X a ca) (hb : SX Γ zb X b cb) (hd : SX Γ zc X d cc)
    (hw : swappedStores [.Tuple [.Name x px, .Name y py, .Name w pw] kt pt] (.Tuple [a, b, d] k2 pt2) X.env = pure (some [x, y, w]) := by rfl) (hs : swapsWithSole [.Tuple [.Name x px, .Name y py, .Name w pw] kt pt] (.Tuple [a, b, d] k2 pt2) pos.line X.env = pure false := by rfl)
    (s1 : starEach [a, b, d] X.env = (false, eval a X.env) :: starEach [b, d] X.env := by rfl) (s2 : starEach [b, d] X.env = (false, eval b X.env) :: starEach [d] X.env := by rfl) (s3 : starEach [d] X.env = (false, eval d X.env) :: starEach [] X.env := by rfl) :
    SS Γ z X (.Assign [.Tuple [.Name x px, .Name y py, .Name w pw] kt pt] (.Tuple [a, b, d] k2 pt2) pos) (sPar3 i j l ca cb cc) := fun W tk =>
  (ps_par3 hc hN hi hj hl hij hil hjl hx hy hz (pa_cons (ha W tk) (pa_cons (hb W tk) (pa_cons (hd W tk) pa_nil s3) s2) s1) hw hs).imp fun D σ H ⟨g, ρ, G, q⟩ => ⟨g, ρ, G, (Tr.all_bind.mp q).mono (fun p q1 g1 H1 v w1 x1 r1 => ⟨g1, ρ, G.grow w1 x1, (Tr.all_bind.mp q1).mono (fun p2 q2 g2 H2 v2 w2 x2 r2 => ⟨g2, ρ, (G.grow w1 x1).grow w2 x2, (Tr.all_bind.mp q2).mono (fun p3 q3 g3 H3 v3 w3 x3 r3 =>
    ⟨v, v2, v3, rfl, q3 g3 _ H3 (GI.putM h3 (GI.putM h2 (GI.putM h1 G w1 x1 r1) w2 x2 r2) w3 x3 r3)⟩) fun _ _ h => ((h.xw G).grow G w1 x1).grow (G.grow w1 x1) w2 x2⟩) fun _ _ h => (h.xw G).grow G w1 x1⟩) fun _ _ h => h.xw G⟩
theorem ss_unp {ws : List Nat} {gc : Gc} (ha : SE Γ X e c) (hg : SG Γ X tg ws gc) (hs : swapsWithSole [tg] e pos.line X.env = pure false := by rfl) (hw : swappedStores [tg] e X.env = pure none := by rfl) (h1 : (assignEach [tg] X.env).map (·.2) = [assign tg X.env] := by rfl) : SS Γ z X (.Assign [tg] e pos) (sUnp c gc) := fun W tk =>
  (ps_asg (ha W tk) hg hs hw h1).imp fun D σ H ⟨g, ρ, G, q⟩ => ⟨g, ρ, G, (Tr.all_bind.mp q).mono (fun p q1 g1 H1 v w1 x1 r1 => ⟨g1, ρ, p, G.grow w1 x1, r1, (Tr.all_noexc (Tr.all_bind.mp q1)).mono (fun ρ' q2 σ' G' wr => q2 g1 σ' H1 G') fun _ _ h => h⟩) fun _ _ h => h.xw G⟩

theorem GI.upd {i : Nat} {a : Addr} {vs' : List V} {ps ps' : List PV} (G : GI Γ g ρ σ H) (ho : Γ.own.contains i = true) (hl : look ρ i = some (.lst ps)) (hσ : σ[i]? = some (some (.ref a))) (r : Reps Γ.k g ps' vs') : GI Γ g (RK.put ρ i (some (.lst ps'))) σ (upd H a (.lst vs')) := by
  have hi := List.contains_iff_mem.mp ho
  obtain ⟨a', us, qs, k1, _, k3, k4, k5, k6, _⟩ := G.owns i _ hl hi
  rw [hσ] at k1
  cases k1
  refine ⟨G.wd.upd k5 k4, G.gr.upd k6, fun j q h n => ?_, fun j q h n => ?_, fun j l q q' b hj hl' h h' e e' => ?_, by rw [put_length]; exact G.len, G.fl, fun x e hn => G.exf x e (look_put_none hn).1⟩
  · rcases look_put h with ⟨e, _⟩ | ⟨n', h⟩
    · exact absurd hi (by rw [← e]; exact n)
    · exact G.vars j q h n
  · rcases look_put h with ⟨e, z⟩ | ⟨n', h⟩
    · subst e
      cases z
      exact ⟨a, vs', ps', hσ, rfl, upd_same, k4, k5, k6, r⟩
    · obtain ⟨b, us', qs', j1, j2, j3, j4⟩ := G.owns j q h n
      refine ⟨b, us', qs', j1, j2, ?_, j4⟩
      rw [upd_ne (fun q => n' ?_)]
      · exact j3
      · subst q
        exact G.inj j i _ _ b n hi h hl j1 hσ
  · have back : ∀ {m : Nat} {t : PV}, look (RK.put ρ i (some (.lst ps'))) m = some t → ∃ t', look ρ m = some t' := fun {m t} z => by
      rcases look_put z with ⟨e, _⟩ | ⟨_, z⟩
      · exact ⟨_, by rw [e]; exact hl⟩
      · exact ⟨_, z⟩
    obtain ⟨t, z⟩ := back h
    obtain ⟨t', z'⟩ := back h'
    exact G.inj j l t t' b hj hl' z z' e e'
/-- x.append(e) -/
theorem ss_app {i : Nat} {x : Str} {p apos cpos : Pos} (hN : X.N[i]? = some x) (hv : Vis X.env.scope x) (ho : Γ.own.contains i = true) (h : SE Γ X e c) (hd : (x == ("__debug__" : Str)) = false := by decide) (hcd : (x == ("__classdict__" : Str)) = false := by decide)
    (hbase : attributeBase (.Name x p) "append" X.env (eval (.Name x p) X.env) = eval (.Name x p) X.env := by rfl)
    (hfew : ((backTo cpos (starEach [e] X.env)).all (fun x => !x.1) && (backToKw cpos (keywordEach [] X.env)).all (fun x => x.1.isSome) && decide (([e] : List Expr).length + ([] : List Keyword).length + (if ([] : List Keyword).isEmpty then 0 else 1) < 30)) = true := by rfl)
    (hline : (apos.endLine == cpos.line) = true := by rfl) (hs : starEach [e] X.env = (false, eval e X.env) :: starEach [] X.env := by rfl) (hsw : swapsWith (.Call (.Attribute (.Name x p) "append" apos) [e] [] cpos) none pos.line X.env = pure false := by rfl) :
    SS Γ z X (.Expr (.Call (.Attribute (.Name x p) "append" apos) [e] [] cpos) pos) (sApp i c) := fun W tk =>
  (ps_expr (pe_bm PySem.F.plainAttrs_list PySem.F.slot_list_append PySem.F.type_list_append mt_append (pe_var hN hv hd hcd) (pa1 (h W tk) hs) hbase hfew hline hs rfl) hsw).imp fun D σ H ⟨g, ρ, G, q⟩ => by
    obtain ⟨xs, el, q⟩ := withL_all q
    have el := ownL_look el
    obtain ⟨a, vs, ps, h1, h2, h3, h4, h5, h6, h7⟩ := G.owns i _ el (List.contains_iff_mem.mp ho)
    cases h2
    refine ⟨.ref a, h1, .inl ⟨rfl, vs, SqL.of h3⟩, g, ρ, G, (Tr.all_bind.mp q).mono (fun p q1 g1 H1 v w1 x1 r1 => ?_) fun _ _ h => h.xw G⟩
    obtain ⟨hn, q2⟩ := if_all q1
    have hn := okN_le hn
    refine ⟨a, vs, v, rfl, rfl, x1.keep _ _ h3 h4, by rw [← h7.length]; omega, ?_⟩
    exact q2 g1 σ _ ((G.grow w1 x1).upd ho el h1 ((h7.mono x1.le).append (.cons r1 .nil)))
/-- x[k] = .. as a target -/
theorem pg_own {i : Nat} {x : Str} {ie : Expr} {p : Pos} (hN : X.N[i]? = some x) (hv : Vis X.env.scope x) (ho : Γ.own.contains i = true) (h : SE Γ X ie c) (hd : (x == ("__debug__" : Str)) = false := by decide) (hcd : (x == ("__classdict__" : Str)) = false := by decide)
    (ha : ∀ v, assign (.Subscript (.Name x p) ie pos) X.env v = (do
      let ov ← holding [v] (eval (.Name x p) X.env)
      let iv ← holding [v, ov] (eval ie X.env)
      standAt pos
      holding [v, ov, iv] (setItem ov iv v)
      release [v, ov, iv] []) := by intro _; rfl) :
    PG X (.Subscript (.Name x p) ie pos) (fun v σ H Q => ∃ g ρ q, GI Γ g ρ σ H ∧ Rep Γ.k g q v ∧ (gIx i c q ρ).All (fun ρ' => ∀ g' H', GI Γ g' ρ' σ H' → Le g g' → Q σ H') fun _ _ => False) := by
  have h' := pg_sub (pe_var hN hv hd hcd) (h noW takesF) set_list ha
  refine ⟨fun pins s σ H v u Q I r ⟨g, ρ, q, G, rq, al⟩ => h'.run pins s σ H v u Q I r ?_⟩
  obtain ⟨xs, el, al⟩ := withL_all al
  have el := ownL_look el
  obtain ⟨a, vs, ps, h1, h2, h3, h4, h5, h6, h7⟩ := G.owns i _ el (List.contains_iff_mem.mp ho)
  cases h2
  refine ⟨.ref a, h1, g, ρ, G, (Tr.all_noexc (Tr.all_bind.mp al)).mono (fun k q1 g1 H1 y w1 x1 r1 => ?_) fun _ _ h => h.elim⟩
  cases r1 with
  | int j =>
    cases e : nIx xs.length j with
    | none =>
      simp only [e] at q1
      exact (show False from q1).elim
    | some m =>
      simp only [e] at q1
      have q1 : ∀ g' H', GI Γ g' (RK.put ρ i (some (.lst (xs.set m q)))) σ H' → Le g g' → Q σ H' := q1
      refine ⟨a, vs, j, m, rfl, rfl, x1.keep _ _ h3 h4, by rw [← h7.length, ← nIx_eq]; exact e, ?_⟩
      exact q1 g1 _ ((G.grow w1 x1).upd ho el h1 (Reps.set (rq.mono x1.le) m (h7.mono x1.le))) x1.le
  | _ => exact (show False from q1).elim
theorem ss_setI {i : Nat} {x : Str} {ie : Expr} {p tp : Pos} (hN : X.N[i]? = some x) (hv : Vis X.env.scope x) (ho : Γ.own.contains i = true) (hi : SE Γ X ie c) (he : SE Γ X e ca) (hd : (x == ("__debug__" : Str)) = false := by decide) (hcd : (x == ("__classdict__" : Str)) = false := by decide)
    (ha : ∀ v, assign (.Subscript (.Name x p) ie tp) X.env v = (do
      let ov ← holding [v] (eval (.Name x p) X.env)
      let iv ← holding [v, ov] (eval ie X.env)
      standAt tp
      holding [v, ov, iv] (setItem ov iv v)
      release [v, ov, iv] []) := by intro _; rfl)
    (hs : swapsWithSole [.Subscript (.Name x p) ie tp] e pos.line X.env = pure false := by rfl) (hw : swappedStores [.Subscript (.Name x p) ie tp] e X.env = pure none := by rfl) (h1 : (assignEach [.Subscript (.Name x p) ie tp] X.env).map (·.2) = [assign (.Subscript (.Name x p) ie tp) X.env] := by rfl) :
    SS Γ z X (.Assign [.Subscript (.Name x p) ie tp] e pos) (sSetI i c ca) := fun W tk =>
  (ps_asg (he W tk) (pg_own hN hv ho hi hd hcd ha) hs hw h1).imp fun D σ H ⟨g, ρ, G, q⟩ => ⟨g, ρ, G, (Tr.all_bind.mp q).mono (fun p q1 g1 H1 v w1 x1 r1 => ⟨g1, ρ, p, G.grow w1 x1, r1, (Tr.all_noexc (Tr.all_bind.mp q1)).mono (fun ρ' q2 g2 H2 G2 _ => q2 g2 σ H2 G2) fun _ _ h => h⟩) fun _ _ h => h.xw G⟩
/-- x[k], x[l] = (e1, e2) -/
theorem ss_swap {i : Nat} {x : Str} {ie je e1 e2 : Expr} {c1 c2 d1 d2 : Ec} {p p' tp tp' pt : Pos} {kt k2 pt2} (hK : X.K = Γ.k.K) (hc : X.calm = true) (hN : X.N[i]? = some x) (hv : Vis X.env.scope x) (ho : Γ.own.contains i = true) (hi : SE Γ X ie c1) (hj : SE Γ X je c2) (h1 : SE Γ X e1 d1) (h2 : SE Γ X e2 d2)
    (hd : (x == ("__debug__" : Str)) = false := by decide) (hcd : (x == ("__classdict__" : Str)) = false := by decide)
    (ha : ∀ v, assign (.Subscript (.Name x p) ie tp) X.env v = (do
      let ov ← holding [v] (eval (.Name x p) X.env)
      let iv ← holding [v, ov] (eval ie X.env)
      standAt tp
      holding [v, ov, iv] (setItem ov iv v)
      release [v, ov, iv] []) := by intro _; rfl)
    (hb : ∀ v, assign (.Subscript (.Name x p') je tp') X.env v = (do
      let ov ← holding [v] (eval (.Name x p') X.env)
      let iv ← holding [v, ov] (eval je X.env)
      standAt tp'
      holding [v, ov, iv] (setItem ov iv v)
      release [v, ov, iv] []) := by intro _; rfl)
    (g1 : (assignEach [.Subscript (.Name x p) ie tp, .Subscript (.Name x p') je tp'] X.env).map (·.2) = assign (.Subscript (.Name x p) ie tp) X.env :: (assignEach [.Subscript (.Name x p') je tp'] X.env).map (·.2) := by rfl)
    (g2 : (assignEach [.Subscript (.Name x p') je tp'] X.env).map (·.2) = assign (.Subscript (.Name x p') je tp') X.env :: (assignEach [] X.env).map (·.2) := by rfl)
    (g3 : (assignEach [.Subscript (.Name x p) ie tp, .Subscript (.Name x p') je tp'] X.env).length = 2 := by rfl) (g4 : (assignEach [.Subscript (.Name x p) ie tp, .Subscript (.Name x p') je tp'] X.env).findIdx? (·.1) = none := by rfl)
    (hs : swapsWithSole [.Tuple [.Subscript (.Name x p) ie tp, .Subscript (.Name x p') je tp'] kt pt] (.Tuple [e1, e2] k2 pt2) pos.line X.env = pure false := by rfl) (hw : swappedStores [.Tuple [.Subscript (.Name x p) ie tp, .Subscript (.Name x p') je tp'] kt pt] (.Tuple [e1, e2] k2 pt2) X.env = pure none := by rfl)
    (hl : (assignEach [.Tuple [.Subscript (.Name x p) ie tp, .Subscript (.Name x p') je tp'] kt pt] X.env).map (·.2) = [assign (.Tuple [.Subscript (.Name x p) ie tp, .Subscript (.Name x p') je tp'] kt pt) X.env] := by rfl)
    (s1 : starEach [e1, e2] X.env = (false, eval e1 X.env) :: starEach [e2] X.env := by rfl) (s2 : starEach [e2] X.env = (false, eval e2 X.env) :: starEach [] X.env := by rfl) :
    SS Γ z X (.Assign [.Tuple [.Subscript (.Name x p) ie tp, .Subscript (.Name x p') je tp'] kt pt] (.Tuple [e1, e2] k2 pt2) pos) (sSwap i c1 c2 d1 d2) := fun W tk =>
  (ps_asg (se_tup (sa_cons h1 (sa_cons h2 sa_nil s2) s1) W tk) (pg_tup hc (pgs_cons (pg_own hN hv ho hi hd hcd ha) (pgs_cons (pg_own hN hv ho hj hd hcd hb) pgs_nil g2) g1) g3 g4) hs hw hl).imp fun D σ H ⟨g, ρ, G, q⟩ => ⟨g, ρ, G, by
    show ((aCons d1 (aCons d2 aNil) ρ).bind _).All _ _
    refine Tr.all_bind.mpr (Tr.all_bind.mpr ((Tr.all_bind.mp q).mono (fun q1 al1 => Tr.all_bind.mpr (Tr.all_bind.mpr ((Tr.all_bind.mp al1).mono (fun q2 al2 => ?_) fun _ _ h => h.xw G))) fun _ _ h => h.xw G))
    show PZ (zV Γ.k) g H _ (.tup [q1, q2])
    intro g1 H1 v w1 x1 r
    cases r with
    | tup hq rr =>
      cases rr with
      | cons r1 rr => cases rr with
        | cons r2 rr =>
          cases rr
          refine ⟨_, _, rfl, by rw [hK]; exact sqT_le w1.sub hq, rfl, _, _, rfl, g1, ρ, q1, G.grow w1 x1, r1, (Tr.all_noexc (Tr.all_bind.mp al2)).mono (fun ρ1 al3 g2 H2 G2 l2 => ⟨_, _, rfl, g2, ρ1, q2, G2, r2.mono l2, (Tr.all_noexc (Tr.all_bind.mp al3)).mono (fun ρ2 al4 g3 H3 G3 _ => ⟨rfl, al4 g3 σ H3 G3⟩) fun _ _ h => h⟩) fun _ _ h => h⟩⟩
end
end RK

namespace RK
open PySem PySem.Spec PyProof.Rows L2
def oIx : PV → PV → Tr PV
  | .lst xs, .int i => (match nIx xs.length i with
    | some j => ofOpt xs[j]?
    | none => .fail)
  | .tup xs, .int i => (match nIx xs.length i with
    | some j => ofOpt xs[j]?
    | none => .fail)
  | _, _ => .fail
def sIx (n d : Nat) : Option Int → Nat
  | none => d
  | some (.ofNat v) => if Nat.ble v n then v else n
  | some (.negSucc m) => n - (m + 1)
def cutP (xs : List PV) (lo hi : Option Int) : List PV := (xs.drop (sIx xs.length 0 lo)).take (sIx xs.length xs.length hi - sIx xs.length 0 lo)
theorem sIx_eq (n d : Nat) (o : Option Int) : sIx n d o = HT.sIx n d o := by
  cases o with
  | none => rfl
  | some i => cases i with
    | ofNat v =>
      show (if Nat.ble v n = true then v else n) = (if Int.ofNat v < 0 then (Int.ofNat v + (n : Int)).toNat else min (Int.ofNat v).toNat n)
      have h0 : ¬ Int.ofNat v < 0 := by have := Int.natCast_nonneg v; exact Int.not_lt.mpr this
      rw [if_neg h0]
      show _ = min v n
      by_cases h : v ≤ n
      · rw [if_pos (Nat.ble_eq.mpr h), Nat.min_eq_left h]
      · rw [if_neg (fun q => h (Nat.ble_eq.mp q)), Nat.min_eq_right (Nat.le_of_not_le h)]
    | negSucc m =>
      show n - (m + 1) = (if Int.negSucc m < 0 then (Int.negSucc m + (n : Int)).toNat else min (Int.negSucc m).toNat n)
      rw [if_pos (Int.negSucc_lt_zero m)]
      omega
abbrev Oc := RK.Env → Tr (Option Int)
def pNo : Oc := fun _ => .ret none
def pAt (a : Ec) : Oc := fun ρ => (a ρ).bind fun v => match v with
  | .int i => .ret (some i)
  | _ => .fail
def oSl (v : PV) (lo hi : Option Int) : Tr PV := match v with
  | .lst xs => .ret (.lst (cutP xs lo hi))
  | .tup xs => .ret (.tup (cutP xs lo hi))
  | _ => .fail
def cSl (a : Ec) (lo hi : Oc) : Ec := fun ρ => (a ρ).bind fun v => (lo ρ).bind fun l => (hi ρ).bind fun h => oSl v l h
def oLen : PV → Tr PV
  | .lst xs => .ret (.int xs.length)
  | .tup xs => .ret (.int xs.length)
  | _ => .fail
def oList : PV → Tr PV
  | .lst xs => .ret (.lst xs)
  | .tup xs => .ret (.lst xs)
  | _ => .fail
def oTuple : PV → Tr PV
  | .lst xs => .ret (.tup xs)
  | .tup xs => .ret (.tup xs)
  | _ => .fail
def sumP : List PV → Int → Option Int
  | [], a => some a
  | .int i :: xs, a => sumP xs (a + i)
  | _, _ => none
def oSum : PV → Tr PV
  | .lst xs => (match sumP xs 0 with
    | some i => .ret (.int i)
    | none => .fail)
  | _ => .fail
/-- truth of a bool or an int -/
def trP : PV → Option Bool
  | .bl b => some b
  | .int i => some (!iEq i 0)
  | _ => none
def anyP : List PV → Option Bool
  | [] => some false
  | x :: xs => match trP x, anyP xs with
    | some b, some c => some (b || c)
    | _, _ => none
def allP : List PV → Option Bool
  | [] => some true
  | x :: xs => match trP x, allP xs with
    | some b, some c => some (b && c)
    | _, _ => none
def seqP : PV → Option (List PV)
  | .lst xs => some xs
  | .tup xs => some xs
  | _ => none
def oQ (f : List PV → Option Bool) (p : PV) : Tr PV := match seqP p with
  | some xs => (match f xs with
    | some b => .ret (.bl b)
    | none => .fail)
  | none => .fail
def flatP : PV → Bool
  | .non => true
  | .bl _ => true
  | .int _ => true
  | .str _ => true
  | _ => false
def inP (x : PV) : List PV → Bool
  | [] => false
  | y :: ys => eqP y x || inP x ys
def oIn (neg : Bool) (x y : PV) : Tr PV := match seqP y with
  | some xs => if flatP x && xs.all flatP then .ret (.bl (xor neg (inP x xs))) else .fail
  | none => .fail
def oIsB (neg : Bool) : PV → PV → Tr PV
  | .bl a, .bl b => .ret (.bl (xor neg (bEq a b)))
  | _, _ => .fail
def cChain (o o' : PV → PV → Tr PV) (a b c : Ec) : Ec := fun ρ => (a ρ).bind fun x => (b ρ).bind fun y => (o x y).bind fun k => match k with
  | .bl true => (c ρ).bind fun w => o' y w
  | .bl false => .ret (.bl false)
  | _ => .fail
section
variable {Γ : Fm} {X : Cx} {e a b d : Expr} {es : List Expr} {c ca cb cc : Ec} {ct cu : Tc} {sa sb : Sc} {aa : Ac} {W : WX} {σ : L2.St} {Q : VK} {pos p : Pos} {z : Md} {g g' g1 g2 : Gh} {H H' H1 H2 : Hp} {tg : Expr} {D : Addr} {ρ : RK.Env} {k : Kn} {E : Nat → List PV → Prop}
theorem viewB {p : PV} {v : V} {xs : List PV} (w : Wd g H) (r : View k g H p v) (h : seqP p = some xs) : ∃ b a vs, v = .ref a ∧ SqB k.K H b a vs ∧ Reps k g xs vs := by
  rcases r with r | ⟨a, vs, ps, h1, h2, h3, h4, h5⟩
  · cases r with
    | lst hq rr => cases h; exact ⟨true, _, _, rfl, SqL.of (w.sub _ _ hq), rr⟩
    | tup hq rr => cases h; exact ⟨false, _, _, rfl, sqT_le w.sub hq, rr⟩
    | _ => cases h
  · subst h1 h2
    cases h
    exact ⟨true, a, vs, rfl, SqL.of h3, h5⟩
theorem atI_get {ps : List PV} {vs : List V} {i : Int} {R : PV → Prop} (r : Reps k g ps vs) (h : (match nIx ps.length i with | some j => ofOpt ps[j]? | none => Tr.fail).All R E) : ∃ p v, atI vs i = some v ∧ Rep k g p v ∧ R p := by
  cases e : nIx ps.length i with
  | none => rw [e] at h; exact (show False from h).elim
  | some j =>
    rw [e] at h
    have h : (ofOpt ps[j]?).All R E := h
    cases e2 : ps[j]? with
    | none => rw [e2] at h; exact (show False from h).elim
    | some p =>
      rw [e2] at h
      obtain ⟨v, h1, h2⟩ := r.get' e2
      refine ⟨p, v, ?_, h2, h⟩
      unfold atI
      rw [← r.length, ← nIx_eq, e]
      exact h1
theorem IxR.or3 {r r' : R2} (h : IxR X r) (h' : IxR X r') : IxR X (fun x y H Q => r x y H Q ∨ r' x y H Q) := IxR.or h h'
theorem se_ix (hK : X.K = Γ.k.K) (ha : SV Γ X a ca) (hb : SE Γ X b cb) (hs : PlainIx b) : SE Γ X (.Subscript a b pos) (cBin oIx ca cb) := fun W tk => (pe_ix (IxR.or3 ix_list ix_tup) (ha W tk) (hb W tk) hs).imp fun σ H Q ⟨g, ρ, G, q⟩ => ⟨g, ρ, G, (Tr.all_bind.mp q).mono (fun p q1 g1 H1 x w1 x1 rx => ⟨g1, ρ, G.grow w1 x1, (Tr.all_bind.mp q1).mono (fun p2 q2 g2 H2 y w2 x2 ry => by
  have rx := rx.grow x2
  have X2 := x1.trans w1 x2
  cases ry with
  | int i => cases p with
    | lst xs =>
      obtain ⟨b, a, vs, rfl, hq, rr⟩ := viewB w2 rx rfl
      obtain ⟨p, v, h1, h2, h3⟩ := atI_get rr q2
      cases b with
      | true => exact .inl ⟨a, vs, i, v, rfl, rfl, by rw [hK]; exact hq, h1, h3 g2 H2 v w2 X2 h2⟩
      | false => exact .inr ⟨a, vs, i, v, rfl, rfl, by rw [hK]; exact hq, h1, h3 g2 H2 v w2 X2 h2⟩
    | tup xs =>
      obtain ⟨b, a, vs, rfl, hq, rr⟩ := viewB w2 rx rfl
      obtain ⟨p, v, h1, h2, h3⟩ := atI_get rr q2
      cases b with
      | true => exact .inl ⟨a, vs, i, v, rfl, rfl, by rw [hK]; exact hq, h1, h3 g2 H2 v w2 X2 h2⟩
      | false => exact .inr ⟨a, vs, i, v, rfl, rfl, by rw [hK]; exact hq, h1, h3 g2 H2 v w2 X2 h2⟩
    | _ => exact (show False from q2).elim
  | _ => cases p <;> exact (show False from q2).elim) fun _ _ h => h.grow G w1 x1⟩) fun _ _ h => h⟩
def RO (Γ : Fm) (c : Oc) (W : WX) : TO := fun σ H Q => ∃ g ρ, GI Γ g ρ σ H ∧ (c ρ).All (fun o => ∀ g' H', Wd g' H' → Gr g H g' H' → Q o H') (XW Γ g H σ W)
def SO (Γ : Fm) (X : Cx) (e : Option Expr) (c : Oc) : Prop := ∀ W, Takes X W → PO X e (RO Γ c W)
theorem _root_.L2.PO.imp {X : Cx} {e : Option Expr} {t t' : TO} (h : PO X e t) (i : ∀ σ H Q, t' σ H Q → t σ H Q) : PO X e t' := ⟨fun pins s σ H Q I q => h.run pins s σ H Q I (i σ H Q q)⟩
theorem so_no : SO Γ X none pNo := fun W tk => po_none.imp fun σ H Q ⟨g, ρ, G, q⟩ => q g H G.wd (.refl g H)
theorem so_at (h : SE Γ X e c) : SO Γ X (some e) (pAt c) := fun W tk => (po_some (h W tk)).imp fun σ H Q ⟨g, ρ, G, q⟩ => ⟨g, ρ, G, (Tr.all_bind.mp q).mono (fun p q1 g1 H1 v w1 x1 r => by
  cases r with
  | int i => exact ⟨i, rfl, q1 g1 H1 w1 x1⟩
  | _ => exact (show False from q1).elim) fun _ _ h => h⟩
theorem Reps.cut {ps : List PV} {vs : List V} (r : Reps k g ps vs) (lo hi : Option Int) : Reps k g (cutP ps lo hi) (cutV vs lo hi) := by
  unfold cutP cutV
  rw [← r.length]
  simp only [sIx_eq]
  exact (r.drop _).take _
theorem cut_all {ps : List PV} {vs : List V} {lo hi : Option Int} (r : Reps k g ps vs) (h : HT.sIx vs.length 0 lo = 0 ∧ HT.sIx vs.length vs.length hi = vs.length) : cutP ps lo hi = ps := by
  unfold cutP
  rw [r.length]
  simp only [sIx_eq]
  rw [h.1, h.2, List.drop_zero, ← r.length]
  exact List.take_length
theorem slRor {r r' : V → Option Int → Option Int → Hp → VK → Prop} (h : SlR X r) (h' : SlR X r') : SlR X (fun x lo hi H Q => r x lo hi H Q ∨ r' x lo hi H Q) := SlR.or h h'
theorem se_sl {lo hi : Option Expr} {p2 : Pos} {cl ch : Oc} (hK : X.K = Γ.k.K) (ha : SV Γ X a ca) (hl : SO Γ X lo cl) (hh : SO Γ X hi ch) : SE Γ X (.Subscript a (.Slice lo hi none p2) pos) (cSl ca cl ch) := fun W tk => (pe_slice (slRor sl_list sl_tupA) (ha W tk) (hl W tk) (hh W tk)).imp fun σ H Q ⟨g, ρ, G, q⟩ => ⟨g, ρ, G, (Tr.all_bind.mp q).mono (fun p q1 g1 H1 x w1 x1 rx => ⟨g1, ρ, G.grow w1 x1, (Tr.all_bind.mp q1).mono (fun l q2 g2 H2 w2 x2 => ⟨g2, ρ, (G.grow w1 x1).grow w2 x2, (Tr.all_bind.mp q2).mono (fun u q3 g3 H3 w3 x3 => by
  have rx := (rx.grow x2).grow x3
  have X3 := (x1.trans w1 x2).trans w2 x3
  cases p with
  | lst xs =>
    have q3 : PZ (zV Γ.k) g H Q (.lst (cutP xs l u)) := q3
    obtain ⟨a, vs, rfl, hq, _, rr⟩ := rx.lst w3
    exact .inl ⟨a, vs, rfl, SqL.of hq, fun p hp => PZ.newL w3 (q3.gr w3 X3) hp (rr.cut l u)⟩
  | tup xs =>
    have q3 : PZ (zV Γ.k) g H Q (.tup (cutP xs l u)) := q3
    obtain ⟨a, vs, rfl, hq, hb, rr⟩ := rx.tup w3
    refine .inr ⟨a, vs, rfl, by rw [hK]; exact hq, fun hw => ?_, fun _ p hp => PZ.newT w3 (q3.gr w3 X3) hp (rr.cut l u)⟩
    rw [cut_all rr hw] at q3
    exact q3 g3 H3 _ w3 X3 (.tup hb rr)
  | _ => exact (show False from q3).elim) fun _ _ h => (h.grow G w1 x1).grow (G.grow w1 x1) w2 x2⟩) fun _ _ h => h.grow G w1 x1⟩) fun _ _ h => h⟩

theorem sx_b1 [MdOk z] {id : String} {x : Str} {r : List V → Hp → VK → Prop} {o : PV → Tr PV} (hr : CallR X (.builtin id) r) (ho : ∀ g H p v Q E, Wd g H → View Γ.k g H p v → (o p).All (PZ z g H Q) E → r [v] H Q) (hg : Gl X x) (hm : X.mg x = none) (hv : bootBuiltins x = some (.builtin id)) (h : SV Γ X e c) (hn : x ≠ "__name__" := by decide) (hdb : (x == ("__debug__" : Str)) = false := by decide)
    (hs : starEach [e] X.env = (false, eval e X.env) :: starEach [] X.env := by rfl) (hpl : (backTo pos (starEach [] X.env)).any (·.1) = false := by rfl) : SX Γ z X (.Call (.Name x p) [e] [] pos) (cUn o c) := fun W tk => (pe_callB hr hg hm hv (pa1 (h W tk) hs) hn hdb hs hpl).imp fun σ H Q ⟨g, ρ, G, q⟩ => ⟨g, ρ, G, (Tr.all_bind.mp q).mono (fun p q1 g1 H1 v w1 x1 rv => ho g1 H1 p v Q _ w1 rv (q1.mono (fun _ h => h.gr w1 x1) fun _ _ h => h)) fun _ _ h => h⟩
theorem sx_t1 [MdOk z] {T : String} {x : Str} {r : List V → Hp → VK → Prop} {o : PV → Tr PV} (hr : CallR X (.type T) r) (ho : ∀ g H p v Q E, Wd g H → View Γ.k g H p v → (o p).All (PZ z g H Q) E → r [v] H Q) (hg : Gl X x) (hm : X.mg x = none) (hv : bootBuiltins x = some (.type T)) (h : SV Γ X e c) (hn : x ≠ "__name__" := by decide) (hdb : (x == ("__debug__" : Str)) = false := by decide)
    (hs : starEach [e] X.env = (false, eval e X.env) :: starEach [] X.env := by rfl) (hpl : (backTo pos (starEach [] X.env)).any (·.1) = false := by rfl) : SX Γ z X (.Call (.Name x p) [e] [] pos) (cUn o c) := fun W tk => (pe_callTy hr hg hm hv (pa1 (h W tk) hs) hn hdb hs hpl).imp fun σ H Q ⟨g, ρ, G, q⟩ => ⟨g, ρ, G, (Tr.all_bind.mp q).mono (fun p q1 g1 H1 v w1 x1 rv => ho g1 H1 p v Q _ w1 rv (q1.mono (fun _ h => h.gr w1 x1) fun _ _ h => h)) fun _ _ h => h⟩
theorem se_len (hK : X.K = Γ.k.K) (hg : Gl X "len") (hm : X.mg "len" = none) (h : SV Γ X e c) (hs : starEach [e] X.env = (false, eval e X.env) :: starEach [] X.env := by rfl) : SE Γ X (.Call (.Name "len" p) [e] [] pos) (cUn oLen c) := sx_b1 call_len (fun g H p v Q E w r a => by
  cases p with
  | lst xs =>
    obtain ⟨a', vs, rfl, hq, _, rr⟩ := r.lst w
    have a : PZ (zV Γ.k) g H Q (.int xs.length) := a
    exact ⟨_, vs.length, rfl, .inl ⟨vs, SqL.of hq, rfl⟩, by rw [← rr.length]; exact a.here w (.int _)⟩
  | tup xs =>
    obtain ⟨a', vs, rfl, hq, _, rr⟩ := r.tup w
    have a : PZ (zV Γ.k) g H Q (.int xs.length) := a
    exact ⟨_, vs.length, rfl, .inr ⟨vs, by rw [hK]; exact hq, rfl⟩, by rw [← rr.length]; exact a.here w (.int _)⟩
  | _ => exact (show False from a).elim) hg hm (by decide +kernel) h (hs := hs)
theorem sf_list (hK : X.K = Γ.k.K) (hg : Gl X "list") (hm : X.mg "list" = none) (h : SV Γ X e c) (hs : starEach [e] X.env = (false, eval e X.env) :: starEach [] X.env := by rfl) : SF Γ X (.Call (.Name "list" p) [e] [] pos) (cUn oList c) := sx_t1 call_list_of (fun g H p v Q E w r a => by
  cases p with
  | lst xs =>
    obtain ⟨a', vs, rfl, hq, _, rr⟩ := r.lst w
    exact ⟨a', vs, rfl, .inl (SqL.of hq), fun l hl => PZ.newF w a hl rr⟩
  | tup xs =>
    obtain ⟨a', vs, rfl, hq, _, rr⟩ := r.tup w
    exact ⟨a', vs, rfl, .inr (by rw [hK]; exact hq), fun l hl => PZ.newF w a hl rr⟩
  | _ => exact (show False from a).elim) hg hm (by decide +kernel) h (hs := hs)
theorem se_tuple (hK : X.K = Γ.k.K) (hg : Gl X "tuple") (hm : X.mg "tuple" = none) (h : SV Γ X e c) (hs : starEach [e] X.env = (false, eval e X.env) :: starEach [] X.env := by rfl) : SE Γ X (.Call (.Name "tuple" p) [e] [] pos) (cUn oTuple c) := sx_t1 call_tuple_of (fun g H p v Q E w r a => by
  cases p with
  | lst xs =>
    obtain ⟨a', vs, rfl, hq, _, rr⟩ := r.lst w
    exact ⟨a', vs, rfl, .inl ⟨SqL.of hq, fun l hl => PZ.newT w a hl rr⟩⟩
  | tup xs =>
    obtain ⟨a', vs, rfl, hq, hb, rr⟩ := r.tup w
    have a : PZ (zV Γ.k) g H Q (.tup xs) := a
    exact ⟨a', vs, rfl, .inr ⟨by rw [hK]; exact hq, a.here w (.tup hb rr)⟩⟩
  | _ => exact (show False from a).elim) hg hm (by decide +kernel) h (hs := hs)
theorem sumP_eq : ∀ {xs : List PV} {vs : List V} {a i : Int}, Reps k g xs vs → sumP xs a = some i → ∃ ns : List Int, vs = ns.map V.int ∧ i = a + ns.sum
  | _, _, a, i, .nil, h => ⟨[], rfl, by cases h; simp⟩
  | _, _, a, i, .cons r t, h => by
    cases r with
    | int j =>
      obtain ⟨ns, h1, h2⟩ := sumP_eq (a := a + j) t h
      exact ⟨j :: ns, by rw [h1]; rfl, by rw [h2, List.sum_cons, Int.add_assoc]⟩
    | _ => cases h
theorem se_sum (hc : X.calm = true) (hg : Gl X "sum") (hm : X.mg "sum" = none) (h : SV Γ X e c) (hs : starEach [e] X.env = (false, eval e X.env) :: starEach [] X.env := by rfl) : SE Γ X (.Call (.Name "sum" p) [e] [] pos) (cUn oSum c) := sx_b1 (cr_sum hc) (fun g H p v Q E w r a => by
  cases p with
  | lst xs =>
    obtain ⟨a', vs, rfl, hq, _, rr⟩ := r.lst w
    cases e : sumP xs 0 with
    | none =>
      have a : (match sumP xs 0 with | some i => Tr.ret (PV.int i) | none => .fail).All (PZ (zV Γ.k) g H Q) E := a
      rw [e] at a
      exact (show False from a).elim
    | some i =>
      have a : (match sumP xs 0 with | some i => Tr.ret (PV.int i) | none => .fail).All (PZ (zV Γ.k) g H Q) E := a
      rw [e] at a
      have a : PZ (zV Γ.k) g H Q (.int i) := a
      obtain ⟨ns, h1, h2⟩ := sumP_eq rr e
      rw [Int.zero_add] at h2
      subst h1 h2
      exact ⟨a', ns, rfl, SqL.of hq, a.here w (.int _)⟩
  | _ => exact (show False from a).elim) hg hm PyProof.Rows.boot_sum h (hs := hs)

theorem trP_ok {prog : Program} {w : World} {A : Around} {E : Value → Shared → Prop} {s : Shared} {Q : Bool → Shared → Prop} {p : PV} {v : V} {u : Value} {b : Bool} (r : Rep k g p v) (ru : RelV v u) (h : trP p = some b) (q : Q b s) : wpAny (model prog w) A (truthy u) Q E s := by
  cases r with
  | bl c => cases h; cases ru; exact wpAny_truthy_bool q
  | int i =>
    cases h
    obtain ⟨t, rfl⟩ := ru
    refine truthy_int ?_
    have : (i != 0) = !iEq i 0 := by rw [← iEq_beq]; rfl
    rw [this]
    exact q
  | _ => cases h
/-- what the items' truths are -/
def trs (xs : List PV) (i : Nat) : Bool := ((xs[i]?).bind trP).getD false
theorem all_range_trs : ∀ {xs : List PV} {b : Bool}, allP xs = some b → (List.range xs.length).all (trs xs) = b
  | [], b, h => by cases h; rfl
  | x :: xs, b, h => by
    unfold allP at h
    split at h
    · rename_i b1 c1 h1 h2
      cases h
      rw [List.length_cons, List.range_succ_eq_map, List.all_cons, List.all_map]
      have e1 : trs (x :: xs) 0 = b1 := by unfold trs; simp [h1]
      rw [e1, ← all_range_trs h2]
      rfl
    · cases h
theorem any_range_trs : ∀ {xs : List PV} {b : Bool}, anyP xs = some b → (List.range xs.length).any (trs xs) = b
  | [], b, h => by cases h; rfl
  | x :: xs, b, h => by
    unfold anyP at h
    split at h
    · rename_i b1 c1 h1 h2
      cases h
      rw [List.length_cons, List.range_succ_eq_map, List.any_cons, List.any_map]
      have e1 : trs (x :: xs) 0 = b1 := by unfold trs; simp [h1]
      rw [e1, ← any_range_trs h2]
      rfl
    · cases h
theorem allP_tr : ∀ {xs : List PV} {b : Bool}, allP xs = some b → ∀ x ∈ xs, ∃ c, trP x = some c
  | x :: xs, b, h, y, hy => by
    unfold allP at h
    split at h
    · rename_i b1 c1 h1 h2
      rcases List.mem_cons.mp hy with rfl | hy
      · exact ⟨_, h1⟩
      · exact allP_tr h2 y hy
    · cases h
theorem anyP_tr : ∀ {xs : List PV} {b : Bool}, anyP xs = some b → ∀ x ∈ xs, ∃ c, trP x = some c
  | x :: xs, b, h, y, hy => by
    unfold anyP at h
    split at h
    · rename_i b1 c1 h1 h2
      rcases List.mem_cons.mp hy with rfl | hy
      · exact ⟨_, h1⟩
      · exact anyP_tr h2 y hy
    · cases h
theorem walksB {prog : Program} {w : World} {A : Around} (hh : A.handled = none) (b : Bool) (it l : Addr) (ne : l ≠ it) (xs : Array Value) : Walks prog w A it [it, l] [it] xs.size (fun i v => xs[i]? = some v) (fun i h => SIt h b it l i ∧ SSq h b l xs) := by
  cases b
  · exact Walks.tuple hh it l ne xs
  · exact Walks.list hh it l ne xs
/-- the values behind what has truths -/
def rTr (K : PySem.W.Frag) (tot : List PV → Option Bool) : List V → Hp → VK → Prop := fun vs H Q => ∃ (k : Kn) (g : Gh) (b : Bool) (a : Addr) (us : List V) (xs : List PV) (t : Bool), vs = [V.ref a] ∧ SqB K H b a us ∧ Reps k g xs us ∧ tot xs = some t ∧ Q (.bl t) H
theorem truths {prog : Program} {w : World} {A : Around} {xs : List PV} {us : List V} {its : List Value} (r : Reps k g xs us) (rv : Vals us its) (h : ∀ x ∈ xs, ∃ c, trP x = some c) : TruthOf prog w A (fun i v => its.toArray[i]? = some v) (trs xs) := fun i v s Q E hv hq => by
  have hv : its[i]? = some v := by simpa using hv
  have hi : i < us.length := by
    have := (List.getElem?_eq_some_iff.mp hv).1
    rw [rv.length]; exact this
  have hu : us[i]? = some us[i] := List.getElem?_eq_getElem hi
  obtain ⟨p, h1, h2⟩ := r.get hu
  obtain ⟨v', h3, h4⟩ := rv.get hu
  rw [hv] at h3
  cases h3
  obtain ⟨c, hc⟩ := h p (List.mem_of_getElem? h1)
  have e : trs xs i = c := by unfold trs; rw [h1]; simp [hc]
  have hq : Q (trs xs i) s := hq
  rw [e] at hq
  exact trP_ok h2 h4 hc hq
theorem cr_allP (hc : X.calm = true) : CallR X (.builtin "all") (rTr X.K allP) := by
  intro pins s σ H vs us' Q I r h
  obtain ⟨k, g, b, a, us, xs, t, rfl, hs, rr, ht, q⟩ := h
  obtain ⟨its, rv, hl⟩ := seqB I hs
  rw [Vals.ref1 r]
  have hlt := hl.lt
  refine call_all_walk (iterS hl ⟨_, _, _, _, _, _, _, rfl, walksB (A := X.A.in1) (I.ok.hd hc) b s.heap.objs.size a (Nat.ne_of_lt hlt) its.toArray, ⟨SIt.new, hl.push _⟩, truths rr rv (allP_tr ht), fun h' tk hk => ?_⟩)
  refine ⟨.bl _, H, I.kept fun b o eo => hk b o (fun hmem => ?_) (Heap.get?_push_of_some _ eo), ?_, q⟩
  · rcases List.mem_cons.mp hmem with e1 | hmem
    · exact absurd (e1 ▸ Heap.lt_size eo) (Nat.lt_irrefl _)
    · cases hmem
  · show Value.bool _ = Value.bool _
    rw [← all_range_trs ht, List.size_toArray, ← rv.length, ← rr.length]
theorem cr_anyP (hc : X.calm = true) : CallR X (.builtin "any") (rTr X.K anyP) := by
  intro pins s σ H vs us' Q I r h
  obtain ⟨k, g, b, a, us, xs, t, rfl, hs, rr, ht, q⟩ := h
  obtain ⟨its, rv, hl⟩ := seqB I hs
  rw [Vals.ref1 r]
  have hlt := hl.lt
  refine call_any_walk (iterS hl ⟨_, _, _, _, _, _, _, rfl, walksB (A := X.A.in1) (I.ok.hd hc) b s.heap.objs.size a (Nat.ne_of_lt hlt) its.toArray, ⟨SIt.new, hl.push _⟩, truths rr rv (anyP_tr ht), fun h' tk hk => ?_⟩)
  refine ⟨.bl _, H, I.kept fun b o eo => hk b o (fun hmem => ?_) (Heap.get?_push_of_some _ eo), ?_, q⟩
  · rcases List.mem_cons.mp hmem with e1 | hmem
    · exact absurd (e1 ▸ Heap.lt_size eo) (Nat.lt_irrefl _)
    · cases hmem
  · show Value.bool _ = Value.bool _
    rw [← any_range_trs ht, List.size_toArray, ← rv.length, ← rr.length]
theorem rTr_of {K : PySem.W.Frag} (hK : K = k.K) {tot : List PV → Option Bool} {p : PV} {v : V} (w : Wd g H) (r : View k g H p v) (h : (oQ tot p).All (PZ (zV k) g H Q) E) : rTr K tot [v] H Q := by
  unfold oQ at h
  split at h
  · rename_i xs e
    split at h
    · rename_i b eb
      obtain ⟨b', a, vs, rfl, hq, rr⟩ := viewB w r e
      have h : PZ (zV k) g H Q (.bl b) := h
      exact ⟨k, g, b', a, vs, xs, b, rfl, by rw [hK]; exact hq, rr, eb, h.here w (.bl _)⟩
    · exact h.elim
  · exact h.elim
theorem se_all (hK : X.K = Γ.k.K) (hc : X.calm = true) (hg : Gl X "all") (hm : X.mg "all" = none) (h : SV Γ X e c) (hs : starEach [e] X.env = (false, eval e X.env) :: starEach [] X.env := by rfl) : SE Γ X (.Call (.Name "all" p) [e] [] pos) (cUn (oQ allP) c) := sx_b1 (cr_allP hc) (fun g H p v Q E w r a => rTr_of hK w r a) hg hm (by decide +kernel) h (hs := hs)
theorem se_any (hK : X.K = Γ.k.K) (hc : X.calm = true) (hg : Gl X "any") (hm : X.mg "any" = none) (h : SV Γ X e c) (hs : starEach [e] X.env = (false, eval e X.env) :: starEach [] X.env := by rfl) : SE Γ X (.Call (.Name "any" p) [e] [] pos) (cUn (oQ anyP) c) := sx_b1 (cr_anyP hc) (fun g H p v Q E w r a => rTr_of hK w r a) hg hm (by decide +kernel) h (hs := hs)

theorem flat_rep {p : PV} {v : V} (r : Rep k g p v) (h : flatP p = true) : flatV v = true := by
  cases r <;> first | rfl | cases h
theorem flat_eq {p q : PV} {u v : V} (r : Rep k g p u) (r' : Rep k g q v) (h : flatP p = true) (h' : flatP q = true) : eqV u v = eqP p q := by
  cases r with
  | non => cases r' <;> first | rfl | (simp only [eqP]; rfl) | cases h'
  | bl a => cases r' with
    | bl b => show (a == b) = _; simp only [eqP]; exact bEq_eq a b
    | int j => show ((if a then (1 : Int) else 0) == j) = _; simp only [eqP]; rw [b2I_eq]; exact iEq_beq _ _
    | _ => first | (simp only [eqP]; rfl) | cases h'
  | int i => cases r' with
    | bl b => show (i == (if b then (1 : Int) else 0)) = _; simp only [eqP]; rw [b2I_eq]; exact iEq_beq _ _
    | int j => show (i == j) = _; simp only [eqP]; exact iEq_beq _ _
    | _ => first | (simp only [eqP]; rfl) | cases h'
  | str x => cases r' with
    | str y => show ((⟨⟨x⟩⟩ : Str) == ⟨⟨y⟩⟩) = _; simp only [eqP]; exact str_eq
    | _ => first | (simp only [eqP, eqT, isTl, Bool.and_false, Bool.false_and]; rfl) | cases h'
  | _ => cases h
theorem in_eq {p : PV} {v : V} (r : Rep k g p v) (h : flatP p = true) : ∀ {xs : List PV} {vs : List V}, Reps k g xs vs → xs.all flatP = true → vs.all flatV = true ∧ inV v vs = inP p xs
  | _, _, .nil, _ => ⟨rfl, rfl⟩
  | _, _, .cons r' t, hx => by
    rw [List.all_cons, Bool.and_eq_true] at hx
    obtain ⟨h1, h2⟩ := in_eq r h t hx.2
    refine ⟨by rw [List.all_cons, flat_rep r' hx.1, h1]; rfl, ?_⟩
    show (eqV _ v || inV v _) = (eqP _ p || inP p _)
    rw [h2, flat_eq r' r hx.1 h]
theorem view_flat {p : PV} {v : V} (r : View k g H p v) (h : flatP p = true) : Rep k g p v := r.rep fun ps e => by rw [e] at h; cases h
theorem op_in' (hK : X.K = k.K) : OpS k (zV k) X (compareOp .In) (oIn false) := .mk' op_in_seq fun g H p q x y Q E w rx ry a => by
  unfold oIn at a
  split at a
  · rename_i xs e
    obtain ⟨h1, h2⟩ := if_all a
    rw [Bool.and_eq_true] at h1
    obtain ⟨b, l, vs, rfl, hq, rr⟩ := viewB w ry e
    have rx := view_flat rx h1.1
    obtain ⟨f1, f2⟩ := in_eq rx h1.1 rr h1.2
    have h2 : PZ (zV k) g H Q (.bl (xor false (inP p xs))) := h2
    refine ⟨l, vs, rfl, ?_, flat_rep rx h1.1, f1, ?_⟩
    · rw [hK]
      cases b
      · exact .inr hq
      · exact .inl hq
    · rw [if_neg (by decide), f2]
      rw [show (xor false (inP p xs)) = inP p xs by cases inP p xs <;> rfl] at h2
      exact h2.here w (.bl _)
  · exact a.elim
theorem op_notin' (hK : X.K = k.K) : OpS k (zV k) X (compareOp .NotIn) (oIn true) := .mk' op_notIn_seq fun g H p q x y Q E w rx ry a => by
  unfold oIn at a
  split at a
  · rename_i xs e
    obtain ⟨h1, h2⟩ := if_all a
    rw [Bool.and_eq_true] at h1
    obtain ⟨b, l, vs, rfl, hq, rr⟩ := viewB w ry e
    have rx := view_flat rx h1.1
    obtain ⟨f1, f2⟩ := in_eq rx h1.1 rr h1.2
    have h2 : PZ (zV k) g H Q (.bl (xor true (inP p xs))) := h2
    refine ⟨l, vs, rfl, ?_, flat_rep rx h1.1, f1, ?_⟩
    · rw [hK]
      cases b
      · exact .inr hq
      · exact .inl hq
    · rw [if_pos rfl, f2]
      rw [show (xor true (inP p xs)) = !inP p xs by cases inP p xs <;> rfl] at h2
      exact h2.here w (.bl _)
  · exact a.elim
theorem bEq_dec (a b : Bool) : decide (a = b) = bEq a b := by cases a <;> cases b <;> rfl
theorem op_isB' : OpS k (zV k) X (compareOp .Is) (oIsB false) := .mk' op_isBl fun g H p q x y Q E w rx ry a => by
  cases p with
  | bl b1 => cases q with
    | bl b2 =>
      have a : PZ (zV k) g H Q (.bl (xor false (bEq b1 b2))) := a
      rw [show (xor false (bEq b1 b2)) = decide (b1 = b2) by cases b1 <;> cases b2 <;> rfl] at a
      exact ⟨b1, b2, rx.bl, ry.bl, a.here w (.bl _)⟩
    | _ => exact (show False from a).elim
  | _ => exact (show False from a).elim
theorem op_notB' : OpS k (zV k) X (compareOp .IsNot) (oIsB true) := .mk' op_notBl fun g H p q x y Q E w rx ry a => by
  cases p with
  | bl b1 => cases q with
    | bl b2 =>
      have a : PZ (zV k) g H Q (.bl (xor true (bEq b1 b2))) := a
      rw [show (xor true (bEq b1 b2)) = !decide (b1 = b2) by cases b1 <;> cases b2 <;> rfl] at a
      exact ⟨b1, b2, rx.bl, ry.bl, a.here w (.bl _)⟩
    | _ => exact (show False from a).elim
  | _ => exact (show False from a).elim
theorem chain_all {k : PV} {R : PV → Prop} {t : Tr PV} (h : (match k with | .bl true => t | .bl false => .ret (.bl false) | _ => .fail).All R E) : ∃ b, k = .bl b ∧ (b = true → t.All R E) ∧ (b = false → R (.bl false)) := by
  split at h
  · exact ⟨true, rfl, fun _ => h, fun z => nomatch z⟩
  · exact ⟨false, rfl, fun z => (nomatch z), fun _ => h⟩
  · exact h.elim
theorem se_chain {op op' : CmpOp} {o o' : PV → PV → Tr PV} (ho : OpS Γ.k (zV Γ.k) X (compareOp op) o) (ho' : OpS Γ.k (zV Γ.k) X (compareOp op') o') (ha : SV Γ X a ca) (hb : SV Γ X b cb) (hd : SV Γ X d cc) (hm : lastMarks [op, op'] [b, d] = false := by with_unfolding_all rfl) : SE Γ X (.Compare a [op, op'] [b, d] pos) (cChain o o' ca cb cc) := fun W tk => by
  obtain ⟨r, hr, hs⟩ := ho.ex
  obtain ⟨r', hr', hs'⟩ := ho'.ex
  exact (pe_chain hr hr' (ha W tk) (hb W tk) (hd W tk) hm).imp fun σ H Q ⟨g, ρ, G, q⟩ => ⟨g, ρ, G, (Tr.all_bind.mp q).mono (fun p q1 g1 H1 x w1 x1 rx => ⟨g1, ρ, G.grow w1 x1, (Tr.all_bind.mp q1).mono (fun p2 q2 g2 H2 y w2 x2 ry =>
    hs g2 H2 p p2 x y _ (fun _ _ => True) w2 (rx.grow x2) ry ((Tr.all_bind.mp q2).mono (fun kk q3 g3 H3 v w3 x3 rv => by
      obtain ⟨b, rfl, h1, h2⟩ := chain_all q3
      cases rv
      refine ⟨b, rfl, ?_⟩
      have X3 := (x1.trans w1 x2).trans w2 x3
      cases b with
      | false =>
        rw [if_neg (by decide)]
        exact h2 rfl g3 H3 _ w3 X3 (.bl _)
      | true =>
        rw [if_pos rfl]
        exact ⟨g3, ρ, G.grow w3 X3, (Tr.all_bind.mp (h1 rfl)).mono (fun p4 q4 g4 H4 y4 w4 x4 r4 => hs' g4 H4 p2 p4 y y4 _ _ w4 ((ry.grow x3).grow x4) r4 (q4.mono (fun _ h => h.gr w4 (X3.trans w3 x4)) fun _ _ h => h)) fun _ _ h => h.grow G w3 X3⟩) fun _ _ _ => trivial)) fun _ _ h => h.grow G w1 x1⟩) fun _ _ h => h⟩
theorem tval_of {t : Tr PV} {g : Gh} {H : Hp} {Q : Bool → Hp → Prop} {E : Nat → List PV → Prop} (h : (t.bind fun x => match x with | .bl b => .ret b | _ => .fail).All (fun b => ∀ g' H', Wd g' H' → Gr g H g' H' → Q b H') E) : t.All (PZ (zV k) g H fun x H' => ∃ b, x = .bl b ∧ Q b H') E := (Tr.all_bind.mp h).mono (fun p q g' H' v w x r => by
  obtain ⟨b, rfl, q2⟩ := tval_all q
  cases r
  exact ⟨b, rfl, q2 g' H' w x⟩) fun _ _ h => h
theorem st_chain {op op' : CmpOp} {o o' : PV → PV → Tr PV} (ho : OpS Γ.k (zV Γ.k) X (compareOp op) o) (ho' : OpS Γ.k (zV Γ.k) X (compareOp op') o') (ha : SV Γ X a ca) (hb : SV Γ X b cb) (hd : SV Γ X d cc) (hm : lastMarks [op, op'] [b, d] = false := by with_unfolding_all rfl) : ST Γ X (.Compare a [op, op'] [b, d] pos) (tVal (cChain o o' ca cb cc)) := fun W tk => by
  obtain ⟨r, hr, hs⟩ := ho.ex
  obtain ⟨r', hr', hs'⟩ := ho'.ex
  exact (pt_chain hr hr' (ha W tk) (hb W tk) (hd W tk) hm).imp fun σ H Q ⟨g, ρ, G, q⟩ => ⟨g, ρ, G, (Tr.all_bind.mp (tval_of q)).mono (fun p q1 g1 H1 x w1 x1 rx => ⟨g1, ρ, G.grow w1 x1, (Tr.all_bind.mp q1).mono (fun p2 q2 g2 H2 y w2 x2 ry =>
    hs g2 H2 p p2 x y _ (fun _ _ => True) w2 (rx.grow x2) ry ((Tr.all_bind.mp q2).mono (fun kk q3 g3 H3 v w3 x3 rv => by
      obtain ⟨b, rfl, h1, h2⟩ := chain_all q3
      cases rv
      refine ⟨b, rfl, ?_⟩
      have X3 := (x1.trans w1 x2).trans w2 x3
      cases b with
      | false =>
        rw [if_neg (by decide)]
        exact h2 rfl g3 H3 _ w3 X3 (.bl _)
      | true =>
        rw [if_pos rfl]
        exact ⟨g3, ρ, G.grow w3 X3, (Tr.all_bind.mp (h1 rfl)).mono (fun p4 q4 g4 H4 y4 w4 x4 r4 => hs' g4 H4 p2 p4 y y4 _ _ w4 ((ry.grow x3).grow x4) r4 (q4.mono (fun _ h => h.gr w4 (X3.trans w3 x4)) fun _ _ h => h)) fun _ _ h => h.grow G w3 X3⟩) fun _ _ _ => trivial)) fun _ _ h => h.grow G w1 x1⟩) fun _ _ h => h⟩
end
end RK

namespace RK
open PySem PySem.Spec PyProof.Rows L2
inductive Ty where
  | non | bl | int | str | tup | lst | dct | own (c : Nat)
namespace Ty
def nm : Ty → String
  | .non => "NoneType"
  | .bl => "bool"
  | .int => "int"
  | .str => "str"
  | .tup => "tuple"
  | .lst => "list"
  | .dct => "dict"
  | .own _ => ""
def val (k : Kn) : Ty → Value
  | .own c => .ref (k.cls c)
  | t => .type t.nm
/-- .. as a value of the hand layer -/
def v (k : Kn) : Ty → V
  | .own c => .ref (k.cls c)
  | t => .ty t.nm
def isa : Ty → Ty → Bool
  | .non, .non => true
  | .bl, .bl => true
  | .bl, .int => true
  | .int, .int => true
  | .str, .str => true
  | .tup, .tup => true
  | .lst, .lst => true
  | .dct, .dct => true
  | .own a, .own b => Nat.beq a b
  | _, _ => false
def ok (cs : List Nat) : Ty → Bool
  | .own c => cs.any fun d => Nat.beq c d
  | _ => true
end Ty
def tyP : PV → Option Ty
  | .non => some .non
  | .bl _ => some .bl
  | .int _ => some .int
  | .str _ => some .str
  | .rp _ => some .str
  | .si _ => some .str
  | .js _ => some .str
  | .tup _ => some .tup
  | .lst _ => some .lst
  | .dct _ _ => some .dct
  | .ins c _ => some (.own c)
  | _ => none
structure InsF (k : Kn) (c : Nat) : Prop where
  cl : Cls k.K (k.cls c)
  ha : PySem.W.findIn k.K (.ref (k.cls c)) "__class__" = some (some (.builtin "object.__class__"))
  hn : PySem.W.specialIn k.K (.builtin "object.__class__") "__get__" = some (some (.builtin "getset_descriptor.__get__"))
  htk : PySem.W.takesIn k.K (.builtin "object.__class__") = some true
  hm : PySem.W.mroIn k.K (k.cls c) (.type "object") = some true
structure KnT (k : Kn) (cs : List Nat) : Prop where
  ins : ∀ c, (Ty.own c).ok cs = true → InsF k c
  kit : ∀ t u : Ty, t.ok cs = true → u.ok cs = true → PySem.W.kitOne k.K (t.val k) (u.val k) = some (t.isa u)
def oIsi (cs : List Nat) (u : Ty) (p : PV) : Tr PV := match tyP p with
  | some t => if t.ok cs && u.ok cs then .ret (.bl (t.isa u)) else .fail
  | none => .fail
def isaAny (t : Ty) : List Ty → Bool
  | [] => false
  | u :: us => t.isa u || isaAny t us
def oIsiT (cs : List Nat) (us : List Ty) (p : PV) : Tr PV := match tyP p with
  | some t => if t.ok cs && us.all (fun u => u.ok cs) then .ret (.bl (isaAny t us)) else .fail
  | none => .fail
section
variable {Γ : Fm} {X : Cx} {e a b d : Expr} {es : List Expr} {c ca cb cc : Ec} {W : WX} {σ : L2.St} {Q : VK} {pos p : Pos} {z : Md} {g g' g1 g2 : Gh} {H H' H1 H2 : Hp} {ρ : RK.Env} {k : Kn} {E : Nat → List PV → Prop} {cs : List Nat}
theorem clsV (k : Kn) (t : Ty) : ClsV (t.v k) (t.val k) := by
  cases t <;> first | exact .ty _ | exact .own _
theorem relTy (k : Kn) (t : Ty) : RelV (t.v k) (t.val k) := by cases t <;> exact rfl
theorem sqT_ty {K : PySem.W.Frag} {a : Addr} {vs : List V} (h : SqT K H a vs) : TyX K H (.ref a) (.type "tuple") := by
  rcases h with (h | ⟨o, h⟩) | ⟨o, its, n, hk, hc, _⟩
  · exact .base (.tup h)
  · exact .fTuple h
  · exact .kTuple hk hc
theorem view_ty (T : KnT k cs) (w : Wd g H) {p : PV} {v : V} {t : Ty} (r : View k g H p v) (h : tyP p = some t) (ht : t.ok cs = true) : TyX k.K H v (t.val k) := by
  rcases r with r | ⟨a, vs, ps, h1, h2, h3, _⟩
  · cases r with
    | non => cases h; exact .base .non
    | bl b => cases h; exact .base (.bl b)
    | int i => cases h; exact .base (.int i)
    | str l => cases h; exact .base (.str _)
    | rp p => cases h; exact .base (.str _)
    | si p => cases h; exact .base (.str _)
    | js p => cases h; exact .base (.str _)
    | tup hq _ => cases h; exact sqT_ty (sqT_le w.sub hq)
    | lst hq _ => cases h; exact .base (.lst (w.sub _ _ hq))
    | dct hq _ _ => cases h; exact .base (.dK (w.sub _ _ hq))
    | ins hq _ _ _ =>
      cases h
      obtain ⟨f1, f2, f3, f4, f5⟩ := T.ins _ ht
      exact .base (.ins (w.sub _ _ hq) f1 f2 f3 f4 f5)
    | _ => cases h
  · subst h1 h2
    cases h
    exact .base (.lst h3)
theorem isi_all {t : Option Ty} {R : PV → Prop} {f : Ty → Bool} {f' : Ty → Bool} (h : (match t with | some t => if f t = true then Tr.ret (PV.bl (f' t)) else .fail | none => .fail).All R E) : ∃ u, t = some u ∧ f u = true ∧ R (.bl (f' u)) := by
  cases t with
  | none => exact (show False from h).elim
  | some u =>
    obtain ⟨h1, h2⟩ := if_all h
    exact ⟨u, rfl, h1, h2⟩
/-- a class, written by its name -/
def SC (Γ : Fm) (X : Cx) (e : Expr) (u : Ty) : Prop := PE X e (tC (u.v Γ.k))
theorem sc_ty {x : Str} (u : Ty) (hg : Gl X x) (hm : X.mg x = none) (hv : bootBuiltins x = some (u.val Γ.k)) (hn : x ≠ "__name__" := by decide) (hd : (x == ("__debug__" : Str)) = false := by decide) : SC Γ X (.Name x p) u := pe_bltn hg hm hv (relTy _ u) hn hd
theorem sc_own {x : Str} (c : Nat) (hg : Gl X x) (hm : X.mg x = some (.ref (Γ.k.cls c))) (hd : (x == ("__debug__" : Str)) = false := by decide) : SC Γ X (.Name x p) (.own c) := pe_glob hg hm rfl hd
theorem se_isi (hK : X.K = Γ.k.K) (T : KnT Γ.k cs) {u : Ty} (hg : Gl X "isinstance") (hm : X.mg "isinstance" = none) (ha : SV Γ X a ca) (hb : SC Γ X b u) (s1 : starEach [a, b] X.env = (false, eval a X.env) :: starEach [b] X.env := by rfl) (s2 : starEach [b] X.env = (false, eval b X.env) :: starEach [] X.env := by rfl) (hpl : (backTo pos (starEach [b] X.env)).any (·.1) = false := by rfl) :
    SE Γ X (.Call (.Name "isinstance" p) [a, b] [] pos) (cUn (oIsi cs u) ca) := fun W tk => (pe_callB call_isi hg hm PyProof.Rows.boot_isinstance (pa_cons (ha W tk) (pa_cons hb pa_nil s2) s1) (he := s1) (hpl := hpl)).imp fun σ H Q ⟨g, ρ, G, q⟩ => ⟨g, ρ, G, (Tr.all_bind.mp q).mono (fun p q1 g1 H1 v w1 x1 rv => by
  obtain ⟨t, h1, h2, h3⟩ := isi_all (f := fun t => t.ok cs && u.ok cs) (f' := fun t => t.isa u) q1
  rw [Bool.and_eq_true] at h2
  exact ⟨v, u.v Γ.k, t.val Γ.k, u.val Γ.k, t.isa u, rfl, clsV _ _, by rw [hK]; exact view_ty T w1 rv h1 h2.1, by rw [hK]; exact T.kit t u h2.1 h2.2, h3 g1 H1 _ w1 x1 (.bl _)⟩) fun _ _ h => h⟩
theorem kitAny_ok (T : KnT k cs) {t : Ty} (ht : t.ok cs = true) : ∀ {us : List Ty}, us.all (fun u => u.ok cs) = true → PySem.W.kitAny k.K (t.val k) (us.map fun u => u.val k) = some (isaAny t us)
  | [], _ => rfl
  | u :: us, h => by
    rw [List.all_cons, Bool.and_eq_true] at h
    refine kitAny_cons (T.kit t u ht h.1) (fun hb => ?_) fun hb => ?_
    · rw [kitAny_ok T ht h.2]
      show some (isaAny t us) = some (t.isa u || isaAny t us)
      rw [hb, Bool.false_or]
    · show (t.isa u || isaAny t us) = true
      rw [hb, Bool.true_or]
/-- several classes -/
inductive SCs (Γ : Fm) (X : Cx) : List Expr → List Ty → Prop where
  | nil : SCs Γ X [] []
  | cons {e : Expr} {es : List Expr} {u : Ty} {us : List Ty} : SC Γ X e u → SCs Γ X es us → starEach (e :: es) X.env = (false, eval e X.env) :: starEach es X.env → SCs Γ X (e :: es) (u :: us)
def tCs (vs : List V) : TA := fun _ H Q => Q vs H
theorem SCs.pa : ∀ {es : List Expr} {us : List Ty}, SCs Γ X es us → PA X es (tCs (us.map fun u => u.v Γ.k))
  | _, _, .nil => pa_nil
  | _, _, .cons h t hs => pa_cons h (SCs.pa t) hs
theorem pairedTy (k : Kn) : ∀ us : List Ty, Paired ClsV (us.map fun u => u.v k) (us.map fun u => u.val k)
  | [] => .nil
  | u :: us => .cons (clsV k u) (pairedTy k us)
theorem se_isiT (hK : X.K = Γ.k.K) (T : KnT Γ.k cs) {us : List Ty} {x1} {tp : Pos} (hg : Gl X "isinstance") (hm : X.mg "isinstance" = none) (ha : SV Γ X a ca) (hb : SCs Γ X es us) (hl : us.length ≤ 16 := by decide) (s1 : starEach [a, .Tuple es x1 tp] X.env = (false, eval a X.env) :: starEach [.Tuple es x1 tp] X.env := by rfl) (s2 : starEach [.Tuple es x1 tp] X.env = (false, eval (.Tuple es x1 tp) X.env) :: starEach [] X.env := by rfl) (hpl : (backTo pos (starEach [.Tuple es x1 tp] X.env)).any (·.1) = false := by rfl) :
    SE Γ X (.Call (.Name "isinstance" p) [a, .Tuple es x1 tp] [] pos) (cUn (oIsiT cs us) ca) := fun W tk => (pe_callB call_isiT hg hm PyProof.Rows.boot_isinstance (pa_cons (ha W tk) (pa_cons (pe_tup hb.pa) pa_nil s2) s1) (he := s1) (hpl := hpl)).imp fun σ H Q ⟨g, ρ, G, q⟩ => ⟨g, ρ, G, (Tr.all_bind.mp q).mono (fun p q1 g1 H1 v w1 x1 rv => by
  obtain ⟨t, h1, h2, h3⟩ := isi_all (f := fun t => t.ok cs && us.all (fun u => u.ok cs)) (f' := fun t => isaAny t us) q1
  rw [Bool.and_eq_true] at h2
  refine ⟨by rw [List.length_map, sizeLine_eq]; omega, fun l hl => ⟨v, l, _, t.val Γ.k, _, isaAny t us, rfl, upd_same, pairedTy Γ.k us, ?_, by rw [hK]; exact kitAny_ok T h2.1 h2.2, ?_⟩⟩
  · have rv' := rv.grow (Gr.laid (o := .tup (us.map fun u => u.v Γ.k)) hl)
    rw [hK]
    exact view_ty T (w1.laid hl) rv' h1 h2.1
  · exact h3 g1 _ _ (w1.laid hl) (x1.trans w1 (.laid hl)) (.bl _)) fun _ _ h => h⟩
end
end RK

namespace RK
open PySem PySem.Spec PyProof.Rows L2
mutual
def deepR : Nat → PV → Bool
  | 0, .tup _ => false
  | 0, .lst _ => false
  | 0, .dct _ _ => false
  | n + 1, .tup xs => deepRs n xs
  | n + 1, .lst xs => deepRs n xs
  | n + 1, .dct ks vs => deepRs n ks && deepRs n vs
  | _, _ => true
def deepRs : Nat → List PV → Bool
  | _, [] => true
  | n, x :: xs => deepR n x && deepRs n xs
end
mutual
def wtP : PV → Nat
  | .int _ => 134
  | .str l => l.length
  | .tup xs => wtPs xs
  | .lst xs => wtPs xs
  | .dct ks vs => wtPs ks + wtPs vs
  | _ => 0
def wtPs : List PV → Nat
  | [] => 0
  | x :: xs => wtP x + 1 + wtPs xs
end
def reprOk (p : PV) : Bool := isR p && deepR 12 p && Nat.ble (wtP p) 300000
def oRepr (p : PV) : Tr PV := if reprOk p then .ret (.rp p) else .fail
theorem intOk_log {i : Int} (h : intOk i = true) : i.natAbs.log2 < 134 := by
  have h := Nat.blt_eq.mp h
  by_cases h0 : i.natAbs = 0
  · rw [h0]; decide
  · rw [Nat.log2_lt h0]
    exact Nat.lt_of_lt_of_le h (by decide)
theorem ofString_len (s : String) : (Str.ofString s).length = s.toList.length := by
  unfold Str.ofString Str.length
  rw [cpsOfBytes_string]
  simp
theorem intOk_len {i : Int} (h : intOk i = true) : (PyData.shown (.int i)).length ≤ 48 := by
  have h := Nat.blt_eq.mp h
  rw [PyData.shown_int, ofString_len]
  cases i with
  | ofNat n =>
    show (Nat.repr n).toList.length ≤ 48
    have := toDigits_len_pow (b := 10) (k := 40) (n := n) (by decide) (by decide) h
    unfold Nat.repr
    rw [String.toList_ofList]
    omega
  | negSucc n =>
    show (("-" ++ Nat.repr (n + 1)) : String).toList.length ≤ 48
    have := toDigits_len_pow (b := 10) (k := 40) (n := n + 1) (by decide) (by decide) h
    have e : (Nat.repr (n + 1)).toList.length = (Nat.toDigits 10 (n + 1)).length := by
      unfold Nat.repr
      rw [String.toList_ofList]
    rw [String.toList_append, List.length_append, e]
    show 1 + _ ≤ 48
    omega
mutual
theorem r_short : ∀ {p : PV}, isR p = true → (toD p).leavesShort 48 = true
  | .non, _ => by simp only [toD, PyData.leavesShort]
  | .bl _, _ => by simp only [toD, PyData.leavesShort]
  | .int i, h => by
    simp only [toD, PyData.leavesShort]
    exact decide_eq_true (intOk_len (by simpa only [isR] using h))
  | .str l, h => by
    simp only [toD, PyData.leavesShort, List.all_eq_true]
    intro c hc
    have h1 := cpOk_str (by simpa only [isR] using h)
    unfold PyData.strOk at h1
    have h2 := (Array.all_eq_true_iff_forall_mem.mp h1) c (Array.mem_toList_iff.mp hc)
    have h3 : c < 0x110000 := of_decide_eq_true h2
    exact decide_eq_true (Nat.lt_of_lt_of_le h3 (by decide))
  | .tup xs, h => by simp only [toD, PyData.leavesShort]; exact rs_short (by simpa only [isR] using h)
  | .lst xs, h => by simp only [toD, PyData.leavesShort]; exact rs_short (by simpa only [isR] using h)
  | .dct ks vs, h => by
    simp only [isR, Bool.and_eq_true] at h
    simp only [toD, PyData.leavesShort]
    have h1 := rs_short h.1.1
    have h2 := rs_short h.1.2
    have go : ∀ (xs ys : List PyData), PyData.leavesShortAll 48 xs = true → PyData.leavesShortAll 48 ys = true → PyData.leavesShortKv 48 (xs.zip ys) = true := by
      intro xs
      induction xs with
      | nil => intro ys _ _; simp [PyData.leavesShortKv]
      | cons x xs ih =>
        intro ys h1 h2
        cases ys with
        | nil => simp [PyData.leavesShortKv]
        | cons y ys =>
          simp only [PyData.leavesShortAll, Bool.and_eq_true] at h1 h2
          simp only [List.zip_cons_cons, PyData.leavesShortKv, Bool.and_eq_true]
          exact ⟨⟨h1.1, h2.1⟩, ih ys h1.2 h2.2⟩
    exact go _ _ h1 h2
  | .ins _ _, h | .pot, h | .scr _, h | .exv _ _, h | .clo _ _, h | .rp _, h | .si _, h | .js _, h => by simp only [isR] at h; cases h
theorem rs_short : ∀ {ps : List PV}, isRs ps = true → PyData.leavesShortAll 48 (toDs ps) = true
  | [], _ => by simp only [toDs, PyData.leavesShortAll]
  | p :: ps, h => by
    simp only [isRs, Bool.and_eq_true] at h
    simp only [toDs, PyData.leavesShortAll, Bool.and_eq_true]
    exact ⟨r_short h.1, rs_short h.2⟩
end
mutual
theorem r_wt : ∀ {p : PV}, isR p = true → (toD p).weight ≤ wtP p
  | .non, _ => by simp only [toD, PyData.weight, wtP]; exact Nat.le_refl _
  | .bl _, _ => by simp only [toD, PyData.weight, wtP]; exact Nat.le_refl _
  | .int i, h => by
    simp only [toD, PyData.weight, wtP]
    have := intOk_log (by simpa only [isR] using h)
    split <;> omega
  | .str l, h => by simp only [toD, PyData.weight, wtP]; exact Nat.le_refl _
  | .tup xs, h => by simp only [toD, PyData.weight, wtP]; exact rs_wt (by simpa only [isR] using h)
  | .lst xs, h => by simp only [toD, PyData.weight, wtP]; exact rs_wt (by simpa only [isR] using h)
  | .dct ks vs, h => by
    simp only [isR, Bool.and_eq_true] at h
    simp only [toD, PyData.weight, wtP]
    have h1 := rs_wt h.1.1
    have h2 := rs_wt h.1.2
    have go : ∀ (xs ys : List PyData), PyData.weightKv (xs.zip ys) ≤ PyData.weightAll xs + PyData.weightAll ys := by
      intro xs
      induction xs with
      | nil => intro ys; simp [PyData.weightKv]
      | cons x xs ih =>
        intro ys
        cases ys with
        | nil => simp [PyData.weightKv]
        | cons y ys =>
          simp only [List.zip_cons_cons, PyData.weightKv, PyData.weightAll]
          have := ih ys
          omega
    have := go (toDs ks) (toDs vs)
    omega
  | .ins _ _, h | .pot, h | .scr _, h | .exv _ _, h | .clo _ _, h | .rp _, h | .si _, h | .js _, h => by simp only [isR] at h; cases h
theorem rs_wt : ∀ {ps : List PV}, isRs ps = true → PyData.weightAll (toDs ps) ≤ wtPs ps
  | [], _ => by simp only [toDs, PyData.weightAll, wtPs]; exact Nat.le_refl _
  | p :: ps, h => by
    simp only [isRs, Bool.and_eq_true] at h
    simp only [toDs, PyData.weightAll, wtPs]
    have h1 := r_wt h.1
    have h2 := rs_wt h.2
    omega
end
mutual
theorem r_deep : ∀ {n : Nat} {p : PV}, deepR n p = true → isR p = true → (toD p).depth ≤ n
  | _, .non, _, _ => by simp only [toD, PyData.depth]; omega
  | _, .bl _, _, _ => by simp only [toD, PyData.depth]; omega
  | _, .int _, _, _ => by simp only [toD, PyData.depth]; omega
  | _, .str _, _, _ => by simp only [toD, PyData.depth]; omega
  | 0, .tup xs, h, _ => by simp only [deepR] at h; cases h
  | 0, .lst xs, h, _ => by simp only [deepR] at h; cases h
  | 0, .dct _ _, h, _ => by simp only [deepR] at h; cases h
  | n + 1, .tup xs, h, q => by
    have := rs_deep (n := n) (ps := xs) (by simpa only [deepR] using h) (by simpa only [isR] using q)
    simp only [toD, PyData.depth]; omega
  | n + 1, .lst xs, h, q => by
    have := rs_deep (n := n) (ps := xs) (by simpa only [deepR] using h) (by simpa only [isR] using q)
    simp only [toD, PyData.depth]; omega
  | n + 1, .dct ks vs, h, q => by
    simp only [isR, Bool.and_eq_true] at q
    simp only [deepR, Bool.and_eq_true] at h
    have h1 := rs_deep (n := n) h.1 q.1.1
    have h2 := rs_deep (n := n) h.2 q.1.2
    simp only [toD, PyData.depth]
    have go : ∀ (xs ys : List PyData), PyData.depthAll xs ≤ n → PyData.depthAll ys ≤ n → PyData.depthKv (xs.zip ys) ≤ n := by
      intro xs
      induction xs with
      | nil => intro ys _ _; simp [PyData.depthKv]
      | cons x xs ih =>
        intro ys h1 h2
        cases ys with
        | nil => simp [PyData.depthKv]
        | cons y ys =>
          simp only [PyData.depthAll] at h1 h2
          simp only [List.zip_cons_cons, PyData.depthKv]
          have := ih ys (by omega) (by omega)
          omega
    have := go _ _ h1 h2
    omega
  | _, .ins _ _, _, h | _, .pot, _, h | _, .scr _, _, h | _, .exv _ _, _, h | _, .clo _ _, _, h | _, .rp _, _, h | _, .si _, _, h | _, .js _, _, h => by simp only [isR] at h; cases h
theorem rs_deep : ∀ {n : Nat} {ps : List PV}, deepRs n ps = true → isRs ps = true → PyData.depthAll (toDs ps) ≤ n
  | _, [], _, _ => by simp only [toDs, PyData.depthAll]; omega
  | n, p :: ps, h, q => by
    simp only [isRs, Bool.and_eq_true] at q
    have h : deepR n p = true ∧ deepRs n ps = true := by simpa only [deepRs, Bool.and_eq_true] using h
    have h1 := r_deep h.1 q.1
    have h2 := rs_deep h.2 q.2
    simp only [toDs, PyData.depthAll]; omega
end
mutual
theorem r_show : ∀ {p : PV}, isR p = true → (toD p).showable = true
  | .non, _ => by simp only [toD, PyData.showable]
  | .bl _, _ => by simp only [toD, PyData.showable]
  | .int i, h => by
    simp only [toD, PyData.showable]
    have := intOk_log (by simpa only [isR] using h)
    exact decide_eq_true (by omega)
  | .str l, h => by simp only [toD, PyData.showable]
  | .tup xs, h => by simp only [toD, PyData.showable]; exact rs_show (by simpa only [isR] using h)
  | .lst xs, h => by simp only [toD, PyData.showable]; exact rs_show (by simpa only [isR] using h)
  | .dct ks vs, h => by
    simp only [isR, Bool.and_eq_true] at h
    simp only [toD, PyData.showable]
    have h1 := rs_show h.1.1
    have h2 := rs_show h.1.2
    have go : ∀ (xs ys : List PyData), PyData.showableAll xs = true → PyData.showableAll ys = true → PyData.showableKv (xs.zip ys) = true := by
      intro xs
      induction xs with
      | nil => intro ys _ _; simp [PyData.showableKv]
      | cons x xs ih =>
        intro ys h1 h2
        cases ys with
        | nil => simp [PyData.showableKv]
        | cons y ys =>
          simp only [PyData.showableAll, Bool.and_eq_true] at h1 h2
          simp only [List.zip_cons_cons, PyData.showableKv, Bool.and_eq_true]
          exact ⟨⟨h1.1, h2.1⟩, ih ys h1.2 h2.2⟩
    exact go _ _ h1 h2
  | .ins _ _, h | .pot, h | .scr _, h | .exv _ _, h | .clo _ _, h | .rp _, h | .si _, h | .js _, h => by simp only [isR] at h; cases h
theorem rs_show : ∀ {ps : List PV}, isRs ps = true → PyData.showableAll (toDs ps) = true
  | [], _ => by simp only [toDs, PyData.showableAll]
  | p :: ps, h => by
    simp only [isRs, Bool.and_eq_true] at h
    simp only [toDs, PyData.showableAll, Bool.and_eq_true]
    exact ⟨r_show h.1, rs_show h.2⟩
end
theorem reprOk_all {p : PV} (h : reprOk p = true) : isR p = true ∧ (toD p).depth ≤ 12 ∧ (toD p).shown.length ≤ sizeLine := by
  unfold reprOk at h
  rw [Bool.and_eq_true, Bool.and_eq_true] at h
  obtain ⟨⟨h1, h2⟩, h3⟩ := h
  have h3 := Nat.le_of_ble_eq_true h3
  refine ⟨h1, r_deep h2 h1, ?_⟩
  have a := PyData.shown_le 48 (by decide) (toD p) (r_short h1)
  have b := r_wt h1
  rw [sizeLine_eq]
  omega

section
variable {Γ : Fm} {X : Cx} {pins : List (Addr × Obj)} {σ : L2.St} {H : Hp} {s : Shared} {k : Kn} {g : Gh}
theorem kv_reads : ∀ {kvs : List (Key × V)} {rs : List (Key × Value)} {es : List DictEntry} {ks : List PV}, KV kvs rs → PySem.Pairs (mixKind X.prog X.w) es rs → Reps k g ks (kvs.map fun q => kV q.1) → isRs ks = true → ∃ as, ReadsAll s.heap (es.map (·.key)) (toDs ks) as ∧ sysModules ∉ as ∧ Vals (kvs.map Prod.snd) (es.map (·.val))
  | [], _, _, _, .nil, .nil, .nil, _ => ⟨[], by simp only [toDs]; exact .nil, by simp, .nil⟩
  | (kk, v) :: kvs, _, _, p :: ks, .cons h t, .cons h1 h2 hp, .cons r rr, hr => by
    simp only [isRs, Bool.and_eq_true] at hr
    obtain ⟨as, a1, a2, a3⟩ := kv_reads t hp rr hr.2
    obtain ⟨e1, e2⟩ := h
    have key : ∃ u, Reads s.heap u (toD p) [] ∧ ∀ u', keyIs kk u' = true → Reads s.heap u' (toD p) [] := by
      cases kk with
      | inl i =>
        cases r with
        | int _ =>
          refine ⟨.int i 0, by simp only [toD]; exact .int i 0, fun u' hu => ?_⟩
          rcases keyIs_shape hu with ⟨j, t, e, rfl⟩ | ⟨x, t, e, rfl⟩
          · cases e; simp only [toD]; exact .int i t
          · cases e
      | inr x =>
        have hr1 := hr.1
        cases r with
        | str l =>
          refine ⟨.str ⟨⟨l⟩⟩ 0, by simp only [toD]; exact .str _ 0, fun u' hu => ?_⟩
          rcases keyIs_shape hu with ⟨j, t, e, rfl⟩ | ⟨x, t, e, rfl⟩
          · cases e
          · cases e; simp only [toD]; exact .str _ t
        | rp _ => simp only [isR] at hr1; cases hr1
        | si _ => simp only [isR] at hr1; cases hr1
        | js _ => simp only [isR] at hr1; cases hr1
    obtain ⟨_, _, kf⟩ := key
    have h1 : keyIs _ _ = true := h1
    rw [← e1] at h1
    refine ⟨[] ++ as, by simp only [toDs, List.map_cons]; exact .cons (kf _ h1) a1, by simpa using a2, ?_⟩
    rw [List.map_cons, List.map_cons]
    exact .cons (by rw [h2]; exact e2) a3
mutual
theorem Rep.rd (I : Inv X pins σ H s) (w : Wd g H) (hK : X.K = k.K) (hS : ∃ o, X.K.lookup sysModules = some o ∧ o.cls = .type "dict") : ∀ {p : PV} {v : V} {u : Value}, Rep k g p v → RelV v u → isR p = true → ∃ as, Reads s.heap u (toD p) as ∧ sysModules ∉ as
  | _, _, _, .non, r, _ => by cases r; exact ⟨[], by simp only [toD]; exact .none, by simp⟩
  | _, _, _, .bl b, r, _ => by cases r; exact ⟨[], by simp only [toD]; exact .bool b, by simp⟩
  | _, _, _, .int i, r, _ => by obtain ⟨t, rfl⟩ := r; exact ⟨[], by simp only [toD]; exact .int i t, by simp⟩
  | _, _, _, .str l, r, _ => by obtain ⟨t, rfl⟩ := r; exact ⟨[], by simp only [toD]; exact .str _ t, by simp⟩
  | _, _, _, .tup hq rr, r, h => by
    cases r
    obtain ⟨its, rv, ⟨o, ho, hc, n, hd⟩, _⟩ := I.tuple (by rw [hK]; exact sqT_le w.sub hq)
    obtain ⟨as, h1, h2⟩ := Reps.rd I w hK hS rr rv (by simpa only [isR] using h)
    exact ⟨as, by simp only [toD]; exact .tuple ho hc hd (by simpa using h1), h2⟩
  | _, _, _, .lst hq rr, r, h => by
    cases r
    obtain ⟨its, rv, ⟨o, n, ho, hc, _, hd⟩, _⟩ := I.list (SqL.of (w.sub _ _ hq))
    obtain ⟨as, h1, h2⟩ := Reps.rd I w hK hS rr rv (by simpa only [isR] using h)
    refine ⟨_, by simp only [toD]; exact .list ho hc hd (by simpa using h1), fun hm => ?_⟩
    rcases List.mem_cons.mp hm with e | hm
    · obtain ⟨o', k1, k2⟩ := hS
      have := I.kIn _ _ k1
      rw [e, ho] at this
      cases this
      rw [hc] at k2
      simp at k2
    · exact h2 hm
  | _, _, _, .dct hq rk rv, r, h => by
    cases r
    simp only [isR, Bool.and_eq_true] at h
    obtain ⟨_, ne, rs, kv, o, es, ep, ho, hx, hd, _, hp, _⟩ := I.hok _ _ (w.sub _ _ hq)
    obtain ⟨as, h1, h2, h3⟩ := kv_reads (s := s) kv hp rk h.1.1
    obtain ⟨bs, h4, h5⟩ := Reps.rd I w hK hS rv h3 h.1.2
    have hl := Nat.eq_of_beq_eq_true h.2
    have len : ∀ (xs : List PV), (toDs xs).length = xs.length := by
      intro xs
      induction xs with
      | nil => simp [toDs]
      | cons x xs ih => simp [toDs, ih]
    refine ⟨_, by simp only [toD]; exact .dict ho hx.1 hd (by rw [List.map_fst_zip (by rw [len, len, hl]; exact Nat.le_refl _)]; exact h1) (by rw [List.map_snd_zip (by rw [len, len, hl]; exact Nat.le_refl _)]; exact h4), fun hm => ?_⟩
    rcases List.mem_append.mp hm with hm | hm
    · rcases List.mem_cons.mp hm with e | hm
      · rw [e] at ne
        simp at ne
      · exact h2 hm
    · exact h5 hm
  | _, _, _, .ins _ _ _ _, _, h => by simp only [isR] at h; cases h
  | _, _, _, .pot _, _, h => by simp only [isR] at h; cases h
  | _, _, _, .scr _, _, h => by simp only [isR] at h; cases h
  | _, _, _, .rp _, _, h => by simp only [isR] at h; cases h
  | _, _, _, .si _, _, h => by simp only [isR] at h; cases h
  | _, _, _, .js _, _, h => by simp only [isR] at h; cases h
theorem Reps.rd (I : Inv X pins σ H s) (w : Wd g H) (hK : X.K = k.K) (hS : ∃ o, X.K.lookup sysModules = some o ∧ o.cls = .type "dict") : ∀ {ps : List PV} {vs : List V} {us : List Value}, Reps k g ps vs → Vals vs us → isRs ps = true → ∃ as, ReadsAll s.heap us (toDs ps) as ∧ sysModules ∉ as
  | _, _, _, .nil, .nil, _ => ⟨[], by simp only [toDs]; exact .nil, by simp⟩
  | _, _, _, .cons r t, .cons rv tv, h => by
    simp only [isRs, Bool.and_eq_true] at h
    obtain ⟨as, h1, h2⟩ := Rep.rd I w hK hS r rv h.1
    obtain ⟨bs, h3, h4⟩ := Reps.rd I w hK hS t tv h.2
    exact ⟨as ++ bs, by simp only [toDs]; exact .cons h1 h3, fun hm => (List.mem_append.mp hm).elim h2 h4⟩
end
/-- repr(e) -/
def rRepr (k : Kn) : List V → Hp → VK → Prop := fun vs H Q => ∃ g p v, vs = [v] ∧ Wd g H ∧ View k g H p v ∧ reprOk p = true ∧ Q (.str (textOf (.rp p))) H
theorem shown_txt (p : PV) : textOf (.rp p) = (toD p).shown := by simp only [textOf, toD]
theorem call_reprD (hK : X.K = k.K) (hg : X.A.guards = some []) (hu : X.A.units + 64 < cLine) (hS : ∃ o, X.K.lookup sysModules = some o ∧ o.cls = .type "dict") : CallR X (.builtin "repr") (rRepr k) := by
  intro pins s σ H vs us Q I r h
  obtain ⟨g, p, v, rfl, w, rp, ok, q⟩ := h
  obtain ⟨u, rfl, ru⟩ := vals1 r
  obtain ⟨h1, h2, h3⟩ := reprOk_all ok
  rw [shown_txt] at q
  -- a list of one's own is laid into the ground for the reading
  obtain ⟨as, rd, ns⟩ : ∃ as, Reads s.heap u (toD p) as ∧ sysModules ∉ as := by
    rcases rp with rp | ⟨a, vs, ps, e1, e2, e3, e4, e5⟩
    · exact rp.rd I w hK hS ru h1
    · subst e1 e2
      by_cases hb : g.B a = none
      · exact (Rep.lst (k := k) (g := g.add a (.lst vs)) add_at (e5.mono (.add hb))).rd I (w.add e3 hb e4) hK hS ru h1
      · cases eb : g.B a with
        | none => exact absurd eb hb
        | some o =>
          have := w.sub _ _ eb
          rw [e3] at this
          cases this
          exact (Rep.lst (k := k) eb e5).rd I w hK hS ru h1
  have fin : ∀ (h' : Heap) (u : Tok) (tk : Nat), (∀ b o, s.heap.get? b = some o → h'.get? b = some o) → EP X pins σ Q (.str (toD p).shown u) { s with heap := h', toks := tk } := fun h' u tk kp => ⟨.str _, H, I.kept kp, ⟨u, rfl⟩, q⟩
  cases u with
  | ref a => exact repr_of_reads' rd (r_show h1) (fun _ => ns) hg (by omega) (fun _ _ e => e) fin h3
  | none =>
    cases hd : toD p with
    | none =>
      rw [hd, PyData.shown_none] at fin
      exact PySem.P.repr_of_none (fin s.heap _ _ fun _ _ e => e)
    | _ => rw [hd] at rd; cases rd
  | bool b =>
    cases hd : toD p with
    | bool b' =>
      rw [hd] at rd
      cases rd
      rw [hd, PyData.shown_bool] at fin
      exact PySem.P.repr_of_bool (fin s.heap _ _ fun _ _ e => e)
    | _ => rw [hd] at rd; cases rd
  | int i t =>
    cases hd : toD p with
    | int i' =>
      have sh := r_show h1
      rw [hd] at rd sh
      cases rd
      rw [hd, PyData.shown_int] at fin
      simp only [PyData.showable] at sh
      exact PySem.P.repr_of_int (of_decide_eq_true sh) (fin s.heap _ _ fun _ _ e => e)
    | _ => rw [hd] at rd; cases rd
  | str x t =>
    cases hd : toD p with
    | str x' =>
      rw [hd] at rd h3
      cases rd
      rw [hd, PyData.shown_str] at fin
      rw [PyData.shown_str] at h3
      exact PySem.P.repr_of_str (fin s.heap _ _ fun _ _ e => e) h3
    | _ => rw [hd] at rd; cases rd
  | _ => cases rd
theorem se_repr {e : Expr} {c : Ec} {p pos : Pos} (hK : X.K = Γ.k.K) (hr : X.A.guards = some []) (hu : X.A.units + 64 < cLine) (hS : ∃ o, X.K.lookup sysModules = some o ∧ o.cls = .type "dict") (hg : Gl X "repr") (hm : X.mg "repr" = none) (h : SV Γ X e c) (hs : starEach [e] X.env = (false, eval e X.env) :: starEach [] X.env := by rfl) : SE Γ X (.Call (.Name "repr" p) [e] [] pos) (cUn oRepr c) := sx_b1 (call_reprD hK hr hu hS) (fun g H p v Q E w r a => by
  obtain ⟨h1, h2⟩ := if_all a
  have h2 : PZ (zV Γ.k) g H Q (.rp p) := h2
  exact ⟨g, p, v, rfl, w, r, h1, h2.here w (.rp p)⟩) hg hm (by decide +kernel) h (hs := hs)
/-- {} -/
theorem se_dct0 {pos : Pos} : SE Γ X (.Dict [] [] pos) (cC (.dct [] [])) := fun W tk => pe_dnewK.imp fun σ H Q ⟨g, ρ, G, q⟩ p hp => by
  have q : PZ (zV Γ.k) g H Q (.dct [] []) := q
  exact q (g.add p (.dK [])) _ _ (G.wd.new hp) (.new G.wd hp) (.dct add_at .nil .nil)
end
end RK

namespace RK
open PySem PySem.Spec PyProof.Rows L2
/-- the clauses, one after the other: the class, what the suite does; slot i is n's -/
def wClauses (K : PySem.W.Frag) (i : Nat) (Wout : WX) (D : Ends) : List (Value × (Addr → Value → Option Addr → TS)) → WX
  | [] => Wout
  | (c, t) :: rest => fun cls d σ H => ∃ b, PySem.W.exmOne K cls c = some b ∧ (b = false → wClauses K i Wout D rest cls d σ H) ∧
      (b = true → ∀ a, H a = none → t a cls d ⟨fun τ G => D.nx (τ.set i none) G, D.rt, fun τ G => D.bk (τ.set i none) G, fun τ G => D.ct (τ.set i none) G⟩ (σ.set i (some (.ref a))) H)
inductive Clauses (X : Cx) (n : Str) : List ExceptHandler → List (Value × (Addr → Value → Option Addr → TS)) → Prop
  | nil : Clauses X n [] []
  | cons {x : Str} {c : Value} {t : Addr → Value → Option Addr → TS} {b₀ : Stmt} {su : List Stmt} {p q : Pos} {hs : List ExceptHandler} {l : List (Value × (Addr → Value → Option Addr → TS))} (hc : Names X x c)
      (hsu : ∀ (a : Addr) (oe : Obj) (cls : Value) (d : Option Addr) (pn : List (Addr × Obj)), Zc cls d oe → (∃ vs, oe.data = .fields vs) → PSs (X.suite a ((a, oe) :: pn)) (b₀ :: su) (t a cls d)) (r : Clauses X n hs l) :
      Clauses X n (.ExceptHandler (some (.Name x p)) (some n) (b₀ :: su) q :: hs) ((c, t) :: l)
section
variable {X : Cx} {n : Str} {i : Nat} {body : List Stmt} {h0 : ExceptHandler} {hs : List ExceptHandler} {l : List (Value × (Addr → Value → Option Addr → TS))} {pos : Pos} {tb : WX → TS} {Wout : WX}
theorem try_clauses (hst : X.stack = X.env :: X.outer) (hfm : X.env.frame = some X.env.locals) (hN : X.N.Nodup) (hi : X.N[i]? = some n) (hln : X.env.kindOf n = some .local) (tk : Takes X Wout)
    (hb : ∀ (W : WX) (pn : List (Addr × Obj)) (xe : Value → Shared → Prop), Takes (X.tr pn xe) W → PassesOwn (model X.prog X.w) X.A X.env xe → PSs (X.tr pn xe) body (tb W))
    (hh : Clauses X n (h0 :: hs) l) : PS X (.Try body (h0 :: hs) [] [] pos) (fun D σ H => tb (wClauses X.K i Wout D l) D σ H) := by
  constructor
  intro pins s σ H D I hyp
  have ok := I.ok
  have frm : X.A.frames = some (X.env :: X.outer) := ok.frames.trans (congrArg some hst)
  have onL : Loc X.env.scope n := .inl hln
  have takes_in : Takes (X.tr (X.pn ++ pins) (fun e s₁ => wpAny (model X.prog X.w) X.A (noteFrame e X.env) (fun _ s₂ => wpAny (model X.prog X.w) X.A (setFlight e none)
      (fun _ s₃ => wpAny (model X.prog X.w) X.A (handleBy e X.env (h0 :: hs)) (SP X pins D) X.xe s₃) X.xe s₂) X.xe s₁)) (wClauses X.K i Wout D l) := by
    intro u s' caught
    obtain ⟨a, B, sI, pins', σ', H', cls, d, rfl, J0, bar, upto, fly, free, os, gens, wish⟩ := caught
    have J : Inv X pins σ' H' sI := J0.ofTry ok
    rw [hst] at fly
    show wpAny (model X.prog X.w) X.A (noteFrame (.ref a) X.env) _ _ _
    refine Sky.land Zc.steady frm hfm fly fun hp1 land1 upto1 => ?_
    have J1 : Inv X pins σ' H' { s' with heap := hp1 } := J.landed bar land1.1 (upto.trans upto1) os gens
    obtain ⟨o1, vs1, at1, z1, dt1⟩ := land1.there
    have apart : a ∉ frs (X.env :: X.outer) := fun hm => by
      obtain ⟨_, o', q1, q2⟩ := land1.2.2.1.mem hm
      rw [at1] at q1
      cases q1
      exact q2 _ dt1
    have aL : a ≠ X.env.locals := fun q => apart (List.mem_filterMap.mpr ⟨X.env, List.mem_cons_self, by rw [hfm, q]⟩)
    have aF : a ∉ X.fs := fun hm => by
      obtain ⟨e, q1, q2⟩ := List.mem_filterMap.mp hm
      exact apart (List.mem_filterMap.mpr ⟨e, List.mem_cons_of_mem _ q1, q2⟩)
    have S1 := J1.suite at1 dt1 free aL aF
    have walk : ∀ {hs' : List ExceptHandler} {l' : List (Value × (Addr → Value → Option Addr → TS))}, Clauses X n hs' l' → wClauses X.K i Wout D l' cls d σ' H' → wpAny (model X.prog X.w) X.A (handleBy (.ref a) X.env hs') (SP X pins D) X.xe { s' with heap := hp1 } := by
      intro hs' l' cl
      induction cl with
      | nil =>
        intro wish
        refine wpAny_handleBy_nil ?_
        obtain ⟨_, _, _, oe, vs, T, _, _, e1, _, e2, e3, _⟩ := id land1
        have out : wpAny (model X.prog X.w) X.A (setFlight (.ref a) X.env.frame) (fun _ s4 => wpAny (model X.prog X.w) X.A (throw (.ref a) : Sem Flow) (SP X pins D) X.xe s4) X.xe { s' with heap := hp1 } := by
          rw [hfm]
          refine HandSPX.setFlight_upZ land1 fun hp2 held2 upto2 => wpAny_throw (tk _ _ ⟨a, B, sI, pins, σ', H', cls, d, rfl, J, bar, (upto.trans upto1).trans upto2, .inr (.inr (by rw [hst]; exact held2)), free, os, gens, wish⟩)
        unfold PySem.passOn
        refine wpAny_bind (wpAny_field e1 e2 e3 ?_)
        rw [if_neg (fun q : (Value.ref T == Value.none) = true => by simp at q)]
        first
          | exact wpAny_bind (wpAny_pure (wpAny_bind out))
          | exact wpAny_bind out
      | @cons x c t b₀ su p q hs2 l2 hc hsu r ih =>
        intro wish
        obtain ⟨b, isIt, no, yes⟩ := wish
        refine wpAny_handleBy_cons (codeAny_handlers_test ?_) (by intro z; cases z)
        have ty : PySem.W.Looks (model X.prog X.w) hp1 (typeOf (.ref a)) cls := fun A Q E s k q => wpAny_typeOf_ref (k _ _ at1) (by rw [z1.1]; exact q)
        have mt := PySem.W.exm_one (M := model X.prog X.w) J1.kIn ty isIt
        have named : ∀ {Q E : Value → Shared → Prop}, Q c { s' with heap := hp1 } → wpAny (model X.prog X.w) (X.A.mark (some (.ref a))) (eval (.Name x p) X.env) Q E { s' with heap := hp1 } := fun {Q E} k => by
          obtain ⟨g1, g2, g3 | ⟨g3, g4, g5⟩⟩ := hc
          · exact ld_glob (X := X.suite a ((a, o1) :: (X.pn ++ pins))) S1 g1 g3 k g2
          · exact ld_blt (X := X.suite a ((a, o1) :: (X.pn ++ pins))) S1 g1 g3 g4 k g5 g2
        refine named (mt.here ?_)
        cases b with
        | false =>
          show wpAny _ X.A (handleBy (.ref a) X.env hs2) _ _ _
          exact ih (no rfl)
        | true =>
          refine codeAny_handlers_suite_as (HandSPX.lands_againZ land1 fun hp2 land2 upto2 => ?_)
          have J2 : Inv X pins σ' H' { s' with heap := hp2 } := J.landed bar land2.1 ((upto.trans upto1).trans upto2) os gens
          obtain ⟨o2, vs2, at2, z2, dt2⟩ := land2.there
          have S2 := J2.suite at2 dt2 free aL aF
          refine store_ok (X := X.suite a ((a, o2) :: (X.pn ++ pins))) (v := .ref a) S2 hN hi onL rfl (fun s3 S3 => ?_) (.inr hln)
          have gone : ∀ {τ : L2.St} {G : Hp} {R : Shared → Prop} {s4 : Shared}, Inv (X.suite a ((a, o2) :: (X.pn ++ pins))) [] τ G s4 → (∀ s5, Inv X pins (τ.set i none) G s5 → R s5) → wpAny (model X.prog X.w) X.A (do bindName X.env n .none; unbindBehindTheSuite X.env n q) (fun _ s5 => R s5) X.xe s4 :=
            fun S k => gone_ok (S.unsuite ok) hN hi hln k
          refine wpAny_mono ((hsu a o2 cls d (X.pn ++ pins) z2 ⟨_, dt2⟩).run [] s3 _ H' _ S3 (yes rfl a free)) (fun fl s4 post => ?_) fun _ _ z => z.elim
          cases fl with
          | next =>
            obtain ⟨τ, G, S, k⟩ := post
            exact gone S fun _ J5 => ⟨_, _, J5, k⟩
          | brk =>
            obtain ⟨τ, G, S, k⟩ := post
            exact gone S fun _ J5 => ⟨_, _, J5, k⟩
          | cont =>
            obtain ⟨τ, G, S, k⟩ := post
            exact gone S fun _ J5 => ⟨_, _, J5, k⟩
          | ret u =>
            obtain ⟨v, τ, G, S, rv, k⟩ := post
            exact gone S fun _ J5 => ⟨_, _, _, J5, rv, k⟩
    exact walk hh wish
  refine wpAny_Try_except (wpAny_mono ((hb _ _ _ takes_in PassesOwn.looking).run [] s σ H D (I.toTry _) hyp) (fun fl s1 post => ?_) fun _ _ z => z)
  cases fl with
  | next =>
    obtain ⟨τ, G, S, k⟩ := post
    exact wpAny_execs_nil ⟨τ, G, S.ofTry ok, k⟩
  | brk =>
    obtain ⟨τ, G, S, k⟩ := post
    exact ⟨τ, G, S.ofTry ok, k⟩
  | cont =>
    obtain ⟨τ, G, S, k⟩ := post
    exact ⟨τ, G, S.ofTry ok, k⟩
  | ret u =>
    obtain ⟨v, τ, G, S, rv, k⟩ := post
    exact ⟨v, τ, G, S.ofTry ok, rv, k⟩
end
end RK

namespace RK
open PySem PySem.Spec PyProof.Rows L2
def sRaise (n : Nat) (a : Ec) : Sc := fun ρ => (a ρ).bind fun v => .exc n [v]
def sRaise2 (n : Nat) (a b : Ec) : Sc := fun ρ => (a ρ).bind fun v => (b ρ).bind fun w => .exc n [w, v]
def mem (n : Nat) : List Nat → Bool
  | [] => false
  | m :: r => Nat.beq n m || mem n r
def tryGo (n : Nat) (fs : List PV) (ρ : RK.Env) : List (Nat × (List PV → Sc)) → Tr Fl
  | [] => .exc n fs
  | (m, s) :: r => match Nat.beq n m with
    | true => s fs ρ
    | false => tryGo n fs ρ r
def unE (i : Nat) : Fl → Fl
  | .nx ρ => .nx (put ρ i none)
  | .bk ρ => .bk (put ρ i none)
  | .ct ρ => .ct (put ρ i none)
  | .rt v => .rt v
def tryH (ns : List Nat) (i : Nat) (hs : List (Nat × (List PV → Sc))) (ρ : RK.Env) (n : Nat) (fs : List PV) : Tr Fl := if mem n ns then
  (match hs.any fun q => Nat.beq n q.1 with
    | true => (tryGo n fs (put ρ i none) hs).noexc.bind fun f => .ret (unE i f)
    | false => .exc n fs) else .fail
def sTry (ns : List Nat) (i : Nat) (sb : Sc) (hs : List (Nat × (List PV → Sc))) : Sc := fun ρ => (sb ρ).hand (tryH ns i hs ρ)
/-- isinstance(e, C) of the exception at hand; its fields -/
def cExIs (i : Nat) (b : Bool) : Ec := fun ρ => match look ρ i with
  | none => .ret (.bl b)
  | some _ => .fail
def cExF (i : Nat) (o : Option PV) : Ec := fun ρ => match look ρ i with
  | none => ofOpt o
  | some _ => .fail

def spX1 (C : Addr) (f : Str) : Sp := fun vs H Q E => ∃ a v, vs = [.ref a, v] ∧ H a = some (exo a C none) ∧ ∀ dx, H dx = none → dx ≠ a → Q .non (upd (upd H dx (exd dx [(f, v)])) a (exo a C (some dx)))
section
variable {Γ : Fm} {X : Cx} {e a b d : Expr} {es : List Expr} {c ca cb cc : Ec} {sa sb : Sc} {W : WX} {σ : L2.St} {Q : VK} {pos p : Pos} {z : Md} {g g' g1 g2 : Gh} {H H' H1 H2 : Hp} {ρ : RK.Env} {k : Kn} {E : Nat → List PV → Prop}
theorem fn_x1 {T : Wh} {x qual : Str} {params : Arguments} {scope : Scope} {dvs : List V} {kws : List (Str × V)} {fI C : Addr} {fd : FuncData} {N : List Str} {sf vn f : Str} {p1 p2 p3 p4 : Pos}
    (D : FunD T.K x qual params [.Assign [.Attribute (.Name sf p1) f p2] (.Name vn p3) p4] scope dvs kws fI fd) (S : FnScope N [sf, vn] scope) (h0 : N[0]? = some sf) (h1 : N[1]? = some vn) (v0 : scope.names.lookup sf = some .local) (v1 : scope.names.lookup vn = some .local) (O : OexC T.K C) (hno : PySem.W.findIn T.K (.ref C) f = some none)
    (hd0 : (sf == ("__debug__" : Str)) = false := by decide) (hc0 : (sf == ("__classdict__" : Str)) = false := by decide) (hd1 : (vn == ("__debug__" : Str)) = false := by decide) (hc1 : (vn == ("__classdict__" : Str)) = false := by decide)
    (hs : ∀ env, swapsWith (.Name vn p3) (some (.Attribute (.Name sf p1) f p2)) p4.line env = pure false := by intro _; rfl) : FnOk T.P T.w T.K T.mg T.base (L2.CX T.P T.w) 1 fI fd [sf, vn] (spX1 C f) := by
  obtain ⟨oc, od, dV, kV, doc, pm, an, cdv, ct, osl, rfl, lk, hcd, _, _⟩ := D.ex
  refine fn_of (k := 0) lk hcd S (fun vs H Q E ⟨a, v, e, _⟩ => by rw [e]; rfl) fun A outer s H vs Q E hr ⟨a, v, e, ha, q⟩ => ?_
  subst e
  refine ⟨_, pss_one (ps_ost (pe_var (i := 0) h0 (.inl v0) hd0 hc0) (pe_var (i := 1) h1 (.inl v1) hd1 hc1) (hs _)), ?_⟩
  have s0 : (L2.start N [V.ref a, v])[0]? = some (some (.ref a)) := rfl
  have s1 : (L2.start N [V.ref a, v])[1]? = some (some v) := rfl
  exact ⟨v, s1, .ref a, s0, a, C, rfl, O, hno, .inl ⟨ha, fun dx n ne => q dx n ne⟩⟩
theorem del_made {a dx : Addr} {C : Addr} {fs : List (Str × V)} (ha : H a = none) (ne : dx ≠ a) : upd (del (upd (upd (upd H a (exo a C none)) dx (exd dx fs)) a (exo a C (some dx))) a) dx (.xd fs) = upd H dx (.xd fs) := by
  funext b
  by_cases h1 : b = dx
  · rw [h1, upd_same, upd_same]
  · rw [upd_ne h1, upd_ne h1]
    by_cases h2 : b = a
    · rw [h2, del_same, ha]
    · rw [del_ne h2, upd_ne h2, upd_ne h1, upd_ne h2]
theorem xs_made {n : Nat} {dx : Addr} {fs : List PV} {fvs : List V} (G : GI Γ g ρ σ H) (h : XS Γ W n fs) (hl : fvs.length = (Γ.k.efl n).length) (r : Reps Γ.k g fs fvs) (hd : H dx = none) : W (.ref (Γ.k.exn n)) (some dx) σ (upd H dx (.xd ((Γ.k.efl n).zip fvs))) :=
  h (g.add dx (.xd ((Γ.k.efl n).zip fvs))) σ _ _ _ (G.wd.new hd) (G.gr.trans G.wd (.new G.wd hd)) ⟨rfl, dx, fvs, rfl, add_at, hl, r.mono (.add (G.wd.none_b hd))⟩
theorem ss_raise {n kk : Nat} {x f sf vn : Str} {fI : Addr} {fd : FuncData} {cpos : Pos} (hc : X.calm = true) (O : OexC X.K (Γ.k.exn n)) (iC : PySem.W.findIn X.K (.ref (Γ.k.exn n)) "__init__" = some (some (.ref fI))) (tI : PySem.W.typeIn X.K (.ref fI) = some (.type "function"))
    (F1 : FnOk X.prog X.w X.K X.mg X.base (L2.CX X.prog X.w) kk fI fd [sf, vn] (spX1 (Γ.k.exn n) f)) (hr : Room (kk + 1) X.A) (hb : Binds X.K fd [sf, vn] []) (hg : Gl X x) (hm : X.mg x = some (.ref (Γ.k.exn n))) (hf : Γ.k.efl n = [f]) (he : SE Γ X e c)
    (hdb : (x == ("__debug__" : Str)) = false := by decide) (hs : starEach [e] X.env = (false, eval e X.env) :: starEach [] X.env := by rfl) (hpl : (backTo cpos (starEach [] X.env)).any (·.1) = false := by rfl) :
    SS Γ z X (.Raise (some (.Call (.Name x p) [e] [] cpos)) none pos) (sRaise n c) := fun W tk =>
  (ps_raise hc tk (pmk_oex (ds := []) (dvs := []) O iC tI F1 hr hb .nil (passes_call takesF fun _ _ _ _ h => h) hg hm (pa1 (he W tk) hs) hdb hs hpl)).imp fun D σ H ⟨g, ρ, G, q⟩ => ⟨g, ρ, G, (Tr.all_bind.mp q).mono (fun v q1 g1 H1 x w1 x1 r => by
    refine ⟨(by show 1 ≤ 1000; decide), fun a ha => ⟨a, x, rfl, upd_same, fun dx hdx ne => ⟨rfl, dx, [(f, x)], upd_same, by rw [upd_ne ne, upd_same], ?_, ?_⟩⟩⟩
    · rw [upd_ne ne] at hdx; exact hdx
    · rw [upd_ne ne] at hdx
      rw [del_made ha ne]
      have := xs_made (fvs := [x]) (G.grow w1 x1) q1 (by rw [hf]; rfl) (.cons r .nil) hdx
      rw [hf] at this
      exact this) fun _ _ h => h.xw G⟩

structure ExF (k : Kn) (n : Nat) : Prop where
  hcl : (PySem.W.clsIn k.K (k.exn n)).isSome = true
  hga : PySem.W.findIn k.K (.ref (k.exn n)) "__getattribute__" = some (some (.builtin "BaseException.__getattribute__"))
  hgt : PySem.W.findIn k.K (.ref (k.exn n)) "__getattr__" = some none
  hsub : PySem.W.subIn k.K (.ref (k.exn n)) (.type "BaseException") = some true
  ha : PySem.W.findIn k.K (.ref (k.exn n)) "__class__" = some (some (.builtin "object.__class__"))
  hn : PySem.W.specialIn k.K (.builtin "object.__class__") "__get__" = some (some (.builtin "getset_descriptor.__get__"))
  htk : PySem.W.takesIn k.K (.builtin "object.__class__") = some true
  hm : PySem.W.mroIn k.K (k.exn n) (.type "object") = some true
  hd : PySem.W.hasDictIn k.K (k.exn n) = true
theorem ExF.xf {n : Nat} (h : ExF k n) : XfC k.K (k.exn n) := ⟨h.hga, h.hgt, h.hsub, h.hd⟩
/-- isinstance(e, c) of an exception with a dict -/
theorem call_isX {C dx : Addr} {a' : Addr} {oe : Obj} {pn : List (Addr × Obj)} {n : Nat} (hK : X.K = k.K) (F : ExF k n) (hz : Zc (.ref (k.exn n)) (some dx) oe) (hf : ∃ vs, oe.data = .fields vs) : CallR (X.suite a' ((a', oe) :: pn)) (.builtin "isinstance")
    (fun xs H Q => ∃ (c : V) (u : Value) (b : Bool) (fs : List (Str × V)), xs = [.ref a', c] ∧ H dx = some (.xd fs) ∧ ClsV c u ∧ PySem.W.kitOne k.K (.ref (k.exn n)) u = some b ∧ Q (.bl b) H) := by
  intro pins s σ H xs us Q I r h
  obtain ⟨c, u, b, fs, rfl, hd, kc, e, q⟩ := h
  obtain ⟨u1, u2, rfl, r1, r2⟩ := vals2 r
  cases r1
  have e2 := kc.eq r2
  subst e2
  obtain ⟨at1, _⟩ := I.pin (a', oe) (List.mem_append.mpr (.inl List.mem_cons_self))
  obtain ⟨vs, hv⟩ := hf
  obtain ⟨mA, ns, _⟩ := (show ObjOk X.prog X.w H s.heap dx (.xd fs) from I.hok dx _ hd)
  obtain ⟨od, ho, _⟩ := lookIn_ns ns
  have J : PySem.W.InstAt s.heap a' oe (k.exn n) (some od) := by
    obtain ⟨oc, od', oda, osl⟩ := oe
    obtain ⟨z1, z2⟩ := hz
    dsimp only at z1 z2 hv
    subst z1 z2 hv
    exact ⟨at1, rfl, rfl, ho⟩
  have kin : k.K.In s.heap := hK ▸ I.kIn
  exact PySem.W.kia_one (PySem.W.kitx_exc F.hcl F.hga F.hgt F.hsub F.ha F.hn F.htk F.hm) kin J e (fun z => nomatch z) fun tk => ⟨.bl b, H, I.kept (t' := tk) fun _ _ z => z, rfl, q⟩
/-- the frame in a suite -/
abbrev Fm.at (Γ : Fm) (i : Nat) (a : Addr) (n : Nat) (fs : List PV) (dx : Addr) : Fm := { Γ with ex := some ⟨i, a, n, fs, dx⟩ }
theorem cEx_all {i : Nat} {t : Tr PV} {R : PV → Prop} (h : (match look ρ i with | none => t | some _ => .fail).All R E) : look ρ i = none ∧ t.All R E := by
  cases e : look ρ i with
  | none => rw [e] at h; exact ⟨rfl, h⟩
  | some _ => rw [e] at h; exact (show False from h).elim
theorem se_exIs {i n : Nat} {x : Str} {a' dx : Addr} {fs : List PV} {oe : Obj} {pn : List (Addr × Obj)} {u : V} {cv : Value} {bb : Bool} {p' p2 : Pos} (hK : X.K = Γ.k.K) (F : ExF Γ.k n) (hz : Zc (.ref (Γ.k.exn n)) (some dx) oe) (hf : ∃ vs, oe.data = .fields vs) (hg : Gl X "isinstance") (hm : X.mg "isinstance" = none)
    (hN : X.N[i]? = some x) (hv : Vis X.env.scope x) (hb : PE (X.suite a' ((a', oe) :: pn)) b (tC u)) (cu : ClsV u cv) (hk : PySem.W.kitOne Γ.k.K (.ref (Γ.k.exn n)) cv = some bb) (hd : (x == ("__debug__" : Str)) = false := by decide) (hcd : (x == ("__classdict__" : Str)) = false := by decide)
    (s1 : starEach [.Name x p', b] X.env = (false, eval (.Name x p') X.env) :: starEach [b] X.env := by rfl) (s2 : starEach [b] X.env = (false, eval b X.env) :: starEach [] X.env := by rfl) (hpl : (backTo pos (starEach [b] X.env)).any (·.1) = false := by rfl) :
    SE (Γ.at i a' n fs dx) (X.suite a' ((a', oe) :: pn)) (.Call (.Name "isinstance" p) [.Name x p', b] [] pos) (cExIs i bb) := fun W tk =>
  (pe_callB (call_isX (C := 0) hK F hz hf) hg hm PyProof.Rows.boot_isinstance (pa_cons (pe_var hN hv hd hcd) (pa_cons hb pa_nil s2) s1) (he := s1) (hpl := hpl)).imp fun σ H Q ⟨g, ρ, G, q⟩ => by
    obtain ⟨h1, h2⟩ := cEx_all q
    obtain ⟨h3, fvs, h4, _⟩ := G.exf _ rfl h1
    exact ⟨.ref a', h3, u, cv, bb, _, rfl, G.wd.sub _ _ h4, cu, hk, h2 g H _ G.wd (.refl g H) (.bl _)⟩
theorem lookup_zip : ∀ {ns : List Str} {vs : List V} {f : Str} {j : Nat}, vs.length = ns.length → (ns.findIdx? fun m => f == m) = some j → (ns.zip vs).lookup f = vs[j]?
  | [], _, _, _, _, h => by cases h
  | n :: ns, [], _, _, h, _ => by cases h
  | n :: ns, v :: vs, f, j, hl, h => by
    rw [List.findIdx?_cons] at h
    rw [List.zip_cons_cons, List.lookup_cons]
    cases e : f == n with
    | true =>
      rw [e] at h
      cases h
      rfl
    | false =>
      rw [e] at h
      simp only [Bool.false_eq_true, if_false] at h
      obtain ⟨m, h1, rfl⟩ := Option.map_eq_some_iff.mp h
      rw [List.getElem?_cons_succ]
      exact lookup_zip (by simpa using hl) h1
theorem se_exF {i n j : Nat} {x f : Str} {a' dx : Addr} {fs : List PV} {oe : Obj} {pn : List (Addr × Obj)} {p' : Pos} (hK : X.K = Γ.k.K) (F : ExF Γ.k n) (hz : Zc (.ref (Γ.k.exn n)) (some dx) oe) (hf : ∃ vs, oe.data = .fields vs) (hj : ((Γ.k.efl n).findIdx? fun m => f == m) = some j) (hno : PySem.W.findIn X.K (.ref (Γ.k.exn n)) f = some none)
    (hN : X.N[i]? = some x) (hv : Vis X.env.scope x) (hd : (x == ("__debug__" : Str)) = false := by decide) (hcd : (x == ("__classdict__" : Str)) = false := by decide) (hb : attributeBase (.Name x p') f X.env (eval (.Name x p') X.env) = eval (.Name x p') X.env := by rfl) :
    SE (Γ.at i a' n fs dx) (X.suite a' ((a', oe) :: pn)) (.Attribute (.Name x p') f pos) (cExF i fs[j]?) := fun W tk =>
  (pe_xf (C := Γ.k.exn n) (hK ▸ F.xf) hno hz hf (pe_var (X := X.suite a' ((a', oe) :: pn)) hN hv hd hcd) hb).imp fun σ H Q ⟨g, ρ, G, q⟩ => by
    obtain ⟨h1, h2⟩ := cEx_all q
    obtain ⟨h3, fvs, h4, h5, h6⟩ := G.exf _ rfl h1
    cases e : fs[j]? with
    | none => rw [e] at h2; exact (show False from h2).elim
    | some p =>
      rw [e] at h2
      obtain ⟨v, h7, h8⟩ := h6.get' e
      exact ⟨.ref a', h3, rfl, rfl, dx, _, v, rfl, G.wd.sub _ _ h4, by rw [lookup_zip h5 hj]; exact h7, h2 g H _ G.wd (.refl g H) h8⟩

def RTb (Γ : Fm) (z : Md) (c : Sc) (W : WX) : TS := fun D σ H => ∃ g ρ, GI Γ g ρ σ H ∧ (c ρ).All (RFl Γ z D) (XW Γ g H σ W)
def STb (Γ : Fm) (z : Md) (X : Cx) (sts : List Stmt) (c : Sc) : Prop := ∀ W, Takes X W → PSs X sts (RTb Γ z c W)
def STs1 (Γ : Fm) (z : Md) (X : Cx) (st : Stmt) (c : Sc) : Prop := ∀ W, Takes X W → PS X st (RTb Γ z c W)
theorem tb_one {st : Stmt} (h : STs1 Γ z X st sa) : STb Γ z X [st] sa := fun W tk => pss_one (h W tk)
theorem tb_drop (h : SV Γ X e c) (hs : swapsWith e none pos.line X.env = pure false := by rfl) : STs1 Γ z X (.Expr e pos) (sDrop c) := fun W tk => (ps_expr (h W tk) hs).imp fun D σ H ⟨g, ρ, G, q⟩ => ⟨g, ρ, G, (Tr.all_bind.mp q).mono (fun p q1 g' H' v w x r => q1 g' σ H' (G.grow w x)) fun _ _ h => h⟩
theorem tb_ret (h : SE Γ X e c) : STs1 Γ (zV Γ.k) X (.Return (some e) pos) (sRet c) := fun W tk => (ps_ret (h W tk)).imp fun D σ H ⟨g, ρ, G, q⟩ => ⟨g, ρ, G, (Tr.all_bind.mp q).mono (fun p q1 g' H' v w x r => q1 g' H' v w (G.gr.trans G.wd x) r) fun _ _ h => h⟩
theorem tb_set {i : Nat} {x : Str} {pos' : Pos} (hN : X.N.Nodup) (hi : X.N[i]? = some x) (hx : Loc X.env.scope x) (ho : Γ.own.contains i = false) (h : SE Γ X e c) (hs : swapsWith e (some (.Name x pos')) pos.line X.env = pure false := by rfl) (hf : X.fn x = true ∨ X.env.scope.names.lookup x = some .local := by first | exact .inl rfl | exact .inr rfl | assumption) :
    STs1 Γ z X (.Assign [.Name x pos'] e pos) (sSet i c) := fun W tk => (ps_set hN hi hx (h W tk) hs hf).imp fun D σ H ⟨g, ρ, G, q⟩ => ⟨g, ρ, G, (Tr.all_bind.mp q).mono (fun p q1 g' H' v w x r => q1 g' _ H' ((G.grow w x).put ho r)) fun _ _ h => h⟩
theorem tb_if {t : Expr} {as bs : List Stmt} {ct : Tc} (ht : ST Γ X t ct) (ha : STb Γ z X as sa) (hb : STb Γ z X bs sb) : STs1 Γ z X (.If t as bs pos) (sIf ct sa sb) := fun W tk => (ps_if (ht W tk) (ha W tk) (hb W tk)).imp fun D σ H ⟨g, ρ, G, q⟩ => ⟨g, ρ, G, (Tr.all_bind.mp q).mono (fun b q1 g1 H1 w1 x1 => by
  cases b with
  | true =>
    rw [if_pos rfl]
    exact ⟨g1, ρ, G.grow w1 x1, Tr.All.mono (show (sa ρ).All _ _ from q1) (fun _ h => h) fun _ _ h => h.grow G w1 x1⟩
  | false =>
    rw [if_neg (by decide)]
    exact ⟨g1, ρ, G.grow w1 x1, Tr.All.mono (show (sb ρ).All _ _ from q1) (fun _ h => h) fun _ _ h => h.grow G w1 x1⟩) fun _ _ h => h⟩
/-- what a suite does: its exception, read -/
def tSu (Γ : Fm) (z : Md) (i n : Nat) (s : List PV → Sc) : Addr → Value → Option Addr → TS := fun a cls d D σ H => ∃ fs dx, cls = .ref (Γ.k.exn n) ∧ d = some dx ∧ RS (Γ.at i a n fs dx) z (s fs) noW D σ H
inductive SHs (Γ : Fm) (z : Md) (X : Cx) (i : Nat) (x : Str) : List ExceptHandler → List (Nat × (List PV → Sc)) → Prop
  | nil : SHs Γ z X i x [] []
  | cons {y : Str} {n : Nat} {s : List PV → Sc} {b₀ : Stmt} {su : List Stmt} {p q : Pos} {hs : List ExceptHandler} {l : List (Nat × (List PV → Sc))} (hg : Gl X y) (hm : X.mg y = some (.ref (Γ.k.exn n)))
      (hsu : ∀ (a dx : Addr) (oe : Obj) (pn : List (Addr × Obj)) (fs : List PV), Zc (.ref (Γ.k.exn n)) (some dx) oe → (∃ vs, oe.data = .fields vs) → SB (Γ.at i a n fs dx) z (X.suite a ((a, oe) :: pn)) (b₀ :: su) (s fs)) (r : SHs Γ z X i x hs l) (hdb : (y == ("__debug__" : Str)) = false) :
      SHs Γ z X i x (.ExceptHandler (some (.Name y p)) (some x) (b₀ :: su) q :: hs) ((n, s) :: l)
theorem SHs.cl {i : Nat} {x : Str} : ∀ {hs : List ExceptHandler} {l : List (Nat × (List PV → Sc))}, SHs Γ z X i x hs l → Clauses X x hs (l.map fun q => (.ref (Γ.k.exn q.1), tSu Γ z i q.1 q.2))
  | _, _, .nil => .nil
  | _, _, .cons hg hm hsu r hdb => .cons ⟨hg, hdb, .inl hm⟩ (fun a oe cls d pn hz hf => ⟨fun pins s σ H D I ⟨fs, dx, h1, h2, h3⟩ => by
      subst h1 h2
      exact (hsu a dx oe pn fs hz hf noW takesF).run pins s σ H D I h3⟩) r.cl
/-- the exceptions ns, told apart by their numbers -/
structure ExMs (k : Kn) (ns : List Nat) : Prop where
  m : ∀ n m, mem n ns = true → mem m ns = true → PySem.W.exmOne k.K (.ref (k.exn n)) (.ref (k.exn m)) = some (Nat.beq n m)
theorem GI.suite {i n : Nat} {a dx : Addr} {fs : List PV} (G : GI Γ g ρ σ H) (hx : Γ.ex = none) (ho : Γ.own.contains i = false) (hi : i < σ.length) (h : XAt Γ.k g ⟨i, a, n, fs, dx⟩) : GI (Γ.at i a n fs dx) g (RK.put ρ i none) (σ.set i (some (.ref a))) H := by
  have G' := G.unset hx ho
  have hi' : i ∉ Γ.own := fun h => by rw [List.contains_iff_mem.mpr h] at ho; cases ho
  have ne : ∀ {j q}, look (RK.put ρ i none) j = some q → i ≠ j := fun h => by
    rcases look_put h with ⟨_, z⟩ | ⟨z, _⟩
    · cases z
    · exact Ne.symm z
  have two : ∀ {j : Nat}, i ≠ j → (σ.set i none)[j]? = (σ.set i (some (V.ref a)))[j]? := fun h => by rw [List.getElem?_set_ne h, List.getElem?_set_ne h]
  refine ⟨G'.wd, G'.gr, fun j q h n => ?_, fun j q h n => ?_, fun j l q q' b hj hl h h' e e' => ?_, by rw [put_length, List.length_set]; exact G.len, G.fl, fun y hy _ => ?_⟩
  · obtain ⟨v, h1, h2⟩ := G'.vars j q h n
    exact ⟨v, by rw [← two (ne h)]; exact h1, h2⟩
  · obtain ⟨b, vs, ps, h1, h2⟩ := G'.owns j q h n
    exact ⟨b, vs, ps, by rw [← two (ne h)]; exact h1, h2⟩
  · rw [← two (ne h)] at e
    rw [← two (ne h')] at e'
    exact G'.inj j l q q' b hj hl h h' e e'
  · cases hy
    exact ⟨by rw [List.getElem?_set_self hi], h⟩
theorem GI.unsuite {i n : Nat} {a dx : Addr} {fs : List PV} (G : GI (Γ.at i a n fs dx) g ρ σ H) (hx : Γ.ex = none) (ho : Γ.own.contains i = false) : GI Γ g (RK.put ρ i none) (σ.set i none) H := by
  have G' : GI Γ g ρ σ H := ⟨G.wd, G.gr, G.vars, G.owns, G.inj, G.len, G.fl, fun y hy => by rw [hx] at hy; cases hy⟩
  exact G'.unset hx ho
theorem any_cons_beq {n m : Nat} {s : List PV → Sc} {l : List (Nat × (List PV → Sc))} : (((m, s) :: l).any fun q => Nat.beq n q.1) = (Nat.beq n m || l.any fun q => Nat.beq n q.1) := rfl
theorem clauses_imp {i n : Nat} {a0 : Addr} {dx : Addr} {fs : List PV} {D : Ends} {ns : List Nat} (hK : X.K = Γ.k.K) (M : ExMs Γ.k ns) (hx : Γ.ex = none) (ho : Γ.own.contains i = false) (hi : i < σ.length) (hn : mem n ns = true) (G : GI Γ g ρ σ H) (hX : XAt Γ.k g ⟨i, a0, n, fs, dx⟩) :
    ∀ {l : List (Nat × (List PV → Sc))}, (l.all fun q => mem q.1 ns) = true → (match l.any (fun q => Nat.beq n q.1) with | true => (tryGo n fs (put ρ i none) l).noexc.bind fun f => .ret (unE i f) | false => .exc n fs).All (RFl Γ z D) (XS Γ W) →
      wClauses X.K i W D (l.map fun q => (.ref (Γ.k.exn q.1), tSu Γ z i q.1 q.2)) (.ref (Γ.k.exn n)) (some dx) σ H
  | [], _, q => by
    obtain ⟨fvs, h1, h2, h3⟩ := hX
    exact (show XS Γ W n fs from q) g σ H _ _ G.wd G.gr ⟨rfl, dx, fvs, rfl, h1, h2, h3⟩
  | (m, s) :: l, hl, q => by
    rw [List.all_cons, Bool.and_eq_true] at hl
    rw [any_cons_beq] at q
    refine ⟨Nat.beq n m, by rw [hK]; exact M.m n m hn hl.1, fun hb => ?_, fun hb a ha => ?_⟩
    · rw [hb, Bool.false_or] at q
      refine clauses_imp hK M hx ho hi hn G hX hl.2 ?_
      cases e : l.any (fun q => Nat.beq n q.1) with
      | false => rw [e] at q; exact q
      | true =>
        rw [e] at q
        have e2 : tryGo n fs (put ρ i none) ((m, s) :: l) = tryGo n fs (put ρ i none) l := by
          show (match Nat.beq n m with | true => s fs (put ρ i none) | false => tryGo n fs (put ρ i none) l) = _
          rw [hb]
        have q : ((tryGo n fs (put ρ i none) ((m, s) :: l)).noexc.bind fun f => .ret (unE i f)).All (RFl Γ z D) (XS Γ W) := q
        rw [e2] at q
        exact q
    · rw [hb, Bool.true_or] at q
      have em : n = m := Nat.eq_of_beq_eq_true hb
      subst em
      have e2 : tryGo n fs (put ρ i none) ((n, s) :: l) = s fs (put ρ i none) := by
        show (match Nat.beq n n with | true => s fs (put ρ i none) | false => tryGo n fs (put ρ i none) l) = _
        rw [hb]
      have q : ((tryGo n fs (put ρ i none) ((n, s) :: l)).noexc.bind fun f => .ret (unE i f)).All (RFl Γ z D) (XS Γ W) := q
      rw [e2] at q
      have hX' : XAt Γ.k g ⟨i, a, n, fs, dx⟩ := hX
      refine ⟨fs, dx, rfl, rfl, g, _, G.suite hx ho hi hX', (Tr.all_noexc (Tr.all_bind.mp q)).mono (fun f qf => ?_) fun _ _ h => h.elim⟩
      cases f with
      | nx ρ' => exact fun g' σ' H' G' => qf g' _ H' (G'.unsuite hx ho)
      | bk ρ' => exact fun g' σ' H' G' => qf g' _ H' (G'.unsuite hx ho)
      | ct ρ' => exact fun g' σ' H' G' => qf g' _ H' (G'.unsuite hx ho)
      | rt v => exact qf
theorem ss_try {i : Nat} {x : Str} {bd : List Stmt} {h0 : ExceptHandler} {hs : List ExceptHandler} {l : List (Nat × (List PV → Sc))} {ns : List Nat} (hK : X.K = Γ.k.K) (M : ExMs Γ.k ns) (hx : Γ.ex = none) (ho : Γ.own.contains i = false) (hst : X.stack = X.env :: X.outer) (hfm : X.env.frame = some X.env.locals) (hN : X.N.Nodup) (hi : X.N[i]? = some x) (hln : X.env.kindOf x = some .local)
    (hb : ∀ (pn : List (Addr × Obj)) (xe : Value → Shared → Prop), PassesOwn (model X.prog X.w) X.A X.env xe → STb Γ z (X.tr pn xe) bd sa) (hh : SHs Γ z X i x (h0 :: hs) l) (hl : (l.all fun q => mem q.1 ns) = true) :
    SS Γ z X (.Try bd (h0 :: hs) [] [] pos) (sTry ns i sa l) := fun W tk => by
  refine ⟨fun pins s σ H D I ⟨g, ρ, G, q⟩ => ?_⟩
  have hlen : i < σ.length := by
    rw [I.len]
    exact (List.getElem?_eq_some_iff.mp hi).1
  refine (try_clauses hst hfm hN hi hln tk (fun W' pn xe tk' hp => hb pn xe hp W' tk') hh.cl).run pins s σ H D I ⟨g, ρ, G, (Tr.all_hand.mp q).mono (fun f h => h) fun n fs h => ?_⟩
  intro g' H' cls d w x' xr
  obtain ⟨hn, h2⟩ := if_all h
  obtain ⟨rfl, dx, fvs, rfl, h3, h4, h5⟩ := xr
  exact clauses_imp (a0 := 0) hK M hx ho hlen hn (G.grow w x') ⟨fvs, h3, h4, h5⟩ hl h2
end
end RK

namespace RK
open PySem PySem.Spec PyProof.Rows L2
abbrev Ic := RK.Env → Tr (List PV)
def assoc (c : Nat) : List (Nat × Nat) → Option Nat
  | [] => none
  | (d, j) :: r => if Nat.beq c d then some j else assoc c r
def oFld (js : List (Nat × Nat)) : PV → Tr PV
  | .ins c fs => (match assoc c js with
    | some j => ofOpt fs[j]?
    | none => .fail)
  | _ => .fail
def cMake (c : Nat) (F : List PV → Tr (List PV)) (ds : List PV) (a : Ac) : Ec := fun ρ => (a ρ).bind fun xs => (F (xs ++ ds)).bind fun fs => .ret (.ins c fs)
def iTwo (a b : Ec) : Ic := fun ρ => (a ρ).bind fun x => (b ρ).bind fun y => .ret [x, y]
def iDrop (a : Ec) (m : Ic) : Ic := fun ρ => (a ρ).bind fun _ => m ρ
def iIf (t : Tc) (a b : Ic) : Ic := fun ρ => (t ρ).bind fun c => match c with
  | true => a ρ
  | false => b ρ
def bodyI (n : Nat) (m : Ic) (args : List PV) : Tr (List PV) := m (none :: (args.map some ++ List.replicate (n - (args.length + 1)) none))
structure FldF (k : Kn) (f : Str) (js : List (Nat × Nat)) : Prop where
  of : ∀ c j, assoc c js = some j → Cls k.K (k.cls c) ∧ NoAttr k.K (k.cls c) f ∧ (k.fld c).findIdx? (fun m => f == m) = some j
section
variable {Γ : Fm} {X : Cx} {e a b d : Expr} {es : List Expr} {c ca cb cc : Ec} {sa sb : Sc} {ma mb : Ic} {aa : Ac} {W : WX} {σ : L2.St} {Q : VK} {pos p : Pos} {z : Md} {g g' g1 g2 : Gh} {H H' H1 H2 : Hp} {ρ : RK.Env} {k : Kn} {E : Nat → List PV → Prop}
theorem lookup_map : ∀ {fs : List (Str × V)} {f : Str} {j : Nat}, ((fs.map Prod.fst).findIdx? fun m => f == m) = some j → fs.lookup f = (fs.map Prod.snd)[j]?
  | [], _, _, h => by cases h
  | (n, v) :: fs, f, j, h => by
    rw [List.map_cons, List.findIdx?_cons] at h
    rw [List.lookup_cons, List.map_cons]
    cases e : f == n with
    | true =>
      simp only [e] at h
      cases h
      rfl
    | false =>
      simp only [e, Bool.false_eq_true, if_false] at h
      obtain ⟨m, h1, rfl⟩ := Option.map_eq_some_iff.mp h
      rw [List.getElem?_cons_succ]
      exact lookup_map h1
theorem se_fld {f : Str} {js : List (Nat × Nat)} (hK : X.K = Γ.k.K) (F : FldF Γ.k f js) (h : SE Γ X e c) (hb : attributeBase e f X.env (eval e X.env) = eval e X.env := by rfl) : SE Γ X (.Attribute e f pos) (cUn (oFld js) c) := fun W tk => (pe_fld (h W tk) hb).imp fun σ H Q ⟨g, ρ, G, q⟩ => ⟨g, ρ, G, (Tr.all_bind.mp q).mono (fun p q1 g1 H1 v w1 x1 r => by
  cases r with
  | @ins cc a dx fs ps h1 h2 h3 h4 =>
    cases ej : assoc cc js with
    | none =>
      have q1 : (match assoc cc js with | some j => ofOpt ps[j]? | none => Tr.fail).All (PZ (zV Γ.k) g H Q) (XW Γ g H σ W) := q1
      rw [ej] at q1
      exact (show False from q1).elim
    | some j =>
      have q1 : (match assoc cc js with | some j => ofOpt ps[j]? | none => Tr.fail).All (PZ (zV Γ.k) g H Q) (XW Γ g H σ W) := q1
      rw [ej] at q1
      have q1 : (ofOpt ps[j]?).All (PZ (zV Γ.k) g H Q) (XW Γ g H σ W) := q1
      cases ep : ps[j]? with
      | none => rw [ep] at q1; exact (show False from q1).elim
      | some p =>
        rw [ep] at q1
        obtain ⟨f1, f2, f3⟩ := F.of cc j ej
        obtain ⟨v, h5, h6⟩ := h4.get' ep
        exact ⟨a, _, dx, fs, v, rfl, w1.sub _ _ h1, by rw [hK]; exact f1, by rw [hK]; exact f2, by rw [lookup_map (by rw [h3]; exact f3)]; exact h5, q1 g1 H1 v w1 x1 h6⟩
  | _ => exact (show False from q1).elim) fun _ _ h => h⟩

structure Slf (Γ : Fm) (g : Gh) (σ : L2.St) (H : Hp) (x dx : Addr) (c : Nat) : Prop where
  at0 : σ[0]? = some (some (.ref x))
  ob : H x = some (.ins (Γ.k.cls c) dx [])
  dc : H dx = some (.own x)
  bx : g.B x = none
  px : ¬ g.P x
  bd : g.B dx = none
  pd : ¬ g.P dx
  nx : Γ.H0 x = none
  nd : Γ.H0 dx = none
  ne : dx ≠ x
theorem Slf.grow {x dx : Addr} {c : Nat} (s : Slf Γ g σ H x dx c) (y : Gr g H g' H') : Slf Γ g' σ H' x dx c := by
  have nb : ∀ {a o}, H a = some o → g.B a = none → g'.B a = none := fun {a o} h1 h2 => by
    cases e : g'.B a with
    | none => rfl
    | some u =>
      rcases y.newB a u e with q | q
      · rw [h2] at q; cases q
      · rw [h1] at q; cases q
  have np : ∀ {a o}, H a = some o → ¬ g.P a → ¬ g'.P a := fun {a o} h1 h2 q => by
    rcases y.newP a q with q | q
    · exact h2 q
    · rw [h1] at q; cases q
  exact ⟨s.at0, y.keep _ _ s.ob s.px, y.keep _ _ s.dc s.pd, nb s.ob s.bx, np s.ob s.px, nb s.dc s.bd, np s.dc s.pd, s.nx, s.nd, s.ne⟩
def RSI (Γ : Fm) (c : Nat) (m : Ic) (W : WX) : TS := fun D σ H => ∃ g ρ x dx, GI Γ g ρ σ H ∧ Slf Γ g σ H x dx c ∧ (m ρ).All (fun ps => ∀ g' σ' H', Wd g' H' → Gr Γ.g0 Γ.H0 g' H' → Rep Γ.k g' (.ins c ps) (.ref x) → D.nx σ' H') (XS Γ W)
def SBI (Γ : Fm) (c : Nat) (X : Cx) (sts : List Stmt) (m : Ic) : Prop := ∀ W, Takes X W → PSs X sts (RSI Γ c m W)
theorem sbi_if {n : Nat} {t : Expr} {as bs : List Stmt} {ct : Tc} (ht : ST Γ X t ct) (ha : SBI Γ n X as ma) (hb : SBI Γ n X bs mb) : SBI Γ n X [.If t as bs pos] (iIf ct ma mb) := fun W tk => (pss_one (ps_if (ht W tk) (ha W tk) (hb W tk))).imp fun D σ H ⟨g, ρ, x, dx, G, S, q⟩ => ⟨g, ρ, G, (Tr.all_bind.mp q).mono (fun b q1 g1 H1 w1 x1 => by
  cases b with
  | true =>
    rw [if_pos rfl]
    exact ⟨g1, ρ, x, dx, G.grow w1 x1, S.grow x1, q1⟩
  | false =>
    rw [if_neg (by decide)]
    exact ⟨g1, ρ, x, dx, G.grow w1 x1, S.grow x1, q1⟩) fun _ _ h => h.xw G⟩
theorem sbi_drop {n : Nat} {sts : List Stmt} (h : SV Γ X e c) (hr : SBI Γ n X sts ma) (hs : swapsWith e none pos.line X.env = pure false := by rfl) : SBI Γ n X (.Expr e pos :: sts) (iDrop c ma) := fun W tk => (pss_cons (ps_expr (h W tk) hs) (hr W tk)).imp fun D σ H ⟨g, ρ, x, dx, G, S, q⟩ => ⟨g, ρ, G, (Tr.all_bind.mp q).mono (fun p q1 g1 H1 v w1 x1 r => ⟨g1, ρ, x, dx, G.grow w1 x1, S.grow x1, q1⟩) fun _ _ h => h.xw G⟩
/-- the object and its dict into the ground -/
theorem Slf.lay {x dx : Addr} {c : Nat} {ps : List PV} {fs : List (Str × V)} (s : Slf Γ g σ H x dx c) (w : Wd g H) (y : Gr Γ.g0 Γ.H0 g H) (hn : fs.map Prod.fst = Γ.k.fld c) (r : Reps Γ.k g ps (fs.map Prod.snd)) :
    ∃ g', Wd g' (upd H x (.ins (Γ.k.cls c) dx fs)) ∧ Gr Γ.g0 Γ.H0 g' (upd H x (.ins (Γ.k.cls c) dx fs)) ∧ Rep Γ.k g' (.ins c ps) (.ref x) := by
  have w1 := w.upd (o := .ins (Γ.k.cls c) dx fs) s.bx s.px
  have y1 := y.upd (o := .ins (Γ.k.cls c) dx fs) s.nx
  have hd : upd H x (.ins (Γ.k.cls c) dx fs) dx = some (.own x) := by rw [upd_ne s.ne]; exact s.dc
  have w2 := w1.add (p := dx) hd s.bd s.pd
  have y2 := y1.add (p := dx) (o := .own x) s.bd s.nd
  have bx2 : (g.add dx (.own x)).B x = none := by
    show upd g.B dx (.own x) x = none
    rw [upd_ne (Ne.symm s.ne)]; exact s.bx
  refine ⟨(g.add dx (.own x)).add x (.ins (Γ.k.cls c) dx fs), w2.add upd_same bx2 s.px, y2.add bx2 s.nx, .ins add_at ?_ hn ((r.mono (.add s.bd)).mono (.add bx2))⟩
  show upd (upd g.B dx (.own x)) x _ dx = some (.own x)
  rw [upd_ne s.ne, upd_same]
def gAt (K : PySem.W.Frag) (i : Nat) (f : Str) : TG := fun v σ H Q => ∃ a C dx fs, σ[i]? = some (some (.ref a)) ∧ H a = some (.ins C dx fs) ∧ Cls K C ∧ NoAttr K C f ∧ fs.length < 1000 ∧ Q σ (upd H a (.ins C dx (putF f v fs)))
theorem pg_at {i : Nat} {x f : Str} {p' : Pos} (hN : X.N[i]? = some x) (hv : Vis X.env.scope x) (hd : (x == ("__debug__" : Str)) = false := by decide) (hcd : (x == ("__classdict__" : Str)) = false := by decide) : PG X (.Attribute (.Name x p') f pos) (gAt X.K i f) := by
  refine ⟨fun pins s σ H v u Q I r ⟨a, C, dx, fs, h1, h2, h3, h4, h5, q⟩ => ?_⟩
  rw [assign_Attribute]
  refine wpAny_bind (wpAny_holding (thn ((pe_var hN hv hd hcd).run pins s σ H (fun w H1 => w = .ref a ∧ H1 = H) I ⟨_, h1, rfl, rfl⟩) fun ov s2 ⟨w, H2, I2, r2, e1, e2⟩ => ?_))
  subst e1 e2
  cases r2
  exact wpAny_bind (wpAny_standAt (wpAny_bind (wpAny_holding (setattr_ok I2 h2 h3 h4 h5 r fun s3 I3 => wpAny_release ⟨σ, _, I3, q⟩))))
theorem putF_two {f1 f2 : Str} {v w : V} (h : (f1 == f2) = false) : putF f2 w (putF f1 v []) = [(f1, v), (f2, w)] := by
  show (if f1 = f2 then _ else _) = _
  rw [if_neg (by simpa using h)]
  rfl
theorem upd_upd {a : Addr} {o u : HO} : upd (upd H a o) a u = upd H a u := by
  funext b
  by_cases h : b = a
  · rw [h, upd_same, upd_same]
  · rw [upd_ne h, upd_ne h, upd_ne h]
/-- self.f, self.h = (e, e') -/
theorem sbi_two {n : Nat} {x f1 f2 : Str} {p1 p2 q1 q2 pt : Pos} {kt k2 pt2} (hK : X.K = Γ.k.K) (hc : X.calm = true) (hf : Γ.k.fld n = [f1, f2]) (h12 : (f1 == f2) = false) (hcl : Cls Γ.k.K (Γ.k.cls n)) (n1 : NoAttr Γ.k.K (Γ.k.cls n) f1) (n2 : NoAttr Γ.k.K (Γ.k.cls n) f2) (hN : X.N[0]? = some x) (hv : Vis X.env.scope x) (ha : SE Γ X a ca) (hb : SE Γ X b cb)
    (hd : (x == ("__debug__" : Str)) = false := by decide) (hcd : (x == ("__classdict__" : Str)) = false := by decide)
    (g1 : (assignEach [.Attribute (.Name x p1) f1 q1, .Attribute (.Name x p2) f2 q2] X.env).map (·.2) = assign (.Attribute (.Name x p1) f1 q1) X.env :: (assignEach [.Attribute (.Name x p2) f2 q2] X.env).map (·.2) := by rfl)
    (g2 : (assignEach [.Attribute (.Name x p2) f2 q2] X.env).map (·.2) = assign (.Attribute (.Name x p2) f2 q2) X.env :: (assignEach [] X.env).map (·.2) := by rfl)
    (g3 : (assignEach [.Attribute (.Name x p1) f1 q1, .Attribute (.Name x p2) f2 q2] X.env).length = 2 := by rfl) (g4 : (assignEach [.Attribute (.Name x p1) f1 q1, .Attribute (.Name x p2) f2 q2] X.env).findIdx? (·.1) = none := by rfl)
    (hs : swapsWithSole [.Tuple [.Attribute (.Name x p1) f1 q1, .Attribute (.Name x p2) f2 q2] kt pt] (.Tuple [a, b] k2 pt2) pos.line X.env = pure false := by rfl) (hw : swappedStores [.Tuple [.Attribute (.Name x p1) f1 q1, .Attribute (.Name x p2) f2 q2] kt pt] (.Tuple [a, b] k2 pt2) X.env = pure none := by rfl)
    (hl : (assignEach [.Tuple [.Attribute (.Name x p1) f1 q1, .Attribute (.Name x p2) f2 q2] kt pt] X.env).map (·.2) = [assign (.Tuple [.Attribute (.Name x p1) f1 q1, .Attribute (.Name x p2) f2 q2] kt pt) X.env] := by rfl)
    (s1 : starEach [a, b] X.env = (false, eval a X.env) :: starEach [b] X.env := by rfl) (s2 : starEach [b] X.env = (false, eval b X.env) :: starEach [] X.env := by rfl) :
    SBI Γ n X [.Assign [.Tuple [.Attribute (.Name x p1) f1 q1, .Attribute (.Name x p2) f2 q2] kt pt] (.Tuple [a, b] k2 pt2) pos] (iTwo ca cb) := fun W tk =>
  (pss_one (ps_asg (se_tup (sa_cons ha (sa_cons hb sa_nil s2) s1) W tk) (pg_tup hc (pgs_cons (pg_at hN hv hd hcd) (pgs_cons (pg_at hN hv hd hcd) pgs_nil g2) g1) g3 g4) hs hw hl)).imp fun D σ H ⟨g, ρ, y, dx, G, S, q⟩ => ⟨g, ρ, G, by
    show ((aCons ca (aCons cb aNil) ρ).bind _).All _ _
    refine Tr.all_bind.mpr (Tr.all_bind.mpr ((Tr.all_bind.mp q).mono (fun q1 al1 => Tr.all_bind.mpr (Tr.all_bind.mpr ((Tr.all_bind.mp al1).mono (fun q2 al2 => ?_) fun _ _ h => h.xw G))) fun _ _ h => h.xw G))
    show PZ (zV Γ.k) g H _ (.tup [q1, q2])
    intro g1 H1 v w1 x1 r
    cases r with
    | tup hq rr =>
      cases rr with
      | cons r1 rr => cases rr with
        | cons r2 rr =>
          cases rr
          have S1 := S.grow x1
          refine ⟨_, _, rfl, by rw [hK]; exact sqT_le w1.sub hq, rfl, _, _, rfl, y, _, dx, [], S1.at0, S1.ob, by rw [hK]; exact hcl, by rw [hK]; exact n1, by decide, _, _, rfl, y, _, dx, _, S1.at0, upd_same, by rw [hK]; exact hcl, by rw [hK]; exact n2, (by show 1 < 1000; decide), rfl, ?_⟩
          rw [putF_two h12, upd_upd]
          obtain ⟨g', w', y', r'⟩ := S1.lay (ps := [q1, q2]) (fs := [(f1, _), (f2, _)]) w1 (G.gr.trans G.wd x1) (by rw [hf]; rfl) (.cons r1 (.cons r2 .nil))
          exact al2 g' σ _ w' y' r'⟩
/-- self.f = e; self.h = e' -/
theorem sbi_seq {n : Nat} {x f1 f2 : Str} {p1 p2 q1 q2 pos2 : Pos} (hK : X.K = Γ.k.K) (hf : Γ.k.fld n = [f1, f2]) (h12 : (f1 == f2) = false) (hcl : Cls Γ.k.K (Γ.k.cls n)) (n1 : NoAttr Γ.k.K (Γ.k.cls n) f1) (n2 : NoAttr Γ.k.K (Γ.k.cls n) f2) (hN : X.N[0]? = some x) (hv : Vis X.env.scope x) {i j : Nat} {xa xb : Str} {pa pb : Pos} (ha : SE Γ X (.Name xa pa) (cVar i)) (hi : X.N[i]? = some xa) (vi : Vis X.env.scope xa) (hoi : Γ.own.contains i = false) (hj : X.N[j]? = some xb) (vj : Vis X.env.scope xb) (hoj : Γ.own.contains j = false)
    (hd : (x == ("__debug__" : Str)) = false := by decide) (hcd : (x == ("__classdict__" : Str)) = false := by decide) (da : (xa == ("__debug__" : Str)) = false := by decide) (cda : (xa == ("__classdict__" : Str)) = false := by decide) (db : (xb == ("__debug__" : Str)) = false := by decide) (cdb : (xb == ("__classdict__" : Str)) = false := by decide)
    (hs : swapsWith (.Name xa pa) (some (.Attribute (.Name x p1) f1 q1)) pos.line X.env = pure false := by rfl) (hs2 : swapsWith (.Name xb pb) (some (.Attribute (.Name x p2) f2 q2)) pos2.line X.env = pure false := by rfl) :
    SBI Γ n X [.Assign [.Attribute (.Name x p1) f1 q1] (.Name xa pa) pos, .Assign [.Attribute (.Name x p2) f2 q2] (.Name xb pb) pos2] (iTwo (cVar i) (cVar j)) := fun W tk =>
  (pss_cons (ps_fld (pe_var hN hv hd hcd) (pe_var hi vi da cda) hs) (pss_one (ps_fld (pe_var hN hv hd hcd) (pe_var hj vj db cdb) hs2))).imp fun D σ H ⟨g, ρ, y, dx, G, S, q⟩ => by
    have q := Tr.all_bind.mp q
    cases ei : look ρ i with
    | none =>
      have q : (ofOpt (look ρ i)).All _ _ := q
      rw [ei] at q
      exact (show False from q).elim
    | some q1 =>
      have q : (ofOpt (look ρ i)).All _ _ := q
      rw [ei] at q
      have q := Tr.all_bind.mp (show ((cVar j ρ).bind fun y => .ret [q1, y]).All _ _ from q)
      cases ej : look ρ j with
      | none =>
        have q : (ofOpt (look ρ j)).All _ _ := q
        rw [ej] at q
        exact (show False from q).elim
      | some q2 =>
        have q : (ofOpt (look ρ j)).All _ _ := q
        rw [ej] at q
        obtain ⟨v, v1, r1⟩ := G.vars i q1 ei (by intro h; rw [List.contains_iff_mem.mpr h] at hoi; cases hoi)
        obtain ⟨w, v2, r2⟩ := G.vars j q2 ej (by intro h; rw [List.contains_iff_mem.mpr h] at hoj; cases hoj)
        refine ⟨v, v1, .ref y, S.at0, y, _, dx, [], rfl, S.ob, by rw [hK]; exact hcl, by rw [hK]; exact n1, by decide, w, v2, .ref y, S.at0, y, _, dx, _, rfl, upd_same, by rw [hK]; exact hcl, by rw [hK]; exact n2, (by show 1 < 1000; decide), ?_⟩
        rw [putF_two h12, upd_upd]
        obtain ⟨g', w', y', r'⟩ := S.lay (ps := [q1, q2]) (fs := [(f1, v), (f2, w)]) G.wd G.gr (by rw [hf]; rfl) (.cons r1 (.cons r2 .nil))
        exact (show ∀ g' σ' H', Wd g' H' → Gr Γ.g0 Γ.H0 g' H' → Rep Γ.k g' (.ins n [q1, q2]) (.ref y) → D.nx σ' H' from q) g' σ _ w' y' r'
def SpI (k : Kn) (c n : Nat) (F : List PV → Tr (List PV)) : Sp := fun vs H Q E => ∃ g H1 x dx args ps, vs = .ref x :: args ∧ H = upd (upd H1 dx (.own x)) x (.ins (k.cls c) dx []) ∧ H1 x = none ∧ H1 dx = none ∧ dx ≠ x ∧ Wd g H1 ∧ Reps k g ps args ∧ args.length = n ∧
  (F ps).All (fun fs => ∀ g' H', Wd g' H' → Gr g H1 g' H' → Rep k g' (.ins c fs) (.ref x) → Q .non H') (fun m fs => ∀ g' H' cls d, Wd g' H' → Gr g H1 g' H' → XRep k g' m fs cls d → E cls d H')
end
end RK

namespace RK
open PySem PySem.Spec PyProof.Rows L2
theorem gi_startI {k : Kn} {g : Gh} {H1 : Hp} {own : List Nat} {ps : List PV} {vs : List V} {N : List Str} {x dx : Addr} {o : HO} (w : Wd g H1) (r : Reps k g ps vs) (hl : vs.length + 1 ≤ N.length) (ho : ∀ i, i < vs.length + 1 → i ∉ own) (hx : H1 x = none) (hd : H1 dx = none) (ne : dx ≠ x) :
    GI ⟨k, own, g, H1, g, none⟩ g (none :: (ps.map some ++ List.replicate (N.length - (ps.length + 1)) none)) (L2.start N (.ref x :: vs)) (upd (upd H1 dx (.own x)) x o) := by
  have hlen := r.length
  have lt : ∀ {i : Nat} {p : PV}, look (none :: (ps.map some ++ List.replicate (N.length - (ps.length + 1)) none)) i = some p → ∃ j, i = j + 1 ∧ j < vs.length ∧ ps[j]? = some p := fun {i p} h => by
    cases i with
    | zero => cases h
    | succ j =>
      have h' : look (ps.map some ++ List.replicate (N.length - (ps.length + 1)) none) j = some p := h
      have := look_start h'
      obtain ⟨h1, _⟩ := List.getElem?_eq_some_iff.mp this
      exact ⟨j, rfl, by omega, this⟩
  have hx2 : upd H1 dx (.own x) x = none := by rw [upd_ne (Ne.symm ne)]; exact hx
  have w1 := w.laid (o := .own x) hd
  refine ⟨w1.laid hx2, (Gr.laid hd).trans w1 (.laid hx2), fun i p h _ => ?_, fun i p h ho' => ?_, fun i j p q a hi _ h _ _ _ => ?_, ?_, .refl g, fun e he => (nomatch he)⟩
  · obtain ⟨j, rfl, h1, h2⟩ := lt h
    obtain ⟨v, h3, h4⟩ := r.get' h2
    refine ⟨v, ?_, h4⟩
    unfold L2.start
    rw [List.map_cons, List.cons_append, List.getElem?_cons_succ, List.getElem?_append_left (by simpa using h1), List.getElem?_map, h3]
    rfl
  · obtain ⟨j, rfl, h1, h2⟩ := lt h
    exact absurd ho' (ho _ (by omega))
  · obtain ⟨j, rfl, h1, h2⟩ := lt h
    exact absurd hi (ho _ (by omega))
  · unfold L2.start
    simp only [List.length_append, List.length_map, List.length_replicate, List.length_cons]
    omega
/-- THE RULE for an __init__ -/
theorem fn_initZ {T : Wh} {x qual : Str} {params : Arguments} {bd : List Stmt} {scope : Scope} {dvs : List V} {kws : List (Str × V)} {f : Addr} {fd : FuncData} {kk : Nat} {N ps : List Str} {kn : Kn} {n c : Nat} {m : Ic} {own : List Nat}
    (D : FunD T.K x qual params bd scope dvs kws f fd) (S : FnScope N ps scope) (hps : ps.length = n + 1) (ho : ∀ i ∈ own, n + 1 ≤ i)
    (hb : ∀ (cdv : Value) (A : Around) (outer : List PySem.Env) (s : Shared) (H : Hp) (E : XK) (g : Gh) (H1 : Hp), Rm kk (A.deeper (envOfC qual scope s.heap.objs.size f cdv)) →
      SBI ⟨kn, own, g, H1, g, none⟩ c (cxOf (L2.CX T.P T.w) T.P T.w T.K T.mg T.base N qual scope f cdv A outer s H E) bd m) : FnG T (kk + 1) f fd ps (SpI kn c n (bodyI N.length m)) := by
  obtain ⟨oc, od, dV, kV, doc, pm, an, cdv, ct, osl, rfl, lk, hcd, _, _⟩ := D.ex
  refine ⟨fun vs H Q E h => by
    obtain ⟨g, H1, y, dx, args, xs, e, _, _, _, _, _, _, l, _⟩ := h
    rw [e, List.length_cons]; omega, fun A outer s H args us vs Q E hr e0 bb r h => ?_⟩
  obtain ⟨g, H1, y, dx, as, xs, e, eH, hy, hdx, ne, wd, rx, l, al⟩ := h
  subst e
  have KX : T.K.In s.heap := e0.mod.kin.keeps fun b o e => (e0.bs b o e).1
  have hkind : ∀ z ∈ ps.zip us, scope.names.lookup z.1 = some .local ∨ (scope.names.lookup z.1 = some .cell ∧ ((cellsFrom (s.heap.objs.size + 1) scope.names []).lookup z.1).isSome = true) := by
    intro z hz
    rcases S.par z.1 (List.of_mem_zip (a := z.1) (b := z.2) hz).1 with q | q
    · exact .inl q
    · exact .inr ⟨q, PySem.W.cellsFrom_some _ _ _ (.inl q)⟩
  refine codeAny_call_function hr.rm.depth (KX _ _ lk) rfl S.co S.gen rfl (PySem.W.codeRec_of KX hcd) (bb _ _ _ _ ?_)
  refine wpAny_newFunctionEnv_cells S.kind hkind fun env he' s1 ic => ?_
  subst he'
  have lim := e0.mod.nolimit.keeps (h' := s.heap) fun b o e => (e0.bs b o e).1
  refine ⟨lim.keeps ic.toInCall.keep, codeAny_func ?_⟩
  have hb' := hb cdv A outer s H E g H1 (hr.deeper _) _ (takes_of (E := E) rfl rfl rfl rfl)
  have I := inv_start (CX := L2.CX T.P T.w) (f := f) (E := E) S hr.rm.hd e0 (by rw [List.length_cons]; omega) r ic
  have hpl : ps.length ≤ N.length := by
    have := congrArg List.length S.pre
    rw [List.length_take] at this
    omega
  have G := gi_startI (k := kn) (own := own) (N := N) (o := .ins (kn.cls c) dx []) wd rx (by omega) (fun i hi hm => by have := ho i hm; omega) hy hdx ne
  rw [← eH] at G
  have hx2 : upd H1 dx (.own y) y = none := by rw [upd_ne (Ne.symm ne)]; exact hy
  have SL : Slf ⟨kn, own, g, H1, g, none⟩ g (L2.start N (.ref y :: as)) H y dx c := by
    refine ⟨rfl, by rw [eH]; exact upd_same, by rw [eH, upd_ne ne, upd_same], wd.none_b hy, wd.none_p hy, wd.none_b hdx, wd.none_p hdx, hy, hdx, ne⟩
  refine wpAny_mono (hb'.run [] s1 _ H { nx := fun _ H' => Q .non H', rt := Q } I ⟨g, _, y, dx, G, SL, al.mono (fun fs q g' σ' H' w x' r' => q g' H' w x' r') fun m fs q g' σ' H' cls d w x' xr => q g' H' cls d w x' xr⟩) (fun fl s' hs => ?_) fun e s' h => h
  cases fl with
  | ret u =>
    obtain ⟨v, σ', H', J, rv, q⟩ := hs
    exact ⟨v, H', J.os, J.bare, J.base, J.hok, rv, q⟩
  | next =>
    obtain ⟨σ', H', J, q⟩ := hs
    exact ⟨.non, H', J.os, J.bare, J.base, J.hok, rfl, q⟩
  | brk => exact (let ⟨_, _, _, q⟩ := hs; False.elim q)
  | cont => exact (let ⟨_, _, _, q⟩ := hs; False.elim q)
section
variable {Γ : Fm} {X : Cx} {e a b d : Expr} {es : List Expr} {c ca cb cc : Ec} {aa : Ac} {W : WX} {σ : L2.St} {Q : VK} {pos p : Pos} {z : Md} {g g' g1 g2 : Gh} {H H' H1 H2 : Hp} {ρ : RK.Env} {k : Kn} {E : Nat → List PV → Prop} {T : Wh} {kk n m : Nat} {f : Addr} {fd : FuncData} {ps : List Str} {F : List PV → Tr (List PV)} {ds : List Value} {dvs : List V} {dps : List PV} {x : Str}
theorem Rm.make {A : Around} (r : Rm (kk + 1) A) (C : Addr) (us : List Value) (kw : List (Str × Value)) : Rm kk (A.under (.builtin "type.__call__" ⟨.ref C :: us, kw⟩)) := ⟨r.rm.make C us kw, r.gd⟩
/-- C(..) runs -/
theorem run_makeG {s : Shared} {pins : List (Addr × Obj)} {us : List Value} {vs : List V} {sp : Sp} {C : Addr} (M : Mk X.K C f) (hT : T.has X) (G : FnG T kk f fd ps sp) (hr : Rm (kk + 1) X.A) (hb : Binds X.K fd ps ds) (hd : Vals dvs ds) (tk : Takes X W) (I : Inv X pins σ H s) (r : Vals vs us)
    (h : ∀ x dx, H x = none → H dx = none → dx ≠ x → sp (.ref x :: (vs ++ dvs)) (upd (upd H dx (.own x)) x (.ins C dx [])) (fun v H2 => v = .non ∧ Q (.ref x) H2) (WE W σ)) :
    wpAny (model X.prog X.w) X.A (call (.ref C) us) (EP X pins σ Q) X.xe s := by
  obtain ⟨h1, h2, h3, h4, h5⟩ := hT
  obtain ⟨P, w, K, mg, base⟩ := T
  simp only at h1 h2 h3 h4 h5
  subst h1 h2 h3 h4 h5
  have hq := h (s.heap.objs.size + 1) s.heap.objs.size (I.hok.fresh (Nat.le_succ _)) (I.hok.fresh (Nat.le_refl _)) (Nat.ne_of_lt (Nat.lt_succ_self _))
  have I2 := Inv.made (C := C) I
  have r2 : Vals (V.ref (s.heap.objs.size + 1) :: (vs ++ dvs)) (Value.ref (s.heap.objs.size + 1) :: (us ++ ds)) := .cons rfl (r.append hd)
  have hl : (Value.ref (s.heap.objs.size + 1) :: us ++ ds).length = ps.length := by
    have e := r2.length
    rw [G.len _ _ _ _ hq] at e
    exact e.symm
  refine wpAny_call (make_map (f := f) I.kIn M.makes M.init (beq_iff_eq.mp M.fn) (codeAny_mono (G.run _ X.stack _ _ ⟨Value.ref (s.heap.objs.size + 1) :: us, []⟩ (Value.ref (s.heap.objs.size + 1) :: (us ++ ds)) _ _ (WE W σ) (hr.make C us []) (I2.env0.make C us []) (hb _ (Value.ref (s.heap.objs.size + 1) :: us) I2.kIn hl) r2 hq) fun r s' hq' => ?_))
  cases r with
  | error e => exact passAt tk σ pins _ _ e s' I2 hq'
  | ok fl =>
    cases fl with
    | ret u =>
      obtain ⟨v, H', I3, rv, ev, q3⟩ := I2.after hq'
      subst ev
      exact ⟨rv, ⟨V.ref (s.heap.objs.size + 1), H', I3, rfl, q3⟩⟩
    | next => exact False.elim hq'
    | brk => exact False.elim hq'
    | cont => exact False.elim hq'
theorem se_make (hT : T.has X) (M : Mk X.K (Γ.k.cls m) f) (G : FnG T kk f fd ps (SpI Γ.k m n F)) (hr : Rm (kk + 1) X.A) (hg : Gl X x) (hm : X.mg x = some (.ref (Γ.k.cls m))) (hb : Binds X.K fd ps ds) (hd : Vals dvs ds) (hdp : ∀ g, Reps Γ.k g dps dvs) (ha : SA Γ X (e :: es) aa) (hln : (e :: es).length + dvs.length = n)
    (hdb : (x == ("__debug__" : Str)) = false := by decide) (he : starEach (e :: es) X.env = (false, eval e X.env) :: starEach es X.env := by rfl) (hpl : (backTo pos (starEach es X.env)).any (·.1) = false := by rfl) :
    SE Γ X (.Call (.Name x p) (e :: es) [] pos) (cMake m F dps aa) := fun W tk => by
  refine ⟨fun pins s σ H Q I ⟨g, ρ, Gi, q⟩ => ?_⟩
  refine wpAny_Call_Name_kw (ld_glob I hg hm ?_ hdb)
  refine PySem.W.callWith_K (h₀ := X.base) I.ok.mod.kin M.kp (thn ((ha W tk).run pos pins s σ H (fun vs H1 => ∀ x dx, H1 x = none → H1 dx = none → dx ≠ x → SpI Γ.k m n F (.ref x :: (vs ++ dvs)) (upd (upd H1 dx (.own x)) x (.ins (Γ.k.cls m) dx [])) (fun v H2 => v = .non ∧ Q (.ref x) H2) (WE W σ)) I
    ⟨g, ρ, Gi, (Tr.all_bind.mp q).mono (fun xs h hl g1 H1 vs w1 x1 r y dx hy hdx ne => ?_) fun _ _ h => h⟩) fun us s1 ⟨vs, H1, I1, r, q1⟩ => ⟨I1.kIn, run_makeG M hT G hr hb hd tk I1 r q1⟩) he hpl
  refine ⟨g1, H1, y, dx, vs ++ dvs, xs ++ dps, rfl, rfl, hy, hdx, ne, w1, r.append (hdp g1), by rw [List.length_append, ← r.length, hl]; exact hln, (Tr.all_bind.mp h).mono (fun fs q2 g' H' w x' rr => ⟨rfl, ?_⟩) fun mm fs q2 g' H' cls d w x' xr => q2 g' H' cls d w (x1.trans w1 x') xr⟩
  exact (show PZ (zV Γ.k) g H Q (.ins m fs) from q2) g' H' _ w (x1.trans w1 x') rr
end
end RK

namespace RK
open PySem PySem.Spec PyProof.Rows L2
mutual
/-- no text of p is longer -/
def txLen : PV → Option Nat
  | .str l => some l.length
  | .rp p => if reprOk p then some (50 * wtP p + 48) else none
  | .si i => if intOk i then some 48 else none
  | .js ps => txLens ps
  | _ => none
def txLens : List PV → Option Nat
  | [] => some 0
  | p :: ps => match txLen p, txLens ps with
    | some a, some b => some (a + b)
    | _, _ => none
end
def lenOk (o : Option Nat) : Bool := match o with
  | some n => Nat.ble n 16777216
  | none => false
def oReprI (F : List PV → Tr PV) : PV → Tr PV
  | .ins c fs => (F [.ins c fs]).bind fun t => if isTl t then .ret t else .fail
  | _ => .fail
def oReprM (m : Nat) (F : List PV → Tr PV) : PV → Tr PV
  | .ins n fs => if Nat.beq n m then oReprI F (.ins m fs) else .fail
  | _ => .fail
def oFmt : PV → Tr PV
  | .int i => if intOk i then .ret (.si i) else .fail
  | p => if lenOk (txLen p) then .ret p else .fail
def jGo : List Ec → List PV → Nat → Ec
  | [], ps, _ => fun _ => .ret (.js ps)
  | c :: cs, ps, n => fun ρ => (c ρ).bind fun p => match txLen p with
    | some m => if Nat.ble (n + m) 16777216 then jGo cs (ps ++ [p]) (n + m) ρ else .fail
    | none => .fail
def cJoin (cs : List Ec) : Ec := jGo cs [] 0
theorem len_app (a b : Str) : (a ++ b).length = a.length + b.length := by
  obtain ⟨⟨a⟩⟩ := a
  obtain ⟨⟨b⟩⟩ := b
  show ((⟨a⟩ : Array Nat) ++ ⟨b⟩).size = _
  simp [Str.length]
theorem app_assoc (a b c : Str) : a ++ b ++ c = a ++ (b ++ c) := by
  obtain ⟨⟨a⟩⟩ := a
  obtain ⟨⟨b⟩⟩ := b
  obtain ⟨⟨c⟩⟩ := c
  show (⟨((⟨a⟩ : Array Nat) ++ ⟨b⟩) ++ ⟨c⟩⟩ : Str) = ⟨(⟨a⟩ : Array Nat) ++ ((⟨b⟩ : Array Nat) ++ ⟨c⟩)⟩
  rw [Array.append_assoc]
theorem app_empty (a : Str) : a ++ Str.empty = a := by
  obtain ⟨⟨a⟩⟩ := a
  show (⟨(⟨a⟩ : Array Nat) ++ #[]⟩ : Str) = ⟨⟨a⟩⟩
  simp
theorem empty_app (a : Str) : Str.empty ++ a = a := by
  obtain ⟨⟨a⟩⟩ := a
  show (⟨#[] ++ (⟨a⟩ : Array Nat)⟩ : Str) = ⟨⟨a⟩⟩
  simp
theorem cats_cons (p : PV) (ps : List PV) : cats (p :: ps) = textOf p ++ cats ps := by simp only [cats, textOf]
mutual
theorem txLen_ok : ∀ {p : PV} {n : Nat}, txLen p = some n → isTl p = true ∧ (textOf p).length ≤ n
  | .str l, n, h => by
    simp only [txLen] at h
    cases h
    exact ⟨rfl, by simp only [textOf, toD]; exact Nat.le_refl _⟩
  | .rp p, n, h => by
    simp only [txLen] at h
    split at h
    · rename_i ok
      cases h
      have ok' := ok
      unfold reprOk at ok'
      rw [Bool.and_eq_true, Bool.and_eq_true] at ok'
      have a := PyData.shown_le 48 (by decide) (toD p) (r_short ok'.1.1)
      have b := r_wt ok'.1.1
      refine ⟨rfl, ?_⟩
      rw [shown_txt]
      omega
    · cases h
  | .si i, n, h => by
    simp only [txLen] at h
    split at h
    · rename_i ok
      cases h
      refine ⟨rfl, ?_⟩
      have := intOk_len ok
      rw [PyData.shown_int] at this
      simp only [textOf, toD]
      exact this
    · cases h
  | .js ps, n, h => by
    simp only [txLen] at h
    obtain ⟨h1, h2⟩ := txLens_ok h
    exact ⟨rfl, by simp only [textOf, toD]; exact h2⟩
  | .non, _, h | .bl _, _, h | .int _, _, h | .tup _, _, h | .lst _, _, h | .dct _ _, _, h | .ins _ _, _, h | .pot, _, h | .scr _, _, h | .exv _ _, _, h | .clo _ _, _, h => by simp only [txLen] at h; cases h
theorem txLens_ok : ∀ {ps : List PV} {n : Nat}, txLens ps = some n → (∀ p ∈ ps, isTl p = true) ∧ (cats ps).length ≤ n
  | [], n, h => by
    simp only [txLens] at h
    cases h
    exact ⟨fun _ h => (nomatch h), by simp only [cats]; exact Nat.le_refl 0⟩
  | p :: ps, n, h => by
    simp only [txLens] at h
    split at h
    · rename_i a b h1 h2
      cases h
      obtain ⟨a1, a2⟩ := txLen_ok h1
      obtain ⟨b1, b2⟩ := txLens_ok h2
      refine ⟨fun q hq => ?_, ?_⟩
      · rcases List.mem_cons.mp hq with rfl | hq
        · exact a1
        · exact b1 q hq
      · rw [cats_cons, len_app]
        omega
    · cases h
end
theorem lenOk_ok {o : Option Nat} (h : lenOk o = true) : ∃ n, o = some n ∧ n ≤ sizeLine := by
  cases o with
  | none => cases h
  | some n => exact ⟨n, rfl, by rw [sizeLine_eq]; exact Nat.le_of_ble_eq_true h⟩
section
variable {Γ : Fm} {X : Cx} {e a b d : Expr} {es : List Expr} {c ca cb cc : Ec} {aa : Ac} {W : WX} {σ : L2.St} {Q : VK} {pos p : Pos} {z : Md} {g g' g1 g2 : Gh} {H H' H1 H2 : Hp} {ρ : RK.Env} {k : Kn} {E : Nat → List PV → Prop} {T : Wh} {kk n m : Nat} {f : Addr} {fd : FuncData} {ps : List Str} {F : List PV → Tr PV}
/-- a text, as a value -/
theorem Rep.tx {p : PV} {v : V} (r : Rep k g p v) (h : isTl p = true) : v = .str (textOf p) := by
  cases r with
  | str l => simp only [textOf, toD]
  | rp p => rfl
  | si i => rfl
  | js ps => rfl
  | _ => cases h
theorem se_fmt (h : SE Γ X e c) : SE Γ X (.FormattedValue e (-1) none pos) (cUn oFmt c) := fun W tk => (pe_fmt (h W tk)).imp fun σ H Q ⟨g, ρ, G, q⟩ => ⟨g, ρ, G, (Tr.all_bind.mp q).mono (fun p q1 g1 H1 v w1 x1 r => by
  by_cases hi : ∃ i, p = .int i
  · obtain ⟨i, rfl⟩ := hi
    cases r
    obtain ⟨h1, h2⟩ := if_all q1
    have h2 : PZ (zV Γ.k) g H Q (.si i) := h2
    have e : (toString i : Str) = textOf (.si i) := by simp only [textOf, toD]
    refine .inr ⟨i, rfl, by have := intOk_log h1; omega, ?_⟩
    rw [show (Str.ofString (toString i)) = textOf (.si i) by simp only [textOf, toD]]
    exact h2 g1 H1 _ w1 x1 (.si i)
  · have q2 : (if lenOk (txLen p) = true then Tr.ret p else .fail).All (PZ (zV Γ.k) g H Q) (XW Γ g H σ W) := by
      cases p with
      | int i => exact absurd ⟨i, rfl⟩ hi
      | _ => exact q1
    obtain ⟨h1, h2⟩ := if_all q2
    obtain ⟨n, h3, h4⟩ := lenOk_ok h1
    obtain ⟨h5, h6⟩ := txLen_ok h3
    exact .inl ⟨textOf p, r.tx h5, by omega, by rw [← r.tx h5]; exact (show PZ (zV Γ.k) g H Q p from h2) g1 H1 v w1 x1 r⟩) fun _ _ h => h⟩
/-- the parts of an f-string -/
inductive SJs (Γ : Fm) (X : Cx) : List Expr → List Ec → Prop where
  | nil : SJs Γ X [] []
  | cons {e : Expr} {c : Ec} {es : List Expr} {cs : List Ec} : SE Γ X e c → SJs Γ X es cs → SJs Γ X (e :: es) (c :: cs)
theorem SJs.pj (tk : Takes X W) : ∀ {es : List Expr} {cs : List Ec}, SJs Γ X es cs → PJ X es (cs.map fun c => RX Γ (zV Γ.k) c W)
  | _, _, .nil => .nil
  | _, _, .cons h r => .cons (h W tk) (r.pj tk)
theorem cats_snoc : ∀ (ps : List PV) (p : PV), cats (ps ++ [p]) = cats ps ++ textOf p
  | [], p => by rw [List.nil_append, cats_cons]; simp only [cats]; rw [app_empty, empty_app]
  | q :: ps, p => by rw [List.cons_append, cats_cons, cats_snoc ps p, cats_cons, app_assoc]
theorem js_txt (ps : List PV) : textOf (.js ps) = cats ps := by simp only [textOf, toD]
theorem js_all {R : Str → Hp → Prop} {P : PV → Prop} {g0 : Gh} {H0 : Hp} (hP : ∀ ps g' H', Wd g' H' → Gr g0 H0 g' H' → P (.js ps) → R (cats ps) H') : ∀ {cs : List Ec} {ps : List PV} {n : Nat} {H : Hp} {g : Gh} {ρ : RK.Env}, GI Γ g ρ σ H → Gr g0 H0 g H → (cats ps).length ≤ n → (jGo cs ps n ρ).All P (XW Γ g H σ W) → tJs (cs.map fun c => RX Γ (zV Γ.k) c W) (cats ps) σ H R
  | [], ps, n, H, g, ρ, G, y, hl, q => hP ps g H G.wd y q
  | c :: cs, ps, n, H, g, ρ, G, y, hl, q => by
    refine ⟨g, ρ, G, (Tr.all_bind.mp (show ((c ρ).bind _).All _ _ from q)).mono (fun p q1 g1 H1 v w1 x1 r => ?_) fun _ _ h => h⟩
    cases e : txLen p with
    | none =>
      simp only [e] at q1
      exact (show False from q1).elim
    | some m =>
      simp only [e] at q1
      obtain ⟨h1, h2⟩ := if_all q1
      have h1 := Nat.le_of_ble_eq_true h1
      obtain ⟨h3, h4⟩ := txLen_ok e
      refine ⟨textOf p, r.tx h3, by rw [len_app, sizeLine_eq]; omega, ?_⟩
      rw [← cats_snoc]
      exact js_all hP (n := n + m) (G.grow w1 x1) (y.trans G.wd x1) (by rw [cats_snoc, len_app]; omega) (h2.mono (fun _ h => h) fun _ _ h => h.grow G w1 x1)
theorem se_join {v1 v2 : Expr} {rest : List Expr} {cs : List Ec} (h : SJs Γ X (v1 :: v2 :: rest) cs) : SE Γ X (.JoinedStr (v1 :: v2 :: rest) pos) (cJoin cs) := fun W tk => (pe_joined (h.pj tk)).imp fun σ H Q ⟨g, ρ, G, q⟩ => by
  have e0 : Str.empty = cats [] := by simp only [cats]
  rw [e0]
  refine js_all (P := PZ (zV Γ.k) g H Q) (R := fun out H1 => Q (.str out) H1) (fun ps g' H' w x h => ?_) (ps := []) (n := 0) G (.refl g H) (by simp only [cats]; exact Nat.le_refl 0) q
  have := h g' H' _ w x (.js ps)
  rw [js_txt] at this
  exact this
structure RprF (k : Kn) (m : Nat) (f : Addr) : Prop where
  hs : PySem.W.findIn k.K (.ref (k.cls m)) "__repr__" = some (some (.ref f))
  hf : PySem.W.isFn k.K (.ref f) = true
theorem Rm.in1 {A : Around} (r : Rm (kk + 1) A) : Rm kk A.in1 := ⟨r.rm.in1, r.gd⟩
theorem call_reprI (hT : T.has X) (hK : X.K = k.K) (R : RprF k m f) (G : FnG T kk f fd ps (SpC k (zV k) 1 F)) (hr : Rm (kk + 1) X.A) (hb : Binds X.K fd ps []) (hps : ps.length = 1) (tk : Takes X W) {pins : List (Addr × Obj)} {s : Shared} {a : Addr} {pfs : List PV} (I : Inv X pins σ H s) (w : Wd g H) (rp : Rep k g (.ins m pfs) (.ref a))
    (q : (oReprI F (.ins m pfs)).All (PZ (zV k) g H Q) (fun n fs => ∀ g' H' cls d, Wd g' H' → Gr g H g' H' → XRep k g' n fs cls d → WE W σ cls d H')) : wpAny (model X.prog X.w) X.A (call (.builtin "repr") [.ref a]) (EP X pins σ Q) X.xe s := by
  have hT' := hT
  obtain ⟨h1, h2, h3, h4, h5⟩ := hT
  obtain ⟨P, w0, K, mg, base⟩ := T
  simp only at h1 h2 h3 h4 h5
  subst h1 h2 h3 h4 h5
  obtain ⟨m0, fr⟩ := I.fr
  cases rp with
  | @ins _ _ dx fs _ hb1 hb2 hb3 hb4 =>
    obtain ⟨mA, O, _⟩ := ins_get I.hok (w.sub _ _ hb1)
    obtain ⟨od, J, _⟩ := O.look
    have hu : X.A.in1.units < cLine := hr.rm.in1.units0
    refine PySem.W.repr_K hu fr I.ok.mod.kin J (by rw [hK]; exact R.hs) (by rw [hK]; exact R.hf) ?_
    have b := hb s [.ref a] I.kIn (by rw [hps]; rfl)
    rw [List.append_nil] at b
    have rA : Rep k g (.ins m pfs) (.ref a) := .ins hb1 hb2 hb3 hb4
    have sp : SpC k (zV k) 1 F [V.ref a] H (fun v H' => ∃ t, v = .str t ∧ Q v H') (WE W σ) := ⟨g, [.ins m pfs], w, .cons rA .nil, rfl, (Tr.all_bind.mp q).mono (fun t ht g' H' v w' x' r' => by
      obtain ⟨h1, h2⟩ := if_all ht
      have e := r'.tx h1
      exact ⟨_, e, (show PZ (zV k) g H Q t from h2) g' H' v w' x' r'⟩) fun _ _ h => h⟩
    refine wpAny_call (codeAny_mono (G.run X.A.in1 X.stack s H ⟨[.ref a], []⟩ [.ref a] [V.ref a] _ (WE W σ) hr.in1 I.env0.in1 b (.cons rfl .nil) sp) fun r s' hq => ?_)
    cases r with
    | error e => exact passAt tk σ pins H s e s' I hq
    | ok fl =>
      cases fl with
      | ret u =>
        obtain ⟨v, H', I3, rv, t, ev, q3⟩ := I.after hq
        subst ev
        obtain ⟨tt, rfl⟩ := rv
        exact ⟨V.str t, H', I3, ⟨tt, rfl⟩, q3⟩
      | next => exact False.elim hq
      | brk => exact False.elim hq
      | cont => exact False.elim hq
theorem se_reprI (hT : T.has X) (hK : X.K = Γ.k.K) (R : RprF Γ.k m f) (G : FnG T kk f fd ps (SpC Γ.k (zV Γ.k) 1 F)) (hr : Rm (kk + 1) X.A) (hb : Binds X.K fd ps []) (hps : ps.length = 1) (hg : Gl X "repr") (hm : X.mg "repr" = none) (h : SE Γ X e c)
    (hs : starEach [e] X.env = (false, eval e X.env) :: starEach [] X.env := by rfl) (hpl : (backTo pos (starEach [] X.env)).any (·.1) = false := by rfl) :
    SE Γ X (.Call (.Name "repr" p) [e] [] pos) (cUn (oReprM m F) c) := fun W tk => by
  refine ⟨fun pins s σ H Q I ⟨g, ρ, Gi, q⟩ => ?_⟩
  refine wpAny_Call_Name_kw (ld_blt I hg hm (show bootBuiltins "repr" = some (.builtin "repr") by decide +kernel) ?_ (by decide) (by decide))
  refine PyProof.Rows.callWith_builtin1 (thn ((pa1 (h W tk) hs).run pos pins s σ H (fun vs H1 => ∃ g1 a pfs, vs = [.ref a] ∧ Wd g1 H1 ∧ Rep Γ.k g1 (.ins m pfs) (.ref a) ∧ (oReprI F (.ins m pfs)).All (PZ (zV Γ.k) g1 H1 Q) (fun n fs => ∀ g' H' cls d, Wd g' H' → Gr g1 H1 g' H' → XRep Γ.k g' n fs cls d → WE W σ cls d H')) I ⟨g, ρ, Gi, (Tr.all_bind.mp q).mono (fun v q1 g1 H1 x w1 x1 r => ?_) fun _ _ h => h⟩) fun us s1 hh => ?_) hs hpl
  · cases r with
    | @ins n a dx fs pfs r1 r2 r3 r4 =>
      obtain ⟨e, q2⟩ := if_all q1
      have e := Nat.eq_of_beq_eq_true e
      subst e
      exact ⟨g1, a, pfs, rfl, w1, .ins r1 r2 r3 r4, q2.mono (fun _ h => h.gr w1 x1) fun m fs h g' H' cls d w x xr => h g' H' cls d w (x1.trans w1 x) xr⟩
    | _ => exact (show False from q1).elim
  · obtain ⟨vs, H1, I1, rv, g1, a, pfs, rfl, w1, ra, q1⟩ := hh
    obtain ⟨u, rfl, ru⟩ := vals1 rv
    cases ru
    exact call_reprI hT hK R G hr hb hps tk I1 w1 ra q1
end
end RK

namespace RK
open PySem PySem.Spec PyProof.Rows L2
section
variable {Γ : Fm} {X : Cx} {e : Expr} {c : Ec} {W : WX} {σ : L2.St} {pos : Pos} {z : Md} {g g' : Gh} {H H' : Hp} {ρ : RK.Env}
/-- a list of one's own becomes a value -/
theorem GI.give {i : Nat} (G : GI Γ g ρ σ H) : ∃ g', GI { Γ with own := Γ.own.filter fun j => !Nat.beq j i } g' ρ σ H := by
  have sub : ∀ {j}, j ∈ Γ.own.filter (fun j => !Nat.beq j i) → j ∈ Γ.own ∧ j ≠ i := fun {j} h => by
    obtain ⟨h1, h2⟩ := List.mem_filter.mp h
    exact ⟨h1, fun e => by rw [e, Nat.beq_refl] at h2; cases h2⟩
  have back : ∀ {j}, j ∈ Γ.own → j ≠ i → j ∈ Γ.own.filter (fun j => !Nat.beq j i) := fun {j} h n => List.mem_filter.mpr ⟨h, by
    cases e : Nat.beq j i with
    | false => rfl
    | true => exact absurd (Nat.eq_of_beq_eq_true e) n⟩
  by_cases hi : i ∈ Γ.own
  · cases el : look ρ i with
    | none =>
      refine ⟨g, G.wd, G.gr, fun j p h n => ?_, fun j p h n => G.owns j p h (sub n).1, fun j l p q a hj hl => G.inj j l p q a (sub hj).1 (sub hl).1, G.len, G.fl, G.exf⟩
      by_cases hj : j ∈ Γ.own
      · have : j = i := by
          by_cases q : j = i
          · exact q
          · exact absurd (back hj q) n
        rw [this, el] at h
        cases h
      · exact G.vars j p h hj
    | some p =>
      obtain ⟨a, vs, ps, h1, h2, h3, h4, h5, h6, h7⟩ := G.owns i p el hi
      subst h2
      refine ⟨g.add a (.lst vs), G.wd.add h3 h5 h4, G.gr.add h5 h6, fun j q h n => ?_, fun j q h n => ?_, fun j l p q b hj hl => G.inj j l p q b (sub hj).1 (sub hl).1, G.len, G.fl.trans (.add h5), fun x hx hn => ?_⟩
      · by_cases hj : j ∈ Γ.own
        · have e : j = i := by
            by_cases q : j = i
            · exact q
            · exact absurd (back hj q) n
          subst e
          rw [el] at h
          cases h
          exact ⟨_, h1, .lst add_at (h7.mono (.add h5))⟩
        · obtain ⟨v, k1, k2⟩ := G.vars j q h hj
          exact ⟨v, k1, k2.mono (.add h5)⟩
      · obtain ⟨hj, hne⟩ := sub n
        obtain ⟨b, us, qs, k1, k2, k3, k4, k5, k6, k7⟩ := G.owns j q h hj
        refine ⟨b, us, qs, k1, k2, k3, k4, ?_, k6, k7.mono (.add h5)⟩
        show L2.upd g.B a (.lst vs) b = none
        rw [upd_ne (fun q' => hne ?_)]
        · exact k5
        · subst q'
          exact G.inj j i _ _ b hj hi h el k1 h1
      · obtain ⟨k1, k2⟩ := G.exf x hx hn
        exact ⟨k1, k2.mono (.add h5)⟩
  · have e : Γ.own.filter (fun j => !Nat.beq j i) = Γ.own := List.filter_eq_self.mpr fun j hj => by
      cases q : Nat.beq j i with
      | false => rfl
      | true => exact absurd (by rw [← Nat.eq_of_beq_eq_true q]; exact hj) hi
    rw [e]
    exact ⟨g, G.wd, G.gr, G.vars, G.owns, G.inj, G.len, G.fl, G.exf⟩
/-- ahead of a return -/
theorem ss_give {st : Stmt} (i : Nat) (h : SS { Γ with own := Γ.own.filter fun j => !Nat.beq j i } z X st (sRet c)) : SS Γ z X st (sRet c) := fun W tk => (h W tk).imp fun D σ H ⟨g, ρ, G, q⟩ => by
  obtain ⟨g', G'⟩ := G.give (i := i)
  exact ⟨g', ρ, G', Tr.all_bind.mpr ((Tr.all_bind.mp q).mono (fun p q1 => q1) fun _ _ h => h)⟩
end

def fdOf (K : PySem.W.Frag) (p : Str × Option Str) : FuncData := match K.lookup (He.fAd K p) with
  | some ⟨_, _, .func fd, _⟩ => fd
  | _ => PySem.W.fnOf "" "" ⟨[], [], none, [], [], none, []⟩ [] ⟨.function, [], false, false, []⟩ .none .none .none .none none .none .none
theorem def_at {fa : List He.Fa} {fn : List He.DefD} {K : PySem.W.Frag} (c : He.SaysD fa fn K) (i : Nat) {d : He.DefD} (h : fn[i]? = some d) : FunD K d.name d.qual d.params d.body d.scope (d.dvs K) (d.kws K) (He.fAd K d.at_) (fdOf K d.at_) := by
  obtain ⟨fd, F⟩ := c.def_ i h
  have e : fdOf K d.at_ = fd := by
    obtain ⟨oc, od, dV, kV, doc, pm, an, cdv, ct, osl, _, lk, _⟩ := F.ex
    unfold fdOf
    rw [lk]
  rw [e]
  exact F
/-- the part of the heap: with sys.modules -/
def asX (g : Addr → Option Obj) (n : Nat) : List Addr := sysModules :: He.asD g n
abbrev AlX : Type := He.AlD × Bool
def obsX (fa : List He.Fa) (fn : List He.DefD) (ex : PySem.W.Frag → Bool) (K : PySem.W.Frag) : AlX := (He.obsD fa fn K, ex K)
def obsXG (n : Nat) (fa : List He.Fa) (fn : List He.DefD) (ex : PySem.W.Frag → Bool) (g : Addr → Option Obj) : AlX := obsX fa fn ex (He.frG g (asX g n))
def hookX (n : Nat) (fa : List He.Fa) (fn : List He.DefD) (ex : PySem.W.Frag → Bool) : PySem.W.Hook where
  α := AlX
  obs := fun s => obsXG n fa fn ex s.heap.get?
  val := fun _ => (He.valD fn, true)
  says := fun _ h => ∃ K : PySem.W.Frag, K.In h ∧ He.SaysD fa fn K ∧ ex K = true
  of := fun _ _ e => ⟨_, He.frG_in, congrArg Prod.fst e, congrArg Prod.snd e⟩
  keeps := fun _ _ _ ⟨K, hK, c⟩ k => ⟨K, PySem.W.Frag.In.keeps hK k, c⟩
theorem obsXG_eq {n : Nat} {fa : List He.Fa} {fn : List He.DefD} {ex : PySem.W.Frag → Bool} {g : Addr → Option Obj} {s : Shared} (h : ∀ a, g a = s.heap.get? a) : obsXG n fa fn ex g = (hookX n fa fn ex).obs s := by
  have e : g = s.heap.get? := funext h
  rw [e] <;> rfl

theorem noExc {P : Program} {w : World} {outer : List PySem.Env} {H : Hp} {s s' : Shared} {u : Value} (h : L2.CX P w outer H s (fun _ _ _ => False) u s') : False := by
  obtain ⟨_, _, _, _, _, _, _, _, _, _, _, _, z⟩ := h
  exact z
/-- the law's call, from a promise that asks for no guards -/
theorem law_run {P : Program} {w : World} {K : PySem.W.Frag} {mg mb : Str → Option Value} {k : Nat} {fa a : Addr} {fd : FuncData} {x : Str} {kn : Kn} {F : List PV → Tr PV} {s : Shared} {vs : List Value} {ns : List Int}
    (KX : K.In s.heap) (hns : s.heap.Ns mainGlobals mg) (hb : s.heap.Ns builtinsNs mb) (hbb : ∀ x : Str, x ≠ "__name__" → mb x = bootBuiltins x) (hlim : s.heap.NoLimit) (hgen : s.gens = #[])
    (ha : s.heap.get? a = some { cls := .type "list", data := .seq vs.toArray }) (hi : IntsAre vs ns) (hl : ns.length ≤ sizeLine) (hr : Rm k callerA) (hk : kn.K = K)
    (G : ∀ base : Heap, K.In base → base.Ns mainGlobals mg → FnG ⟨P, w, K, mg, base⟩ k fa fd [x] (SpC kn (zV kn) 1 F)) (hbind : ∀ (s : Shared) (u : Value), BindsTo s fd ⟨[u], []⟩ [(x, u)])
    (hF : (F [.scr ns]).All (fun p => ∃ b, p = .bl b ∧ b = true) fun _ _ => False) :
    codeAny (model P w) callerA (.call (.ref fa) ⟨[.ref a], []⟩) (fun r s' => r = .ok (.ret (.bool true)) ∧ OldK s.heap s'.heap ∧ s'.os = s.os ∧ AllBare s'.gens) s := by
  have rv := vals_ints hi
  -- what is tracked: the script, if the module does not hold it
  obtain ⟨H, hS, hT⟩ : ∃ H : Hp, SqL K H a (ns.map V.int) ∧ ∀ b u, H b = some u → b = a ∧ K.lookup a = none ∧ u = .frz { cls := .type "list", data := .seq vs.toArray } (.lst (ns.map V.int)) := by
    cases hka : K.lookup a with
    | some o =>
      have e := KX a o hka
      rw [ha] at e
      cases e
      exact ⟨fun _ => none, .inr ⟨_, vs.toArray, _, hka, rfl, rfl, rfl, by rw [List.size_toArray, hi.length]; exact hl, by simpa using rv⟩, fun b u z => (nomatch (show (none : Option HO) = some u from z))⟩
    | none =>
      refine ⟨upd (fun _ => none) a (.frz { cls := .type "list", data := .seq vs.toArray } (.lst (ns.map V.int))), .inl (.inr ⟨_, upd_same⟩), fun b u z => ?_⟩
      by_cases q : b = a
      · subst q
        rw [upd_same] at z
        cases z
        exact ⟨rfl, rfl, rfl⟩
      · rw [upd_ne q] at z
        cases z
  have hok : HOk P w H s.heap := fun b u z => by
    obtain ⟨rfl, _, rfl⟩ := hT b u z
    exact ⟨ha, by rw [List.length_map]; exact hl, vs, _, rv, ha⟩
  have off : ∀ {b : Addr} {o : Obj}, s.heap.get? b = some o → (b = a → False) → H b = none := fun {b o} _ h => by
    cases q : H b with
    | none => rfl
    | some u => exact (h (hT b u q).1).elim
  have ns' : ∀ {b : Addr} {m : Str → Option Value}, s.heap.Ns b m → (hidT s.heap H).Ns b m := fun {b m} ⟨o, es, ep, e, d, r⟩ => ⟨o, es, ep, hidT_get e (off e fun q => by
    subst q
    rw [ha] at e
    cases e
    cases d), d, r⟩
  have kin : K.In (hidT s.heap H) := fun b o e => hidT_get (KX b o e) (by
    cases q : H b with
    | none => rfl
    | some u =>
      obtain ⟨rfl, hn, _⟩ := hT b u q
      rw [hn] at e
      cases e)
  have env0 : Env0 P w K mg (hidT s.heap H) callerA [] s H := ⟨rfl, ⟨kin, ns' hns, ⟨mb, ns' hb, hbb⟩, let ⟨mc, h1, h2⟩ := hlim; ⟨mc, ns' h1, h2⟩⟩, fun b o e => of_hidT e, Nat.le_of_eq (hidT_size _ _), trivial, fun b hb => (nomatch hb), hok, .of_eq hgen⟩
  have sp : SpC kn (zV kn) 1 F [.ref a] H (fun v _ => v = .bl true) fun _ _ _ => False := by
    refine ⟨⟨H, fun _ => False⟩, [.scr ns], ⟨fun _ _ h => h, fun _ h => h.elim⟩, .cons (.scr (by rw [hk]; exact hS)) .nil, rfl, hF.mono (fun p h g' H' v w x r => ?_) fun _ _ h => h.elim⟩
    obtain ⟨b, rfl, rfl⟩ := h
    cases r
    rfl
  refine codeAny_mono ((G _ kin (ns' hns)).run callerA [] s H ⟨[.ref a], []⟩ [.ref a] [.ref a] _ _ hr env0 (hbind s (.ref a)) (.cons rfl .nil) sp) fun r s' post => ?_
  cases r with
  | error e => exact (noExc post).elim
  | ok fl =>
    cases fl with
    | ret u =>
      obtain ⟨v, H', os, bare, un, hok', r', q⟩ := post
      have q : v = .bl true := q
      subst q
      cases r'
      refine ⟨rfl, OldK.of_keep fun b o e => ?_, os, bare⟩
      cases hb' : H b with
      | none => exact un.keep b o e hb' (fun z => (nomatch z)) (fun z => (nomatch z))
      | some u =>
        obtain ⟨rfl, _, rfl⟩ := hT b u hb'
        rw [ha] at e
        cases e
        exact (hok' _ _ (un.frzs _ _ _ hb')).1
    | next => exact False.elim post
    | brk => exact False.elim post
    | cont => exact False.elim post
theorem law_walk {l : PySem.W.OpenLaw} {n k : Nat} {q : Program} {loose : List Str} {XP : (Str → Option Value) → Heap → Prop} {YP : World → Heap → Prop} {d : DefRec} {x : Str} (hn : l.most = some n) (hn2 : n ≤ sizeLine) (hdf : d.params.defaults = []) (hr : Rm k callerA) (F : List PV → Tr PV)
    (G : ∀ (w : World) (mg : Str → Option Value) (fa : Addr) (h : Heap), YP w h → h.Ns mainGlobals mg → mg d.name = some (.ref fa) → ∃ (K : PySem.W.Frag) (kn : Kn) (fd : FuncData), K.In h ∧ kn.K = K ∧ (∀ (s : Shared) (u : Value), BindsTo s fd ⟨[u], []⟩ [(x, u)]) ∧
      ∀ base : Heap, K.In base → base.Ns mainGlobals mg → FnG ⟨l.prog, w, K, mg, base⟩ k fa fd [x] (SpC kn (zV kn) 1 F))
    (hF : ∀ ns : List Int, ns.length ≤ n → (F [.scr ns]).All (fun p => ∃ b, p = .bl b ∧ b = true) fun _ _ => False) : PySem.W.WalkO q loose XP YP l.row.toRowW d [] (fun f vs => PySem.call f vs) := by
  refine Att.attach_call hn hdf fun w s₀ s₁ mg mb fa o pm cd doc a vs ns Gr Y ho hd hcd hmg hobj hints hlen hg => ?_
  obtain ⟨K, kn, fd, KX, hk, hb, hG⟩ := G w mg fa _ Y Gr.T.g hmg
  exact law_run KX Gr.T.g Gr.T.b Gr.T.builtins Gr.T.nolimit hg hobj hints (Nat.le_trans hlen hn2) hr hk hG hb (hF ns hlen)
end RK

namespace RK
open PySem PySem.Spec PyProof.Rows L2
/-- the j-th statement of a class -/
def inCls (s : Stmt) (j : Nat) : Stmt := match s with
  | .ClassDef _ _ _ b _ _ _ _ _ _ _ => b.getD j (.Pass ⟨0, 0, 0, 0⟩)
  | _ => .Pass ⟨0, 0, 0, 0⟩
abbrev oA (a b : Option (Option Value)) : Bool := decide (a = b)
abbrev oV (a b : Option Value) : Bool := decide (a = b)
abbrev oB (a b : Option Bool) : Bool := decide (a = b)
theorem band {a b : Bool} (h : (a && b) = true) : a = true ∧ b = true := Bool.and_eq_true_iff.mp h
section
variable {K : PySem.W.Frag} {k : Kn}
def insB (K : PySem.W.Frag) (C : Addr) : Bool := PySem.W.plainGet K C Str.empty && (PySem.W.hasDictIn K C && (PySem.W.plainOver K C && (oA (PySem.W.findIn K (.ref C) "__setattr__") (some (some (.builtin "object.__setattr__"))) && (oA (PySem.W.findIn K (.ref C) "__class__") (some (some (.builtin "object.__class__"))) &&
  (oA (PySem.W.specialIn K (.builtin "object.__class__") "__get__") (some (some (.builtin "getset_descriptor.__get__"))) && (oB (PySem.W.takesIn K (.builtin "object.__class__")) (some true) && oB (PySem.W.mroIn K C (.type "object")) (some true)))))))
theorem insB_ok {c : Nat} (h : insB k.K (k.cls c) = true) : InsF k c := by
  obtain ⟨h1, h⟩ := band h
  obtain ⟨h2, h⟩ := band h
  obtain ⟨h3, h⟩ := band h
  obtain ⟨h4, h⟩ := band h
  obtain ⟨h5, h⟩ := band h
  obtain ⟨h6, h⟩ := band h
  obtain ⟨h7, h8⟩ := band h
  exact ⟨⟨h1, h2, h3, of_decide_eq_true h4⟩, of_decide_eq_true h5, of_decide_eq_true h6, of_decide_eq_true h7, of_decide_eq_true h8⟩
def tys (cs : List Nat) : List Ty := [.non, .bl, .int, .str, .tup, .lst, .dct] ++ cs.map .own
def kitsB (k : Kn) (cs : List Nat) : Bool := (tys cs).all fun t => (tys cs).all fun u => oB (PySem.W.kitOne k.K (t.val k) (u.val k)) (some (t.isa u))
theorem mem_tys {cs : List Nat} {t : Ty} (h : t.ok cs = true) : t ∈ tys cs := by
  cases t with
  | own c =>
    obtain ⟨d, h1, h2⟩ := List.any_eq_true.mp h
    have e := Nat.eq_of_beq_eq_true h2
    subst e
    exact List.mem_append_right _ (List.mem_map.mpr ⟨c, h1, rfl⟩)
  | _ => exact List.mem_append_left _ (by simp)
def knB (k : Kn) (cs : List Nat) : Bool := (cs.all fun c => insB k.K (k.cls c)) && kitsB k cs
theorem knB_ok {cs : List Nat} (h : knB k cs = true) : KnT k cs := by
  obtain ⟨h1, h2⟩ := band h
  refine ⟨fun c hc => ?_, fun t u ht hu => ?_⟩
  · obtain ⟨d, h3, h4⟩ := List.any_eq_true.mp hc
    have e := Nat.eq_of_beq_eq_true h4
    subst e
    exact insB_ok (List.all_eq_true.mp h1 _ h3)
  · exact of_decide_eq_true (List.all_eq_true.mp (List.all_eq_true.mp h2 t (mem_tys ht)) u (mem_tys hu))
/-- a field's places: in each class of js -/
def fldB (k : Kn) (f : Str) (js : List (Nat × Nat)) : Bool := js.all fun q => insB k.K (k.cls q.1) && (oA (PySem.W.findIn k.K (.ref (k.cls q.1)) f) (some none) && decide ((k.fld q.1).findIdx? (fun m => f == m) = some q.2))
theorem assoc_mem {c j : Nat} : ∀ {js : List (Nat × Nat)}, assoc c js = some j → (c, j) ∈ js
  | [], h => by cases h
  | (d, i) :: r, h => by
    have h : (if Nat.beq c d = true then some i else assoc c r) = some j := h
    cases e : Nat.beq c d with
    | true =>
      rw [e] at h
      cases h
      rw [Nat.eq_of_beq_eq_true e]
      exact List.mem_cons_self
    | false =>
      rw [e] at h
      exact List.mem_cons_of_mem _ (assoc_mem h)
theorem fldB_ok {f : Str} {js : List (Nat × Nat)} (h : fldB k f js = true) : FldF k f js := ⟨fun c j e => by
  have h0 := List.all_eq_true.mp h _ (assoc_mem e)
  obtain ⟨h1, h0⟩ := band h0
  obtain ⟨h2, h3⟩ := band h0
  exact ⟨(insB_ok h1).cl, show PySem.W.findIn k.K (.ref (k.cls c)) f = some none from of_decide_eq_true h2, of_decide_eq_true h3⟩⟩
def rprB (k : Kn) (c : Nat) : Bool := oA (PySem.W.findIn k.K (.ref (k.cls c)) "__repr__") (some (some (.ref (He.ma k.K (k.cls c) "__repr__")))) && PySem.W.isFn k.K (.ref (He.ma k.K (k.cls c) "__repr__"))
theorem rprB_ok {c : Nat} (h : rprB k c = true) : RprF k c (He.ma k.K (k.cls c) "__repr__") := by
  obtain ⟨h1, h2⟩ := band h
  exact ⟨of_decide_eq_true h1, h2⟩
def ocB (K : PySem.W.Frag) (C : Addr) : Bool := match K.lookup C with
  | some ⟨.type "type", _, .cls cd, sl⟩ => (match cd.mro, sl.toList with
    | .ref C' :: bm, [_, _, _, _, some (.builtin n), _] => decide (C' = C) && (decide (n = "ValueError.__new__") && (!cd.hasDel && (cd.hasDict && PySem.HandSPX.refsVE bm)))
    | _, _ => false)
  | _ => false
theorem ocB_ok {C : Addr} (h : ocB K C = true) : ∃ nm q N bs bm sn sub ab col dd k0 k1 k2 k3 k5, K.lookup C = some (excClassObj nm q C N bs bm true sn sub ab col dd k0 k1 k2 k3 k5 "ValueError.__new__") ∧ PySem.HandSPX.refsVE bm = true := by
  unfold ocB at h
  split at h
  · rename_i dd cd sl lk
    split at h
    · rename_i C' bm k0 k1 k2 k3 n k5 hm hs
      obtain ⟨h1, h⟩ := band h
      obtain ⟨h2, h⟩ := band h
      obtain ⟨h3, h⟩ := band h
      obtain ⟨h4, h5⟩ := band h
      have h1 := of_decide_eq_true h1
      have h2 := of_decide_eq_true h2
      have e3 : cd.hasDel = false := by simpa using h3
      clear h3
      subst h1 h2
      obtain ⟨nm, bs, mro, ns, qn, hd, sn, sub, ab, col, del⟩ := cd
      dsimp only at hm e3 h4
      subst hm e3 h4
      obtain ⟨l⟩ := sl
      dsimp only at hs
      subst hs
      exact ⟨nm, qn, ns, bs, bm, sn, sub, ab, col, dd, k0, k1, k2, k3, k5, lk, h5⟩
    · cases h
  · cases h
/-- an exception's class with an __init__ of its own, its fields -/
def exB (K : PySem.W.Frag) (C : Addr) (fs : List Str) : Bool := ocB K C && (oA (PySem.W.findIn K (.ref C) "__setattr__") (some (some (.builtin "object.__setattr__"))) && (oB (PySem.W.subIn K (.ref C) (.type "BaseException")) (some true) && (oV (PySem.W.typeIn K (.ref C)) (some (.type "type")) && (PySem.W.keepIn K (.ref C) &&
  (oA (PySem.W.findIn K (.ref C) "__init__") (some (some (.ref (He.ma K C "__init__")))) && (oV (PySem.W.typeIn K (.ref (He.ma K C "__init__"))) (some (.type "function")) && (fs.all fun f => oA (PySem.W.findIn K (.ref C) f) (some none))))))))
structure ExR (K : PySem.W.Frag) (C : Addr) (fs : List Str) : Prop where
  o : OexC K C
  iC : PySem.W.findIn K (.ref C) "__init__" = some (some (.ref (He.ma K C "__init__")))
  tI : PySem.W.typeIn K (.ref (He.ma K C "__init__")) = some (.type "function")
  no : ∀ f ∈ fs, PySem.W.findIn K (.ref C) f = some none
theorem exB_ok {C : Addr} {fs : List Str} (h : exB K C fs = true) : ExR K C fs := by
  obtain ⟨h1, h⟩ := band h
  obtain ⟨h2, h⟩ := band h
  obtain ⟨h3, h⟩ := band h
  obtain ⟨h4, h⟩ := band h
  obtain ⟨h5, h⟩ := band h
  obtain ⟨h6, h⟩ := band h
  obtain ⟨h7, h8⟩ := band h
  exact ⟨⟨ocB_ok h1, of_decide_eq_true h2, of_decide_eq_true h3, of_decide_eq_true h4, h5⟩, of_decide_eq_true h6, of_decide_eq_true h7, fun f hf => of_decide_eq_true (List.all_eq_true.mp h8 f hf)⟩
/-- what suites ask of an exception -/
def efB (K : PySem.W.Frag) (C : Addr) : Bool := (PySem.W.clsIn K C).isSome && (oA (PySem.W.findIn K (.ref C) "__getattribute__") (some (some (.builtin "BaseException.__getattribute__"))) && (oA (PySem.W.findIn K (.ref C) "__getattr__") (some none) && (oB (PySem.W.subIn K (.ref C) (.type "BaseException")) (some true) &&
  (oA (PySem.W.findIn K (.ref C) "__class__") (some (some (.builtin "object.__class__"))) && (oA (PySem.W.specialIn K (.builtin "object.__class__") "__get__") (some (some (.builtin "getset_descriptor.__get__"))) && (oB (PySem.W.takesIn K (.builtin "object.__class__")) (some true) && (oB (PySem.W.mroIn K C (.type "object")) (some true) && PySem.W.hasDictIn K C)))))))
theorem efB_ok {n : Nat} (h : efB k.K (k.exn n) = true) : ExF k n := by
  obtain ⟨h1, h⟩ := band h
  obtain ⟨h2, h⟩ := band h
  obtain ⟨h3, h⟩ := band h
  obtain ⟨h4, h⟩ := band h
  obtain ⟨h5, h⟩ := band h
  obtain ⟨h6, h⟩ := band h
  obtain ⟨h7, h⟩ := band h
  obtain ⟨h8, h9⟩ := band h
  exact ⟨h1, of_decide_eq_true h2, of_decide_eq_true h3, of_decide_eq_true h4, of_decide_eq_true h5, of_decide_eq_true h6, of_decide_eq_true h7, of_decide_eq_true h8, h9⟩
def msB (k : Kn) (ns : List Nat) : Bool := ns.all fun n => ns.all fun m => oB (PySem.W.exmOne k.K (.ref (k.exn n)) (.ref (k.exn m))) (some (Nat.beq n m))
theorem mem_of {n : Nat} : ∀ {ns : List Nat}, mem n ns = true → n ∈ ns
  | m :: r, h => by
    have h : (Nat.beq n m || mem n r) = true := h
    rw [Bool.or_eq_true] at h
    rcases h with h | h
    · rw [Nat.eq_of_beq_eq_true h]; exact List.mem_cons_self
    · exact List.mem_cons_of_mem _ (mem_of h)
theorem msB_ok {ns : List Nat} (h : msB k ns = true) : ExMs k ns := ⟨fun n m hn hm => of_decide_eq_true (List.all_eq_true.mp (List.all_eq_true.mp h n (mem_of hn)) m (mem_of hm))⟩
def smB (K : PySem.W.Frag) : Bool := match K.lookup sysModules with
  | some o => o.cls == .type "dict"
  | none => false
theorem smB_ok (h : smB K = true) : ∃ o, K.lookup sysModules = some o ∧ o.cls = .type "dict" := by
  unfold smB at h
  split at h
  · rename_i o e
    exact ⟨o, e, eq_of_beq h⟩
  · cases h
/-- flat values of the module: ints, texts, tuples of these -/
def tupAt (K : PySem.W.Frag) (a : Addr) (ps : List PV) : Bool := match K.lookup a with
  | some ⟨.type c, _, .seq its _, _⟩ => decide (c = "tuple") && (decide (its.size ≤ sizeLine) && go ps its.toList)
  | _ => false
where go : List PV → List Value → Bool
  | [], [] => true
  | .int i :: ps, .int j _ :: us => iEq i j && go ps us
  | .str l :: ps, .str x _ :: us => lEq l x.cps.toList && go ps us
  | _, _ => false
def Flat : PV → Bool
  | .int _ => true
  | .str _ => true
  | _ => false
theorem go_ok {g : Gh} : ∀ {ps : List PV} {us : List Value}, tupAt.go ps us = true → ∃ vs, Vals vs us ∧ ∀ g, Reps k g ps vs
  | [], [], _ => ⟨[], .nil, fun _ => .nil⟩
  | [], _ :: _, h => by cases (show false = true from h)
  | p :: ps, [], h => by cases p <;> cases (show false = true from h)
  | p :: ps, u :: us, h => by
    cases p with
    | int i => cases u with
      | int j t =>
        obtain ⟨h1, h2⟩ := band (show (iEq i j && tupAt.go ps us) = true from h)
        have e := iEq_iff.mp h1
        subst e
        obtain ⟨vs, h3, h4⟩ := go_ok (g := g) h2
        exact ⟨.int i :: vs, .cons ⟨t, rfl⟩ h3, fun g => .cons (.int i) (h4 g)⟩
      | _ => cases (show false = true from h)
    | str l => cases u with
      | str x t =>
        obtain ⟨h1, h2⟩ := band (show (lEq l x.cps.toList && tupAt.go ps us) = true from h)
        have e := lEq_iff.mp h1
        obtain ⟨⟨x⟩⟩ := x
        have e : l = x := e
        subst e
        obtain ⟨vs, h3, h4⟩ := go_ok (g := g) h2
        exact ⟨.str ⟨⟨l⟩⟩ :: vs, .cons ⟨t, rfl⟩ h3, fun g => .cons (.str l) (h4 g)⟩
      | _ => cases (show false = true from h)
    | _ => cases u <;> cases (show false = true from h)
theorem tupAt_ok {a : Addr} {ps : List PV} (h : tupAt k.K a ps = true) (g : Gh) : Rep k g (.tup ps) (.ref a) := by
  unfold tupAt at h
  split at h
  · rename_i c dd its n sl lk
    obtain ⟨h1, h⟩ := band h
    obtain ⟨h2, h3⟩ := band h
    obtain ⟨vs, h4, h5⟩ := go_ok (k := k) (g := g) h3
    exact .tup (.inr ⟨_, its, n, lk, congrArg Value.type (of_decide_eq_true h1), rfl, of_decide_eq_true h2, h4⟩) (h5 g)
  · cases h
end
end RK

namespace RK
open PySem PySem.Spec PyProof.Rows L2
def visB (sc : Scope) (x : Str) : Bool := match sc.names.lookup x with
  | some .local => true
  | some .cell => true
  | some .free => true
  | _ => false
theorem vis_by {sc : Scope} {x : Str} (h : visB sc x = true) : Vis sc x := by
  unfold visB at h
  split at h
  · rename_i e; exact .inl e
  · rename_i e; exact .inr (.inl e)
  · rename_i e; exact .inr (.inr e)
  · cases h
def locB (sc : Scope) (x : Str) : Bool := match sc.names.lookup x with
  | some .local => true
  | some .cell => true
  | _ => false
theorem loc_by {sc : Scope} {x : Str} (h : locB sc x = true) : Loc sc x := by
  unfold locB at h
  split at h
  · rename_i e; exact .inl e
  · rename_i e; exact .inr e
  · cases h
section
variable {Γ : Fm} {X : Cx} {p : Pos} {K : PySem.W.Frag} {x qual : Str} {params : Arguments} {body : List Stmt} {scope : Scope} {kws : List (Str × V)} {f : Addr} {fd : FuncData} {ps ks : List Str} {n : Nat} {o : List Nat}
theorem se_gint {i : Int} (h : ∃ t, X.mg x = some (.int i t)) (hg : Gl X x) (hd : (x == ("__debug__" : Str)) = false := by decide) : SE Γ X (.Name x p) (cC (.int i)) := by
  obtain ⟨t, h⟩ := h
  exact se_glob (v := .int i) hg h ⟨t, rfl⟩ (fun _ => .int i) hd
theorem se_gstr {z : Str} {l : List Nat} (h : ∃ t, X.mg x = some (.str z t)) (e : z = ⟨⟨l⟩⟩) (hg : Gl X x) (hd : (x == ("__debug__" : Str)) = false := by decide) : SE Γ X (.Name x p) (cC (.str l)) := by
  obtain ⟨t, h⟩ := h
  subst e
  exact se_glob (v := .str ⟨⟨l⟩⟩) hg h ⟨t, rfl⟩ (fun _ => .str l) hd
theorem se_gtup {a : Addr} {qs : List PV} (h : X.mg x = some (.ref a)) (r : ∀ g, Rep Γ.k g (.tup qs) (.ref a)) (hg : Gl X x) (hd : (x == ("__debug__" : Str)) = false := by decide) : SE Γ X (.Name x p) (cC (.tup qs)) := se_glob (v := .ref a) hg h rfl r hd
theorem bd_of (F : FunD K x qual params body scope [] kws f fd)
    (h : ∀ (kV doc pm : Value) (an : Option Addr) (cdv ct : Value) (us ws : List Value), us.length = n → ws.length = ks.length → bindArgs (PySem.W.fnOf x qual params body scope .none kV doc pm an cdv ct) ⟨us, ks.zip ws⟩ = pure (ps.zip (gath (us ++ ws) o))) : Bd K fd ps n ks o := by
  obtain ⟨oc, od, dV, kV, doc, pm, an, cdv, ct, osl, rfl, lk, hcd, hD, hK⟩ := F.ex
  rcases hD with ⟨_, rfl⟩ | ⟨e, _⟩
  · exact ⟨fun s us ws _ h1 h2 => .of_eq (h kV doc pm an cdv ct us ws h1 h2)⟩
  · exact absurd rfl e
theorem hasT {T : Wh} {A : Around} {N : List Str} {q : Str} {cdv : Value} {outer : List PySem.Env} {s : Shared} {H : Hp} {E : XK} {fa : Addr} : T.has (cxOf (L2.CX T.P T.w) T.P T.w T.K T.mg T.base N q scope fa cdv A outer s H E) := ⟨rfl, rfl, rfl, rfl, rfl⟩
theorem Rm.hu {k : Nat} {A : Around} (r : Rm k A) : A.units + 64 < cLine := r.rm.units
end
end RK

namespace RK
open PySem PySem.Spec PyProof.Rows L2
section
variable {Γ : Fm} {X : Cx} {a b d : Expr} {ca cb cc : Ec} {z za zb zc : Md} {pos : Pos}
theorem ss_parG {i j : Nat} {x y : Str} {px py pt : Pos} {kt k2 pt2} (hc : X.calm = true) (hN : X.N.Nodup) (hi : X.N[i]? = some x) (hj : X.N[j]? = some y) (hx : Loc X.env.scope x) (hy : Loc X.env.scope y) (h1 : Pt Γ i za) (h2 : Pt Γ j zb) (ha : SX Γ za X a ca) (hb : SX Γ zb X b cb)
    (fx : X.fn x = true ∨ X.env.scope.names.lookup x = some .local := by first | exact .inl rfl | exact .inr rfl) (fy : X.fn y = true ∨ X.env.scope.names.lookup y = some .local := by first | exact .inl rfl | exact .inr rfl)
    (hs : swapsWithSole [.Tuple [.Name x px, .Name y py] kt pt] (.Tuple [a, b] k2 pt2) pos.line X.env = pure false := by rfl) (hw : swappedStores [.Tuple [.Name x px, .Name y py] kt pt] (.Tuple [a, b] k2 pt2) X.env = pure none := by rfl)
    (hl : (assignEach [.Tuple [.Name x px, .Name y py] kt pt] X.env).map (·.2) = [assign (.Tuple [.Name x px, .Name y py] kt pt) X.env] := by rfl)
    (g1 : (assignEach [.Name x px, .Name y py] X.env).map (·.2) = assign (.Name x px) X.env :: (assignEach [.Name y py] X.env).map (·.2) := by rfl) (g2 : (assignEach [.Name y py] X.env).map (·.2) = assign (.Name y py) X.env :: (assignEach [] X.env).map (·.2) := by rfl)
    (g3 : (assignEach [.Name x px, .Name y py] X.env).length = 2 := by rfl) (g4 : (assignEach [.Name x px, .Name y py] X.env).findIdx? (·.1) = none := by rfl)
    (s1 : starEach [a, b] X.env = (false, eval a X.env) :: starEach [b] X.env := by rfl) (s2 : starEach [b] X.env = (false, eval b X.env) :: starEach [] X.env := by rfl) :
    SS Γ z X (.Assign [.Tuple [.Name x px, .Name y py] kt pt] (.Tuple [a, b] k2 pt2) pos) (sPar i j ca cb) := fun W tk =>
  (ps_asg (pe_tup (pa_cons (ha W tk) (pa_cons (hb W tk) pa_nil s2) s1)) (pg_tup hc (pgs_cons (pg_name hN hi hx fx) (pgs_cons (pg_name hN hj hy fy) pgs_nil g2) g1) g3 g4) hs hw hl).imp fun D σ H ⟨g, ρ, G, q⟩ => ⟨g, ρ, G, (Tr.all_bind.mp q).mono (fun p q1 g1 H1 v w1 x1 r1 => ⟨g1, ρ, G.grow w1 x1, (Tr.all_bind.mp q1).mono (fun p2 q2 g2 H2 v2 w2 x2 r2 =>
    ⟨(by decide : 2 ≤ sizeLine), fun pp hp => ⟨pp, _, rfl, .of upd_same, rfl, _, _, rfl, _, _, rfl, rfl, q2 g2 _ _ ((GI.putM h2 (GI.putM h1 G w1 x1 r1) w2 x2 r2).grow (w2.laid hp) (.laid hp))⟩⟩) fun _ _ h => (h.xw G).grow G w1 x1⟩) fun _ _ h => h.xw G⟩
theorem ss_parG3 {i j l : Nat} {x y w : Str} {px py pw pt : Pos} {kt k2 pt2} (hc : X.calm = true) (hN : X.N.Nodup) (hi : X.N[i]? = some x) (hj : X.N[j]? = some y) (hk : X.N[l]? = some w) (hx : Loc X.env.scope x) (hy : Loc X.env.scope y) (hz : Loc X.env.scope w) (h1 : Pt Γ i za) (h2 : Pt Γ j zb) (h3 : Pt Γ l zc) (ha : SX Γ za X a ca) (hb : SX Γ zb X b cb) (hd : SX Γ zc X d cc)
    (fx : X.fn x = true ∨ X.env.scope.names.lookup x = some .local := by first | exact .inl rfl | exact .inr rfl) (fy : X.fn y = true ∨ X.env.scope.names.lookup y = some .local := by first | exact .inl rfl | exact .inr rfl) (fz : X.fn w = true ∨ X.env.scope.names.lookup w = some .local := by first | exact .inl rfl | exact .inr rfl)
    (hs : swapsWithSole [.Tuple [.Name x px, .Name y py, .Name w pw] kt pt] (.Tuple [a, b, d] k2 pt2) pos.line X.env = pure false := by rfl) (hw : swappedStores [.Tuple [.Name x px, .Name y py, .Name w pw] kt pt] (.Tuple [a, b, d] k2 pt2) X.env = pure none := by rfl)
    (hl : (assignEach [.Tuple [.Name x px, .Name y py, .Name w pw] kt pt] X.env).map (·.2) = [assign (.Tuple [.Name x px, .Name y py, .Name w pw] kt pt) X.env] := by rfl)
    (g1 : (assignEach [.Name x px, .Name y py, .Name w pw] X.env).map (·.2) = assign (.Name x px) X.env :: (assignEach [.Name y py, .Name w pw] X.env).map (·.2) := by rfl) (g2 : (assignEach [.Name y py, .Name w pw] X.env).map (·.2) = assign (.Name y py) X.env :: (assignEach [.Name w pw] X.env).map (·.2) := by rfl) (g5 : (assignEach [.Name w pw] X.env).map (·.2) = assign (.Name w pw) X.env :: (assignEach [] X.env).map (·.2) := by rfl)
    (g3 : (assignEach [.Name x px, .Name y py, .Name w pw] X.env).length = 3 := by rfl) (g4 : (assignEach [.Name x px, .Name y py, .Name w pw] X.env).findIdx? (·.1) = none := by rfl)
    (s1 : starEach [a, b, d] X.env = (false, eval a X.env) :: starEach [b, d] X.env := by rfl) (s2 : starEach [b, d] X.env = (false, eval b X.env) :: starEach [d] X.env := by rfl) (s3 : starEach [d] X.env = (false, eval d X.env) :: starEach [] X.env := by rfl) :
    SS Γ z X (.Assign [.Tuple [.Name x px, .Name y py, .Name w pw] kt pt] (.Tuple [a, b, d] k2 pt2) pos) (sPar3 i j l ca cb cc) := fun W tk =>
  (ps_asg (pe_tup (pa_cons (ha W tk) (pa_cons (hb W tk) (pa_cons (hd W tk) pa_nil s3) s2) s1)) (pg_tup hc (pgs_cons (pg_name hN hi hx fx) (pgs_cons (pg_name hN hj hy fy) (pgs_cons (pg_name hN hk hz fz) pgs_nil g5) g2) g1) g3 g4) hs hw hl).imp fun D σ H ⟨g, ρ, G, q⟩ => ⟨g, ρ, G, (Tr.all_bind.mp q).mono (fun p q1 g1 H1 v w1 x1 r1 => ⟨g1, ρ, G.grow w1 x1, (Tr.all_bind.mp q1).mono (fun p2 q2 g2 H2 v2 w2 x2 r2 => ⟨g2, ρ, (G.grow w1 x1).grow w2 x2, (Tr.all_bind.mp q2).mono (fun p3 q3 g3 H3 v3 w3 x3 r3 =>
    ⟨(by decide : 3 ≤ sizeLine), fun pp hp => ⟨pp, _, rfl, .of upd_same, rfl, _, _, rfl, _, _, rfl, _, _, rfl, rfl, q3 g3 _ _ ((GI.putM h3 (GI.putM h2 (GI.putM h1 G w1 x1 r1) w2 x2 r2) w3 x3 r3).grow (w3.laid hp) (.laid hp))⟩⟩) fun _ _ h => ((h.xw G).grow G w1 x1).grow (G.grow w1 x1) w2 x2⟩) fun _ _ h => (h.xw G).grow G w1 x1⟩) fun _ _ h => h.xw G⟩
end
end RK

namespace RK
open PySem PySem.Spec PyProof.Rows L2
def refsM (o : Obj) : List Addr := match o.data with
  | .seq its _ => its.toList.flatMap He.refV
  | .dict es _ => es.toList.flatMap fun e => He.refV e.val
  | .func fd => He.refV fd.code ++ (He.refV fd.defaults ++ He.refV fd.kwdefaults)
  | .cls cd => [cd.ns]
  | _ => []
def nextM (g : Addr → Option Obj) (l : List Addr) : List Addr := l.flatMap fun a => match g a with
  | some o => refsM o
  | none => []
def lvM (g : Addr → Option Obj) : Nat → List Addr → List Addr
  | 0, l => l
  | n + 1, l => l ++ lvM g n (nextM g l)
def asM (g : Addr → Option Obj) (n : Nat) : List Addr := sysModules :: lvM g n [mainGlobals]
def obsMG (n : Nat) (fa : List He.Fa) (fn : List He.DefD) (ex : PySem.W.Frag → Bool) (g : Addr → Option Obj) : AlX := obsX fa fn ex (He.frG g (asM g n))
def hookM (n : Nat) (fa : List He.Fa) (fn : List He.DefD) (ex : PySem.W.Frag → Bool) : PySem.W.Hook where
  α := AlX
  obs := fun s => obsMG n fa fn ex s.heap.get?
  val := fun _ => (He.valD fn, true)
  says := fun _ h => ∃ K : PySem.W.Frag, K.In h ∧ He.SaysD fa fn K ∧ ex K = true
  of := fun _ _ e => ⟨_, He.frG_in, congrArg Prod.fst e, congrArg Prod.snd e⟩
  keeps := fun _ _ _ ⟨K, hK, c⟩ k => ⟨K, PySem.W.Frag.In.keeps hK k, c⟩
theorem obsMG_eq {n : Nat} {fa : List He.Fa} {fn : List He.DefD} {ex : PySem.W.Frag → Bool} {g : Addr → Option Obj} {s : Shared} (h : ∀ a, g a = s.heap.get? a) : obsMG n fa fn ex g = (hookM n fa fn ex).obs s := by
  have e : g = s.heap.get? := funext h
  rw [e] <;> rfl
end RK

set_option maxHeartbeats 0
namespace LW
open PySem PySem.Spec PyProof.Rows L2 RK
def top (i : Nat) : Stmt := PySem.Challenge.pw_restkeepers_k50_maps_refused.main.body.getD i (.Pass ⟨0, 0, 0, 0⟩)
abbrev s_is_integer : Stmt := top 10
abbrev s_is_prime : Stmt := top 22
abbrev s_InvalidPrime_init : Stmt := inCls (top 4) 0
abbrev s_want_prime : Stmt := top 21
abbrev s_is_list : Stmt := top 12
abbrev s_is_rest_by : Stmt := top 20
abbrev s_row_in : Stmt := top 37
abbrev s_table_in : Stmt := top 38
abbrev s_InvalidRows_init : Stmt := inCls (top 8) 0
abbrev s_turned_of : Stmt := top 33
abbrev s_right_rows : Stmt := top 52
abbrev s_Room_init : Stmt := inCls (top 53) 0
abbrev s_InvalidRoom_init : Stmt := inCls (top 5) 0
abbrev s_want_room : Stmt := top 54
abbrev s_scaled_of : Stmt := top 29
abbrev s_power_of : Stmt := top 15
abbrev s_undone_of : Stmt := top 16
abbrev s_sum_of : Stmt := top 28
abbrev s_without : Stmt := top 45
abbrev s_steps_of : Stmt := top 46
abbrev s_part_in : Stmt := top 66
abbrev s_InvalidPart_init : Stmt := inCls (top 3) 0
abbrev s_want_part : Stmt := top 67
abbrev s_InvalidTable_init : Stmt := inCls (top 7) 0
abbrev s_want_table : Stmt := top 40
abbrev s_want_sized : Stmt := top 41
abbrev s_mix_of : Stmt := top 30
abbrev s_led_of : Stmt := top 31
abbrev s_images_by : Stmt := top 88
abbrev s_InvalidImages_init : Stmt := inCls (top 2) 0
abbrev s_want_images : Stmt := top 75
abbrev s_told_map : Stmt := top 87
abbrev s_dot : Stmt := top 27
abbrev s_between_of : Stmt := top 56
abbrev s_is_kept : Stmt := top 80
abbrev s_bent_pair : Stmt := top 81
abbrev s_head_of : Stmt := top 43
abbrev s_heads_of : Stmt := top 44
abbrev s_unit : Stmt := top 25
abbrev s_zeros_of : Stmt := top 47
abbrev s_columns_of : Stmt := top 76
abbrev s_lost_rests : Stmt := top 77
abbrev s_still_rests : Stmt := top 78
abbrev s_made_by : Stmt := top 48
abbrev s_is_within : Stmt := top 49
abbrev s_apart_rests : Stmt := top 82
abbrev s_bar_of : Stmt := top 83
abbrev s_goes_on : Stmt := top 89
abbrev s_bar : Stmt := top 90
abbrev s_added : Stmt := top 79
abbrev s_is_still_row : Stmt := top 64
abbrev s_is_rests_bar : Stmt := top 85
abbrev s_is_count : Stmt := top 11
abbrev s_is_between_bar : Stmt := top 84
abbrev s_is_bar_of : Stmt := top 86
abbrev s_is_bar : Stmt := top 91
abbrev s_between_by : Stmt := top 93
abbrev s_first_worthy : Stmt := top 94
abbrev s_idle_of : Stmt := top 26
abbrev s_squares_of : Stmt := top 95
abbrev s_betweens_of : Stmt := top 58
abbrev s_filled : Stmt := top 106
abbrev s_split : Stmt := top 108
abbrev s_solved : Stmt := top 107
abbrev s_worth_of : Stmt := top 57
abbrev s_partners : Stmt := top 109
abbrev s_angles_of : Stmt := top 63
abbrev s_still_of : Stmt := top 60
abbrev s_framed : Stmt := top 110
abbrev s_reduced : Stmt := top 34
abbrev s_undone_table : Stmt := top 36
abbrev s_times_of : Stmt := top 32
abbrev s_sign_of : Stmt := top 17
abbrev s_kind_in : Stmt := top 100
abbrev s_one_by : Stmt := top 96
abbrev s_to_ones : Stmt := top 97
abbrev s_odd_of : Stmt := top 19
abbrev s_told_last : Stmt := top 98
abbrev s_root_of : Stmt := top 18
abbrev s_plain_lead_of : Stmt := top 99
abbrev s_lead_of : Stmt := top 102
abbrev s_keeper_by : Stmt := top 111
abbrev s_keeper_of : Stmt := top 112
abbrev s_keeper_on : Stmt := top 113
abbrev s_keeps_all : Stmt := top 62
abbrev s_determinant_of : Stmt := top 35
abbrev s_keeper_in : Stmt := top 114
abbrev s_continues : Stmt := top 115
abbrev s_both_parts : Stmt := top 116
abbrev s_own_table : Stmt := top 68
abbrev s_meeting_of : Stmt := top 69
abbrev s_still_part : Stmt := top 70
abbrev s_part_kind_of : Stmt := top 104
abbrev s_part_lead : Stmt := top 117
abbrev s_leads_part : Stmt := top 118
abbrev s__law_fault : Stmt := top 120
abbrev s__law_values_right : Stmt := top 121
abbrev s__law_judges_right : Stmt := top 122
abbrev s_Room_repr : Stmt := inCls (top 53) 10
abbrev s__law_names_right : Stmt := top 123
abbrev s_law : Stmt := top 124
theorem bt_int : bootBuiltins "int" = some (.type "int") := by decide +kernel
theorem bt_bool : bootBuiltins "bool" = some (.type "bool") := by decide +kernel
theorem bt_str : bootBuiltins "str" = some (.type "str") := by decide +kernel
theorem bt_list : bootBuiltins "list" = some (.type "list") := by decide +kernel
theorem bt_tuple : bootBuiltins "tuple" = some (.type "tuple") := by decide +kernel
def y_is_integer : He.DefD := ⟨("is_integer", none), "is_integer", "is_integer", defArgs s_is_integer, defBody s_is_integer, defScope s_is_integer, [], []⟩
def y_is_prime : He.DefD := ⟨("is_prime", none), "is_prime", "is_prime", defArgs s_is_prime, defBody s_is_prime, defScope s_is_prime, [], []⟩
def y_InvalidPrime_init : He.DefD := ⟨("InvalidPrime", some "__init__"), "__init__", "InvalidPrime.__init__", defArgs s_InvalidPrime_init, defBody s_InvalidPrime_init, defScope s_InvalidPrime_init, [], []⟩
def y_want_prime : He.DefD := ⟨("want_prime", none), "want_prime", "want_prime", defArgs s_want_prime, defBody s_want_prime, defScope s_want_prime, [], []⟩
def y_is_list : He.DefD := ⟨("is_list", none), "is_list", "is_list", defArgs s_is_list, defBody s_is_list, defScope s_is_list, [], []⟩
def y_is_rest_by : He.DefD := ⟨("is_rest_by", none), "is_rest_by", "is_rest_by", defArgs s_is_rest_by, defBody s_is_rest_by, defScope s_is_rest_by, [], []⟩
def y_row_in : He.DefD := ⟨("row_in", none), "row_in", "row_in", defArgs s_row_in, defBody s_row_in, defScope s_row_in, [], []⟩
def y_table_in : He.DefD := ⟨("table_in", none), "table_in", "table_in", defArgs s_table_in, defBody s_table_in, defScope s_table_in, [], []⟩
def y_InvalidRows_init : He.DefD := ⟨("InvalidRows", some "__init__"), "__init__", "InvalidRows.__init__", defArgs s_InvalidRows_init, defBody s_InvalidRows_init, defScope s_InvalidRows_init, [], []⟩
def y_turned_of : He.DefD := ⟨("turned_of", none), "turned_of", "turned_of", defArgs s_turned_of, defBody s_turned_of, defScope s_turned_of, [], []⟩
def y_right_rows : He.DefD := ⟨("right_rows", none), "right_rows", "right_rows", defArgs s_right_rows, defBody s_right_rows, defScope s_right_rows, [], []⟩
def y_Room_init : He.DefD := ⟨("Room", some "__init__"), "__init__", "Room.__init__", defArgs s_Room_init, defBody s_Room_init, defScope s_Room_init, [.adr (He.dflAt ("Room", some "__init__") 0)], []⟩
def y_InvalidRoom_init : He.DefD := ⟨("InvalidRoom", some "__init__"), "__init__", "InvalidRoom.__init__", defArgs s_InvalidRoom_init, defBody s_InvalidRoom_init, defScope s_InvalidRoom_init, [], []⟩
def y_want_room : He.DefD := ⟨("want_room", none), "want_room", "want_room", defArgs s_want_room, defBody s_want_room, defScope s_want_room, [], []⟩
def y_scaled_of : He.DefD := ⟨("scaled_of", none), "scaled_of", "scaled_of", defArgs s_scaled_of, defBody s_scaled_of, defScope s_scaled_of, [], []⟩
def y_power_of : He.DefD := ⟨("power_of", none), "power_of", "power_of", defArgs s_power_of, defBody s_power_of, defScope s_power_of, [], []⟩
def y_undone_of : He.DefD := ⟨("undone_of", none), "undone_of", "undone_of", defArgs s_undone_of, defBody s_undone_of, defScope s_undone_of, [], []⟩
def y_sum_of : He.DefD := ⟨("sum_of", none), "sum_of", "sum_of", defArgs s_sum_of, defBody s_sum_of, defScope s_sum_of, [], []⟩
def y_without : He.DefD := ⟨("without", none), "without", "without", defArgs s_without, defBody s_without, defScope s_without, [], []⟩
def y_steps_of : He.DefD := ⟨("steps_of", none), "steps_of", "steps_of", defArgs s_steps_of, defBody s_steps_of, defScope s_steps_of, [], []⟩
def y_part_in : He.DefD := ⟨("part_in", none), "part_in", "part_in", defArgs s_part_in, defBody s_part_in, defScope s_part_in, [], []⟩
def y_InvalidPart_init : He.DefD := ⟨("InvalidPart", some "__init__"), "__init__", "InvalidPart.__init__", defArgs s_InvalidPart_init, defBody s_InvalidPart_init, defScope s_InvalidPart_init, [], []⟩
def y_want_part : He.DefD := ⟨("want_part", none), "want_part", "want_part", defArgs s_want_part, defBody s_want_part, defScope s_want_part, [], []⟩
def y_InvalidTable_init : He.DefD := ⟨("InvalidTable", some "__init__"), "__init__", "InvalidTable.__init__", defArgs s_InvalidTable_init, defBody s_InvalidTable_init, defScope s_InvalidTable_init, [], []⟩
def y_want_table : He.DefD := ⟨("want_table", none), "want_table", "want_table", defArgs s_want_table, defBody s_want_table, defScope s_want_table, [], []⟩
def y_want_sized : He.DefD := ⟨("want_sized", none), "want_sized", "want_sized", defArgs s_want_sized, defBody s_want_sized, defScope s_want_sized, [], []⟩
def y_mix_of : He.DefD := ⟨("mix_of", none), "mix_of", "mix_of", defArgs s_mix_of, defBody s_mix_of, defScope s_mix_of, [], []⟩
def y_led_of : He.DefD := ⟨("led_of", none), "led_of", "led_of", defArgs s_led_of, defBody s_led_of, defScope s_led_of, [], []⟩
def y_images_by : He.DefD := ⟨("images_by", none), "images_by", "images_by", defArgs s_images_by, defBody s_images_by, defScope s_images_by, [], []⟩
def y_InvalidImages_init : He.DefD := ⟨("InvalidImages", some "__init__"), "__init__", "InvalidImages.__init__", defArgs s_InvalidImages_init, defBody s_InvalidImages_init, defScope s_InvalidImages_init, [], []⟩
def y_want_images : He.DefD := ⟨("want_images", none), "want_images", "want_images", defArgs s_want_images, defBody s_want_images, defScope s_want_images, [], []⟩
def y_told_map : He.DefD := ⟨("told_map", none), "told_map", "told_map", defArgs s_told_map, defBody s_told_map, defScope s_told_map, [], []⟩
def y_dot : He.DefD := ⟨("dot", none), "dot", "dot", defArgs s_dot, defBody s_dot, defScope s_dot, [], []⟩
def y_between_of : He.DefD := ⟨("between_of", none), "between_of", "between_of", defArgs s_between_of, defBody s_between_of, defScope s_between_of, [], []⟩
def y_is_kept : He.DefD := ⟨("is_kept", none), "is_kept", "is_kept", defArgs s_is_kept, defBody s_is_kept, defScope s_is_kept, [], []⟩
def y_bent_pair : He.DefD := ⟨("bent_pair", none), "bent_pair", "bent_pair", defArgs s_bent_pair, defBody s_bent_pair, defScope s_bent_pair, [], []⟩
def y_head_of : He.DefD := ⟨("head_of", none), "head_of", "head_of", defArgs s_head_of, defBody s_head_of, defScope s_head_of, [], []⟩
def y_heads_of : He.DefD := ⟨("heads_of", none), "heads_of", "heads_of", defArgs s_heads_of, defBody s_heads_of, defScope s_heads_of, [], []⟩
def y_unit : He.DefD := ⟨("unit", none), "unit", "unit", defArgs s_unit, defBody s_unit, defScope s_unit, [], []⟩
def y_zeros_of : He.DefD := ⟨("zeros_of", none), "zeros_of", "zeros_of", defArgs s_zeros_of, defBody s_zeros_of, defScope s_zeros_of, [], []⟩
def y_columns_of : He.DefD := ⟨("columns_of", none), "columns_of", "columns_of", defArgs s_columns_of, defBody s_columns_of, defScope s_columns_of, [], []⟩
def y_lost_rests : He.DefD := ⟨("lost_rests", none), "lost_rests", "lost_rests", defArgs s_lost_rests, defBody s_lost_rests, defScope s_lost_rests, [], []⟩
def y_still_rests : He.DefD := ⟨("still_rests", none), "still_rests", "still_rests", defArgs s_still_rests, defBody s_still_rests, defScope s_still_rests, [], []⟩
def y_made_by : He.DefD := ⟨("made_by", none), "made_by", "made_by", defArgs s_made_by, defBody s_made_by, defScope s_made_by, [], []⟩
def y_is_within : He.DefD := ⟨("is_within", none), "is_within", "is_within", defArgs s_is_within, defBody s_is_within, defScope s_is_within, [], []⟩
def y_apart_rests : He.DefD := ⟨("apart_rests", none), "apart_rests", "apart_rests", defArgs s_apart_rests, defBody s_apart_rests, defScope s_apart_rests, [], []⟩
def y_bar_of : He.DefD := ⟨("bar_of", none), "bar_of", "bar_of", defArgs s_bar_of, defBody s_bar_of, defScope s_bar_of, [], []⟩
def y_goes_on : He.DefD := ⟨("goes_on", none), "goes_on", "goes_on", defArgs s_goes_on, defBody s_goes_on, defScope s_goes_on, [], []⟩
def y_bar : He.DefD := ⟨("bar", none), "bar", "bar", defArgs s_bar, defBody s_bar, defScope s_bar, [], []⟩
def y_added : He.DefD := ⟨("added", none), "added", "added", defArgs s_added, defBody s_added, defScope s_added, [], []⟩
def y_is_still_row : He.DefD := ⟨("is_still_row", none), "is_still_row", "is_still_row", defArgs s_is_still_row, defBody s_is_still_row, defScope s_is_still_row, [], []⟩
def y_is_rests_bar : He.DefD := ⟨("is_rests_bar", none), "is_rests_bar", "is_rests_bar", defArgs s_is_rests_bar, defBody s_is_rests_bar, defScope s_is_rests_bar, [], []⟩
def y_is_count : He.DefD := ⟨("is_count", none), "is_count", "is_count", defArgs s_is_count, defBody s_is_count, defScope s_is_count, [], []⟩
def y_is_between_bar : He.DefD := ⟨("is_between_bar", none), "is_between_bar", "is_between_bar", defArgs s_is_between_bar, defBody s_is_between_bar, defScope s_is_between_bar, [], []⟩
def y_is_bar_of : He.DefD := ⟨("is_bar_of", none), "is_bar_of", "is_bar_of", defArgs s_is_bar_of, defBody s_is_bar_of, defScope s_is_bar_of, [], []⟩
def y_is_bar : He.DefD := ⟨("is_bar", none), "is_bar", "is_bar", defArgs s_is_bar, defBody s_is_bar, defScope s_is_bar, [], []⟩
def y_between_by : He.DefD := ⟨("between_by", none), "between_by", "between_by", defArgs s_between_by, defBody s_between_by, defScope s_between_by, [], []⟩
def y_first_worthy : He.DefD := ⟨("first_worthy", none), "first_worthy", "first_worthy", defArgs s_first_worthy, defBody s_first_worthy, defScope s_first_worthy, [], []⟩
def y_idle_of : He.DefD := ⟨("idle_of", none), "idle_of", "idle_of", defArgs s_idle_of, defBody s_idle_of, defScope s_idle_of, [], []⟩
def y_squares_of : He.DefD := ⟨("squares_of", none), "squares_of", "squares_of", defArgs s_squares_of, defBody s_squares_of, defScope s_squares_of, [], []⟩
def y_betweens_of : He.DefD := ⟨("betweens_of", none), "betweens_of", "betweens_of", defArgs s_betweens_of, defBody s_betweens_of, defScope s_betweens_of, [], []⟩
def y_filled : He.DefD := ⟨("filled", none), "filled", "filled", defArgs s_filled, defBody s_filled, defScope s_filled, [], []⟩
def y_split : He.DefD := ⟨("split", none), "split", "split", defArgs s_split, defBody s_split, defScope s_split, [], []⟩
def y_solved : He.DefD := ⟨("solved", none), "solved", "solved", defArgs s_solved, defBody s_solved, defScope s_solved, [], []⟩
def y_worth_of : He.DefD := ⟨("worth_of", none), "worth_of", "worth_of", defArgs s_worth_of, defBody s_worth_of, defScope s_worth_of, [], []⟩
def y_partners : He.DefD := ⟨("partners", none), "partners", "partners", defArgs s_partners, defBody s_partners, defScope s_partners, [], []⟩
def y_angles_of : He.DefD := ⟨("angles_of", none), "angles_of", "angles_of", defArgs s_angles_of, defBody s_angles_of, defScope s_angles_of, [], []⟩
def y_still_of : He.DefD := ⟨("still_of", none), "still_of", "still_of", defArgs s_still_of, defBody s_still_of, defScope s_still_of, [], []⟩
def y_framed : He.DefD := ⟨("framed", none), "framed", "framed", defArgs s_framed, defBody s_framed, defScope s_framed, [], []⟩
def y_reduced : He.DefD := ⟨("reduced", none), "reduced", "reduced", defArgs s_reduced, defBody s_reduced, defScope s_reduced, [], []⟩
def y_undone_table : He.DefD := ⟨("undone_table", none), "undone_table", "undone_table", defArgs s_undone_table, defBody s_undone_table, defScope s_undone_table, [], []⟩
def y_times_of : He.DefD := ⟨("times_of", none), "times_of", "times_of", defArgs s_times_of, defBody s_times_of, defScope s_times_of, [], []⟩
def y_sign_of : He.DefD := ⟨("sign_of", none), "sign_of", "sign_of", defArgs s_sign_of, defBody s_sign_of, defScope s_sign_of, [], []⟩
def y_kind_in : He.DefD := ⟨("kind_in", none), "kind_in", "kind_in", defArgs s_kind_in, defBody s_kind_in, defScope s_kind_in, [], []⟩
def y_one_by : He.DefD := ⟨("one_by", none), "one_by", "one_by", defArgs s_one_by, defBody s_one_by, defScope s_one_by, [], []⟩
def y_to_ones : He.DefD := ⟨("to_ones", none), "to_ones", "to_ones", defArgs s_to_ones, defBody s_to_ones, defScope s_to_ones, [], []⟩
def y_odd_of : He.DefD := ⟨("odd_of", none), "odd_of", "odd_of", defArgs s_odd_of, defBody s_odd_of, defScope s_odd_of, [], []⟩
def y_told_last : He.DefD := ⟨("told_last", none), "told_last", "told_last", defArgs s_told_last, defBody s_told_last, defScope s_told_last, [], []⟩
def y_root_of : He.DefD := ⟨("root_of", none), "root_of", "root_of", defArgs s_root_of, defBody s_root_of, defScope s_root_of, [], []⟩
def y_plain_lead_of : He.DefD := ⟨("plain_lead_of", none), "plain_lead_of", "plain_lead_of", defArgs s_plain_lead_of, defBody s_plain_lead_of, defScope s_plain_lead_of, [], []⟩
def y_lead_of : He.DefD := ⟨("lead_of", none), "lead_of", "lead_of", defArgs s_lead_of, defBody s_lead_of, defScope s_lead_of, [], []⟩
def y_keeper_by : He.DefD := ⟨("keeper_by", none), "keeper_by", "keeper_by", defArgs s_keeper_by, defBody s_keeper_by, defScope s_keeper_by, [], []⟩
def y_keeper_of : He.DefD := ⟨("keeper_of", none), "keeper_of", "keeper_of", defArgs s_keeper_of, defBody s_keeper_of, defScope s_keeper_of, [], []⟩
def y_keeper_on : He.DefD := ⟨("keeper_on", none), "keeper_on", "keeper_on", defArgs s_keeper_on, defBody s_keeper_on, defScope s_keeper_on, [], []⟩
def y_keeps_all : He.DefD := ⟨("keeps_all", none), "keeps_all", "keeps_all", defArgs s_keeps_all, defBody s_keeps_all, defScope s_keeps_all, [], []⟩
def y_determinant_of : He.DefD := ⟨("determinant_of", none), "determinant_of", "determinant_of", defArgs s_determinant_of, defBody s_determinant_of, defScope s_determinant_of, [], []⟩
def y_keeper_in : He.DefD := ⟨("keeper_in", none), "keeper_in", "keeper_in", defArgs s_keeper_in, defBody s_keeper_in, defScope s_keeper_in, [], []⟩
def y_continues : He.DefD := ⟨("continues", none), "continues", "continues", defArgs s_continues, defBody s_continues, defScope s_continues, [], []⟩
def y_both_parts : He.DefD := ⟨("both_parts", none), "both_parts", "both_parts", defArgs s_both_parts, defBody s_both_parts, defScope s_both_parts, [], []⟩
def y_own_table : He.DefD := ⟨("own_table", none), "own_table", "own_table", defArgs s_own_table, defBody s_own_table, defScope s_own_table, [], []⟩
def y_meeting_of : He.DefD := ⟨("meeting_of", none), "meeting_of", "meeting_of", defArgs s_meeting_of, defBody s_meeting_of, defScope s_meeting_of, [], []⟩
def y_still_part : He.DefD := ⟨("still_part", none), "still_part", "still_part", defArgs s_still_part, defBody s_still_part, defScope s_still_part, [], []⟩
def y_part_kind_of : He.DefD := ⟨("part_kind_of", none), "part_kind_of", "part_kind_of", defArgs s_part_kind_of, defBody s_part_kind_of, defScope s_part_kind_of, [], []⟩
def y_part_lead : He.DefD := ⟨("part_lead", none), "part_lead", "part_lead", defArgs s_part_lead, defBody s_part_lead, defScope s_part_lead, [], []⟩
def y_leads_part : He.DefD := ⟨("leads_part", none), "leads_part", "leads_part", defArgs s_leads_part, defBody s_leads_part, defScope s_leads_part, [], []⟩
def y__law_fault : He.DefD := ⟨("_law_fault", none), "_law_fault", "_law_fault", defArgs s__law_fault, defBody s__law_fault, defScope s__law_fault, [], []⟩
def y__law_values_right : He.DefD := ⟨("_law_values_right", none), "_law_values_right", "_law_values_right", defArgs s__law_values_right, defBody s__law_values_right, defScope s__law_values_right, [], []⟩
def y__law_judges_right : He.DefD := ⟨("_law_judges_right", none), "_law_judges_right", "_law_judges_right", defArgs s__law_judges_right, defBody s__law_judges_right, defScope s__law_judges_right, [], []⟩
def y_Room_repr : He.DefD := ⟨("Room", some "__repr__"), "__repr__", "Room.__repr__", defArgs s_Room_repr, defBody s_Room_repr, defScope s_Room_repr, [], []⟩
def y__law_names_right : He.DefD := ⟨("_law_names_right", none), "_law_names_right", "_law_names_right", defArgs s__law_names_right, defBody s__law_names_right, defScope s__law_names_right, [], []⟩
def y_law : He.DefD := ⟨("law", none), "law", "law", defArgs s_law, defBody s_law, defScope s_law, [], []⟩
def fn : List He.DefD := [y_is_integer, y_is_prime, y_InvalidPrime_init, y_want_prime, y_is_list, y_is_rest_by, y_row_in, y_table_in, y_InvalidRows_init, y_turned_of, y_right_rows, y_Room_init, y_InvalidRoom_init, y_want_room, y_scaled_of, y_power_of, y_undone_of, y_sum_of, y_without, y_steps_of, y_part_in, y_InvalidPart_init, y_want_part, y_InvalidTable_init, y_want_table, y_want_sized, y_mix_of, y_led_of, y_images_by, y_InvalidImages_init, y_want_images, y_told_map, y_dot, y_between_of, y_is_kept, y_bent_pair, y_head_of, y_heads_of, y_unit, y_zeros_of, y_columns_of, y_lost_rests, y_still_rests, y_made_by, y_is_within, y_apart_rests, y_bar_of, y_goes_on, y_bar, y_added, y_is_still_row, y_is_rests_bar, y_is_count, y_is_between_bar, y_is_bar_of, y_is_bar, y_between_by, y_first_worthy, y_idle_of, y_squares_of, y_betweens_of, y_filled, y_split, y_solved, y_worth_of, y_partners, y_angles_of, y_still_of, y_framed, y_reduced, y_undone_table, y_times_of, y_sign_of, y_kind_in, y_one_by, y_to_ones, y_odd_of, y_told_last, y_root_of, y_plain_lead_of, y_lead_of, y_keeper_by, y_keeper_of, y_keeper_on, y_keeps_all, y_determinant_of, y_keeper_in, y_continues, y_both_parts, y_own_table, y_meeting_of, y_still_part, y_part_kind_of, y_part_lead, y_leads_part, y__law_fault, y__law_values_right, y__law_judges_right, y_Room_repr, y__law_names_right, y_law]
def fa0 : List He.Fa := [.glo "is_integer", .glo "is_prime", .glo "want_prime", .glo "is_list", .glo "is_rest_by", .glo "row_in", .glo "table_in", .glo "turned_of", .glo "right_rows", .glo "want_room", .glo "scaled_of", .glo "power_of", .glo "undone_of", .glo "sum_of", .glo "without", .glo "steps_of", .glo "part_in", .glo "want_part", .glo "want_table", .glo "want_sized", .glo "mix_of", .glo "led_of", .glo "images_by", .glo "want_images", .glo "told_map", .glo "dot", .glo "between_of", .glo "is_kept", .glo "bent_pair", .glo "head_of"]
def fa1 : List He.Fa := [.glo "heads_of", .glo "unit", .glo "zeros_of", .glo "columns_of", .glo "lost_rests", .glo "still_rests", .glo "made_by", .glo "is_within", .glo "apart_rests", .glo "bar_of", .glo "goes_on", .glo "bar", .glo "added", .glo "is_still_row", .glo "is_rests_bar", .glo "is_count", .glo "is_between_bar", .glo "is_bar_of", .glo "is_bar", .glo "between_by", .glo "first_worthy", .glo "idle_of", .glo "squares_of", .glo "betweens_of", .glo "filled", .glo "split", .glo "solved", .glo "worth_of", .glo "partners", .glo "angles_of"]
def fa2 : List He.Fa := [.glo "still_of", .glo "framed", .glo "reduced", .glo "undone_table", .glo "times_of", .glo "sign_of", .glo "kind_in", .glo "one_by", .glo "to_ones", .glo "odd_of", .glo "told_last", .glo "root_of", .glo "plain_lead_of", .glo "lead_of", .glo "keeper_by", .glo "keeper_of", .glo "keeper_on", .glo "keeps_all", .glo "determinant_of", .glo "keeper_in", .glo "continues", .glo "both_parts", .glo "own_table", .glo "meeting_of", .glo "still_part", .glo "part_kind_of", .glo "part_lead", .glo "leads_part", .glo "_law_fault", .glo "_law_values_right"]
def fa3 : List He.Fa := [.glo "_law_judges_right", .glo "_law_names_right", .glo "law", .glo "Known", .glo "Room", .glo "InvalidImages", .glo "InvalidPart", .glo "InvalidPrime", .glo "InvalidRoom", .glo "InvalidRows", .glo "InvalidTable", .glo "PRIMES", .free "ValueError", .free "all", .free "any", .free "bool", .free "enumerate", .free "int", .free "isinstance", .free "len", .free "list", .free "range", .free "repr", .free "str", .free "sum", .free "tuple", .free "zip", .str "BETWEEN" "between", .str "LOST" "lost", .int "MOST_SIZE" 6]
def fa4 : List He.Fa := [.str "STILL" "still", .mkr "Room"]
def fa : List He.Fa := fa0 ++ fa1 ++ fa2 ++ fa3 ++ fa4
def flds : Nat → List Str
  | 0 => ["own_prime", "own_rows"]
  | 1 => ["own_prime", "own_rows"]
  | _ => []
def eflds : Nat → List Str
  | 1 => ["value"]
  | 2 => ["value"]
  | 3 => ["value"]
  | 4 => ["value"]
  | 5 => ["value"]
  | 6 => ["value"]
  | 7 => ["value"]
  | _ => []
def kn (K : PySem.W.Frag) : Kn := ⟨K, fun c => match c with
  | 0 => He.ga K "Known"
  | 1 => He.ga K "Room"
  | _ => 0, flds, fun n => match n with
  | 0 => He.ga K "RoomError"
  | 1 => He.ga K "InvalidImages"
  | 2 => He.ga K "InvalidPart"
  | 3 => He.ga K "InvalidPrime"
  | 4 => He.ga K "InvalidRoom"
  | 5 => He.ga K "InvalidRow"
  | 6 => He.ga K "InvalidTable"
  | 7 => He.ga K "InvalidRows"
  | _ => 0, eflds⟩
def clss : List Nat := [0, 1]
def exns : List Nat := [1, 2, 3, 4, 6, 7]
def js_own_prime : List (Nat × Nat) := [(0, 0), (1, 0)]
def js_own_rows : List (Nat × Nat) := [(0, 1), (1, 1)]
def exL (K : PySem.W.Frag) : List Bool := [knB (kn K) clss,
  fldB (kn K) "own_prime" js_own_prime,
  fldB (kn K) "own_rows" js_own_rows,
  insB K (He.ga K "Room"),
  oA (PySem.W.findIn K (.ref (He.ga K "Room")) "own_prime") (some none),
  oA (PySem.W.findIn K (.ref (He.ga K "Room")) "own_rows") (some none),
  rprB (kn K) 1,
  exB K (He.ga K "InvalidImages") (eflds 1),
  exB K (He.ga K "InvalidPart") (eflds 2),
  exB K (He.ga K "InvalidPrime") (eflds 3),
  exB K (He.ga K "InvalidRoom") (eflds 4),
  exB K (He.ga K "InvalidTable") (eflds 6),
  exB K (He.ga K "InvalidRows") (eflds 7),
  efB K (He.ga K "InvalidImages"),
  efB K (He.ga K "InvalidPart"),
  efB K (He.ga K "InvalidPrime"),
  efB K (He.ga K "InvalidRoom"),
  efB K (He.ga K "InvalidRows"),
  efB K (He.ga K "InvalidTable"),
  oB (PySem.W.kitOne K (.ref (He.ga K "InvalidImages")) (.type "ValueError")) (some true),
  oB (PySem.W.kitOne K (.ref (He.ga K "InvalidPart")) (.type "ValueError")) (some true),
  oB (PySem.W.kitOne K (.ref (He.ga K "InvalidRoom")) (.type "ValueError")) (some true),
  oB (PySem.W.kitOne K (.ref (He.ga K "InvalidTable")) (.type "ValueError")) (some true),
  msB (kn K) exns,
  smB K,
  tupAt K (He.ga K "PRIMES") [(.int 3), (.int 5), (.int 7), (.int 11), (.int 13)],
  tupAt K (He.dflAt ("Room", some "__init__") 0 K) []]
def exOk (K : PySem.W.Frag) : Bool := (exL K).all id
structure Tx (T : Wh) : Prop where
  ex : ∃ h : Heap, T.K.In h ∧ h.Ns mainGlobals T.mg
  c : He.SaysD fa fn T.K
  x : exOk T.K = true
section
variable {T : Wh}
theorem Tx.at (t : Tx T) {i : Nat} {b : Bool} (h : (exL T.K)[i]? = some b) : b = true := List.all_eq_true.mp t.x b (List.mem_of_getElem? h)
theorem Tx.kt (t : Tx T) : KnT (kn T.K) clss := knB_ok (k := kn T.K) (t.at (i := 0) rfl)
theorem Tx.fl_own_prime (t : Tx T) : FldF (kn T.K) "own_prime" js_own_prime := fldB_ok (k := kn T.K) (t.at (i := 1) rfl)
theorem Tx.fl_own_rows (t : Tx T) : FldF (kn T.K) "own_rows" js_own_rows := fldB_ok (k := kn T.K) (t.at (i := 2) rfl)
theorem Tx.cl_Room (t : Tx T) : Cls (kn T.K).K ((kn T.K).cls 1) := (insB_ok (k := kn T.K) (c := 1) (t.at (i := 3) rfl)).cl
theorem Tx.na_Room_own_prime (t : Tx T) : NoAttr (kn T.K).K ((kn T.K).cls 1) "own_prime" := (show PySem.W.findIn T.K (.ref (He.ga T.K "Room")) "own_prime" = some none from of_decide_eq_true (t.at (i := 4) rfl))
theorem Tx.na_Room_own_rows (t : Tx T) : NoAttr (kn T.K).K ((kn T.K).cls 1) "own_rows" := (show PySem.W.findIn T.K (.ref (He.ga T.K "Room")) "own_rows" = some none from of_decide_eq_true (t.at (i := 5) rfl))
theorem Tx.rp (t : Tx T) : RprF (kn T.K) 1 (He.fAd T.K ("Room", some "__repr__")) := rprB_ok (k := kn T.K) (c := 1) (t.at (i := 6) rfl)
theorem Tx.er_InvalidImages (t : Tx T) : ExR T.K (He.ga T.K "InvalidImages") (eflds 1) := exB_ok (t.at (i := 7) rfl)
theorem Tx.er_InvalidPart (t : Tx T) : ExR T.K (He.ga T.K "InvalidPart") (eflds 2) := exB_ok (t.at (i := 8) rfl)
theorem Tx.er_InvalidPrime (t : Tx T) : ExR T.K (He.ga T.K "InvalidPrime") (eflds 3) := exB_ok (t.at (i := 9) rfl)
theorem Tx.er_InvalidRoom (t : Tx T) : ExR T.K (He.ga T.K "InvalidRoom") (eflds 4) := exB_ok (t.at (i := 10) rfl)
theorem Tx.er_InvalidTable (t : Tx T) : ExR T.K (He.ga T.K "InvalidTable") (eflds 6) := exB_ok (t.at (i := 11) rfl)
theorem Tx.er_InvalidRows (t : Tx T) : ExR T.K (He.ga T.K "InvalidRows") (eflds 7) := exB_ok (t.at (i := 12) rfl)
theorem Tx.ef_InvalidImages (t : Tx T) : ExF (kn T.K) 1 := efB_ok (k := kn T.K) (n := 1) (t.at (i := 13) rfl)
theorem Tx.ef_InvalidPart (t : Tx T) : ExF (kn T.K) 2 := efB_ok (k := kn T.K) (n := 2) (t.at (i := 14) rfl)
theorem Tx.ef_InvalidPrime (t : Tx T) : ExF (kn T.K) 3 := efB_ok (k := kn T.K) (n := 3) (t.at (i := 15) rfl)
theorem Tx.ef_InvalidRoom (t : Tx T) : ExF (kn T.K) 4 := efB_ok (k := kn T.K) (n := 4) (t.at (i := 16) rfl)
theorem Tx.ef_InvalidRows (t : Tx T) : ExF (kn T.K) 7 := efB_ok (k := kn T.K) (n := 7) (t.at (i := 17) rfl)
theorem Tx.ef_InvalidTable (t : Tx T) : ExF (kn T.K) 6 := efB_ok (k := kn T.K) (n := 6) (t.at (i := 18) rfl)
theorem Tx.ek_InvalidImages_ValueError (t : Tx T) : PySem.W.kitOne (kn T.K).K (.ref ((kn T.K).exn 1)) (.type "ValueError") = some true := of_decide_eq_true (t.at (i := 19) rfl)
theorem Tx.ek_InvalidPart_ValueError (t : Tx T) : PySem.W.kitOne (kn T.K).K (.ref ((kn T.K).exn 2)) (.type "ValueError") = some true := of_decide_eq_true (t.at (i := 20) rfl)
theorem Tx.ek_InvalidRoom_ValueError (t : Tx T) : PySem.W.kitOne (kn T.K).K (.ref ((kn T.K).exn 4)) (.type "ValueError") = some true := of_decide_eq_true (t.at (i := 21) rfl)
theorem Tx.ek_InvalidTable_ValueError (t : Tx T) : PySem.W.kitOne (kn T.K).K (.ref ((kn T.K).exn 6)) (.type "ValueError") = some true := of_decide_eq_true (t.at (i := 22) rfl)
theorem Tx.ms (t : Tx T) : ExMs (kn T.K) exns := msB_ok (k := kn T.K) (t.at (i := 23) rfl)
theorem Tx.sm (t : Tx T) : ∃ o, T.K.lookup sysModules = some o ∧ o.cls = .type "dict" := smB_ok (t.at (i := 24) rfl)
theorem Tx.r_PRIMES (t : Tx T) : ∀ g, Rep (kn T.K) g (.tup [(.int 3), (.int 5), (.int 7), (.int 11), (.int 13)]) (.ref (He.ga T.K "PRIMES")) := tupAt_ok (k := kn T.K) (t.at (i := 25) rfl)
theorem Tx.df_Room (t : Tx T) : ∀ g, Rep (kn T.K) g (.tup []) (.ref (He.dflAt ("Room", some "__init__") 0 T.K)) := tupAt_ok (k := kn T.K) (t.at (i := 26) rfl)
theorem Tx.g_is_integer (t : Tx T) : T.mg "is_integer" = some (.ref (He.ga T.K "is_integer")) := let ⟨_, X, G⟩ := t.ex; He.glo_ok X G (t.c.fact 0 (f := .glo "is_integer") rfl)
theorem Tx.g_is_prime (t : Tx T) : T.mg "is_prime" = some (.ref (He.ga T.K "is_prime")) := let ⟨_, X, G⟩ := t.ex; He.glo_ok X G (t.c.fact 1 (f := .glo "is_prime") rfl)
theorem Tx.g_want_prime (t : Tx T) : T.mg "want_prime" = some (.ref (He.ga T.K "want_prime")) := let ⟨_, X, G⟩ := t.ex; He.glo_ok X G (t.c.fact 2 (f := .glo "want_prime") rfl)
theorem Tx.g_is_list (t : Tx T) : T.mg "is_list" = some (.ref (He.ga T.K "is_list")) := let ⟨_, X, G⟩ := t.ex; He.glo_ok X G (t.c.fact 3 (f := .glo "is_list") rfl)
theorem Tx.g_is_rest_by (t : Tx T) : T.mg "is_rest_by" = some (.ref (He.ga T.K "is_rest_by")) := let ⟨_, X, G⟩ := t.ex; He.glo_ok X G (t.c.fact 4 (f := .glo "is_rest_by") rfl)
theorem Tx.g_row_in (t : Tx T) : T.mg "row_in" = some (.ref (He.ga T.K "row_in")) := let ⟨_, X, G⟩ := t.ex; He.glo_ok X G (t.c.fact 5 (f := .glo "row_in") rfl)
theorem Tx.g_table_in (t : Tx T) : T.mg "table_in" = some (.ref (He.ga T.K "table_in")) := let ⟨_, X, G⟩ := t.ex; He.glo_ok X G (t.c.fact 6 (f := .glo "table_in") rfl)
theorem Tx.g_turned_of (t : Tx T) : T.mg "turned_of" = some (.ref (He.ga T.K "turned_of")) := let ⟨_, X, G⟩ := t.ex; He.glo_ok X G (t.c.fact 7 (f := .glo "turned_of") rfl)
theorem Tx.g_right_rows (t : Tx T) : T.mg "right_rows" = some (.ref (He.ga T.K "right_rows")) := let ⟨_, X, G⟩ := t.ex; He.glo_ok X G (t.c.fact 8 (f := .glo "right_rows") rfl)
theorem Tx.g_want_room (t : Tx T) : T.mg "want_room" = some (.ref (He.ga T.K "want_room")) := let ⟨_, X, G⟩ := t.ex; He.glo_ok X G (t.c.fact 9 (f := .glo "want_room") rfl)
theorem Tx.g_scaled_of (t : Tx T) : T.mg "scaled_of" = some (.ref (He.ga T.K "scaled_of")) := let ⟨_, X, G⟩ := t.ex; He.glo_ok X G (t.c.fact 10 (f := .glo "scaled_of") rfl)
theorem Tx.g_power_of (t : Tx T) : T.mg "power_of" = some (.ref (He.ga T.K "power_of")) := let ⟨_, X, G⟩ := t.ex; He.glo_ok X G (t.c.fact 11 (f := .glo "power_of") rfl)
theorem Tx.g_undone_of (t : Tx T) : T.mg "undone_of" = some (.ref (He.ga T.K "undone_of")) := let ⟨_, X, G⟩ := t.ex; He.glo_ok X G (t.c.fact 12 (f := .glo "undone_of") rfl)
theorem Tx.g_sum_of (t : Tx T) : T.mg "sum_of" = some (.ref (He.ga T.K "sum_of")) := let ⟨_, X, G⟩ := t.ex; He.glo_ok X G (t.c.fact 13 (f := .glo "sum_of") rfl)
theorem Tx.g_without (t : Tx T) : T.mg "without" = some (.ref (He.ga T.K "without")) := let ⟨_, X, G⟩ := t.ex; He.glo_ok X G (t.c.fact 14 (f := .glo "without") rfl)
theorem Tx.g_steps_of (t : Tx T) : T.mg "steps_of" = some (.ref (He.ga T.K "steps_of")) := let ⟨_, X, G⟩ := t.ex; He.glo_ok X G (t.c.fact 15 (f := .glo "steps_of") rfl)
theorem Tx.g_part_in (t : Tx T) : T.mg "part_in" = some (.ref (He.ga T.K "part_in")) := let ⟨_, X, G⟩ := t.ex; He.glo_ok X G (t.c.fact 16 (f := .glo "part_in") rfl)
theorem Tx.g_want_part (t : Tx T) : T.mg "want_part" = some (.ref (He.ga T.K "want_part")) := let ⟨_, X, G⟩ := t.ex; He.glo_ok X G (t.c.fact 17 (f := .glo "want_part") rfl)
theorem Tx.g_want_table (t : Tx T) : T.mg "want_table" = some (.ref (He.ga T.K "want_table")) := let ⟨_, X, G⟩ := t.ex; He.glo_ok X G (t.c.fact 18 (f := .glo "want_table") rfl)
theorem Tx.g_want_sized (t : Tx T) : T.mg "want_sized" = some (.ref (He.ga T.K "want_sized")) := let ⟨_, X, G⟩ := t.ex; He.glo_ok X G (t.c.fact 19 (f := .glo "want_sized") rfl)
theorem Tx.g_mix_of (t : Tx T) : T.mg "mix_of" = some (.ref (He.ga T.K "mix_of")) := let ⟨_, X, G⟩ := t.ex; He.glo_ok X G (t.c.fact 20 (f := .glo "mix_of") rfl)
theorem Tx.g_led_of (t : Tx T) : T.mg "led_of" = some (.ref (He.ga T.K "led_of")) := let ⟨_, X, G⟩ := t.ex; He.glo_ok X G (t.c.fact 21 (f := .glo "led_of") rfl)
theorem Tx.g_images_by (t : Tx T) : T.mg "images_by" = some (.ref (He.ga T.K "images_by")) := let ⟨_, X, G⟩ := t.ex; He.glo_ok X G (t.c.fact 22 (f := .glo "images_by") rfl)
theorem Tx.g_want_images (t : Tx T) : T.mg "want_images" = some (.ref (He.ga T.K "want_images")) := let ⟨_, X, G⟩ := t.ex; He.glo_ok X G (t.c.fact 23 (f := .glo "want_images") rfl)
theorem Tx.g_told_map (t : Tx T) : T.mg "told_map" = some (.ref (He.ga T.K "told_map")) := let ⟨_, X, G⟩ := t.ex; He.glo_ok X G (t.c.fact 24 (f := .glo "told_map") rfl)
theorem Tx.g_dot (t : Tx T) : T.mg "dot" = some (.ref (He.ga T.K "dot")) := let ⟨_, X, G⟩ := t.ex; He.glo_ok X G (t.c.fact 25 (f := .glo "dot") rfl)
theorem Tx.g_between_of (t : Tx T) : T.mg "between_of" = some (.ref (He.ga T.K "between_of")) := let ⟨_, X, G⟩ := t.ex; He.glo_ok X G (t.c.fact 26 (f := .glo "between_of") rfl)
theorem Tx.g_is_kept (t : Tx T) : T.mg "is_kept" = some (.ref (He.ga T.K "is_kept")) := let ⟨_, X, G⟩ := t.ex; He.glo_ok X G (t.c.fact 27 (f := .glo "is_kept") rfl)
theorem Tx.g_bent_pair (t : Tx T) : T.mg "bent_pair" = some (.ref (He.ga T.K "bent_pair")) := let ⟨_, X, G⟩ := t.ex; He.glo_ok X G (t.c.fact 28 (f := .glo "bent_pair") rfl)
theorem Tx.g_head_of (t : Tx T) : T.mg "head_of" = some (.ref (He.ga T.K "head_of")) := let ⟨_, X, G⟩ := t.ex; He.glo_ok X G (t.c.fact 29 (f := .glo "head_of") rfl)
theorem Tx.g_heads_of (t : Tx T) : T.mg "heads_of" = some (.ref (He.ga T.K "heads_of")) := let ⟨_, X, G⟩ := t.ex; He.glo_ok X G (t.c.fact 30 (f := .glo "heads_of") rfl)
theorem Tx.g_unit (t : Tx T) : T.mg "unit" = some (.ref (He.ga T.K "unit")) := let ⟨_, X, G⟩ := t.ex; He.glo_ok X G (t.c.fact 31 (f := .glo "unit") rfl)
theorem Tx.g_zeros_of (t : Tx T) : T.mg "zeros_of" = some (.ref (He.ga T.K "zeros_of")) := let ⟨_, X, G⟩ := t.ex; He.glo_ok X G (t.c.fact 32 (f := .glo "zeros_of") rfl)
theorem Tx.g_columns_of (t : Tx T) : T.mg "columns_of" = some (.ref (He.ga T.K "columns_of")) := let ⟨_, X, G⟩ := t.ex; He.glo_ok X G (t.c.fact 33 (f := .glo "columns_of") rfl)
theorem Tx.g_lost_rests (t : Tx T) : T.mg "lost_rests" = some (.ref (He.ga T.K "lost_rests")) := let ⟨_, X, G⟩ := t.ex; He.glo_ok X G (t.c.fact 34 (f := .glo "lost_rests") rfl)
theorem Tx.g_still_rests (t : Tx T) : T.mg "still_rests" = some (.ref (He.ga T.K "still_rests")) := let ⟨_, X, G⟩ := t.ex; He.glo_ok X G (t.c.fact 35 (f := .glo "still_rests") rfl)
theorem Tx.g_made_by (t : Tx T) : T.mg "made_by" = some (.ref (He.ga T.K "made_by")) := let ⟨_, X, G⟩ := t.ex; He.glo_ok X G (t.c.fact 36 (f := .glo "made_by") rfl)
theorem Tx.g_is_within (t : Tx T) : T.mg "is_within" = some (.ref (He.ga T.K "is_within")) := let ⟨_, X, G⟩ := t.ex; He.glo_ok X G (t.c.fact 37 (f := .glo "is_within") rfl)
theorem Tx.g_apart_rests (t : Tx T) : T.mg "apart_rests" = some (.ref (He.ga T.K "apart_rests")) := let ⟨_, X, G⟩ := t.ex; He.glo_ok X G (t.c.fact 38 (f := .glo "apart_rests") rfl)
theorem Tx.g_bar_of (t : Tx T) : T.mg "bar_of" = some (.ref (He.ga T.K "bar_of")) := let ⟨_, X, G⟩ := t.ex; He.glo_ok X G (t.c.fact 39 (f := .glo "bar_of") rfl)
theorem Tx.g_goes_on (t : Tx T) : T.mg "goes_on" = some (.ref (He.ga T.K "goes_on")) := let ⟨_, X, G⟩ := t.ex; He.glo_ok X G (t.c.fact 40 (f := .glo "goes_on") rfl)
theorem Tx.g_bar (t : Tx T) : T.mg "bar" = some (.ref (He.ga T.K "bar")) := let ⟨_, X, G⟩ := t.ex; He.glo_ok X G (t.c.fact 41 (f := .glo "bar") rfl)
theorem Tx.g_added (t : Tx T) : T.mg "added" = some (.ref (He.ga T.K "added")) := let ⟨_, X, G⟩ := t.ex; He.glo_ok X G (t.c.fact 42 (f := .glo "added") rfl)
theorem Tx.g_is_still_row (t : Tx T) : T.mg "is_still_row" = some (.ref (He.ga T.K "is_still_row")) := let ⟨_, X, G⟩ := t.ex; He.glo_ok X G (t.c.fact 43 (f := .glo "is_still_row") rfl)
theorem Tx.g_is_rests_bar (t : Tx T) : T.mg "is_rests_bar" = some (.ref (He.ga T.K "is_rests_bar")) := let ⟨_, X, G⟩ := t.ex; He.glo_ok X G (t.c.fact 44 (f := .glo "is_rests_bar") rfl)
theorem Tx.g_is_count (t : Tx T) : T.mg "is_count" = some (.ref (He.ga T.K "is_count")) := let ⟨_, X, G⟩ := t.ex; He.glo_ok X G (t.c.fact 45 (f := .glo "is_count") rfl)
theorem Tx.g_is_between_bar (t : Tx T) : T.mg "is_between_bar" = some (.ref (He.ga T.K "is_between_bar")) := let ⟨_, X, G⟩ := t.ex; He.glo_ok X G (t.c.fact 46 (f := .glo "is_between_bar") rfl)
theorem Tx.g_is_bar_of (t : Tx T) : T.mg "is_bar_of" = some (.ref (He.ga T.K "is_bar_of")) := let ⟨_, X, G⟩ := t.ex; He.glo_ok X G (t.c.fact 47 (f := .glo "is_bar_of") rfl)
theorem Tx.g_is_bar (t : Tx T) : T.mg "is_bar" = some (.ref (He.ga T.K "is_bar")) := let ⟨_, X, G⟩ := t.ex; He.glo_ok X G (t.c.fact 48 (f := .glo "is_bar") rfl)
theorem Tx.g_between_by (t : Tx T) : T.mg "between_by" = some (.ref (He.ga T.K "between_by")) := let ⟨_, X, G⟩ := t.ex; He.glo_ok X G (t.c.fact 49 (f := .glo "between_by") rfl)
theorem Tx.g_first_worthy (t : Tx T) : T.mg "first_worthy" = some (.ref (He.ga T.K "first_worthy")) := let ⟨_, X, G⟩ := t.ex; He.glo_ok X G (t.c.fact 50 (f := .glo "first_worthy") rfl)
theorem Tx.g_idle_of (t : Tx T) : T.mg "idle_of" = some (.ref (He.ga T.K "idle_of")) := let ⟨_, X, G⟩ := t.ex; He.glo_ok X G (t.c.fact 51 (f := .glo "idle_of") rfl)
theorem Tx.g_squares_of (t : Tx T) : T.mg "squares_of" = some (.ref (He.ga T.K "squares_of")) := let ⟨_, X, G⟩ := t.ex; He.glo_ok X G (t.c.fact 52 (f := .glo "squares_of") rfl)
theorem Tx.g_betweens_of (t : Tx T) : T.mg "betweens_of" = some (.ref (He.ga T.K "betweens_of")) := let ⟨_, X, G⟩ := t.ex; He.glo_ok X G (t.c.fact 53 (f := .glo "betweens_of") rfl)
theorem Tx.g_filled (t : Tx T) : T.mg "filled" = some (.ref (He.ga T.K "filled")) := let ⟨_, X, G⟩ := t.ex; He.glo_ok X G (t.c.fact 54 (f := .glo "filled") rfl)
theorem Tx.g_split (t : Tx T) : T.mg "split" = some (.ref (He.ga T.K "split")) := let ⟨_, X, G⟩ := t.ex; He.glo_ok X G (t.c.fact 55 (f := .glo "split") rfl)
theorem Tx.g_solved (t : Tx T) : T.mg "solved" = some (.ref (He.ga T.K "solved")) := let ⟨_, X, G⟩ := t.ex; He.glo_ok X G (t.c.fact 56 (f := .glo "solved") rfl)
theorem Tx.g_worth_of (t : Tx T) : T.mg "worth_of" = some (.ref (He.ga T.K "worth_of")) := let ⟨_, X, G⟩ := t.ex; He.glo_ok X G (t.c.fact 57 (f := .glo "worth_of") rfl)
theorem Tx.g_partners (t : Tx T) : T.mg "partners" = some (.ref (He.ga T.K "partners")) := let ⟨_, X, G⟩ := t.ex; He.glo_ok X G (t.c.fact 58 (f := .glo "partners") rfl)
theorem Tx.g_angles_of (t : Tx T) : T.mg "angles_of" = some (.ref (He.ga T.K "angles_of")) := let ⟨_, X, G⟩ := t.ex; He.glo_ok X G (t.c.fact 59 (f := .glo "angles_of") rfl)
theorem Tx.g_still_of (t : Tx T) : T.mg "still_of" = some (.ref (He.ga T.K "still_of")) := let ⟨_, X, G⟩ := t.ex; He.glo_ok X G (t.c.fact 60 (f := .glo "still_of") rfl)
theorem Tx.g_framed (t : Tx T) : T.mg "framed" = some (.ref (He.ga T.K "framed")) := let ⟨_, X, G⟩ := t.ex; He.glo_ok X G (t.c.fact 61 (f := .glo "framed") rfl)
theorem Tx.g_reduced (t : Tx T) : T.mg "reduced" = some (.ref (He.ga T.K "reduced")) := let ⟨_, X, G⟩ := t.ex; He.glo_ok X G (t.c.fact 62 (f := .glo "reduced") rfl)
theorem Tx.g_undone_table (t : Tx T) : T.mg "undone_table" = some (.ref (He.ga T.K "undone_table")) := let ⟨_, X, G⟩ := t.ex; He.glo_ok X G (t.c.fact 63 (f := .glo "undone_table") rfl)
theorem Tx.g_times_of (t : Tx T) : T.mg "times_of" = some (.ref (He.ga T.K "times_of")) := let ⟨_, X, G⟩ := t.ex; He.glo_ok X G (t.c.fact 64 (f := .glo "times_of") rfl)
theorem Tx.g_sign_of (t : Tx T) : T.mg "sign_of" = some (.ref (He.ga T.K "sign_of")) := let ⟨_, X, G⟩ := t.ex; He.glo_ok X G (t.c.fact 65 (f := .glo "sign_of") rfl)
theorem Tx.g_kind_in (t : Tx T) : T.mg "kind_in" = some (.ref (He.ga T.K "kind_in")) := let ⟨_, X, G⟩ := t.ex; He.glo_ok X G (t.c.fact 66 (f := .glo "kind_in") rfl)
theorem Tx.g_one_by (t : Tx T) : T.mg "one_by" = some (.ref (He.ga T.K "one_by")) := let ⟨_, X, G⟩ := t.ex; He.glo_ok X G (t.c.fact 67 (f := .glo "one_by") rfl)
theorem Tx.g_to_ones (t : Tx T) : T.mg "to_ones" = some (.ref (He.ga T.K "to_ones")) := let ⟨_, X, G⟩ := t.ex; He.glo_ok X G (t.c.fact 68 (f := .glo "to_ones") rfl)
theorem Tx.g_odd_of (t : Tx T) : T.mg "odd_of" = some (.ref (He.ga T.K "odd_of")) := let ⟨_, X, G⟩ := t.ex; He.glo_ok X G (t.c.fact 69 (f := .glo "odd_of") rfl)
theorem Tx.g_told_last (t : Tx T) : T.mg "told_last" = some (.ref (He.ga T.K "told_last")) := let ⟨_, X, G⟩ := t.ex; He.glo_ok X G (t.c.fact 70 (f := .glo "told_last") rfl)
theorem Tx.g_root_of (t : Tx T) : T.mg "root_of" = some (.ref (He.ga T.K "root_of")) := let ⟨_, X, G⟩ := t.ex; He.glo_ok X G (t.c.fact 71 (f := .glo "root_of") rfl)
theorem Tx.g_plain_lead_of (t : Tx T) : T.mg "plain_lead_of" = some (.ref (He.ga T.K "plain_lead_of")) := let ⟨_, X, G⟩ := t.ex; He.glo_ok X G (t.c.fact 72 (f := .glo "plain_lead_of") rfl)
theorem Tx.g_lead_of (t : Tx T) : T.mg "lead_of" = some (.ref (He.ga T.K "lead_of")) := let ⟨_, X, G⟩ := t.ex; He.glo_ok X G (t.c.fact 73 (f := .glo "lead_of") rfl)
theorem Tx.g_keeper_by (t : Tx T) : T.mg "keeper_by" = some (.ref (He.ga T.K "keeper_by")) := let ⟨_, X, G⟩ := t.ex; He.glo_ok X G (t.c.fact 74 (f := .glo "keeper_by") rfl)
theorem Tx.g_keeper_of (t : Tx T) : T.mg "keeper_of" = some (.ref (He.ga T.K "keeper_of")) := let ⟨_, X, G⟩ := t.ex; He.glo_ok X G (t.c.fact 75 (f := .glo "keeper_of") rfl)
theorem Tx.g_keeper_on (t : Tx T) : T.mg "keeper_on" = some (.ref (He.ga T.K "keeper_on")) := let ⟨_, X, G⟩ := t.ex; He.glo_ok X G (t.c.fact 76 (f := .glo "keeper_on") rfl)
theorem Tx.g_keeps_all (t : Tx T) : T.mg "keeps_all" = some (.ref (He.ga T.K "keeps_all")) := let ⟨_, X, G⟩ := t.ex; He.glo_ok X G (t.c.fact 77 (f := .glo "keeps_all") rfl)
theorem Tx.g_determinant_of (t : Tx T) : T.mg "determinant_of" = some (.ref (He.ga T.K "determinant_of")) := let ⟨_, X, G⟩ := t.ex; He.glo_ok X G (t.c.fact 78 (f := .glo "determinant_of") rfl)
theorem Tx.g_keeper_in (t : Tx T) : T.mg "keeper_in" = some (.ref (He.ga T.K "keeper_in")) := let ⟨_, X, G⟩ := t.ex; He.glo_ok X G (t.c.fact 79 (f := .glo "keeper_in") rfl)
theorem Tx.g_continues (t : Tx T) : T.mg "continues" = some (.ref (He.ga T.K "continues")) := let ⟨_, X, G⟩ := t.ex; He.glo_ok X G (t.c.fact 80 (f := .glo "continues") rfl)
theorem Tx.g_both_parts (t : Tx T) : T.mg "both_parts" = some (.ref (He.ga T.K "both_parts")) := let ⟨_, X, G⟩ := t.ex; He.glo_ok X G (t.c.fact 81 (f := .glo "both_parts") rfl)
theorem Tx.g_own_table (t : Tx T) : T.mg "own_table" = some (.ref (He.ga T.K "own_table")) := let ⟨_, X, G⟩ := t.ex; He.glo_ok X G (t.c.fact 82 (f := .glo "own_table") rfl)
theorem Tx.g_meeting_of (t : Tx T) : T.mg "meeting_of" = some (.ref (He.ga T.K "meeting_of")) := let ⟨_, X, G⟩ := t.ex; He.glo_ok X G (t.c.fact 83 (f := .glo "meeting_of") rfl)
theorem Tx.g_still_part (t : Tx T) : T.mg "still_part" = some (.ref (He.ga T.K "still_part")) := let ⟨_, X, G⟩ := t.ex; He.glo_ok X G (t.c.fact 84 (f := .glo "still_part") rfl)
theorem Tx.g_part_kind_of (t : Tx T) : T.mg "part_kind_of" = some (.ref (He.ga T.K "part_kind_of")) := let ⟨_, X, G⟩ := t.ex; He.glo_ok X G (t.c.fact 85 (f := .glo "part_kind_of") rfl)
theorem Tx.g_part_lead (t : Tx T) : T.mg "part_lead" = some (.ref (He.ga T.K "part_lead")) := let ⟨_, X, G⟩ := t.ex; He.glo_ok X G (t.c.fact 86 (f := .glo "part_lead") rfl)
theorem Tx.g_leads_part (t : Tx T) : T.mg "leads_part" = some (.ref (He.ga T.K "leads_part")) := let ⟨_, X, G⟩ := t.ex; He.glo_ok X G (t.c.fact 87 (f := .glo "leads_part") rfl)
theorem Tx.g__law_fault (t : Tx T) : T.mg "_law_fault" = some (.ref (He.ga T.K "_law_fault")) := let ⟨_, X, G⟩ := t.ex; He.glo_ok X G (t.c.fact 88 (f := .glo "_law_fault") rfl)
theorem Tx.g__law_values_right (t : Tx T) : T.mg "_law_values_right" = some (.ref (He.ga T.K "_law_values_right")) := let ⟨_, X, G⟩ := t.ex; He.glo_ok X G (t.c.fact 89 (f := .glo "_law_values_right") rfl)
theorem Tx.g__law_judges_right (t : Tx T) : T.mg "_law_judges_right" = some (.ref (He.ga T.K "_law_judges_right")) := let ⟨_, X, G⟩ := t.ex; He.glo_ok X G (t.c.fact 90 (f := .glo "_law_judges_right") rfl)
theorem Tx.g__law_names_right (t : Tx T) : T.mg "_law_names_right" = some (.ref (He.ga T.K "_law_names_right")) := let ⟨_, X, G⟩ := t.ex; He.glo_ok X G (t.c.fact 91 (f := .glo "_law_names_right") rfl)
theorem Tx.g_law (t : Tx T) : T.mg "law" = some (.ref (He.ga T.K "law")) := let ⟨_, X, G⟩ := t.ex; He.glo_ok X G (t.c.fact 92 (f := .glo "law") rfl)
theorem Tx.g_Known (t : Tx T) : T.mg "Known" = some (.ref (He.ga T.K "Known")) := let ⟨_, X, G⟩ := t.ex; He.glo_ok X G (t.c.fact 93 (f := .glo "Known") rfl)
theorem Tx.g_Room (t : Tx T) : T.mg "Room" = some (.ref (He.ga T.K "Room")) := let ⟨_, X, G⟩ := t.ex; He.glo_ok X G (t.c.fact 94 (f := .glo "Room") rfl)
theorem Tx.g_InvalidImages (t : Tx T) : T.mg "InvalidImages" = some (.ref (He.ga T.K "InvalidImages")) := let ⟨_, X, G⟩ := t.ex; He.glo_ok X G (t.c.fact 95 (f := .glo "InvalidImages") rfl)
theorem Tx.g_InvalidPart (t : Tx T) : T.mg "InvalidPart" = some (.ref (He.ga T.K "InvalidPart")) := let ⟨_, X, G⟩ := t.ex; He.glo_ok X G (t.c.fact 96 (f := .glo "InvalidPart") rfl)
theorem Tx.g_InvalidPrime (t : Tx T) : T.mg "InvalidPrime" = some (.ref (He.ga T.K "InvalidPrime")) := let ⟨_, X, G⟩ := t.ex; He.glo_ok X G (t.c.fact 97 (f := .glo "InvalidPrime") rfl)
theorem Tx.g_InvalidRoom (t : Tx T) : T.mg "InvalidRoom" = some (.ref (He.ga T.K "InvalidRoom")) := let ⟨_, X, G⟩ := t.ex; He.glo_ok X G (t.c.fact 98 (f := .glo "InvalidRoom") rfl)
theorem Tx.g_InvalidRows (t : Tx T) : T.mg "InvalidRows" = some (.ref (He.ga T.K "InvalidRows")) := let ⟨_, X, G⟩ := t.ex; He.glo_ok X G (t.c.fact 99 (f := .glo "InvalidRows") rfl)
theorem Tx.g_InvalidTable (t : Tx T) : T.mg "InvalidTable" = some (.ref (He.ga T.K "InvalidTable")) := let ⟨_, X, G⟩ := t.ex; He.glo_ok X G (t.c.fact 100 (f := .glo "InvalidTable") rfl)
theorem Tx.c_PRIMES (t : Tx T) : T.mg "PRIMES" = some (.ref (He.ga T.K "PRIMES")) := let ⟨_, X, G⟩ := t.ex; He.glo_ok X G (t.c.fact 101 (f := .glo "PRIMES") rfl)
theorem Tx.fr_ValueError (t : Tx T) : T.mg "ValueError" = none := let ⟨_, X, G⟩ := t.ex; He.free_ok X G (t.c.fact 102 (f := .free "ValueError") rfl)
theorem Tx.fr_all (t : Tx T) : T.mg "all" = none := let ⟨_, X, G⟩ := t.ex; He.free_ok X G (t.c.fact 103 (f := .free "all") rfl)
theorem Tx.fr_any (t : Tx T) : T.mg "any" = none := let ⟨_, X, G⟩ := t.ex; He.free_ok X G (t.c.fact 104 (f := .free "any") rfl)
theorem Tx.fr_bool (t : Tx T) : T.mg "bool" = none := let ⟨_, X, G⟩ := t.ex; He.free_ok X G (t.c.fact 105 (f := .free "bool") rfl)
theorem Tx.fr_enumerate (t : Tx T) : T.mg "enumerate" = none := let ⟨_, X, G⟩ := t.ex; He.free_ok X G (t.c.fact 106 (f := .free "enumerate") rfl)
theorem Tx.fr_int (t : Tx T) : T.mg "int" = none := let ⟨_, X, G⟩ := t.ex; He.free_ok X G (t.c.fact 107 (f := .free "int") rfl)
theorem Tx.fr_isinstance (t : Tx T) : T.mg "isinstance" = none := let ⟨_, X, G⟩ := t.ex; He.free_ok X G (t.c.fact 108 (f := .free "isinstance") rfl)
theorem Tx.fr_len (t : Tx T) : T.mg "len" = none := let ⟨_, X, G⟩ := t.ex; He.free_ok X G (t.c.fact 109 (f := .free "len") rfl)
theorem Tx.fr_list (t : Tx T) : T.mg "list" = none := let ⟨_, X, G⟩ := t.ex; He.free_ok X G (t.c.fact 110 (f := .free "list") rfl)
theorem Tx.fr_range (t : Tx T) : T.mg "range" = none := let ⟨_, X, G⟩ := t.ex; He.free_ok X G (t.c.fact 111 (f := .free "range") rfl)
theorem Tx.fr_repr (t : Tx T) : T.mg "repr" = none := let ⟨_, X, G⟩ := t.ex; He.free_ok X G (t.c.fact 112 (f := .free "repr") rfl)
theorem Tx.fr_str (t : Tx T) : T.mg "str" = none := let ⟨_, X, G⟩ := t.ex; He.free_ok X G (t.c.fact 113 (f := .free "str") rfl)
theorem Tx.fr_sum (t : Tx T) : T.mg "sum" = none := let ⟨_, X, G⟩ := t.ex; He.free_ok X G (t.c.fact 114 (f := .free "sum") rfl)
theorem Tx.fr_tuple (t : Tx T) : T.mg "tuple" = none := let ⟨_, X, G⟩ := t.ex; He.free_ok X G (t.c.fact 115 (f := .free "tuple") rfl)
theorem Tx.fr_zip (t : Tx T) : T.mg "zip" = none := let ⟨_, X, G⟩ := t.ex; He.free_ok X G (t.c.fact 116 (f := .free "zip") rfl)
theorem Tx.c_BETWEEN (t : Tx T) : ∃ k, T.mg "BETWEEN" = some (.str "between" k) := let ⟨_, X, G⟩ := t.ex; He.str_ok X G (t.c.fact 117 (f := .str "BETWEEN" "between") rfl)
theorem Tx.c_LOST (t : Tx T) : ∃ k, T.mg "LOST" = some (.str "lost" k) := let ⟨_, X, G⟩ := t.ex; He.str_ok X G (t.c.fact 118 (f := .str "LOST" "lost") rfl)
theorem Tx.c_MOST_SIZE (t : Tx T) : ∃ k, T.mg "MOST_SIZE" = some (.int 6 k) := let ⟨_, X, G⟩ := t.ex; He.int_ok X G (t.c.fact 119 (f := .int "MOST_SIZE" 6) rfl)
theorem Tx.c_STILL (t : Tx T) : ∃ k, T.mg "STILL" = some (.str "still" k) := let ⟨_, X, G⟩ := t.ex; He.str_ok X G (t.c.fact 120 (f := .str "STILL" "still") rfl)
theorem Tx.mk_Room (t : Tx T) : Mk T.K (He.ga T.K "Room") (He.fAd T.K ("Room", some "__init__")) := He.mkr_ok (t.c.fact 121 (f := .mkr "Room") rfl)
theorem Tx.d_is_integer (t : Tx T) : FunD T.K "is_integer" "is_integer" (defArgs s_is_integer) (defBody s_is_integer) (defScope s_is_integer) [] [] (He.fAd T.K ("is_integer", none)) (fdOf T.K ("is_integer", none)) := def_at t.c 0 (d := y_is_integer) rfl
theorem Tx.k_is_integer (t : Tx T) : PySem.W.keepIn T.K (.ref (He.fAd T.K ("is_integer", none))) = true := t.d_is_integer.kp
theorem Tx.d_is_prime (t : Tx T) : FunD T.K "is_prime" "is_prime" (defArgs s_is_prime) (defBody s_is_prime) (defScope s_is_prime) [] [] (He.fAd T.K ("is_prime", none)) (fdOf T.K ("is_prime", none)) := def_at t.c 1 (d := y_is_prime) rfl
theorem Tx.k_is_prime (t : Tx T) : PySem.W.keepIn T.K (.ref (He.fAd T.K ("is_prime", none))) = true := t.d_is_prime.kp
theorem Tx.d_InvalidPrime_init (t : Tx T) : FunD T.K "__init__" "InvalidPrime.__init__" (defArgs s_InvalidPrime_init) (defBody s_InvalidPrime_init) (defScope s_InvalidPrime_init) [] [] (He.fAd T.K ("InvalidPrime", some "__init__")) (fdOf T.K ("InvalidPrime", some "__init__")) := def_at t.c 2 (d := y_InvalidPrime_init) rfl
theorem Tx.d_want_prime (t : Tx T) : FunD T.K "want_prime" "want_prime" (defArgs s_want_prime) (defBody s_want_prime) (defScope s_want_prime) [] [] (He.fAd T.K ("want_prime", none)) (fdOf T.K ("want_prime", none)) := def_at t.c 3 (d := y_want_prime) rfl
theorem Tx.k_want_prime (t : Tx T) : PySem.W.keepIn T.K (.ref (He.fAd T.K ("want_prime", none))) = true := t.d_want_prime.kp
theorem Tx.d_is_list (t : Tx T) : FunD T.K "is_list" "is_list" (defArgs s_is_list) (defBody s_is_list) (defScope s_is_list) [] [] (He.fAd T.K ("is_list", none)) (fdOf T.K ("is_list", none)) := def_at t.c 4 (d := y_is_list) rfl
theorem Tx.k_is_list (t : Tx T) : PySem.W.keepIn T.K (.ref (He.fAd T.K ("is_list", none))) = true := t.d_is_list.kp
theorem Tx.d_is_rest_by (t : Tx T) : FunD T.K "is_rest_by" "is_rest_by" (defArgs s_is_rest_by) (defBody s_is_rest_by) (defScope s_is_rest_by) [] [] (He.fAd T.K ("is_rest_by", none)) (fdOf T.K ("is_rest_by", none)) := def_at t.c 5 (d := y_is_rest_by) rfl
theorem Tx.k_is_rest_by (t : Tx T) : PySem.W.keepIn T.K (.ref (He.fAd T.K ("is_rest_by", none))) = true := t.d_is_rest_by.kp
theorem Tx.d_row_in (t : Tx T) : FunD T.K "row_in" "row_in" (defArgs s_row_in) (defBody s_row_in) (defScope s_row_in) [] [] (He.fAd T.K ("row_in", none)) (fdOf T.K ("row_in", none)) := def_at t.c 6 (d := y_row_in) rfl
theorem Tx.k_row_in (t : Tx T) : PySem.W.keepIn T.K (.ref (He.fAd T.K ("row_in", none))) = true := t.d_row_in.kp
theorem Tx.d_table_in (t : Tx T) : FunD T.K "table_in" "table_in" (defArgs s_table_in) (defBody s_table_in) (defScope s_table_in) [] [] (He.fAd T.K ("table_in", none)) (fdOf T.K ("table_in", none)) := def_at t.c 7 (d := y_table_in) rfl
theorem Tx.k_table_in (t : Tx T) : PySem.W.keepIn T.K (.ref (He.fAd T.K ("table_in", none))) = true := t.d_table_in.kp
theorem Tx.d_InvalidRows_init (t : Tx T) : FunD T.K "__init__" "InvalidRows.__init__" (defArgs s_InvalidRows_init) (defBody s_InvalidRows_init) (defScope s_InvalidRows_init) [] [] (He.fAd T.K ("InvalidRows", some "__init__")) (fdOf T.K ("InvalidRows", some "__init__")) := def_at t.c 8 (d := y_InvalidRows_init) rfl
theorem Tx.d_turned_of (t : Tx T) : FunD T.K "turned_of" "turned_of" (defArgs s_turned_of) (defBody s_turned_of) (defScope s_turned_of) [] [] (He.fAd T.K ("turned_of", none)) (fdOf T.K ("turned_of", none)) := def_at t.c 9 (d := y_turned_of) rfl
theorem Tx.k_turned_of (t : Tx T) : PySem.W.keepIn T.K (.ref (He.fAd T.K ("turned_of", none))) = true := t.d_turned_of.kp
theorem Tx.d_right_rows (t : Tx T) : FunD T.K "right_rows" "right_rows" (defArgs s_right_rows) (defBody s_right_rows) (defScope s_right_rows) [] [] (He.fAd T.K ("right_rows", none)) (fdOf T.K ("right_rows", none)) := def_at t.c 10 (d := y_right_rows) rfl
theorem Tx.k_right_rows (t : Tx T) : PySem.W.keepIn T.K (.ref (He.fAd T.K ("right_rows", none))) = true := t.d_right_rows.kp
theorem Tx.d_Room_init (t : Tx T) : FunD T.K "__init__" "Room.__init__" (defArgs s_Room_init) (defBody s_Room_init) (defScope s_Room_init) (He.DefD.dvs T.K y_Room_init) [] (He.fAd T.K ("Room", some "__init__")) (fdOf T.K ("Room", some "__init__")) := def_at t.c 11 (d := y_Room_init) rfl
theorem Tx.d_InvalidRoom_init (t : Tx T) : FunD T.K "__init__" "InvalidRoom.__init__" (defArgs s_InvalidRoom_init) (defBody s_InvalidRoom_init) (defScope s_InvalidRoom_init) [] [] (He.fAd T.K ("InvalidRoom", some "__init__")) (fdOf T.K ("InvalidRoom", some "__init__")) := def_at t.c 12 (d := y_InvalidRoom_init) rfl
theorem Tx.d_want_room (t : Tx T) : FunD T.K "want_room" "want_room" (defArgs s_want_room) (defBody s_want_room) (defScope s_want_room) [] [] (He.fAd T.K ("want_room", none)) (fdOf T.K ("want_room", none)) := def_at t.c 13 (d := y_want_room) rfl
theorem Tx.k_want_room (t : Tx T) : PySem.W.keepIn T.K (.ref (He.fAd T.K ("want_room", none))) = true := t.d_want_room.kp
theorem Tx.d_scaled_of (t : Tx T) : FunD T.K "scaled_of" "scaled_of" (defArgs s_scaled_of) (defBody s_scaled_of) (defScope s_scaled_of) [] [] (He.fAd T.K ("scaled_of", none)) (fdOf T.K ("scaled_of", none)) := def_at t.c 14 (d := y_scaled_of) rfl
theorem Tx.k_scaled_of (t : Tx T) : PySem.W.keepIn T.K (.ref (He.fAd T.K ("scaled_of", none))) = true := t.d_scaled_of.kp
theorem Tx.d_power_of (t : Tx T) : FunD T.K "power_of" "power_of" (defArgs s_power_of) (defBody s_power_of) (defScope s_power_of) [] [] (He.fAd T.K ("power_of", none)) (fdOf T.K ("power_of", none)) := def_at t.c 15 (d := y_power_of) rfl
theorem Tx.k_power_of (t : Tx T) : PySem.W.keepIn T.K (.ref (He.fAd T.K ("power_of", none))) = true := t.d_power_of.kp
theorem Tx.d_undone_of (t : Tx T) : FunD T.K "undone_of" "undone_of" (defArgs s_undone_of) (defBody s_undone_of) (defScope s_undone_of) [] [] (He.fAd T.K ("undone_of", none)) (fdOf T.K ("undone_of", none)) := def_at t.c 16 (d := y_undone_of) rfl
theorem Tx.k_undone_of (t : Tx T) : PySem.W.keepIn T.K (.ref (He.fAd T.K ("undone_of", none))) = true := t.d_undone_of.kp
theorem Tx.d_sum_of (t : Tx T) : FunD T.K "sum_of" "sum_of" (defArgs s_sum_of) (defBody s_sum_of) (defScope s_sum_of) [] [] (He.fAd T.K ("sum_of", none)) (fdOf T.K ("sum_of", none)) := def_at t.c 17 (d := y_sum_of) rfl
theorem Tx.k_sum_of (t : Tx T) : PySem.W.keepIn T.K (.ref (He.fAd T.K ("sum_of", none))) = true := t.d_sum_of.kp
theorem Tx.d_without (t : Tx T) : FunD T.K "without" "without" (defArgs s_without) (defBody s_without) (defScope s_without) [] [] (He.fAd T.K ("without", none)) (fdOf T.K ("without", none)) := def_at t.c 18 (d := y_without) rfl
theorem Tx.k_without (t : Tx T) : PySem.W.keepIn T.K (.ref (He.fAd T.K ("without", none))) = true := t.d_without.kp
theorem Tx.d_steps_of (t : Tx T) : FunD T.K "steps_of" "steps_of" (defArgs s_steps_of) (defBody s_steps_of) (defScope s_steps_of) [] [] (He.fAd T.K ("steps_of", none)) (fdOf T.K ("steps_of", none)) := def_at t.c 19 (d := y_steps_of) rfl
theorem Tx.k_steps_of (t : Tx T) : PySem.W.keepIn T.K (.ref (He.fAd T.K ("steps_of", none))) = true := t.d_steps_of.kp
theorem Tx.d_part_in (t : Tx T) : FunD T.K "part_in" "part_in" (defArgs s_part_in) (defBody s_part_in) (defScope s_part_in) [] [] (He.fAd T.K ("part_in", none)) (fdOf T.K ("part_in", none)) := def_at t.c 20 (d := y_part_in) rfl
theorem Tx.k_part_in (t : Tx T) : PySem.W.keepIn T.K (.ref (He.fAd T.K ("part_in", none))) = true := t.d_part_in.kp
theorem Tx.d_InvalidPart_init (t : Tx T) : FunD T.K "__init__" "InvalidPart.__init__" (defArgs s_InvalidPart_init) (defBody s_InvalidPart_init) (defScope s_InvalidPart_init) [] [] (He.fAd T.K ("InvalidPart", some "__init__")) (fdOf T.K ("InvalidPart", some "__init__")) := def_at t.c 21 (d := y_InvalidPart_init) rfl
theorem Tx.d_want_part (t : Tx T) : FunD T.K "want_part" "want_part" (defArgs s_want_part) (defBody s_want_part) (defScope s_want_part) [] [] (He.fAd T.K ("want_part", none)) (fdOf T.K ("want_part", none)) := def_at t.c 22 (d := y_want_part) rfl
theorem Tx.k_want_part (t : Tx T) : PySem.W.keepIn T.K (.ref (He.fAd T.K ("want_part", none))) = true := t.d_want_part.kp
theorem Tx.d_InvalidTable_init (t : Tx T) : FunD T.K "__init__" "InvalidTable.__init__" (defArgs s_InvalidTable_init) (defBody s_InvalidTable_init) (defScope s_InvalidTable_init) [] [] (He.fAd T.K ("InvalidTable", some "__init__")) (fdOf T.K ("InvalidTable", some "__init__")) := def_at t.c 23 (d := y_InvalidTable_init) rfl
theorem Tx.d_want_table (t : Tx T) : FunD T.K "want_table" "want_table" (defArgs s_want_table) (defBody s_want_table) (defScope s_want_table) [] [] (He.fAd T.K ("want_table", none)) (fdOf T.K ("want_table", none)) := def_at t.c 24 (d := y_want_table) rfl
theorem Tx.k_want_table (t : Tx T) : PySem.W.keepIn T.K (.ref (He.fAd T.K ("want_table", none))) = true := t.d_want_table.kp
theorem Tx.d_want_sized (t : Tx T) : FunD T.K "want_sized" "want_sized" (defArgs s_want_sized) (defBody s_want_sized) (defScope s_want_sized) [] [] (He.fAd T.K ("want_sized", none)) (fdOf T.K ("want_sized", none)) := def_at t.c 25 (d := y_want_sized) rfl
theorem Tx.k_want_sized (t : Tx T) : PySem.W.keepIn T.K (.ref (He.fAd T.K ("want_sized", none))) = true := t.d_want_sized.kp
theorem Tx.d_mix_of (t : Tx T) : FunD T.K "mix_of" "mix_of" (defArgs s_mix_of) (defBody s_mix_of) (defScope s_mix_of) [] [] (He.fAd T.K ("mix_of", none)) (fdOf T.K ("mix_of", none)) := def_at t.c 26 (d := y_mix_of) rfl
theorem Tx.k_mix_of (t : Tx T) : PySem.W.keepIn T.K (.ref (He.fAd T.K ("mix_of", none))) = true := t.d_mix_of.kp
theorem Tx.d_led_of (t : Tx T) : FunD T.K "led_of" "led_of" (defArgs s_led_of) (defBody s_led_of) (defScope s_led_of) [] [] (He.fAd T.K ("led_of", none)) (fdOf T.K ("led_of", none)) := def_at t.c 27 (d := y_led_of) rfl
theorem Tx.k_led_of (t : Tx T) : PySem.W.keepIn T.K (.ref (He.fAd T.K ("led_of", none))) = true := t.d_led_of.kp
theorem Tx.d_images_by (t : Tx T) : FunD T.K "images_by" "images_by" (defArgs s_images_by) (defBody s_images_by) (defScope s_images_by) [] [] (He.fAd T.K ("images_by", none)) (fdOf T.K ("images_by", none)) := def_at t.c 28 (d := y_images_by) rfl
theorem Tx.k_images_by (t : Tx T) : PySem.W.keepIn T.K (.ref (He.fAd T.K ("images_by", none))) = true := t.d_images_by.kp
theorem Tx.d_InvalidImages_init (t : Tx T) : FunD T.K "__init__" "InvalidImages.__init__" (defArgs s_InvalidImages_init) (defBody s_InvalidImages_init) (defScope s_InvalidImages_init) [] [] (He.fAd T.K ("InvalidImages", some "__init__")) (fdOf T.K ("InvalidImages", some "__init__")) := def_at t.c 29 (d := y_InvalidImages_init) rfl
theorem Tx.d_want_images (t : Tx T) : FunD T.K "want_images" "want_images" (defArgs s_want_images) (defBody s_want_images) (defScope s_want_images) [] [] (He.fAd T.K ("want_images", none)) (fdOf T.K ("want_images", none)) := def_at t.c 30 (d := y_want_images) rfl
theorem Tx.k_want_images (t : Tx T) : PySem.W.keepIn T.K (.ref (He.fAd T.K ("want_images", none))) = true := t.d_want_images.kp
theorem Tx.d_told_map (t : Tx T) : FunD T.K "told_map" "told_map" (defArgs s_told_map) (defBody s_told_map) (defScope s_told_map) [] [] (He.fAd T.K ("told_map", none)) (fdOf T.K ("told_map", none)) := def_at t.c 31 (d := y_told_map) rfl
theorem Tx.k_told_map (t : Tx T) : PySem.W.keepIn T.K (.ref (He.fAd T.K ("told_map", none))) = true := t.d_told_map.kp
theorem Tx.d_dot (t : Tx T) : FunD T.K "dot" "dot" (defArgs s_dot) (defBody s_dot) (defScope s_dot) [] [] (He.fAd T.K ("dot", none)) (fdOf T.K ("dot", none)) := def_at t.c 32 (d := y_dot) rfl
theorem Tx.k_dot (t : Tx T) : PySem.W.keepIn T.K (.ref (He.fAd T.K ("dot", none))) = true := t.d_dot.kp
theorem Tx.d_between_of (t : Tx T) : FunD T.K "between_of" "between_of" (defArgs s_between_of) (defBody s_between_of) (defScope s_between_of) [] [] (He.fAd T.K ("between_of", none)) (fdOf T.K ("between_of", none)) := def_at t.c 33 (d := y_between_of) rfl
theorem Tx.k_between_of (t : Tx T) : PySem.W.keepIn T.K (.ref (He.fAd T.K ("between_of", none))) = true := t.d_between_of.kp
theorem Tx.d_is_kept (t : Tx T) : FunD T.K "is_kept" "is_kept" (defArgs s_is_kept) (defBody s_is_kept) (defScope s_is_kept) [] [] (He.fAd T.K ("is_kept", none)) (fdOf T.K ("is_kept", none)) := def_at t.c 34 (d := y_is_kept) rfl
theorem Tx.k_is_kept (t : Tx T) : PySem.W.keepIn T.K (.ref (He.fAd T.K ("is_kept", none))) = true := t.d_is_kept.kp
theorem Tx.d_bent_pair (t : Tx T) : FunD T.K "bent_pair" "bent_pair" (defArgs s_bent_pair) (defBody s_bent_pair) (defScope s_bent_pair) [] [] (He.fAd T.K ("bent_pair", none)) (fdOf T.K ("bent_pair", none)) := def_at t.c 35 (d := y_bent_pair) rfl
theorem Tx.k_bent_pair (t : Tx T) : PySem.W.keepIn T.K (.ref (He.fAd T.K ("bent_pair", none))) = true := t.d_bent_pair.kp
theorem Tx.d_head_of (t : Tx T) : FunD T.K "head_of" "head_of" (defArgs s_head_of) (defBody s_head_of) (defScope s_head_of) [] [] (He.fAd T.K ("head_of", none)) (fdOf T.K ("head_of", none)) := def_at t.c 36 (d := y_head_of) rfl
theorem Tx.k_head_of (t : Tx T) : PySem.W.keepIn T.K (.ref (He.fAd T.K ("head_of", none))) = true := t.d_head_of.kp
theorem Tx.d_heads_of (t : Tx T) : FunD T.K "heads_of" "heads_of" (defArgs s_heads_of) (defBody s_heads_of) (defScope s_heads_of) [] [] (He.fAd T.K ("heads_of", none)) (fdOf T.K ("heads_of", none)) := def_at t.c 37 (d := y_heads_of) rfl
theorem Tx.k_heads_of (t : Tx T) : PySem.W.keepIn T.K (.ref (He.fAd T.K ("heads_of", none))) = true := t.d_heads_of.kp
theorem Tx.d_unit (t : Tx T) : FunD T.K "unit" "unit" (defArgs s_unit) (defBody s_unit) (defScope s_unit) [] [] (He.fAd T.K ("unit", none)) (fdOf T.K ("unit", none)) := def_at t.c 38 (d := y_unit) rfl
theorem Tx.k_unit (t : Tx T) : PySem.W.keepIn T.K (.ref (He.fAd T.K ("unit", none))) = true := t.d_unit.kp
theorem Tx.d_zeros_of (t : Tx T) : FunD T.K "zeros_of" "zeros_of" (defArgs s_zeros_of) (defBody s_zeros_of) (defScope s_zeros_of) [] [] (He.fAd T.K ("zeros_of", none)) (fdOf T.K ("zeros_of", none)) := def_at t.c 39 (d := y_zeros_of) rfl
theorem Tx.k_zeros_of (t : Tx T) : PySem.W.keepIn T.K (.ref (He.fAd T.K ("zeros_of", none))) = true := t.d_zeros_of.kp
theorem Tx.d_columns_of (t : Tx T) : FunD T.K "columns_of" "columns_of" (defArgs s_columns_of) (defBody s_columns_of) (defScope s_columns_of) [] [] (He.fAd T.K ("columns_of", none)) (fdOf T.K ("columns_of", none)) := def_at t.c 40 (d := y_columns_of) rfl
theorem Tx.k_columns_of (t : Tx T) : PySem.W.keepIn T.K (.ref (He.fAd T.K ("columns_of", none))) = true := t.d_columns_of.kp
theorem Tx.d_lost_rests (t : Tx T) : FunD T.K "lost_rests" "lost_rests" (defArgs s_lost_rests) (defBody s_lost_rests) (defScope s_lost_rests) [] [] (He.fAd T.K ("lost_rests", none)) (fdOf T.K ("lost_rests", none)) := def_at t.c 41 (d := y_lost_rests) rfl
theorem Tx.k_lost_rests (t : Tx T) : PySem.W.keepIn T.K (.ref (He.fAd T.K ("lost_rests", none))) = true := t.d_lost_rests.kp
theorem Tx.d_still_rests (t : Tx T) : FunD T.K "still_rests" "still_rests" (defArgs s_still_rests) (defBody s_still_rests) (defScope s_still_rests) [] [] (He.fAd T.K ("still_rests", none)) (fdOf T.K ("still_rests", none)) := def_at t.c 42 (d := y_still_rests) rfl
theorem Tx.k_still_rests (t : Tx T) : PySem.W.keepIn T.K (.ref (He.fAd T.K ("still_rests", none))) = true := t.d_still_rests.kp
theorem Tx.d_made_by (t : Tx T) : FunD T.K "made_by" "made_by" (defArgs s_made_by) (defBody s_made_by) (defScope s_made_by) [] [] (He.fAd T.K ("made_by", none)) (fdOf T.K ("made_by", none)) := def_at t.c 43 (d := y_made_by) rfl
theorem Tx.k_made_by (t : Tx T) : PySem.W.keepIn T.K (.ref (He.fAd T.K ("made_by", none))) = true := t.d_made_by.kp
theorem Tx.d_is_within (t : Tx T) : FunD T.K "is_within" "is_within" (defArgs s_is_within) (defBody s_is_within) (defScope s_is_within) [] [] (He.fAd T.K ("is_within", none)) (fdOf T.K ("is_within", none)) := def_at t.c 44 (d := y_is_within) rfl
theorem Tx.k_is_within (t : Tx T) : PySem.W.keepIn T.K (.ref (He.fAd T.K ("is_within", none))) = true := t.d_is_within.kp
theorem Tx.d_apart_rests (t : Tx T) : FunD T.K "apart_rests" "apart_rests" (defArgs s_apart_rests) (defBody s_apart_rests) (defScope s_apart_rests) [] [] (He.fAd T.K ("apart_rests", none)) (fdOf T.K ("apart_rests", none)) := def_at t.c 45 (d := y_apart_rests) rfl
theorem Tx.k_apart_rests (t : Tx T) : PySem.W.keepIn T.K (.ref (He.fAd T.K ("apart_rests", none))) = true := t.d_apart_rests.kp
theorem Tx.d_bar_of (t : Tx T) : FunD T.K "bar_of" "bar_of" (defArgs s_bar_of) (defBody s_bar_of) (defScope s_bar_of) [] [] (He.fAd T.K ("bar_of", none)) (fdOf T.K ("bar_of", none)) := def_at t.c 46 (d := y_bar_of) rfl
theorem Tx.k_bar_of (t : Tx T) : PySem.W.keepIn T.K (.ref (He.fAd T.K ("bar_of", none))) = true := t.d_bar_of.kp
theorem Tx.d_goes_on (t : Tx T) : FunD T.K "goes_on" "goes_on" (defArgs s_goes_on) (defBody s_goes_on) (defScope s_goes_on) [] [] (He.fAd T.K ("goes_on", none)) (fdOf T.K ("goes_on", none)) := def_at t.c 47 (d := y_goes_on) rfl
theorem Tx.k_goes_on (t : Tx T) : PySem.W.keepIn T.K (.ref (He.fAd T.K ("goes_on", none))) = true := t.d_goes_on.kp
theorem Tx.d_bar (t : Tx T) : FunD T.K "bar" "bar" (defArgs s_bar) (defBody s_bar) (defScope s_bar) [] [] (He.fAd T.K ("bar", none)) (fdOf T.K ("bar", none)) := def_at t.c 48 (d := y_bar) rfl
theorem Tx.k_bar (t : Tx T) : PySem.W.keepIn T.K (.ref (He.fAd T.K ("bar", none))) = true := t.d_bar.kp
theorem Tx.d_added (t : Tx T) : FunD T.K "added" "added" (defArgs s_added) (defBody s_added) (defScope s_added) [] [] (He.fAd T.K ("added", none)) (fdOf T.K ("added", none)) := def_at t.c 49 (d := y_added) rfl
theorem Tx.k_added (t : Tx T) : PySem.W.keepIn T.K (.ref (He.fAd T.K ("added", none))) = true := t.d_added.kp
theorem Tx.d_is_still_row (t : Tx T) : FunD T.K "is_still_row" "is_still_row" (defArgs s_is_still_row) (defBody s_is_still_row) (defScope s_is_still_row) [] [] (He.fAd T.K ("is_still_row", none)) (fdOf T.K ("is_still_row", none)) := def_at t.c 50 (d := y_is_still_row) rfl
theorem Tx.k_is_still_row (t : Tx T) : PySem.W.keepIn T.K (.ref (He.fAd T.K ("is_still_row", none))) = true := t.d_is_still_row.kp
theorem Tx.d_is_rests_bar (t : Tx T) : FunD T.K "is_rests_bar" "is_rests_bar" (defArgs s_is_rests_bar) (defBody s_is_rests_bar) (defScope s_is_rests_bar) [] [] (He.fAd T.K ("is_rests_bar", none)) (fdOf T.K ("is_rests_bar", none)) := def_at t.c 51 (d := y_is_rests_bar) rfl
theorem Tx.k_is_rests_bar (t : Tx T) : PySem.W.keepIn T.K (.ref (He.fAd T.K ("is_rests_bar", none))) = true := t.d_is_rests_bar.kp
theorem Tx.d_is_count (t : Tx T) : FunD T.K "is_count" "is_count" (defArgs s_is_count) (defBody s_is_count) (defScope s_is_count) [] [] (He.fAd T.K ("is_count", none)) (fdOf T.K ("is_count", none)) := def_at t.c 52 (d := y_is_count) rfl
theorem Tx.k_is_count (t : Tx T) : PySem.W.keepIn T.K (.ref (He.fAd T.K ("is_count", none))) = true := t.d_is_count.kp
theorem Tx.d_is_between_bar (t : Tx T) : FunD T.K "is_between_bar" "is_between_bar" (defArgs s_is_between_bar) (defBody s_is_between_bar) (defScope s_is_between_bar) [] [] (He.fAd T.K ("is_between_bar", none)) (fdOf T.K ("is_between_bar", none)) := def_at t.c 53 (d := y_is_between_bar) rfl
theorem Tx.k_is_between_bar (t : Tx T) : PySem.W.keepIn T.K (.ref (He.fAd T.K ("is_between_bar", none))) = true := t.d_is_between_bar.kp
theorem Tx.d_is_bar_of (t : Tx T) : FunD T.K "is_bar_of" "is_bar_of" (defArgs s_is_bar_of) (defBody s_is_bar_of) (defScope s_is_bar_of) [] [] (He.fAd T.K ("is_bar_of", none)) (fdOf T.K ("is_bar_of", none)) := def_at t.c 54 (d := y_is_bar_of) rfl
theorem Tx.k_is_bar_of (t : Tx T) : PySem.W.keepIn T.K (.ref (He.fAd T.K ("is_bar_of", none))) = true := t.d_is_bar_of.kp
theorem Tx.d_is_bar (t : Tx T) : FunD T.K "is_bar" "is_bar" (defArgs s_is_bar) (defBody s_is_bar) (defScope s_is_bar) [] [] (He.fAd T.K ("is_bar", none)) (fdOf T.K ("is_bar", none)) := def_at t.c 55 (d := y_is_bar) rfl
theorem Tx.k_is_bar (t : Tx T) : PySem.W.keepIn T.K (.ref (He.fAd T.K ("is_bar", none))) = true := t.d_is_bar.kp
theorem Tx.d_between_by (t : Tx T) : FunD T.K "between_by" "between_by" (defArgs s_between_by) (defBody s_between_by) (defScope s_between_by) [] [] (He.fAd T.K ("between_by", none)) (fdOf T.K ("between_by", none)) := def_at t.c 56 (d := y_between_by) rfl
theorem Tx.k_between_by (t : Tx T) : PySem.W.keepIn T.K (.ref (He.fAd T.K ("between_by", none))) = true := t.d_between_by.kp
theorem Tx.d_first_worthy (t : Tx T) : FunD T.K "first_worthy" "first_worthy" (defArgs s_first_worthy) (defBody s_first_worthy) (defScope s_first_worthy) [] [] (He.fAd T.K ("first_worthy", none)) (fdOf T.K ("first_worthy", none)) := def_at t.c 57 (d := y_first_worthy) rfl
theorem Tx.k_first_worthy (t : Tx T) : PySem.W.keepIn T.K (.ref (He.fAd T.K ("first_worthy", none))) = true := t.d_first_worthy.kp
theorem Tx.d_idle_of (t : Tx T) : FunD T.K "idle_of" "idle_of" (defArgs s_idle_of) (defBody s_idle_of) (defScope s_idle_of) [] [] (He.fAd T.K ("idle_of", none)) (fdOf T.K ("idle_of", none)) := def_at t.c 58 (d := y_idle_of) rfl
theorem Tx.k_idle_of (t : Tx T) : PySem.W.keepIn T.K (.ref (He.fAd T.K ("idle_of", none))) = true := t.d_idle_of.kp
theorem Tx.d_squares_of (t : Tx T) : FunD T.K "squares_of" "squares_of" (defArgs s_squares_of) (defBody s_squares_of) (defScope s_squares_of) [] [] (He.fAd T.K ("squares_of", none)) (fdOf T.K ("squares_of", none)) := def_at t.c 59 (d := y_squares_of) rfl
theorem Tx.k_squares_of (t : Tx T) : PySem.W.keepIn T.K (.ref (He.fAd T.K ("squares_of", none))) = true := t.d_squares_of.kp
theorem Tx.d_betweens_of (t : Tx T) : FunD T.K "betweens_of" "betweens_of" (defArgs s_betweens_of) (defBody s_betweens_of) (defScope s_betweens_of) [] [] (He.fAd T.K ("betweens_of", none)) (fdOf T.K ("betweens_of", none)) := def_at t.c 60 (d := y_betweens_of) rfl
theorem Tx.k_betweens_of (t : Tx T) : PySem.W.keepIn T.K (.ref (He.fAd T.K ("betweens_of", none))) = true := t.d_betweens_of.kp
theorem Tx.d_filled (t : Tx T) : FunD T.K "filled" "filled" (defArgs s_filled) (defBody s_filled) (defScope s_filled) [] [] (He.fAd T.K ("filled", none)) (fdOf T.K ("filled", none)) := def_at t.c 61 (d := y_filled) rfl
theorem Tx.k_filled (t : Tx T) : PySem.W.keepIn T.K (.ref (He.fAd T.K ("filled", none))) = true := t.d_filled.kp
theorem Tx.d_split (t : Tx T) : FunD T.K "split" "split" (defArgs s_split) (defBody s_split) (defScope s_split) [] [] (He.fAd T.K ("split", none)) (fdOf T.K ("split", none)) := def_at t.c 62 (d := y_split) rfl
theorem Tx.k_split (t : Tx T) : PySem.W.keepIn T.K (.ref (He.fAd T.K ("split", none))) = true := t.d_split.kp
theorem Tx.d_solved (t : Tx T) : FunD T.K "solved" "solved" (defArgs s_solved) (defBody s_solved) (defScope s_solved) [] [] (He.fAd T.K ("solved", none)) (fdOf T.K ("solved", none)) := def_at t.c 63 (d := y_solved) rfl
theorem Tx.k_solved (t : Tx T) : PySem.W.keepIn T.K (.ref (He.fAd T.K ("solved", none))) = true := t.d_solved.kp
theorem Tx.d_worth_of (t : Tx T) : FunD T.K "worth_of" "worth_of" (defArgs s_worth_of) (defBody s_worth_of) (defScope s_worth_of) [] [] (He.fAd T.K ("worth_of", none)) (fdOf T.K ("worth_of", none)) := def_at t.c 64 (d := y_worth_of) rfl
theorem Tx.k_worth_of (t : Tx T) : PySem.W.keepIn T.K (.ref (He.fAd T.K ("worth_of", none))) = true := t.d_worth_of.kp
theorem Tx.d_partners (t : Tx T) : FunD T.K "partners" "partners" (defArgs s_partners) (defBody s_partners) (defScope s_partners) [] [] (He.fAd T.K ("partners", none)) (fdOf T.K ("partners", none)) := def_at t.c 65 (d := y_partners) rfl
theorem Tx.k_partners (t : Tx T) : PySem.W.keepIn T.K (.ref (He.fAd T.K ("partners", none))) = true := t.d_partners.kp
theorem Tx.d_angles_of (t : Tx T) : FunD T.K "angles_of" "angles_of" (defArgs s_angles_of) (defBody s_angles_of) (defScope s_angles_of) [] [] (He.fAd T.K ("angles_of", none)) (fdOf T.K ("angles_of", none)) := def_at t.c 66 (d := y_angles_of) rfl
theorem Tx.k_angles_of (t : Tx T) : PySem.W.keepIn T.K (.ref (He.fAd T.K ("angles_of", none))) = true := t.d_angles_of.kp
theorem Tx.d_still_of (t : Tx T) : FunD T.K "still_of" "still_of" (defArgs s_still_of) (defBody s_still_of) (defScope s_still_of) [] [] (He.fAd T.K ("still_of", none)) (fdOf T.K ("still_of", none)) := def_at t.c 67 (d := y_still_of) rfl
theorem Tx.k_still_of (t : Tx T) : PySem.W.keepIn T.K (.ref (He.fAd T.K ("still_of", none))) = true := t.d_still_of.kp
theorem Tx.d_framed (t : Tx T) : FunD T.K "framed" "framed" (defArgs s_framed) (defBody s_framed) (defScope s_framed) [] [] (He.fAd T.K ("framed", none)) (fdOf T.K ("framed", none)) := def_at t.c 68 (d := y_framed) rfl
theorem Tx.k_framed (t : Tx T) : PySem.W.keepIn T.K (.ref (He.fAd T.K ("framed", none))) = true := t.d_framed.kp
theorem Tx.d_reduced (t : Tx T) : FunD T.K "reduced" "reduced" (defArgs s_reduced) (defBody s_reduced) (defScope s_reduced) [] [] (He.fAd T.K ("reduced", none)) (fdOf T.K ("reduced", none)) := def_at t.c 69 (d := y_reduced) rfl
theorem Tx.k_reduced (t : Tx T) : PySem.W.keepIn T.K (.ref (He.fAd T.K ("reduced", none))) = true := t.d_reduced.kp
theorem Tx.d_undone_table (t : Tx T) : FunD T.K "undone_table" "undone_table" (defArgs s_undone_table) (defBody s_undone_table) (defScope s_undone_table) [] [] (He.fAd T.K ("undone_table", none)) (fdOf T.K ("undone_table", none)) := def_at t.c 70 (d := y_undone_table) rfl
theorem Tx.k_undone_table (t : Tx T) : PySem.W.keepIn T.K (.ref (He.fAd T.K ("undone_table", none))) = true := t.d_undone_table.kp
theorem Tx.d_times_of (t : Tx T) : FunD T.K "times_of" "times_of" (defArgs s_times_of) (defBody s_times_of) (defScope s_times_of) [] [] (He.fAd T.K ("times_of", none)) (fdOf T.K ("times_of", none)) := def_at t.c 71 (d := y_times_of) rfl
theorem Tx.k_times_of (t : Tx T) : PySem.W.keepIn T.K (.ref (He.fAd T.K ("times_of", none))) = true := t.d_times_of.kp
theorem Tx.d_sign_of (t : Tx T) : FunD T.K "sign_of" "sign_of" (defArgs s_sign_of) (defBody s_sign_of) (defScope s_sign_of) [] [] (He.fAd T.K ("sign_of", none)) (fdOf T.K ("sign_of", none)) := def_at t.c 72 (d := y_sign_of) rfl
theorem Tx.k_sign_of (t : Tx T) : PySem.W.keepIn T.K (.ref (He.fAd T.K ("sign_of", none))) = true := t.d_sign_of.kp
theorem Tx.d_kind_in (t : Tx T) : FunD T.K "kind_in" "kind_in" (defArgs s_kind_in) (defBody s_kind_in) (defScope s_kind_in) [] [] (He.fAd T.K ("kind_in", none)) (fdOf T.K ("kind_in", none)) := def_at t.c 73 (d := y_kind_in) rfl
theorem Tx.k_kind_in (t : Tx T) : PySem.W.keepIn T.K (.ref (He.fAd T.K ("kind_in", none))) = true := t.d_kind_in.kp
theorem Tx.d_one_by (t : Tx T) : FunD T.K "one_by" "one_by" (defArgs s_one_by) (defBody s_one_by) (defScope s_one_by) [] [] (He.fAd T.K ("one_by", none)) (fdOf T.K ("one_by", none)) := def_at t.c 74 (d := y_one_by) rfl
theorem Tx.k_one_by (t : Tx T) : PySem.W.keepIn T.K (.ref (He.fAd T.K ("one_by", none))) = true := t.d_one_by.kp
theorem Tx.d_to_ones (t : Tx T) : FunD T.K "to_ones" "to_ones" (defArgs s_to_ones) (defBody s_to_ones) (defScope s_to_ones) [] [] (He.fAd T.K ("to_ones", none)) (fdOf T.K ("to_ones", none)) := def_at t.c 75 (d := y_to_ones) rfl
theorem Tx.k_to_ones (t : Tx T) : PySem.W.keepIn T.K (.ref (He.fAd T.K ("to_ones", none))) = true := t.d_to_ones.kp
theorem Tx.d_odd_of (t : Tx T) : FunD T.K "odd_of" "odd_of" (defArgs s_odd_of) (defBody s_odd_of) (defScope s_odd_of) [] [] (He.fAd T.K ("odd_of", none)) (fdOf T.K ("odd_of", none)) := def_at t.c 76 (d := y_odd_of) rfl
theorem Tx.k_odd_of (t : Tx T) : PySem.W.keepIn T.K (.ref (He.fAd T.K ("odd_of", none))) = true := t.d_odd_of.kp
theorem Tx.d_told_last (t : Tx T) : FunD T.K "told_last" "told_last" (defArgs s_told_last) (defBody s_told_last) (defScope s_told_last) [] [] (He.fAd T.K ("told_last", none)) (fdOf T.K ("told_last", none)) := def_at t.c 77 (d := y_told_last) rfl
theorem Tx.k_told_last (t : Tx T) : PySem.W.keepIn T.K (.ref (He.fAd T.K ("told_last", none))) = true := t.d_told_last.kp
theorem Tx.d_root_of (t : Tx T) : FunD T.K "root_of" "root_of" (defArgs s_root_of) (defBody s_root_of) (defScope s_root_of) [] [] (He.fAd T.K ("root_of", none)) (fdOf T.K ("root_of", none)) := def_at t.c 78 (d := y_root_of) rfl
theorem Tx.k_root_of (t : Tx T) : PySem.W.keepIn T.K (.ref (He.fAd T.K ("root_of", none))) = true := t.d_root_of.kp
theorem Tx.d_plain_lead_of (t : Tx T) : FunD T.K "plain_lead_of" "plain_lead_of" (defArgs s_plain_lead_of) (defBody s_plain_lead_of) (defScope s_plain_lead_of) [] [] (He.fAd T.K ("plain_lead_of", none)) (fdOf T.K ("plain_lead_of", none)) := def_at t.c 79 (d := y_plain_lead_of) rfl
theorem Tx.k_plain_lead_of (t : Tx T) : PySem.W.keepIn T.K (.ref (He.fAd T.K ("plain_lead_of", none))) = true := t.d_plain_lead_of.kp
theorem Tx.d_lead_of (t : Tx T) : FunD T.K "lead_of" "lead_of" (defArgs s_lead_of) (defBody s_lead_of) (defScope s_lead_of) [] [] (He.fAd T.K ("lead_of", none)) (fdOf T.K ("lead_of", none)) := def_at t.c 80 (d := y_lead_of) rfl
theorem Tx.k_lead_of (t : Tx T) : PySem.W.keepIn T.K (.ref (He.fAd T.K ("lead_of", none))) = true := t.d_lead_of.kp
theorem Tx.d_keeper_by (t : Tx T) : FunD T.K "keeper_by" "keeper_by" (defArgs s_keeper_by) (defBody s_keeper_by) (defScope s_keeper_by) [] [] (He.fAd T.K ("keeper_by", none)) (fdOf T.K ("keeper_by", none)) := def_at t.c 81 (d := y_keeper_by) rfl
theorem Tx.k_keeper_by (t : Tx T) : PySem.W.keepIn T.K (.ref (He.fAd T.K ("keeper_by", none))) = true := t.d_keeper_by.kp
theorem Tx.d_keeper_of (t : Tx T) : FunD T.K "keeper_of" "keeper_of" (defArgs s_keeper_of) (defBody s_keeper_of) (defScope s_keeper_of) [] [] (He.fAd T.K ("keeper_of", none)) (fdOf T.K ("keeper_of", none)) := def_at t.c 82 (d := y_keeper_of) rfl
theorem Tx.k_keeper_of (t : Tx T) : PySem.W.keepIn T.K (.ref (He.fAd T.K ("keeper_of", none))) = true := t.d_keeper_of.kp
theorem Tx.d_keeper_on (t : Tx T) : FunD T.K "keeper_on" "keeper_on" (defArgs s_keeper_on) (defBody s_keeper_on) (defScope s_keeper_on) [] [] (He.fAd T.K ("keeper_on", none)) (fdOf T.K ("keeper_on", none)) := def_at t.c 83 (d := y_keeper_on) rfl
theorem Tx.k_keeper_on (t : Tx T) : PySem.W.keepIn T.K (.ref (He.fAd T.K ("keeper_on", none))) = true := t.d_keeper_on.kp
theorem Tx.d_keeps_all (t : Tx T) : FunD T.K "keeps_all" "keeps_all" (defArgs s_keeps_all) (defBody s_keeps_all) (defScope s_keeps_all) [] [] (He.fAd T.K ("keeps_all", none)) (fdOf T.K ("keeps_all", none)) := def_at t.c 84 (d := y_keeps_all) rfl
theorem Tx.k_keeps_all (t : Tx T) : PySem.W.keepIn T.K (.ref (He.fAd T.K ("keeps_all", none))) = true := t.d_keeps_all.kp
theorem Tx.d_determinant_of (t : Tx T) : FunD T.K "determinant_of" "determinant_of" (defArgs s_determinant_of) (defBody s_determinant_of) (defScope s_determinant_of) [] [] (He.fAd T.K ("determinant_of", none)) (fdOf T.K ("determinant_of", none)) := def_at t.c 85 (d := y_determinant_of) rfl
theorem Tx.k_determinant_of (t : Tx T) : PySem.W.keepIn T.K (.ref (He.fAd T.K ("determinant_of", none))) = true := t.d_determinant_of.kp
theorem Tx.d_keeper_in (t : Tx T) : FunD T.K "keeper_in" "keeper_in" (defArgs s_keeper_in) (defBody s_keeper_in) (defScope s_keeper_in) [] [] (He.fAd T.K ("keeper_in", none)) (fdOf T.K ("keeper_in", none)) := def_at t.c 86 (d := y_keeper_in) rfl
theorem Tx.k_keeper_in (t : Tx T) : PySem.W.keepIn T.K (.ref (He.fAd T.K ("keeper_in", none))) = true := t.d_keeper_in.kp
theorem Tx.d_continues (t : Tx T) : FunD T.K "continues" "continues" (defArgs s_continues) (defBody s_continues) (defScope s_continues) [] [] (He.fAd T.K ("continues", none)) (fdOf T.K ("continues", none)) := def_at t.c 87 (d := y_continues) rfl
theorem Tx.k_continues (t : Tx T) : PySem.W.keepIn T.K (.ref (He.fAd T.K ("continues", none))) = true := t.d_continues.kp
theorem Tx.d_both_parts (t : Tx T) : FunD T.K "both_parts" "both_parts" (defArgs s_both_parts) (defBody s_both_parts) (defScope s_both_parts) [] [] (He.fAd T.K ("both_parts", none)) (fdOf T.K ("both_parts", none)) := def_at t.c 88 (d := y_both_parts) rfl
theorem Tx.k_both_parts (t : Tx T) : PySem.W.keepIn T.K (.ref (He.fAd T.K ("both_parts", none))) = true := t.d_both_parts.kp
theorem Tx.d_own_table (t : Tx T) : FunD T.K "own_table" "own_table" (defArgs s_own_table) (defBody s_own_table) (defScope s_own_table) [] [] (He.fAd T.K ("own_table", none)) (fdOf T.K ("own_table", none)) := def_at t.c 89 (d := y_own_table) rfl
theorem Tx.k_own_table (t : Tx T) : PySem.W.keepIn T.K (.ref (He.fAd T.K ("own_table", none))) = true := t.d_own_table.kp
theorem Tx.d_meeting_of (t : Tx T) : FunD T.K "meeting_of" "meeting_of" (defArgs s_meeting_of) (defBody s_meeting_of) (defScope s_meeting_of) [] [] (He.fAd T.K ("meeting_of", none)) (fdOf T.K ("meeting_of", none)) := def_at t.c 90 (d := y_meeting_of) rfl
theorem Tx.k_meeting_of (t : Tx T) : PySem.W.keepIn T.K (.ref (He.fAd T.K ("meeting_of", none))) = true := t.d_meeting_of.kp
theorem Tx.d_still_part (t : Tx T) : FunD T.K "still_part" "still_part" (defArgs s_still_part) (defBody s_still_part) (defScope s_still_part) [] [] (He.fAd T.K ("still_part", none)) (fdOf T.K ("still_part", none)) := def_at t.c 91 (d := y_still_part) rfl
theorem Tx.k_still_part (t : Tx T) : PySem.W.keepIn T.K (.ref (He.fAd T.K ("still_part", none))) = true := t.d_still_part.kp
theorem Tx.d_part_kind_of (t : Tx T) : FunD T.K "part_kind_of" "part_kind_of" (defArgs s_part_kind_of) (defBody s_part_kind_of) (defScope s_part_kind_of) [] [] (He.fAd T.K ("part_kind_of", none)) (fdOf T.K ("part_kind_of", none)) := def_at t.c 92 (d := y_part_kind_of) rfl
theorem Tx.k_part_kind_of (t : Tx T) : PySem.W.keepIn T.K (.ref (He.fAd T.K ("part_kind_of", none))) = true := t.d_part_kind_of.kp
theorem Tx.d_part_lead (t : Tx T) : FunD T.K "part_lead" "part_lead" (defArgs s_part_lead) (defBody s_part_lead) (defScope s_part_lead) [] [] (He.fAd T.K ("part_lead", none)) (fdOf T.K ("part_lead", none)) := def_at t.c 93 (d := y_part_lead) rfl
theorem Tx.k_part_lead (t : Tx T) : PySem.W.keepIn T.K (.ref (He.fAd T.K ("part_lead", none))) = true := t.d_part_lead.kp
theorem Tx.d_leads_part (t : Tx T) : FunD T.K "leads_part" "leads_part" (defArgs s_leads_part) (defBody s_leads_part) (defScope s_leads_part) [] [] (He.fAd T.K ("leads_part", none)) (fdOf T.K ("leads_part", none)) := def_at t.c 94 (d := y_leads_part) rfl
theorem Tx.k_leads_part (t : Tx T) : PySem.W.keepIn T.K (.ref (He.fAd T.K ("leads_part", none))) = true := t.d_leads_part.kp
theorem Tx.d__law_fault (t : Tx T) : FunD T.K "_law_fault" "_law_fault" (defArgs s__law_fault) (defBody s__law_fault) (defScope s__law_fault) [] [] (He.fAd T.K ("_law_fault", none)) (fdOf T.K ("_law_fault", none)) := def_at t.c 95 (d := y__law_fault) rfl
theorem Tx.k__law_fault (t : Tx T) : PySem.W.keepIn T.K (.ref (He.fAd T.K ("_law_fault", none))) = true := t.d__law_fault.kp
theorem Tx.d__law_values_right (t : Tx T) : FunD T.K "_law_values_right" "_law_values_right" (defArgs s__law_values_right) (defBody s__law_values_right) (defScope s__law_values_right) [] [] (He.fAd T.K ("_law_values_right", none)) (fdOf T.K ("_law_values_right", none)) := def_at t.c 96 (d := y__law_values_right) rfl
theorem Tx.k__law_values_right (t : Tx T) : PySem.W.keepIn T.K (.ref (He.fAd T.K ("_law_values_right", none))) = true := t.d__law_values_right.kp
theorem Tx.d__law_judges_right (t : Tx T) : FunD T.K "_law_judges_right" "_law_judges_right" (defArgs s__law_judges_right) (defBody s__law_judges_right) (defScope s__law_judges_right) [] [] (He.fAd T.K ("_law_judges_right", none)) (fdOf T.K ("_law_judges_right", none)) := def_at t.c 97 (d := y__law_judges_right) rfl
theorem Tx.k__law_judges_right (t : Tx T) : PySem.W.keepIn T.K (.ref (He.fAd T.K ("_law_judges_right", none))) = true := t.d__law_judges_right.kp
theorem Tx.d_Room_repr (t : Tx T) : FunD T.K "__repr__" "Room.__repr__" (defArgs s_Room_repr) (defBody s_Room_repr) (defScope s_Room_repr) [] [] (He.fAd T.K ("Room", some "__repr__")) (fdOf T.K ("Room", some "__repr__")) := def_at t.c 98 (d := y_Room_repr) rfl
theorem Tx.d__law_names_right (t : Tx T) : FunD T.K "_law_names_right" "_law_names_right" (defArgs s__law_names_right) (defBody s__law_names_right) (defScope s__law_names_right) [] [] (He.fAd T.K ("_law_names_right", none)) (fdOf T.K ("_law_names_right", none)) := def_at t.c 99 (d := y__law_names_right) rfl
theorem Tx.k__law_names_right (t : Tx T) : PySem.W.keepIn T.K (.ref (He.fAd T.K ("_law_names_right", none))) = true := t.d__law_names_right.kp
theorem Tx.d_law (t : Tx T) : FunD T.K "law" "law" (defArgs s_law) (defBody s_law) (defScope s_law) [] [] (He.fAd T.K ("law", none)) (fdOf T.K ("law", none)) := def_at t.c 100 (d := y_law) rfl
theorem Tx.k_law (t : Tx T) : PySem.W.keepIn T.K (.ref (He.fAd T.K ("law", none))) = true := t.d_law.kp
end
section
variable {T : Wh}
abbrev N_is_integer : List Str := ["value"]
theorem sc_is_integer : FnScope N_is_integer ["value"] (defScope s_is_integer) := ⟨rfl, rfl, rfl, by decide +kernel, rfl, by decide +kernel, by decide +kernel⟩
theorem b_is_integer (t : Tx T) : Binds T.K (fdOf T.K ("is_integer", none)) ["value"] [] := t.d_is_integer.bindsN fun _ _ _ _ _ _ us hl => match us, hl with | [_], _ => rfl
def c_is_integer : Sc := (sRet (cAnd (cUn (oIsi clss .int) (cVar 0)) (cNot (cUn (oIsi clss .bl) (cVar 0)))))
def F_is_integer : List PV → Tr PV := body (.ret .non) 1 c_is_integer
theorem g_is_integer (t : Tx T) : FnG T 1 (He.fAd T.K ("is_integer", none)) (fdOf T.K ("is_integer", none)) ["value"] (SpC (kn T.K) (zV (kn T.K)) 1 F_is_integer) := fn_bodyZ (own := []) (c := c_is_integer) (N := N_is_integer) end_V t.d_is_integer sc_is_integer rfl (by decide) fun cdv A outer s H E g hr =>
 (sb_one (ss_ret (se_and (se_isi rfl t.kt rfl (t.fr_isinstance) (SX.toV (se_var (i := 0) rfl (vis_by rfl) rfl)) (sc_ty .int rfl (t.fr_int) bt_int)) (se_one (se_not (se_isi rfl t.kt rfl (t.fr_isinstance) (SX.toV (se_var (i := 0) rfl (vis_by rfl) rfl)) (sc_ty .bl rfl (t.fr_bool) bt_bool)))))))
abbrev N_is_prime : List Str := ["value"]
theorem sc_is_prime : FnScope N_is_prime ["value"] (defScope s_is_prime) := ⟨rfl, rfl, rfl, by decide +kernel, rfl, by decide +kernel, by decide +kernel⟩
theorem b_is_prime (t : Tx T) : Binds T.K (fdOf T.K ("is_prime", none)) ["value"] [] := t.d_is_prime.bindsN fun _ _ _ _ _ _ us hl => match us, hl with | [_], _ => rfl
def c_is_prime : Sc := (sRet (cAnd (cCall F_is_integer (aCons (cVar 0) aNil)) (cBin (oIn false) (cVar 0) (cC (.tup [(.int 3), (.int 5), (.int 7), (.int 11), (.int 13)])))))
def F_is_prime : List PV → Tr PV := body (.ret .non) 1 c_is_prime
theorem g_is_prime (t : Tx T) : FnG T 2 (He.fAd T.K ("is_prime", none)) (fdOf T.K ("is_prime", none)) ["value"] (SpC (kn T.K) (zV (kn T.K)) 1 F_is_prime) := fn_bodyZ (own := []) (c := c_is_prime) (N := N_is_prime) end_V t.d_is_prime sc_is_prime rfl (by decide) fun cdv A outer s H E g hr =>
 (sb_one (ss_ret (se_and (sx_call (z := zV _) ⟨rfl, rfl, rfl, rfl, rfl⟩ (g_is_integer t) (hr.mono (by decide)) rfl t.g_is_integer (t.k_is_integer) (b_is_integer t) (sa_cons (se_var (i := 0) rfl (vis_by rfl) rfl) sa_nil) rfl rfl) (se_one (sx_cmp (z := zV _) (op_in' rfl) (SX.toV (se_var (i := 0) rfl (vis_by rfl) rfl)) (SX.toV (se_gtup (qs := [(.int 3), (.int 5), (.int 7), (.int 11), (.int 13)]) t.c_PRIMES t.r_PRIMES rfl)) (by with_unfolding_all rfl))))))
abbrev N_InvalidPrime_init : List Str := ["self", "value"]
theorem sc_InvalidPrime_init : FnScope N_InvalidPrime_init ["self", "value"] (defScope s_InvalidPrime_init) := ⟨rfl, rfl, rfl, by decide +kernel, rfl, by decide +kernel, by decide +kernel⟩
theorem b_InvalidPrime_init (t : Tx T) : Binds T.K (fdOf T.K ("InvalidPrime", some "__init__")) ["self", "value"] [] := t.d_InvalidPrime_init.bindsN fun _ _ _ _ _ _ us hl => match us, hl with | [_, _], _ => rfl
theorem g_InvalidPrime_init (t : Tx T) : FnOk T.P T.w T.K T.mg T.base (L2.CX T.P T.w) 1 (He.fAd T.K ("InvalidPrime", some "__init__")) (fdOf T.K ("InvalidPrime", some "__init__")) ["self", "value"] (spX1 ((kn T.K).exn 3) "value") := fn_x1 (N := N_InvalidPrime_init) t.d_InvalidPrime_init sc_InvalidPrime_init rfl rfl rfl rfl t.er_InvalidPrime.o (t.er_InvalidPrime.no _ (by simp [eflds]))
abbrev N_want_prime : List Str := ["value"]
theorem sc_want_prime : FnScope N_want_prime ["value"] (defScope s_want_prime) := ⟨rfl, rfl, rfl, by decide +kernel, rfl, by decide +kernel, by decide +kernel⟩
theorem b_want_prime (t : Tx T) : Binds T.K (fdOf T.K ("want_prime", none)) ["value"] [] := t.d_want_prime.bindsN fun _ _ _ _ _ _ us hl => match us, hl with | [_], _ => rfl
def c_want_prime : Sc := (sIf (tNot (tVal (cCall F_is_prime (aCons (cVar 0) aNil)))) (sRaise 3 (cVar 0)) sSkip)
def F_want_prime : List PV → Tr PV := body (.ret .non) 1 c_want_prime
theorem g_want_prime (t : Tx T) : FnG T 3 (He.fAd T.K ("want_prime", none)) (fdOf T.K ("want_prime", none)) ["value"] (SpC (kn T.K) (zV (kn T.K)) 1 F_want_prime) := fn_bodyZ (own := []) (c := c_want_prime) (N := N_want_prime) end_V t.d_want_prime sc_want_prime rfl (by decide) fun cdv A outer s H E g hr =>
 (sb_one (ss_if (st_not (st_val (sx_call (z := zV _) ⟨rfl, rfl, rfl, rfl, rfl⟩ (g_is_prime t) (hr.mono (by decide)) rfl t.g_is_prime (t.k_is_prime) (b_is_prime t) (sa_cons (se_var (i := 0) rfl (vis_by rfl) rfl) sa_nil) rfl rfl) (fun _ => rfl))) (sb_one (ss_raise (n := 3) rfl t.er_InvalidPrime.o t.er_InvalidPrime.iC t.er_InvalidPrime.tI (g_InvalidPrime_init t) (hr.rm.mono (by decide)) (b_InvalidPrime_init t) rfl t.g_InvalidPrime rfl (se_var (i := 0) rfl (vis_by rfl) rfl))) sb_nil))
abbrev N_is_list : List Str := ["value"]
theorem sc_is_list : FnScope N_is_list ["value"] (defScope s_is_list) := ⟨rfl, rfl, rfl, by decide +kernel, rfl, by decide +kernel, by decide +kernel⟩
theorem b_is_list (t : Tx T) : Binds T.K (fdOf T.K ("is_list", none)) ["value"] [] := t.d_is_list.bindsN fun _ _ _ _ _ _ us hl => match us, hl with | [_], _ => rfl
def c_is_list : Sc := (sRet (cUn (oIsiT clss [.lst, .tup]) (cVar 0)))
def F_is_list : List PV → Tr PV := body (.ret .non) 1 c_is_list
theorem g_is_list (t : Tx T) : FnG T 1 (He.fAd T.K ("is_list", none)) (fdOf T.K ("is_list", none)) ["value"] (SpC (kn T.K) (zV (kn T.K)) 1 F_is_list) := fn_bodyZ (own := []) (c := c_is_list) (N := N_is_list) end_V t.d_is_list sc_is_list rfl (by decide) fun cdv A outer s H E g hr =>
 (sb_one (ss_ret (se_isiT rfl t.kt rfl (t.fr_isinstance) (SX.toV (se_var (i := 0) rfl (vis_by rfl) rfl)) (SCs.cons (sc_ty .lst rfl (t.fr_list) bt_list) (SCs.cons (sc_ty .tup rfl (t.fr_tuple) bt_tuple) SCs.nil rfl) rfl))))
abbrev N_is_rest_by : List Str := ["prime", "value"]
theorem sc_is_rest_by : FnScope N_is_rest_by ["prime", "value"] (defScope s_is_rest_by) := ⟨rfl, rfl, rfl, by decide +kernel, rfl, by decide +kernel, by decide +kernel⟩
theorem b_is_rest_by (t : Tx T) : Binds T.K (fdOf T.K ("is_rest_by", none)) ["prime", "value"] [] := t.d_is_rest_by.bindsN fun _ _ _ _ _ _ us hl => match us, hl with | [_, _], _ => rfl
def c_is_rest_by : Sc := (sRet (cAnd (cCall F_is_integer (aCons (cVar 1) aNil)) (cChain oLe oLt (cC (.int 0)) (cVar 1) (cVar 0))))
def F_is_rest_by : List PV → Tr PV := body (.ret .non) 2 c_is_rest_by
theorem g_is_rest_by (t : Tx T) : FnG T 2 (He.fAd T.K ("is_rest_by", none)) (fdOf T.K ("is_rest_by", none)) ["prime", "value"] (SpC (kn T.K) (zV (kn T.K)) 2 F_is_rest_by) := fn_bodyZ (own := []) (c := c_is_rest_by) (N := N_is_rest_by) end_V t.d_is_rest_by sc_is_rest_by rfl (by decide) fun cdv A outer s H E g hr =>
 (sb_one (ss_ret (se_and (sx_call (z := zV _) ⟨rfl, rfl, rfl, rfl, rfl⟩ (g_is_integer t) (hr.mono (by decide)) rfl t.g_is_integer (t.k_is_integer) (b_is_integer t) (sa_cons (se_var (i := 1) rfl (vis_by rfl) rfl) sa_nil) rfl rfl) (se_one (se_chain op_le' op_lt' (SX.toV se_int) (SX.toV (se_var (i := 1) rfl (vis_by rfl) rfl)) (SX.toV (se_var (i := 0) rfl (vis_by rfl) rfl)))))))
abbrev N_row_in : List Str := ["prime", "value", "size", "number"]
theorem sc_row_in : FnScope N_row_in ["prime", "value", "size"] (defScope s_row_in) := ⟨rfl, rfl, rfl, by decide +kernel, rfl, by decide +kernel, by decide +kernel⟩
theorem b_row_in (t : Tx T) : Binds T.K (fdOf T.K ("row_in", none)) ["prime", "value", "size"] [] := t.d_row_in.bindsN fun _ _ _ _ _ _ us hl => match us, hl with | [_, _, _], _ => rfl
def c_row_in : Sc := (sSeq (sIf (tOr (tNot (tVal (cCall F_is_list (aCons (cVar 1) aNil)))) (tOr (tVal (cBin (oEq true) (cUn oLen (cVar 1)) (cVar 2))) (tNot (tVal (cUn (oQ allP) (cLc [3] (jSeq (cVar 1)) (gSt 3) cYes (cCall F_is_rest_by (aCons (cVar 0) (aCons (cVar 3) aNil))))))))) (sRet (cC .non)) sSkip) (sRet (cUn oTuple (cVar 1))))
def F_row_in : List PV → Tr PV := body (.ret .non) 4 c_row_in
theorem g_row_in (t : Tx T) : FnG T 3 (He.fAd T.K ("row_in", none)) (fdOf T.K ("row_in", none)) ["prime", "value", "size"] (SpC (kn T.K) (zV (kn T.K)) 3 F_row_in) := fn_bodyZ (own := []) (c := c_row_in) (N := N_row_in) end_V t.d_row_in sc_row_in rfl (by decide) fun cdv A outer s H E g hr =>
 (sb_cons (ss_if (SW.st (sw_or (st_not (st_val (sx_call (z := zV _) ⟨rfl, rfl, rfl, rfl, rfl⟩ (g_is_list t) (hr.mono (by decide)) rfl t.g_is_list (t.k_is_list) (b_is_list t) (sa_cons (se_var (i := 1) rfl (vis_by rfl) rfl) sa_nil) rfl rfl) (fun _ => rfl))) (sw_or (st_cmp (op_ne' rfl hr.hu) (SX.toV (se_len rfl rfl (t.fr_len) (SX.toV (se_var (i := 1) rfl (vis_by rfl) rfl)))) (SX.toV (se_var (i := 2) rfl (vis_by rfl) rfl)) (nomark _)) (sw_or1 (st_not (st_val (se_all rfl rfl rfl (t.fr_all) (SX.ofFV (sf_lc (own := [("number", 3)]) rfl rfl sc_row_in.nd (sj_seq rfl (SX.toV (se_var (i := 1) rfl (vis_by rfl) rfl))) (blkOk_by (own := [("number", 3)]) rfl) rfl rfl (fun _ _ _ _ _ => (sg_name (i := 3) sc_row_in.nd rfl (loc_by rfl) rfl)) (fun _ _ _ _ _ => sts_nil) (fun _ _ _ _ _ => (sx_call (z := zV _) ⟨rfl, rfl, rfl, rfl, rfl⟩ (g_is_rest_by t) (hr.mono (by decide)) rfl t.g_is_rest_by (t.k_is_rest_by) (b_is_rest_by t) (sa_cons (se_var (i := 0) rfl (vis_by rfl) rfl) (sa_cons (se_var (i := 3) rfl (vis_by rfl) rfl) sa_nil)) rfl rfl))))) (fun _ => rfl))))))) (sb_one (ss_ret se_non)) sb_nil)
 (sb_one (ss_ret (se_tuple rfl rfl (t.fr_tuple) (SX.toV (se_var (i := 1) rfl (vis_by rfl) rfl))))))
abbrev N_table_in : List Str := ["prime", "value", "found", "row"]
theorem sc_table_in : FnScope N_table_in ["prime", "value"] (defScope s_table_in) := ⟨rfl, rfl, rfl, by decide +kernel, rfl, by decide +kernel, by decide +kernel⟩
theorem b_table_in (t : Tx T) : Binds T.K (fdOf T.K ("table_in", none)) ["prime", "value"] [] := t.d_table_in.bindsN fun _ _ _ _ _ _ us hl => match us, hl with | [_, _], _ => rfl
def c_table_in : Sc := (sSeq (sIf (tOr (tNot (tVal (cCall F_is_list (aCons (cVar 1) aNil)))) (tVal (cBin oGt (cUn oLen (cVar 1)) (cC (.int 6))))) (sRet (cC .non)) sSkip) (sSeq (sSet 2 (cLc [3] (jSeq (cVar 1)) (gSt 3) cYes (cCall F_row_in (aCons (cVar 0) (aCons (cVar 3) (aCons (cUn oLen (cVar 1)) aNil)))))) (sRet (cIf (tVal (cUn (oQ anyP) (cLc [3] (jSeq (cVar 2)) (gSt 3) cYes (cUn (oIsNon false) (cVar 3))))) (cC .non) (cUn oTuple (cVar 2))))))
def F_table_in : List PV → Tr PV := body (.ret .non) 4 c_table_in
theorem g_table_in (t : Tx T) : FnG T 4 (He.fAd T.K ("table_in", none)) (fdOf T.K ("table_in", none)) ["prime", "value"] (SpC (kn T.K) (zV (kn T.K)) 2 F_table_in) := fn_bodyZ (own := []) (c := c_table_in) (N := N_table_in) end_V t.d_table_in sc_table_in rfl (by decide) fun cdv A outer s H E g hr =>
 (sb_cons (ss_if (SW.st (sw_or (st_not (st_val (sx_call (z := zV _) ⟨rfl, rfl, rfl, rfl, rfl⟩ (g_is_list t) (hr.mono (by decide)) rfl t.g_is_list (t.k_is_list) (b_is_list t) (sa_cons (se_var (i := 1) rfl (vis_by rfl) rfl) sa_nil) rfl rfl) (fun _ => rfl))) (sw_or1 (st_cmp op_gt' (SX.toV (se_len rfl rfl (t.fr_len) (SX.toV (se_var (i := 1) rfl (vis_by rfl) rfl)))) (SX.toV (se_gint t.c_MOST_SIZE rfl)) (nomark _))))) (sb_one (ss_ret se_non)) sb_nil)
 (sb_cons (ss_setLc (own := [("row", 3)]) (i := 2) rfl rfl sc_table_in.nd rfl rfl rfl rfl (sj_seq rfl (SX.toV (se_var (i := 1) rfl (vis_by rfl) rfl))) (blkOk_by (own := [("row", 3)]) rfl) rfl rfl (fun _ _ _ _ _ => (sg_name (i := 3) sc_table_in.nd rfl (loc_by rfl) rfl)) (fun _ _ _ _ _ => sts_nil) (fun _ _ _ _ _ => (sx_call (z := zV _) ⟨rfl, rfl, rfl, rfl, rfl⟩ (g_row_in t) (hr.mono (by decide)) rfl t.g_row_in (t.k_row_in) (b_row_in t) (sa_cons (se_var (i := 0) rfl (vis_by rfl) rfl) (sa_cons (se_var (i := 3) rfl (vis_by rfl) rfl) (sa_cons (se_len rfl rfl (t.fr_len) (SX.toV (se_var (i := 1) rfl (vis_by rfl) rfl))) sa_nil))) rfl rfl)))
 (sb_one (ss_ret (sx_if (z := zV _) (st_val (se_any rfl rfl rfl (t.fr_any) (SX.ofFV (sf_lc (own := [("row", 3)]) rfl rfl sc_table_in.nd (sj_seq rfl (SX.toV (se_var (i := 2) rfl (vis_by rfl) rfl))) (blkOk_by (own := [("row", 3)]) rfl) rfl rfl (fun _ _ _ _ _ => (sg_name (i := 3) sc_table_in.nd rfl (loc_by rfl) rfl)) (fun _ _ _ _ _ => sts_nil) (fun _ _ _ _ _ => (se_isN (SX.toV (se_var (i := 3) rfl (vis_by rfl) rfl))))))) (fun _ => rfl)) se_non (se_tuple rfl rfl (t.fr_tuple) (SX.toV (se_var (i := 2) rfl (vis_by rfl) rfl))))))))
abbrev N_InvalidRows_init : List Str := ["self", "value"]
theorem sc_InvalidRows_init : FnScope N_InvalidRows_init ["self", "value"] (defScope s_InvalidRows_init) := ⟨rfl, rfl, rfl, by decide +kernel, rfl, by decide +kernel, by decide +kernel⟩
theorem b_InvalidRows_init (t : Tx T) : Binds T.K (fdOf T.K ("InvalidRows", some "__init__")) ["self", "value"] [] := t.d_InvalidRows_init.bindsN fun _ _ _ _ _ _ us hl => match us, hl with | [_, _], _ => rfl
theorem g_InvalidRows_init (t : Tx T) : FnOk T.P T.w T.K T.mg T.base (L2.CX T.P T.w) 1 (He.fAd T.K ("InvalidRows", some "__init__")) (fdOf T.K ("InvalidRows", some "__init__")) ["self", "value"] (spX1 ((kn T.K).exn 7) "value") := fn_x1 (N := N_InvalidRows_init) t.d_InvalidRows_init sc_InvalidRows_init rfl rfl rfl rfl t.er_InvalidRows.o (t.er_InvalidRows.no _ (by simp [eflds]))
abbrev N_turned_of : List Str := ["table", "place", "row"]
theorem sc_turned_of : FnScope N_turned_of ["table"] (defScope s_turned_of) := ⟨rfl, rfl, rfl, by decide +kernel, rfl, by decide +kernel, by decide +kernel⟩
theorem b_turned_of (t : Tx T) : Binds T.K (fdOf T.K ("turned_of", none)) ["table"] [] := t.d_turned_of.bindsN fun _ _ _ _ _ _ us hl => match us, hl with | [_], _ => rfl
def c_turned_of : Sc := (sRet (cUn oTuple (cLc [1] (jRng1 (cUn oLen (cVar 0))) (gSt 1) cYes (cUn oTuple (cLc [2] (jSeq (cVar 0)) (gSt 2) cYes (cBin oIx (cVar 2) (cVar 1)))))))
def F_turned_of : List PV → Tr PV := body (.ret .non) 3 c_turned_of
theorem g_turned_of (t : Tx T) : FnG T 1 (He.fAd T.K ("turned_of", none)) (fdOf T.K ("turned_of", none)) ["table"] (SpC (kn T.K) (zV (kn T.K)) 1 F_turned_of) := fn_bodyZ (own := []) (c := c_turned_of) (N := N_turned_of) end_V t.d_turned_of sc_turned_of rfl (by decide) fun cdv A outer s H E g hr =>
 (sb_one (ss_ret (se_tuple rfl rfl (t.fr_tuple) (SX.ofFV (sf_lc (own := [("place", 1)]) rfl rfl sc_turned_of.nd (SI.toJ (si_rng1 rfl (t.fr_range) (se_len rfl rfl (t.fr_len) (SX.toV (se_var (i := 0) rfl (vis_by rfl) rfl))))) (blkOk_by (own := [("place", 1)]) rfl) rfl rfl (fun _ _ _ _ _ => (sg_name (i := 1) sc_turned_of.nd rfl (loc_by rfl) rfl)) (fun _ _ _ _ _ => sts_nil) (fun _ _ _ _ _ => (se_tuple rfl rfl (t.fr_tuple) (SX.ofFV (sf_lc (own := [("row", 2)]) rfl rfl sc_turned_of.nd (sj_seq rfl (SX.toV (se_var (i := 0) rfl (vis_by rfl) rfl))) (blkOk_by (own := [("row", 2)]) rfl) rfl rfl (fun _ _ _ _ _ => (sg_name (i := 2) sc_turned_of.nd rfl (loc_by rfl) rfl)) (fun _ _ _ _ _ => sts_nil) (fun _ _ _ _ _ => (se_ix rfl (SX.toV (se_var (i := 2) rfl (vis_by rfl) rfl)) (se_var (i := 1) rfl (vis_by rfl) rfl) (by intro _ _; rfl))))))))))))
abbrev N_right_rows : List Str := ["prime", "value", "found"]
theorem sc_right_rows : FnScope N_right_rows ["prime", "value"] (defScope s_right_rows) := ⟨rfl, rfl, rfl, by decide +kernel, rfl, by decide +kernel, by decide +kernel⟩
theorem b_right_rows (t : Tx T) : Binds T.K (fdOf T.K ("right_rows", none)) ["prime", "value"] [] := t.d_right_rows.bindsN fun _ _ _ _ _ _ us hl => match us, hl with | [_, _], _ => rfl
def c_right_rows : Sc := (sSeq (sSet 2 (cCall F_table_in (aCons (cVar 0) (aCons (cVar 1) aNil)))) (sSeq (sIf (tOr (tVal (cUn (oIsNon false) (cVar 2))) (tVal (cBin (oEq true) (cCall F_turned_of (aCons (cVar 2) aNil)) (cVar 2)))) (sRaise 7 (cVar 1)) sSkip) (sRet (cVar 2))))
def F_right_rows : List PV → Tr PV := body (.ret .non) 3 c_right_rows
theorem g_right_rows (t : Tx T) : FnG T 5 (He.fAd T.K ("right_rows", none)) (fdOf T.K ("right_rows", none)) ["prime", "value"] (SpC (kn T.K) (zV (kn T.K)) 2 F_right_rows) := fn_bodyZ (own := []) (c := c_right_rows) (N := N_right_rows) end_V t.d_right_rows sc_right_rows rfl (by decide) fun cdv A outer s H E g hr =>
 (sb_cons (ss_set (i := 2) sc_right_rows.nd rfl (loc_by rfl) rfl (sx_call (z := zV _) ⟨rfl, rfl, rfl, rfl, rfl⟩ (g_table_in t) (hr.mono (by decide)) rfl t.g_table_in (t.k_table_in) (b_table_in t) (sa_cons (se_var (i := 0) rfl (vis_by rfl) rfl) (sa_cons (se_var (i := 1) rfl (vis_by rfl) rfl) sa_nil)) rfl rfl))
 (sb_cons (ss_if (SW.st (sw_or (st_isN (SX.toV (se_var (i := 2) rfl (vis_by rfl) rfl))) (sw_or1 (st_cmp (op_ne' rfl hr.hu) (SX.toV (sx_call (z := zV _) ⟨rfl, rfl, rfl, rfl, rfl⟩ (g_turned_of t) (hr.mono (by decide)) rfl t.g_turned_of (t.k_turned_of) (b_turned_of t) (sa_cons (se_var (i := 2) rfl (vis_by rfl) rfl) sa_nil) rfl rfl)) (SX.toV (se_var (i := 2) rfl (vis_by rfl) rfl)) (nomark _))))) (sb_one (ss_raise (n := 7) rfl t.er_InvalidRows.o t.er_InvalidRows.iC t.er_InvalidRows.tI (g_InvalidRows_init t) (hr.rm.mono (by decide)) (b_InvalidRows_init t) rfl t.g_InvalidRows rfl (se_var (i := 1) rfl (vis_by rfl) rfl))) sb_nil)
 (sb_one (ss_ret (se_var (i := 2) rfl (vis_by rfl) rfl)))))
abbrev N_Room_init : List Str := ["self", "prime", "rows"]
theorem sc_Room_init : FnScope N_Room_init ["self", "prime", "rows"] (defScope s_Room_init) := ⟨rfl, rfl, rfl, by decide +kernel, rfl, by decide +kernel, by decide +kernel⟩
def i_Room_init : Ic := (iIf (tVal (cUn (oIsi clss (.own 0)) (cVar 1))) (iTwo (cUn (oFld js_own_prime) (cVar 1)) (cUn (oFld js_own_rows) (cVar 1))) (iDrop (cCall F_want_prime (aCons (cVar 1) aNil)) (iTwo (cVar 1) (cCall F_right_rows (aCons (cVar 1) (aCons (cVar 2) aNil))))))
def I_Room_init : List PV → Tr (List PV) := bodyI 3 i_Room_init
theorem g_Room_init (t : Tx T) : FnG T 6 (He.fAd T.K ("Room", some "__init__")) (fdOf T.K ("Room", some "__init__")) ["self", "prime", "rows"] (SpI (kn T.K) 1 2 I_Room_init) := fn_initZ (own := []) (m := i_Room_init) (N := N_Room_init) t.d_Room_init sc_Room_init rfl (by decide) fun cdv A outer s H E g H1 hr =>
 (sbi_if (st_val (se_isi rfl t.kt rfl (t.fr_isinstance) (SX.toV (se_var (i := 1) rfl (vis_by rfl) rfl)) (sc_own 0 rfl t.g_Known)) (fun _ => rfl)) (sbi_two rfl rfl rfl rfl t.cl_Room (t.na_Room_own_prime) (t.na_Room_own_rows) rfl (vis_by rfl) (se_fld rfl t.fl_own_prime (se_var (i := 1) rfl (vis_by rfl) rfl)) (se_fld rfl t.fl_own_rows (se_var (i := 1) rfl (vis_by rfl) rfl))) (sbi_drop (SX.toV (sx_call (z := zV _) ⟨rfl, rfl, rfl, rfl, rfl⟩ (g_want_prime t) (hr.mono (by decide)) rfl t.g_want_prime (t.k_want_prime) (b_want_prime t) (sa_cons (se_var (i := 1) rfl (vis_by rfl) rfl) sa_nil) rfl rfl)) (sbi_two rfl rfl rfl rfl t.cl_Room (t.na_Room_own_prime) (t.na_Room_own_rows) rfl (vis_by rfl) (se_var (i := 1) rfl (vis_by rfl) rfl) (sx_call (z := zV _) ⟨rfl, rfl, rfl, rfl, rfl⟩ (g_right_rows t) (hr.mono (by decide)) rfl t.g_right_rows (t.k_right_rows) (b_right_rows t) (sa_cons (se_var (i := 1) rfl (vis_by rfl) rfl) (sa_cons (se_var (i := 2) rfl (vis_by rfl) rfl) sa_nil)) rfl rfl))))
theorem bx_Room_init_2 (t : Tx T) : ∃ ds, Vals ([] : List V) ds ∧ Binds T.K (fdOf T.K ("Room", some "__init__")) ["self", "prime", "rows"] ds := t.d_Room_init.binds1 3 1 (by simp [He.DefD.dvs, y_Room_init]) rfl fun _ _ _ _ _ _ _ us its h1 h2 => match us, its, h1, h2 with | [_, _, _], [_], _, _ => ⟨_, rfl, rfl⟩
theorem mk_Room_2 (t : Tx T) {Γ : Fm} {X : Cx} {es : List Expr} {e : Expr} {aa : Ac} {p pos : Pos} (hr : Rm 7 X.A) (ha : SA Γ X (e :: es) aa) (hK : Γ.k = kn T.K := by rfl) (hT : T.has X := by exact ⟨rfl, rfl, rfl, rfl, rfl⟩) (hg : Gl X "Room" := by rfl) (hln : (e :: es).length = 2 := by rfl) (he : starEach (e :: es) X.env = (false, eval e X.env) :: starEach es X.env := by rfl) (hpl : (backTo pos (starEach es X.env)).any (·.1) = false := by rfl) :
    SE Γ X (.Call (.Name "Room" p) (e :: es) [] pos) (cMake 1 I_Room_init [] aa) := by
  obtain ⟨ds, hv, hb⟩ := bx_Room_init_2 t
  obtain ⟨k, own, g0, H0, gl, exx⟩ := Γ
  cases hK
  obtain ⟨P, w, K, mg, base⟩ := T
  have hT0 := hT
  obtain ⟨h1, h2, h3, h4, h5⟩ := hT0
  simp only at h1 h2 h3 h4 h5
  subst h1 h2 h3 h4 h5
  exact se_make (m := 1) hT t.mk_Room (g_Room_init t) hr hg t.g_Room hb hv (fun g => .nil) ha (by rw [hln]; rfl) (he := he) (hpl := hpl)
theorem bx_Room_init_1 (t : Tx T) : ∃ ds, Vals ([V.ref (He.dflAt ("Room", some "__init__") 0 T.K)] : List V) ds ∧ Binds T.K (fdOf T.K ("Room", some "__init__")) ["self", "prime", "rows"] ds := t.d_Room_init.binds1 2 0 (by simp [He.DefD.dvs, y_Room_init]) rfl fun _ _ _ _ _ _ _ us its h1 h2 => match us, its, h1, h2 with | [_, _], [_], _, _ => ⟨_, rfl, rfl⟩
theorem mk_Room_1 (t : Tx T) {Γ : Fm} {X : Cx} {es : List Expr} {e : Expr} {aa : Ac} {p pos : Pos} (hr : Rm 7 X.A) (ha : SA Γ X (e :: es) aa) (hK : Γ.k = kn T.K := by rfl) (hT : T.has X := by exact ⟨rfl, rfl, rfl, rfl, rfl⟩) (hg : Gl X "Room" := by rfl) (hln : (e :: es).length = 1 := by rfl) (he : starEach (e :: es) X.env = (false, eval e X.env) :: starEach es X.env := by rfl) (hpl : (backTo pos (starEach es X.env)).any (·.1) = false := by rfl) :
    SE Γ X (.Call (.Name "Room" p) (e :: es) [] pos) (cMake 1 I_Room_init [(.tup [])] aa) := by
  obtain ⟨ds, hv, hb⟩ := bx_Room_init_1 t
  obtain ⟨k, own, g0, H0, gl, exx⟩ := Γ
  cases hK
  obtain ⟨P, w, K, mg, base⟩ := T
  have hT0 := hT
  obtain ⟨h1, h2, h3, h4, h5⟩ := hT0
  simp only at h1 h2 h3 h4 h5
  subst h1 h2 h3 h4 h5
  exact se_make (m := 1) hT t.mk_Room (g_Room_init t) hr hg t.g_Room hb hv (fun g => .cons (t.df_Room g) .nil) ha (by rw [hln]; rfl) (he := he) (hpl := hpl)
abbrev N_InvalidRoom_init : List Str := ["self", "value"]
theorem sc_InvalidRoom_init : FnScope N_InvalidRoom_init ["self", "value"] (defScope s_InvalidRoom_init) := ⟨rfl, rfl, rfl, by decide +kernel, rfl, by decide +kernel, by decide +kernel⟩
theorem b_InvalidRoom_init (t : Tx T) : Binds T.K (fdOf T.K ("InvalidRoom", some "__init__")) ["self", "value"] [] := t.d_InvalidRoom_init.bindsN fun _ _ _ _ _ _ us hl => match us, hl with | [_, _], _ => rfl
theorem g_InvalidRoom_init (t : Tx T) : FnOk T.P T.w T.K T.mg T.base (L2.CX T.P T.w) 1 (He.fAd T.K ("InvalidRoom", some "__init__")) (fdOf T.K ("InvalidRoom", some "__init__")) ["self", "value"] (spX1 ((kn T.K).exn 4) "value") := fn_x1 (N := N_InvalidRoom_init) t.d_InvalidRoom_init sc_InvalidRoom_init rfl rfl rfl rfl t.er_InvalidRoom.o (t.er_InvalidRoom.no _ (by simp [eflds]))
abbrev N_want_room : List Str := ["value"]
theorem sc_want_room : FnScope N_want_room ["value"] (defScope s_want_room) := ⟨rfl, rfl, rfl, by decide +kernel, rfl, by decide +kernel, by decide +kernel⟩
theorem b_want_room (t : Tx T) : Binds T.K (fdOf T.K ("want_room", none)) ["value"] [] := t.d_want_room.bindsN fun _ _ _ _ _ _ us hl => match us, hl with | [_], _ => rfl
def c_want_room : Sc := (sSeq (sIf (tNot (tVal (cUn (oIsi clss (.own 1)) (cVar 0)))) (sRaise 4 (cVar 0)) sSkip) (sRet (cVar 0)))
def F_want_room : List PV → Tr PV := body (.ret .non) 1 c_want_room
theorem g_want_room (t : Tx T) : FnG T 3 (He.fAd T.K ("want_room", none)) (fdOf T.K ("want_room", none)) ["value"] (SpC (kn T.K) (zV (kn T.K)) 1 F_want_room) := fn_bodyZ (own := []) (c := c_want_room) (N := N_want_room) end_V t.d_want_room sc_want_room rfl (by decide) fun cdv A outer s H E g hr =>
 (sb_cons (ss_if (st_not (st_val (se_isi rfl t.kt rfl (t.fr_isinstance) (SX.toV (se_var (i := 0) rfl (vis_by rfl) rfl)) (sc_own 1 rfl t.g_Room)) (fun _ => rfl))) (sb_one (ss_raise (n := 4) rfl t.er_InvalidRoom.o t.er_InvalidRoom.iC t.er_InvalidRoom.tI (g_InvalidRoom_init t) (hr.rm.mono (by decide)) (b_InvalidRoom_init t) rfl t.g_InvalidRoom rfl (se_var (i := 0) rfl (vis_by rfl) rfl))) sb_nil)
 (sb_one (ss_ret (se_var (i := 0) rfl (vis_by rfl) rfl))))
abbrev N_scaled_of : List Str := ["prime", "row", "rest", "number"]
theorem sc_scaled_of : FnScope N_scaled_of ["prime", "row", "rest"] (defScope s_scaled_of) := ⟨rfl, rfl, rfl, by decide +kernel, rfl, by decide +kernel, by decide +kernel⟩
theorem b_scaled_of (t : Tx T) : Binds T.K (fdOf T.K ("scaled_of", none)) ["prime", "row", "rest"] [] := t.d_scaled_of.bindsN fun _ _ _ _ _ _ us hl => match us, hl with | [_, _, _], _ => rfl
def c_scaled_of : Sc := (sRet (cUn oTuple (cLc [3] (jSeq (cVar 1)) (gSt 3) cYes (cBin oMod (cBin oMul (cVar 2) (cVar 3)) (cVar 0)))))
def F_scaled_of : List PV → Tr PV := body (.ret .non) 4 c_scaled_of
theorem g_scaled_of (t : Tx T) : FnG T 1 (He.fAd T.K ("scaled_of", none)) (fdOf T.K ("scaled_of", none)) ["prime", "row", "rest"] (SpC (kn T.K) (zV (kn T.K)) 3 F_scaled_of) := fn_bodyZ (own := []) (c := c_scaled_of) (N := N_scaled_of) end_V t.d_scaled_of sc_scaled_of rfl (by decide) fun cdv A outer s H E g hr =>
 (sb_one (ss_ret (se_tuple rfl rfl (t.fr_tuple) (SX.ofFV (sf_lc (own := [("number", 3)]) rfl rfl sc_scaled_of.nd (sj_seq rfl (SX.toV (se_var (i := 1) rfl (vis_by rfl) rfl))) (blkOk_by (own := [("number", 3)]) rfl) rfl rfl (fun _ _ _ _ _ => (sg_name (i := 3) sc_scaled_of.nd rfl (loc_by rfl) rfl)) (fun _ _ _ _ _ => sts_nil) (fun _ _ _ _ _ => (sx_bin (z := zV _) op_mod' (SX.toV (sx_bin (z := zV _) (op_mul' rfl) (SX.toV (se_var (i := 2) rfl (vis_by rfl) rfl)) (SX.toV (se_var (i := 3) rfl (vis_by rfl) rfl)))) (SX.toV (se_var (i := 0) rfl (vis_by rfl) rfl)))))))))
abbrev N_power_of : List Str := ["prime", "number", "many", "found", "turn"]
theorem sc_power_of : FnScope N_power_of ["prime", "number", "many"] (defScope s_power_of) := ⟨rfl, rfl, rfl, by decide +kernel, rfl, by decide +kernel, by decide +kernel⟩
theorem b_power_of (t : Tx T) : Binds T.K (fdOf T.K ("power_of", none)) ["prime", "number", "many"] [] := t.d_power_of.bindsN fun _ _ _ _ _ _ us hl => match us, hl with | [_, _, _], _ => rfl
def c_power_of : Sc := (sSeq (sSet 3 (cC (.int 1))) (sSeq (sFor (jRng1 (cVar 2)) (gSt 4) (sSet 3 (cBin oMod (cBin oMul (cVar 3) (cVar 1)) (cVar 0)))) (sRet (cVar 3))))
def F_power_of : List PV → Tr PV := body (.ret .non) 5 c_power_of
theorem g_power_of (t : Tx T) : FnG T 1 (He.fAd T.K ("power_of", none)) (fdOf T.K ("power_of", none)) ["prime", "number", "many"] (SpC (kn T.K) (zV (kn T.K)) 3 F_power_of) := fn_bodyZ (own := []) (c := c_power_of) (N := N_power_of) end_V t.d_power_of sc_power_of rfl (by decide) fun cdv A outer s H E g hr =>
 (sb_cons (ss_set (i := 3) sc_power_of.nd rfl (loc_by rfl) rfl se_int)
 (sb_cons (ss_for (passes_of rfl) rfl (si_rng1 rfl (t.fr_range) (se_var (i := 2) rfl (vis_by rfl) rfl)) (fun _ => (sg_name (i := 4) sc_power_of.nd rfl (loc_by rfl) rfl)) (fun _ => (sb_one (ss_set (i := 3) sc_power_of.nd rfl (loc_by rfl) rfl (sx_bin (z := zV _) op_mod' (SX.toV (sx_bin (z := zV _) (op_mul' rfl) (SX.toV (se_var (i := 3) rfl (vis_by rfl) rfl)) (SX.toV (se_var (i := 1) rfl (vis_by rfl) rfl)))) (SX.toV (se_var (i := 0) rfl (vis_by rfl) rfl)))))))
 (sb_one (ss_ret (se_var (i := 3) rfl (vis_by rfl) rfl)))))
abbrev N_undone_of : List Str := ["prime", "rest"]
theorem sc_undone_of : FnScope N_undone_of ["prime", "rest"] (defScope s_undone_of) := ⟨rfl, rfl, rfl, by decide +kernel, rfl, by decide +kernel, by decide +kernel⟩
theorem b_undone_of (t : Tx T) : Binds T.K (fdOf T.K ("undone_of", none)) ["prime", "rest"] [] := t.d_undone_of.bindsN fun _ _ _ _ _ _ us hl => match us, hl with | [_, _], _ => rfl
def c_undone_of : Sc := (sRet (cCall F_power_of (aCons (cVar 0) (aCons (cVar 1) (aCons (cBin oSub (cVar 0) (cC (.int 2))) aNil)))))
def F_undone_of : List PV → Tr PV := body (.ret .non) 2 c_undone_of
theorem g_undone_of (t : Tx T) : FnG T 2 (He.fAd T.K ("undone_of", none)) (fdOf T.K ("undone_of", none)) ["prime", "rest"] (SpC (kn T.K) (zV (kn T.K)) 2 F_undone_of) := fn_bodyZ (own := []) (c := c_undone_of) (N := N_undone_of) end_V t.d_undone_of sc_undone_of rfl (by decide) fun cdv A outer s H E g hr =>
 (sb_one (ss_ret (sx_call (z := zV _) ⟨rfl, rfl, rfl, rfl, rfl⟩ (g_power_of t) (hr.mono (by decide)) rfl t.g_power_of (t.k_power_of) (b_power_of t) (sa_cons (se_var (i := 0) rfl (vis_by rfl) rfl) (sa_cons (se_var (i := 1) rfl (vis_by rfl) rfl) (sa_cons (sx_bin (z := zV _) op_sub' (SX.toV (se_var (i := 0) rfl (vis_by rfl) rfl)) (SX.toV se_int)) sa_nil))) rfl rfl)))
abbrev N_sum_of : List Str := ["prime", "row", "other", "rest", "near", "far"]
theorem sc_sum_of : FnScope N_sum_of ["prime", "row", "other", "rest"] (defScope s_sum_of) := ⟨rfl, rfl, rfl, by decide +kernel, rfl, by decide +kernel, by decide +kernel⟩
theorem b_sum_of (t : Tx T) : Binds T.K (fdOf T.K ("sum_of", none)) ["prime", "row", "other", "rest"] [] := t.d_sum_of.bindsN fun _ _ _ _ _ _ us hl => match us, hl with | [_, _, _, _], _ => rfl
def c_sum_of : Sc := (sRet (cUn oTuple (cLc [4, 5] (jZip (cVar 1) (cVar 2)) (gTupc 2 (gsCons (gSt 4) (gsCons (gSt 5) gsNil))) cYes (cBin oMod (cBin oAdd (cVar 4) (cBin oMul (cVar 3) (cVar 5))) (cVar 0)))))
def F_sum_of : List PV → Tr PV := body (.ret .non) 6 c_sum_of
theorem g_sum_of (t : Tx T) : FnG T 1 (He.fAd T.K ("sum_of", none)) (fdOf T.K ("sum_of", none)) ["prime", "row", "other", "rest"] (SpC (kn T.K) (zV (kn T.K)) 4 F_sum_of) := fn_bodyZ (own := []) (c := c_sum_of) (N := N_sum_of) end_V t.d_sum_of sc_sum_of rfl (by decide) fun cdv A outer s H E g hr =>
 (sb_one (ss_ret (se_tuple rfl rfl (t.fr_tuple) (SX.ofFV (sf_lc (own := [("near", 4), ("far", 5)]) rfl rfl sc_sum_of.nd (sj_zip rfl rfl (t.fr_zip) (SX.toV (se_var (i := 1) rfl (vis_by rfl) rfl)) (SX.toV (se_var (i := 2) rfl (vis_by rfl) rfl))) (blkOk_by (own := [("near", 4), ("far", 5)]) rfl) rfl rfl (fun _ _ _ _ _ => (sg_tup rfl rfl (sgs_cons (sg_name (i := 4) sc_sum_of.nd rfl (loc_by rfl) rfl) (sgs_cons (sg_name (i := 5) sc_sum_of.nd rfl (loc_by rfl) rfl) sgs_nil)))) (fun _ _ _ _ _ => sts_nil) (fun _ _ _ _ _ => (sx_bin (z := zV _) op_mod' (SX.toV (sx_bin (z := zV _) (op_add' rfl) (SX.toV (se_var (i := 4) rfl (vis_by rfl) rfl)) (SX.toV (sx_bin (z := zV _) (op_mul' rfl) (SX.toV (se_var (i := 3) rfl (vis_by rfl) rfl)) (SX.toV (se_var (i := 5) rfl (vis_by rfl) rfl)))))) (SX.toV (se_var (i := 0) rfl (vis_by rfl) rfl)))))))))
abbrev N_without : List Str := ["prime", "row", "head", "place"]
theorem sc_without : FnScope N_without ["prime", "row", "head", "place"] (defScope s_without) := ⟨rfl, rfl, rfl, by decide +kernel, rfl, by decide +kernel, by decide +kernel⟩
theorem b_without (t : Tx T) : Binds T.K (fdOf T.K ("without", none)) ["prime", "row", "head", "place"] [] := t.d_without.bindsN fun _ _ _ _ _ _ us hl => match us, hl with | [_, _, _, _], _ => rfl
def c_without : Sc := (sRet (cCall F_sum_of (aCons (cVar 0) (aCons (cVar 1) (aCons (cVar 2) (aCons (cBin oSub (cC (.int 0)) (cBin oIx (cVar 1) (cVar 3))) aNil))))))
def F_without : List PV → Tr PV := body (.ret .non) 4 c_without
theorem g_without (t : Tx T) : FnG T 2 (He.fAd T.K ("without", none)) (fdOf T.K ("without", none)) ["prime", "row", "head", "place"] (SpC (kn T.K) (zV (kn T.K)) 4 F_without) := fn_bodyZ (own := []) (c := c_without) (N := N_without) end_V t.d_without sc_without rfl (by decide) fun cdv A outer s H E g hr =>
 (sb_one (ss_ret (sx_call (z := zV _) ⟨rfl, rfl, rfl, rfl, rfl⟩ (g_sum_of t) (hr.mono (by decide)) rfl t.g_sum_of (t.k_sum_of) (b_sum_of t) (sa_cons (se_var (i := 0) rfl (vis_by rfl) rfl) (sa_cons (se_var (i := 1) rfl (vis_by rfl) rfl) (sa_cons (se_var (i := 2) rfl (vis_by rfl) rfl) (sa_cons (sx_bin (z := zV _) op_sub' (SX.toV se_int) (SX.toV (se_ix rfl (SX.toV (se_var (i := 1) rfl (vis_by rfl) rfl)) (se_var (i := 3) rfl (vis_by rfl) rfl) (by intro _ _; rfl)))) sa_nil)))) rfl rfl)))
abbrev N_steps_of : List Str := ["prime", "rows", "left", "found", "place", "heads", "head", "made", "row"]
theorem sc_steps_of : FnScope N_steps_of ["prime", "rows"] (defScope s_steps_of) := ⟨rfl, rfl, rfl, by decide +kernel, rfl, by decide +kernel, by decide +kernel⟩
theorem b_steps_of (t : Tx T) : Binds T.K (fdOf T.K ("steps_of", none)) ["prime", "rows"] [] := t.d_steps_of.bindsN fun _ _ _ _ _ _ us hl => match us, hl with | [_, _], _ => rfl
def c_steps_of : Sc := (sSeq (sPar 2 3 (cUn oList (cVar 1)) (cLst aNil)) (sSeq (sFor (jRng1 (cIf (tVal (cBin oGt (cUn oLen (cVar 1)) (cC (.int 0)))) (cUn oLen (cBin oIx (cVar 1) (cC (.int 0)))) (cC (.int 0)))) (gSt 4) (sSeq (sSet 5 (cLc [8] (jSeq (cVar 2)) (gSt 8) (tVal (cBin (oEq true) (cBin oIx (cVar 8) (cVar 4)) (cC (.int 0)))) (cVar 8))) (sIf (tVal (cBin (oEq true) (cVar 5) (cLst aNil))) (sSeq (sSet 6 (cCall F_scaled_of (aCons (cVar 0) (aCons (cBin oIx (cVar 5) (cC (.int 0))) (aCons (cCall F_undone_of (aCons (cVar 0) (aCons (cBin oIx (cBin oIx (cVar 5) (cC (.int 0))) (cVar 4)) aNil))) aNil))))) (sSeq (sSet 7 (cLc [8] (jSeq (cVar 2)) (gSt 8) cYes (cCall F_without (aCons (cVar 0) (aCons (cVar 8) (aCons (cVar 6) (aCons (cVar 4) aNil))))))) (sSeq (sSet 2 (cLc [8] (jSeq (cVar 7)) (gSt 8) (tVal (cUn (oQ anyP) (cVar 8))) (cVar 8))) (sSet 3 (cBin oAdd (cLc [8] (jSeq (cVar 3)) (gSt 8) cYes (cCall F_without (aCons (cVar 0) (aCons (cVar 8) (aCons (cVar 6) (aCons (cVar 4) aNil)))))) (cLst (aCons (cVar 6) aNil))))))) sSkip))) (sRet (cVar 3))))
def F_steps_of : List PV → Tr PV := body (.ret .non) 9 c_steps_of
theorem g_steps_of (t : Tx T) : FnG T 3 (He.fAd T.K ("steps_of", none)) (fdOf T.K ("steps_of", none)) ["prime", "rows"] (SpC (kn T.K) (zV (kn T.K)) 2 F_steps_of) := fn_bodyZ (own := []) (c := c_steps_of) (N := N_steps_of) end_V t.d_steps_of sc_steps_of rfl (by decide) fun cdv A outer s H E g hr =>
 (sb_cons (ss_par (i := 2) (j := 3) rfl sc_steps_of.nd rfl rfl (by decide) rfl rfl (.inr ⟨rfl, rfl⟩) (.inr ⟨rfl, rfl⟩) (SX.ofF (sf_list rfl rfl (t.fr_list) (SX.toV (se_var (i := 1) rfl (vis_by rfl) rfl)))) (SX.ofF (sf_lst sa_nil)))
 (sb_cons (ss_for (passes_of rfl) rfl (si_rng1 rfl (t.fr_range) (sx_if (z := zV _) (st_cmp op_gt' (SX.toV (se_len rfl rfl (t.fr_len) (SX.toV (se_var (i := 1) rfl (vis_by rfl) rfl)))) (SX.toV se_int) (nomark _)) (se_len rfl rfl (t.fr_len) (SX.toV (se_ix rfl (SX.toV (se_var (i := 1) rfl (vis_by rfl) rfl)) se_int (by intro _ _; rfl)))) se_int)) (fun _ => (sg_name (i := 4) sc_steps_of.nd rfl (loc_by rfl) rfl)) (fun _ => (sb_cons (ss_setLc (own := [("row", 8)]) (i := 5) rfl rfl sc_steps_of.nd rfl rfl rfl rfl (sj_seq rfl (SX.toV (se_var (i := 2) rfl (vis_by rfl) rfl))) (blkOk_by (own := [("row", 8)]) rfl) rfl rfl (fun _ _ _ _ _ => (sg_name (i := 8) sc_steps_of.nd rfl (loc_by rfl) rfl)) (fun _ _ _ _ _ => (sts_one (st_cmp (op_ne' rfl hr.hu) (SX.toV (se_ix rfl (SX.toV (se_var (i := 8) rfl (vis_by rfl) rfl)) (se_var (i := 4) rfl (vis_by rfl) rfl) (by intro _ _; rfl))) (SX.toV se_int) (nomark _)))) (fun _ _ _ _ _ => (se_var (i := 8) rfl (vis_by rfl) rfl)))
 (sb_one (ss_if (st_cmp (op_ne' rfl hr.hu) (SX.toV (se_var (i := 5) rfl (vis_by rfl) rfl)) (SX.ofFV (sf_lst sa_nil)) (nomark _)) (sb_cons (ss_set (i := 6) sc_steps_of.nd rfl (loc_by rfl) rfl (sx_call (z := zV _) ⟨rfl, rfl, rfl, rfl, rfl⟩ (g_scaled_of t) (hr.mono (by decide)) rfl t.g_scaled_of (t.k_scaled_of) (b_scaled_of t) (sa_cons (se_var (i := 0) rfl (vis_by rfl) rfl) (sa_cons (se_ix rfl (SX.toV (se_var (i := 5) rfl (vis_by rfl) rfl)) se_int (by intro _ _; rfl)) (sa_cons (sx_call (z := zV _) ⟨rfl, rfl, rfl, rfl, rfl⟩ (g_undone_of t) (hr.mono (by decide)) rfl t.g_undone_of (t.k_undone_of) (b_undone_of t) (sa_cons (se_var (i := 0) rfl (vis_by rfl) rfl) (sa_cons (se_ix rfl (SX.toV (se_ix rfl (SX.toV (se_var (i := 5) rfl (vis_by rfl) rfl)) se_int (by intro _ _; rfl))) (se_var (i := 4) rfl (vis_by rfl) rfl) (by intro _ _; rfl)) sa_nil)) rfl rfl) sa_nil))) rfl rfl))
 (sb_cons (ss_setLc (own := [("row", 8)]) (i := 7) rfl rfl sc_steps_of.nd rfl rfl rfl rfl (sj_seq rfl (SX.toV (se_var (i := 2) rfl (vis_by rfl) rfl))) (blkOk_by (own := [("row", 8)]) rfl) rfl rfl (fun _ _ _ _ _ => (sg_name (i := 8) sc_steps_of.nd rfl (loc_by rfl) rfl)) (fun _ _ _ _ _ => sts_nil) (fun _ _ _ _ _ => (sx_call (z := zV _) ⟨rfl, rfl, rfl, rfl, rfl⟩ (g_without t) (hr.mono (by decide)) rfl t.g_without (t.k_without) (b_without t) (sa_cons (se_var (i := 0) rfl (vis_by rfl) rfl) (sa_cons (se_var (i := 8) rfl (vis_by rfl) rfl) (sa_cons (se_var (i := 6) rfl (vis_by rfl) rfl) (sa_cons (se_var (i := 4) rfl (vis_by rfl) rfl) sa_nil)))) rfl rfl)))
 (sb_cons (ss_setLc (own := [("row", 8)]) (i := 2) rfl rfl sc_steps_of.nd rfl rfl rfl rfl (sj_seq rfl (SX.toV (se_var (i := 7) rfl (vis_by rfl) rfl))) (blkOk_by (own := [("row", 8)]) rfl) rfl rfl (fun _ _ _ _ _ => (sg_name (i := 8) sc_steps_of.nd rfl (loc_by rfl) rfl)) (fun _ _ _ _ _ => (sts_one (st_val (se_any rfl rfl rfl (t.fr_any) (SX.toV (se_var (i := 8) rfl (vis_by rfl) rfl))) (fun _ => rfl)))) (fun _ _ _ _ _ => (se_var (i := 8) rfl (vis_by rfl) rfl)))
 (sb_one (ss_set (i := 3) sc_steps_of.nd rfl (loc_by rfl) rfl (sx_bin (z := zV _) (op_add' rfl) (SX.ofFV (sf_lc (own := [("row", 8)]) rfl rfl sc_steps_of.nd (sj_seq rfl (SX.toV (se_var (i := 3) rfl (vis_by rfl) rfl))) (blkOk_by (own := [("row", 8)]) rfl) rfl rfl (fun _ _ _ _ _ => (sg_name (i := 8) sc_steps_of.nd rfl (loc_by rfl) rfl)) (fun _ _ _ _ _ => sts_nil) (fun _ _ _ _ _ => (sx_call (z := zV _) ⟨rfl, rfl, rfl, rfl, rfl⟩ (g_without t) (hr.mono (by decide)) rfl t.g_without (t.k_without) (b_without t) (sa_cons (se_var (i := 0) rfl (vis_by rfl) rfl) (sa_cons (se_var (i := 8) rfl (vis_by rfl) rfl) (sa_cons (se_var (i := 6) rfl (vis_by rfl) rfl) (sa_cons (se_var (i := 4) rfl (vis_by rfl) rfl) sa_nil)))) rfl rfl)))) (SX.ofFV (sf_lst (sa_cons (se_var (i := 6) rfl (vis_by rfl) rfl) sa_nil))))))))) sb_nil)))))
 (sb_one (ss_ret (se_var (i := 3) rfl (vis_by rfl) rfl)))))
abbrev N_part_in : List Str := ["room", "value", "size", "found", "row"]
theorem sc_part_in : FnScope N_part_in ["room", "value"] (defScope s_part_in) := ⟨rfl, rfl, rfl, by decide +kernel, rfl, by decide +kernel, by decide +kernel⟩
theorem b_part_in (t : Tx T) : Binds T.K (fdOf T.K ("part_in", none)) ["room", "value"] [] := t.d_part_in.bindsN fun _ _ _ _ _ _ us hl => match us, hl with | [_, _], _ => rfl
def c_part_in : Sc := (sSeq (sSet 2 (cUn oLen (cUn (oFld js_own_rows) (cVar 0)))) (sSeq (sIf (tOr (tNot (tVal (cCall F_is_list (aCons (cVar 1) aNil)))) (tVal (cBin oGt (cUn oLen (cVar 1)) (cVar 2)))) (sRet (cC .non)) sSkip) (sSeq (sSet 3 (cLc [4] (jSeq (cVar 1)) (gSt 4) cYes (cCall F_row_in (aCons (cUn (oFld js_own_prime) (cVar 0)) (aCons (cVar 4) (aCons (cVar 2) aNil)))))) (sSeq (sIf (tOr (tVal (cUn (oQ anyP) (cLc [4] (jSeq (cVar 3)) (gSt 4) cYes (cUn (oIsNon false) (cVar 4))))) (tVal (cBin (oEq true) (cCall F_steps_of (aCons (cUn (oFld js_own_prime) (cVar 0)) (aCons (cVar 3) aNil))) (cVar 3)))) (sRet (cC .non)) sSkip) (sRet (cVar 3))))))
def F_part_in : List PV → Tr PV := body (.ret .non) 5 c_part_in
theorem g_part_in (t : Tx T) : FnG T 4 (He.fAd T.K ("part_in", none)) (fdOf T.K ("part_in", none)) ["room", "value"] (SpC (kn T.K) (zV (kn T.K)) 2 F_part_in) := fn_bodyZ (own := []) (c := c_part_in) (N := N_part_in) end_V t.d_part_in sc_part_in rfl (by decide) fun cdv A outer s H E g hr =>
 (sb_cons (ss_set (i := 2) sc_part_in.nd rfl (loc_by rfl) rfl (se_len rfl rfl (t.fr_len) (SX.toV (se_fld rfl t.fl_own_rows (se_var (i := 0) rfl (vis_by rfl) rfl)))))
 (sb_cons (ss_if (SW.st (sw_or (st_not (st_val (sx_call (z := zV _) ⟨rfl, rfl, rfl, rfl, rfl⟩ (g_is_list t) (hr.mono (by decide)) rfl t.g_is_list (t.k_is_list) (b_is_list t) (sa_cons (se_var (i := 1) rfl (vis_by rfl) rfl) sa_nil) rfl rfl) (fun _ => rfl))) (sw_or1 (st_cmp op_gt' (SX.toV (se_len rfl rfl (t.fr_len) (SX.toV (se_var (i := 1) rfl (vis_by rfl) rfl)))) (SX.toV (se_var (i := 2) rfl (vis_by rfl) rfl)) (nomark _))))) (sb_one (ss_ret se_non)) sb_nil)
 (sb_cons (ss_setLc (own := [("row", 4)]) (i := 3) rfl rfl sc_part_in.nd rfl rfl rfl rfl (sj_seq rfl (SX.toV (se_var (i := 1) rfl (vis_by rfl) rfl))) (blkOk_by (own := [("row", 4)]) rfl) rfl rfl (fun _ _ _ _ _ => (sg_name (i := 4) sc_part_in.nd rfl (loc_by rfl) rfl)) (fun _ _ _ _ _ => sts_nil) (fun _ _ _ _ _ => (sx_call (z := zV _) ⟨rfl, rfl, rfl, rfl, rfl⟩ (g_row_in t) (hr.mono (by decide)) rfl t.g_row_in (t.k_row_in) (b_row_in t) (sa_cons (se_fld rfl t.fl_own_prime (se_var (i := 0) rfl (vis_by rfl) rfl)) (sa_cons (se_var (i := 4) rfl (vis_by rfl) rfl) (sa_cons (se_var (i := 2) rfl (vis_by rfl) rfl) sa_nil))) rfl rfl)))
 (sb_cons (ss_if (SW.st (sw_or (st_val (se_any rfl rfl rfl (t.fr_any) (SX.ofFV (sf_lc (own := [("row", 4)]) rfl rfl sc_part_in.nd (sj_seq rfl (SX.toV (se_var (i := 3) rfl (vis_by rfl) rfl))) (blkOk_by (own := [("row", 4)]) rfl) rfl rfl (fun _ _ _ _ _ => (sg_name (i := 4) sc_part_in.nd rfl (loc_by rfl) rfl)) (fun _ _ _ _ _ => sts_nil) (fun _ _ _ _ _ => (se_isN (SX.toV (se_var (i := 4) rfl (vis_by rfl) rfl))))))) (fun _ => rfl)) (sw_or1 (st_cmp (op_ne' rfl hr.hu) (SX.toV (sx_call (z := zV _) ⟨rfl, rfl, rfl, rfl, rfl⟩ (g_steps_of t) (hr.mono (by decide)) rfl t.g_steps_of (t.k_steps_of) (b_steps_of t) (sa_cons (se_fld rfl t.fl_own_prime (se_var (i := 0) rfl (vis_by rfl) rfl)) (sa_cons (se_var (i := 3) rfl (vis_by rfl) rfl) sa_nil)) rfl rfl)) (SX.toV (se_var (i := 3) rfl (vis_by rfl) rfl)) (nomark _))))) (sb_one (ss_ret se_non)) sb_nil)
 (sb_one (ss_ret (se_var (i := 3) rfl (vis_by rfl) rfl)))))))
abbrev N_InvalidPart_init : List Str := ["self", "value"]
theorem sc_InvalidPart_init : FnScope N_InvalidPart_init ["self", "value"] (defScope s_InvalidPart_init) := ⟨rfl, rfl, rfl, by decide +kernel, rfl, by decide +kernel, by decide +kernel⟩
theorem b_InvalidPart_init (t : Tx T) : Binds T.K (fdOf T.K ("InvalidPart", some "__init__")) ["self", "value"] [] := t.d_InvalidPart_init.bindsN fun _ _ _ _ _ _ us hl => match us, hl with | [_, _], _ => rfl
theorem g_InvalidPart_init (t : Tx T) : FnOk T.P T.w T.K T.mg T.base (L2.CX T.P T.w) 1 (He.fAd T.K ("InvalidPart", some "__init__")) (fdOf T.K ("InvalidPart", some "__init__")) ["self", "value"] (spX1 ((kn T.K).exn 2) "value") := fn_x1 (N := N_InvalidPart_init) t.d_InvalidPart_init sc_InvalidPart_init rfl rfl rfl rfl t.er_InvalidPart.o (t.er_InvalidPart.no _ (by simp [eflds]))
abbrev N_want_part : List Str := ["room", "value", "found"]
theorem sc_want_part : FnScope N_want_part ["room", "value"] (defScope s_want_part) := ⟨rfl, rfl, rfl, by decide +kernel, rfl, by decide +kernel, by decide +kernel⟩
theorem b_want_part (t : Tx T) : Binds T.K (fdOf T.K ("want_part", none)) ["room", "value"] [] := t.d_want_part.bindsN fun _ _ _ _ _ _ us hl => match us, hl with | [_, _], _ => rfl
def c_want_part : Sc := (sSeq (sSet 2 (cCall F_part_in (aCons (cVar 0) (aCons (cVar 1) aNil)))) (sSeq (sIf (tVal (cUn (oIsNon false) (cVar 2))) (sRaise 2 (cVar 1)) sSkip) (sRet (cVar 2))))
def F_want_part : List PV → Tr PV := body (.ret .non) 3 c_want_part
theorem g_want_part (t : Tx T) : FnG T 5 (He.fAd T.K ("want_part", none)) (fdOf T.K ("want_part", none)) ["room", "value"] (SpC (kn T.K) (zV (kn T.K)) 2 F_want_part) := fn_bodyZ (own := []) (c := c_want_part) (N := N_want_part) end_V t.d_want_part sc_want_part rfl (by decide) fun cdv A outer s H E g hr =>
 (sb_cons (ss_set (i := 2) sc_want_part.nd rfl (loc_by rfl) rfl (sx_call (z := zV _) ⟨rfl, rfl, rfl, rfl, rfl⟩ (g_part_in t) (hr.mono (by decide)) rfl t.g_part_in (t.k_part_in) (b_part_in t) (sa_cons (se_var (i := 0) rfl (vis_by rfl) rfl) (sa_cons (se_var (i := 1) rfl (vis_by rfl) rfl) sa_nil)) rfl rfl))
 (sb_cons (ss_if (st_isN (SX.toV (se_var (i := 2) rfl (vis_by rfl) rfl))) (sb_one (ss_raise (n := 2) rfl t.er_InvalidPart.o t.er_InvalidPart.iC t.er_InvalidPart.tI (g_InvalidPart_init t) (hr.rm.mono (by decide)) (b_InvalidPart_init t) rfl t.g_InvalidPart rfl (se_var (i := 1) rfl (vis_by rfl) rfl))) sb_nil)
 (sb_one (ss_ret (se_var (i := 2) rfl (vis_by rfl) rfl)))))
abbrev N_InvalidTable_init : List Str := ["self", "value"]
theorem sc_InvalidTable_init : FnScope N_InvalidTable_init ["self", "value"] (defScope s_InvalidTable_init) := ⟨rfl, rfl, rfl, by decide +kernel, rfl, by decide +kernel, by decide +kernel⟩
theorem b_InvalidTable_init (t : Tx T) : Binds T.K (fdOf T.K ("InvalidTable", some "__init__")) ["self", "value"] [] := t.d_InvalidTable_init.bindsN fun _ _ _ _ _ _ us hl => match us, hl with | [_, _], _ => rfl
theorem g_InvalidTable_init (t : Tx T) : FnOk T.P T.w T.K T.mg T.base (L2.CX T.P T.w) 1 (He.fAd T.K ("InvalidTable", some "__init__")) (fdOf T.K ("InvalidTable", some "__init__")) ["self", "value"] (spX1 ((kn T.K).exn 6) "value") := fn_x1 (N := N_InvalidTable_init) t.d_InvalidTable_init sc_InvalidTable_init rfl rfl rfl rfl t.er_InvalidTable.o (t.er_InvalidTable.no _ (by simp [eflds]))
abbrev N_want_table : List Str := ["prime", "value", "found"]
theorem sc_want_table : FnScope N_want_table ["prime", "value"] (defScope s_want_table) := ⟨rfl, rfl, rfl, by decide +kernel, rfl, by decide +kernel, by decide +kernel⟩
theorem b_want_table (t : Tx T) : Binds T.K (fdOf T.K ("want_table", none)) ["prime", "value"] [] := t.d_want_table.bindsN fun _ _ _ _ _ _ us hl => match us, hl with | [_, _], _ => rfl
def c_want_table : Sc := (sSeq (sSet 2 (cCall F_table_in (aCons (cVar 0) (aCons (cVar 1) aNil)))) (sSeq (sIf (tVal (cUn (oIsNon false) (cVar 2))) (sRaise 6 (cVar 1)) sSkip) (sRet (cVar 2))))
def F_want_table : List PV → Tr PV := body (.ret .non) 3 c_want_table
theorem g_want_table (t : Tx T) : FnG T 5 (He.fAd T.K ("want_table", none)) (fdOf T.K ("want_table", none)) ["prime", "value"] (SpC (kn T.K) (zV (kn T.K)) 2 F_want_table) := fn_bodyZ (own := []) (c := c_want_table) (N := N_want_table) end_V t.d_want_table sc_want_table rfl (by decide) fun cdv A outer s H E g hr =>
 (sb_cons (ss_set (i := 2) sc_want_table.nd rfl (loc_by rfl) rfl (sx_call (z := zV _) ⟨rfl, rfl, rfl, rfl, rfl⟩ (g_table_in t) (hr.mono (by decide)) rfl t.g_table_in (t.k_table_in) (b_table_in t) (sa_cons (se_var (i := 0) rfl (vis_by rfl) rfl) (sa_cons (se_var (i := 1) rfl (vis_by rfl) rfl) sa_nil)) rfl rfl))
 (sb_cons (ss_if (st_isN (SX.toV (se_var (i := 2) rfl (vis_by rfl) rfl))) (sb_one (ss_raise (n := 6) rfl t.er_InvalidTable.o t.er_InvalidTable.iC t.er_InvalidTable.tI (g_InvalidTable_init t) (hr.rm.mono (by decide)) (b_InvalidTable_init t) rfl t.g_InvalidTable rfl (se_var (i := 1) rfl (vis_by rfl) rfl))) sb_nil)
 (sb_one (ss_ret (se_var (i := 2) rfl (vis_by rfl) rfl)))))
abbrev N_want_sized : List Str := ["prime", "value", "size", "found"]
theorem sc_want_sized : FnScope N_want_sized ["prime", "value", "size"] (defScope s_want_sized) := ⟨rfl, rfl, rfl, by decide +kernel, rfl, by decide +kernel, by decide +kernel⟩
theorem b_want_sized (t : Tx T) : Binds T.K (fdOf T.K ("want_sized", none)) ["prime", "value", "size"] [] := t.d_want_sized.bindsN fun _ _ _ _ _ _ us hl => match us, hl with | [_, _, _], _ => rfl
def c_want_sized : Sc := (sSeq (sSet 3 (cCall F_want_table (aCons (cVar 0) (aCons (cVar 1) aNil)))) (sSeq (sIf (tVal (cBin (oEq true) (cUn oLen (cVar 3)) (cVar 2))) (sRaise 6 (cVar 1)) sSkip) (sRet (cVar 3))))
def F_want_sized : List PV → Tr PV := body (.ret .non) 4 c_want_sized
theorem g_want_sized (t : Tx T) : FnG T 6 (He.fAd T.K ("want_sized", none)) (fdOf T.K ("want_sized", none)) ["prime", "value", "size"] (SpC (kn T.K) (zV (kn T.K)) 3 F_want_sized) := fn_bodyZ (own := []) (c := c_want_sized) (N := N_want_sized) end_V t.d_want_sized sc_want_sized rfl (by decide) fun cdv A outer s H E g hr =>
 (sb_cons (ss_set (i := 3) sc_want_sized.nd rfl (loc_by rfl) rfl (sx_call (z := zV _) ⟨rfl, rfl, rfl, rfl, rfl⟩ (g_want_table t) (hr.mono (by decide)) rfl t.g_want_table (t.k_want_table) (b_want_table t) (sa_cons (se_var (i := 0) rfl (vis_by rfl) rfl) (sa_cons (se_var (i := 1) rfl (vis_by rfl) rfl) sa_nil)) rfl rfl))
 (sb_cons (ss_if (st_cmp (op_ne' rfl hr.hu) (SX.toV (se_len rfl rfl (t.fr_len) (SX.toV (se_var (i := 3) rfl (vis_by rfl) rfl)))) (SX.toV (se_var (i := 2) rfl (vis_by rfl) rfl)) (nomark _)) (sb_one (ss_raise (n := 6) rfl t.er_InvalidTable.o t.er_InvalidTable.iC t.er_InvalidTable.tI (g_InvalidTable_init t) (hr.rm.mono (by decide)) (b_InvalidTable_init t) rfl t.g_InvalidTable rfl (se_var (i := 1) rfl (vis_by rfl) rfl))) sb_nil)
 (sb_one (ss_ret (se_var (i := 3) rfl (vis_by rfl) rfl)))))
abbrev N_mix_of : List Str := ["prime", "rests", "rows", "size", "found", "rest", "row"]
theorem sc_mix_of : FnScope N_mix_of ["prime", "rests", "rows", "size"] (defScope s_mix_of) := ⟨rfl, rfl, rfl, by decide +kernel, rfl, by decide +kernel, by decide +kernel⟩
theorem b_mix_of (t : Tx T) : Binds T.K (fdOf T.K ("mix_of", none)) ["prime", "rests", "rows", "size"] [] := t.d_mix_of.bindsN fun _ _ _ _ _ _ us hl => match us, hl with | [_, _, _, _], _ => rfl
def c_mix_of : Sc := (sSeq (sSet 4 (cBin oMul (cTup (aCons (cC (.int 0)) aNil)) (cVar 3))) (sSeq (sFor (jZip (cVar 1) (cVar 2)) (gTupc 2 (gsCons (gSt 5) (gsCons (gSt 6) gsNil))) (sSet 4 (cCall F_sum_of (aCons (cVar 0) (aCons (cVar 4) (aCons (cVar 6) (aCons (cVar 5) aNil))))))) (sRet (cVar 4))))
def F_mix_of : List PV → Tr PV := body (.ret .non) 7 c_mix_of
theorem g_mix_of (t : Tx T) : FnG T 2 (He.fAd T.K ("mix_of", none)) (fdOf T.K ("mix_of", none)) ["prime", "rests", "rows", "size"] (SpC (kn T.K) (zV (kn T.K)) 4 F_mix_of) := fn_bodyZ (own := []) (c := c_mix_of) (N := N_mix_of) end_V t.d_mix_of sc_mix_of rfl (by decide) fun cdv A outer s H E g hr =>
 (sb_cons (ss_set (i := 4) sc_mix_of.nd rfl (loc_by rfl) rfl (sx_bin (z := zV _) (op_mul' rfl) (SX.toV (se_tup (sa_cons se_int sa_nil))) (SX.toV (se_var (i := 3) rfl (vis_by rfl) rfl))))
 (sb_cons (ss_for (passes_of rfl) rfl (si_zip rfl rfl (t.fr_zip) (se_var (i := 1) rfl (vis_by rfl) rfl) (se_var (i := 2) rfl (vis_by rfl) rfl)) (fun _ => (sg_tup rfl rfl (sgs_cons (sg_name (i := 5) sc_mix_of.nd rfl (loc_by rfl) rfl) (sgs_cons (sg_name (i := 6) sc_mix_of.nd rfl (loc_by rfl) rfl) sgs_nil)))) (fun _ => (sb_one (ss_set (i := 4) sc_mix_of.nd rfl (loc_by rfl) rfl (sx_call (z := zV _) ⟨rfl, rfl, rfl, rfl, rfl⟩ (g_sum_of t) (hr.mono (by decide)) rfl t.g_sum_of (t.k_sum_of) (b_sum_of t) (sa_cons (se_var (i := 0) rfl (vis_by rfl) rfl) (sa_cons (se_var (i := 4) rfl (vis_by rfl) rfl) (sa_cons (se_var (i := 6) rfl (vis_by rfl) rfl) (sa_cons (se_var (i := 5) rfl (vis_by rfl) rfl) sa_nil)))) rfl rfl)))))
 (sb_one (ss_ret (se_var (i := 4) rfl (vis_by rfl) rfl)))))
abbrev N_led_of : List Str := ["prime", "row", "table"]
theorem sc_led_of : FnScope N_led_of ["prime", "row", "table"] (defScope s_led_of) := ⟨rfl, rfl, rfl, by decide +kernel, rfl, by decide +kernel, by decide +kernel⟩
theorem b_led_of (t : Tx T) : Binds T.K (fdOf T.K ("led_of", none)) ["prime", "row", "table"] [] := t.d_led_of.bindsN fun _ _ _ _ _ _ us hl => match us, hl with | [_, _, _], _ => rfl
def c_led_of : Sc := (sRet (cCall F_mix_of (aCons (cVar 0) (aCons (cVar 1) (aCons (cVar 2) (aCons (cIf (tVal (cBin oGt (cUn oLen (cVar 2)) (cC (.int 0)))) (cUn oLen (cBin oIx (cVar 2) (cC (.int 0)))) (cC (.int 0))) aNil))))))
def F_led_of : List PV → Tr PV := body (.ret .non) 3 c_led_of
theorem g_led_of (t : Tx T) : FnG T 3 (He.fAd T.K ("led_of", none)) (fdOf T.K ("led_of", none)) ["prime", "row", "table"] (SpC (kn T.K) (zV (kn T.K)) 3 F_led_of) := fn_bodyZ (own := []) (c := c_led_of) (N := N_led_of) end_V t.d_led_of sc_led_of rfl (by decide) fun cdv A outer s H E g hr =>
 (sb_one (ss_ret (sx_call (z := zV _) ⟨rfl, rfl, rfl, rfl, rfl⟩ (g_mix_of t) (hr.mono (by decide)) rfl t.g_mix_of (t.k_mix_of) (b_mix_of t) (sa_cons (se_var (i := 0) rfl (vis_by rfl) rfl) (sa_cons (se_var (i := 1) rfl (vis_by rfl) rfl) (sa_cons (se_var (i := 2) rfl (vis_by rfl) rfl) (sa_cons (sx_if (z := zV _) (st_cmp op_gt' (SX.toV (se_len rfl rfl (t.fr_len) (SX.toV (se_var (i := 2) rfl (vis_by rfl) rfl)))) (SX.toV se_int) (nomark _)) (se_len rfl rfl (t.fr_len) (SX.toV (se_ix rfl (SX.toV (se_var (i := 2) rfl (vis_by rfl) rfl)) se_int (by intro _ _; rfl)))) se_int) sa_nil)))) rfl rfl)))
abbrev N_images_by : List Str := ["room", "part", "table", "rows", "told", "row"]
theorem sc_images_by : FnScope N_images_by ["room", "part", "table"] (defScope s_images_by) := ⟨rfl, rfl, rfl, by decide +kernel, rfl, by decide +kernel, by decide +kernel⟩
theorem b_images_by (t : Tx T) : Binds T.K (fdOf T.K ("images_by", none)) ["room", "part", "table"] [] := t.d_images_by.bindsN fun _ _ _ _ _ _ us hl => match us, hl with | [_, _, _], _ => rfl
def c_images_by : Sc := (sSeq (sDrop (cCall F_want_room (aCons (cVar 0) aNil))) (sSeq (sSet 3 (cCall F_want_part (aCons (cVar 0) (aCons (cVar 1) aNil)))) (sSeq (sSet 4 (cCall F_want_sized (aCons (cUn (oFld js_own_prime) (cVar 0)) (aCons (cVar 2) (aCons (cUn oLen (cUn (oFld js_own_rows) (cVar 0))) aNil))))) (sRet (cLc [5] (jSeq (cVar 3)) (gSt 5) cYes (cCall F_led_of (aCons (cUn (oFld js_own_prime) (cVar 0)) (aCons (cVar 5) (aCons (cVar 4) aNil)))))))))
def F_images_by : List PV → Tr PV := body (.ret .non) 6 c_images_by
theorem g_images_by (t : Tx T) : FnG T 7 (He.fAd T.K ("images_by", none)) (fdOf T.K ("images_by", none)) ["room", "part", "table"] (SpC (kn T.K) (zV (kn T.K)) 3 F_images_by) := fn_bodyZ (own := []) (c := c_images_by) (N := N_images_by) end_V t.d_images_by sc_images_by rfl (by decide) fun cdv A outer s H E g hr =>
 (sb_cons (ss_drop (SX.toV (sx_call (z := zV _) ⟨rfl, rfl, rfl, rfl, rfl⟩ (g_want_room t) (hr.mono (by decide)) rfl t.g_want_room (t.k_want_room) (b_want_room t) (sa_cons (se_var (i := 0) rfl (vis_by rfl) rfl) sa_nil) rfl rfl)))
 (sb_cons (ss_set (i := 3) sc_images_by.nd rfl (loc_by rfl) rfl (sx_call (z := zV _) ⟨rfl, rfl, rfl, rfl, rfl⟩ (g_want_part t) (hr.mono (by decide)) rfl t.g_want_part (t.k_want_part) (b_want_part t) (sa_cons (se_var (i := 0) rfl (vis_by rfl) rfl) (sa_cons (se_var (i := 1) rfl (vis_by rfl) rfl) sa_nil)) rfl rfl))
 (sb_cons (ss_set (i := 4) sc_images_by.nd rfl (loc_by rfl) rfl (sx_call (z := zV _) ⟨rfl, rfl, rfl, rfl, rfl⟩ (g_want_sized t) (hr.mono (by decide)) rfl t.g_want_sized (t.k_want_sized) (b_want_sized t) (sa_cons (se_fld rfl t.fl_own_prime (se_var (i := 0) rfl (vis_by rfl) rfl)) (sa_cons (se_var (i := 2) rfl (vis_by rfl) rfl) (sa_cons (se_len rfl rfl (t.fr_len) (SX.toV (se_fld rfl t.fl_own_rows (se_var (i := 0) rfl (vis_by rfl) rfl)))) sa_nil))) rfl rfl))
 (sb_one (ss_ret (SX.ofF (sf_lc (own := [("row", 5)]) rfl rfl sc_images_by.nd (sj_seq rfl (SX.toV (se_var (i := 3) rfl (vis_by rfl) rfl))) (blkOk_by (own := [("row", 5)]) rfl) rfl rfl (fun _ _ _ _ _ => (sg_name (i := 5) sc_images_by.nd rfl (loc_by rfl) rfl)) (fun _ _ _ _ _ => sts_nil) (fun _ _ _ _ _ => (sx_call (z := zV _) ⟨rfl, rfl, rfl, rfl, rfl⟩ (g_led_of t) (hr.mono (by decide)) rfl t.g_led_of (t.k_led_of) (b_led_of t) (sa_cons (se_fld rfl t.fl_own_prime (se_var (i := 0) rfl (vis_by rfl) rfl)) (sa_cons (se_var (i := 5) rfl (vis_by rfl) rfl) (sa_cons (se_var (i := 4) rfl (vis_by rfl) rfl) sa_nil))) rfl rfl)))))))))
abbrev N_InvalidImages_init : List Str := ["self", "value"]
theorem sc_InvalidImages_init : FnScope N_InvalidImages_init ["self", "value"] (defScope s_InvalidImages_init) := ⟨rfl, rfl, rfl, by decide +kernel, rfl, by decide +kernel, by decide +kernel⟩
theorem b_InvalidImages_init (t : Tx T) : Binds T.K (fdOf T.K ("InvalidImages", some "__init__")) ["self", "value"] [] := t.d_InvalidImages_init.bindsN fun _ _ _ _ _ _ us hl => match us, hl with | [_, _], _ => rfl
theorem g_InvalidImages_init (t : Tx T) : FnOk T.P T.w T.K T.mg T.base (L2.CX T.P T.w) 1 (He.fAd T.K ("InvalidImages", some "__init__")) (fdOf T.K ("InvalidImages", some "__init__")) ["self", "value"] (spX1 ((kn T.K).exn 1) "value") := fn_x1 (N := N_InvalidImages_init) t.d_InvalidImages_init sc_InvalidImages_init rfl rfl rfl rfl t.er_InvalidImages.o (t.er_InvalidImages.no _ (by simp [eflds]))
abbrev N_want_images : List Str := ["room", "part", "value", "found", "row"]
theorem sc_want_images : FnScope N_want_images ["room", "part", "value"] (defScope s_want_images) := ⟨rfl, rfl, rfl, by decide +kernel, rfl, by decide +kernel, by decide +kernel⟩
theorem b_want_images (t : Tx T) : Binds T.K (fdOf T.K ("want_images", none)) ["room", "part", "value"] [] := t.d_want_images.bindsN fun _ _ _ _ _ _ us hl => match us, hl with | [_, _, _], _ => rfl
def c_want_images : Sc := (sSeq (sIf (tOr (tNot (tVal (cCall F_is_list (aCons (cVar 2) aNil)))) (tVal (cBin (oEq true) (cUn oLen (cVar 2)) (cUn oLen (cVar 1))))) (sRaise 1 (cVar 2)) sSkip) (sSeq (sSet 3 (cLc [4] (jSeq (cVar 2)) (gSt 4) cYes (cCall F_row_in (aCons (cUn (oFld js_own_prime) (cVar 0)) (aCons (cVar 4) (aCons (cUn oLen (cUn (oFld js_own_rows) (cVar 0))) aNil)))))) (sSeq (sIf (tVal (cUn (oQ anyP) (cLc [4] (jSeq (cVar 3)) (gSt 4) cYes (cUn (oIsNon false) (cVar 4))))) (sRaise 1 (cVar 2)) sSkip) (sRet (cVar 3)))))
def F_want_images : List PV → Tr PV := body (.ret .non) 5 c_want_images
theorem g_want_images (t : Tx T) : FnG T 4 (He.fAd T.K ("want_images", none)) (fdOf T.K ("want_images", none)) ["room", "part", "value"] (SpC (kn T.K) (zV (kn T.K)) 3 F_want_images) := fn_bodyZ (own := []) (c := c_want_images) (N := N_want_images) end_V t.d_want_images sc_want_images rfl (by decide) fun cdv A outer s H E g hr =>
 (sb_cons (ss_if (SW.st (sw_or (st_not (st_val (sx_call (z := zV _) ⟨rfl, rfl, rfl, rfl, rfl⟩ (g_is_list t) (hr.mono (by decide)) rfl t.g_is_list (t.k_is_list) (b_is_list t) (sa_cons (se_var (i := 2) rfl (vis_by rfl) rfl) sa_nil) rfl rfl) (fun _ => rfl))) (sw_or1 (st_cmp (op_ne' rfl hr.hu) (SX.toV (se_len rfl rfl (t.fr_len) (SX.toV (se_var (i := 2) rfl (vis_by rfl) rfl)))) (SX.toV (se_len rfl rfl (t.fr_len) (SX.toV (se_var (i := 1) rfl (vis_by rfl) rfl)))) (nomark _))))) (sb_one (ss_raise (n := 1) rfl t.er_InvalidImages.o t.er_InvalidImages.iC t.er_InvalidImages.tI (g_InvalidImages_init t) (hr.rm.mono (by decide)) (b_InvalidImages_init t) rfl t.g_InvalidImages rfl (se_var (i := 2) rfl (vis_by rfl) rfl))) sb_nil)
 (sb_cons (ss_setLc (own := [("row", 4)]) (i := 3) rfl rfl sc_want_images.nd rfl rfl rfl rfl (sj_seq rfl (SX.toV (se_var (i := 2) rfl (vis_by rfl) rfl))) (blkOk_by (own := [("row", 4)]) rfl) rfl rfl (fun _ _ _ _ _ => (sg_name (i := 4) sc_want_images.nd rfl (loc_by rfl) rfl)) (fun _ _ _ _ _ => sts_nil) (fun _ _ _ _ _ => (sx_call (z := zV _) ⟨rfl, rfl, rfl, rfl, rfl⟩ (g_row_in t) (hr.mono (by decide)) rfl t.g_row_in (t.k_row_in) (b_row_in t) (sa_cons (se_fld rfl t.fl_own_prime (se_var (i := 0) rfl (vis_by rfl) rfl)) (sa_cons (se_var (i := 4) rfl (vis_by rfl) rfl) (sa_cons (se_len rfl rfl (t.fr_len) (SX.toV (se_fld rfl t.fl_own_rows (se_var (i := 0) rfl (vis_by rfl) rfl)))) sa_nil))) rfl rfl)))
 (sb_cons (ss_if (st_val (se_any rfl rfl rfl (t.fr_any) (SX.ofFV (sf_lc (own := [("row", 4)]) rfl rfl sc_want_images.nd (sj_seq rfl (SX.toV (se_var (i := 3) rfl (vis_by rfl) rfl))) (blkOk_by (own := [("row", 4)]) rfl) rfl rfl (fun _ _ _ _ _ => (sg_name (i := 4) sc_want_images.nd rfl (loc_by rfl) rfl)) (fun _ _ _ _ _ => sts_nil) (fun _ _ _ _ _ => (se_isN (SX.toV (se_var (i := 4) rfl (vis_by rfl) rfl))))))) (fun _ => rfl)) (sb_one (ss_raise (n := 1) rfl t.er_InvalidImages.o t.er_InvalidImages.iC t.er_InvalidImages.tI (g_InvalidImages_init t) (hr.rm.mono (by decide)) (b_InvalidImages_init t) rfl t.g_InvalidImages rfl (se_var (i := 2) rfl (vis_by rfl) rfl))) sb_nil)
 (sb_one (ss_ret (se_var (i := 3) rfl (vis_by rfl) rfl))))))
abbrev N_told_map : List Str := ["room", "part", "images", "rows"]
theorem sc_told_map : FnScope N_told_map ["room", "part", "images"] (defScope s_told_map) := ⟨rfl, rfl, rfl, by decide +kernel, rfl, by decide +kernel, by decide +kernel⟩
theorem b_told_map (t : Tx T) : Binds T.K (fdOf T.K ("told_map", none)) ["room", "part", "images"] [] := t.d_told_map.bindsN fun _ _ _ _ _ _ us hl => match us, hl with | [_, _, _], _ => rfl
def c_told_map : Sc := (sSeq (sDrop (cCall F_want_room (aCons (cVar 0) aNil))) (sSeq (sSet 3 (cCall F_want_part (aCons (cVar 0) (aCons (cVar 1) aNil)))) (sRet (cTup (aCons (cVar 3) (aCons (cCall F_want_images (aCons (cVar 0) (aCons (cVar 3) (aCons (cVar 2) aNil)))) aNil))))))
def F_told_map : List PV → Tr PV := body (.ret .non) 4 c_told_map
theorem g_told_map (t : Tx T) : FnG T 6 (He.fAd T.K ("told_map", none)) (fdOf T.K ("told_map", none)) ["room", "part", "images"] (SpC (kn T.K) (zV (kn T.K)) 3 F_told_map) := fn_bodyZ (own := []) (c := c_told_map) (N := N_told_map) end_V t.d_told_map sc_told_map rfl (by decide) fun cdv A outer s H E g hr =>
 (sb_cons (ss_drop (SX.toV (sx_call (z := zV _) ⟨rfl, rfl, rfl, rfl, rfl⟩ (g_want_room t) (hr.mono (by decide)) rfl t.g_want_room (t.k_want_room) (b_want_room t) (sa_cons (se_var (i := 0) rfl (vis_by rfl) rfl) sa_nil) rfl rfl)))
 (sb_cons (ss_set (i := 3) sc_told_map.nd rfl (loc_by rfl) rfl (sx_call (z := zV _) ⟨rfl, rfl, rfl, rfl, rfl⟩ (g_want_part t) (hr.mono (by decide)) rfl t.g_want_part (t.k_want_part) (b_want_part t) (sa_cons (se_var (i := 0) rfl (vis_by rfl) rfl) (sa_cons (se_var (i := 1) rfl (vis_by rfl) rfl) sa_nil)) rfl rfl))
 (sb_one (ss_ret (se_tup (sa_cons (se_var (i := 3) rfl (vis_by rfl) rfl) (sa_cons (sx_call (z := zV _) ⟨rfl, rfl, rfl, rfl, rfl⟩ (g_want_images t) (hr.mono (by decide)) rfl t.g_want_images (t.k_want_images) (b_want_images t) (sa_cons (se_var (i := 0) rfl (vis_by rfl) rfl) (sa_cons (se_var (i := 3) rfl (vis_by rfl) rfl) (sa_cons (se_var (i := 2) rfl (vis_by rfl) rfl) sa_nil))) rfl rfl) sa_nil)))))))
abbrev N_dot : List Str := ["prime", "row", "other", "near", "far"]
theorem sc_dot : FnScope N_dot ["prime", "row", "other"] (defScope s_dot) := ⟨rfl, rfl, rfl, by decide +kernel, rfl, by decide +kernel, by decide +kernel⟩
theorem b_dot (t : Tx T) : Binds T.K (fdOf T.K ("dot", none)) ["prime", "row", "other"] [] := t.d_dot.bindsN fun _ _ _ _ _ _ us hl => match us, hl with | [_, _, _], _ => rfl
def c_dot : Sc := (sRet (cBin oMod (cUn oSum (cLc [3, 4] (jZip (cVar 1) (cVar 2)) (gTupc 2 (gsCons (gSt 3) (gsCons (gSt 4) gsNil))) cYes (cBin oMul (cVar 3) (cVar 4)))) (cVar 0)))
def F_dot : List PV → Tr PV := body (.ret .non) 5 c_dot
theorem g_dot (t : Tx T) : FnG T 1 (He.fAd T.K ("dot", none)) (fdOf T.K ("dot", none)) ["prime", "row", "other"] (SpC (kn T.K) (zV (kn T.K)) 3 F_dot) := fn_bodyZ (own := []) (c := c_dot) (N := N_dot) end_V t.d_dot sc_dot rfl (by decide) fun cdv A outer s H E g hr =>
 (sb_one (ss_ret (sx_bin (z := zV _) op_mod' (SX.toV (se_sum rfl rfl (t.fr_sum) (SX.ofFV (sf_lc (own := [("near", 3), ("far", 4)]) rfl rfl sc_dot.nd (sj_zip rfl rfl (t.fr_zip) (SX.toV (se_var (i := 1) rfl (vis_by rfl) rfl)) (SX.toV (se_var (i := 2) rfl (vis_by rfl) rfl))) (blkOk_by (own := [("near", 3), ("far", 4)]) rfl) rfl rfl (fun _ _ _ _ _ => (sg_tup rfl rfl (sgs_cons (sg_name (i := 3) sc_dot.nd rfl (loc_by rfl) rfl) (sgs_cons (sg_name (i := 4) sc_dot.nd rfl (loc_by rfl) rfl) sgs_nil)))) (fun _ _ _ _ _ => sts_nil) (fun _ _ _ _ _ => (sx_bin (z := zV _) (op_mul' rfl) (SX.toV (se_var (i := 3) rfl (vis_by rfl) rfl)) (SX.toV (se_var (i := 4) rfl (vis_by rfl) rfl)))))))) (SX.toV (se_var (i := 0) rfl (vis_by rfl) rfl)))))
abbrev N_between_of : List Str := ["room", "row", "other"]
theorem sc_between_of : FnScope N_between_of ["room", "row", "other"] (defScope s_between_of) := ⟨rfl, rfl, rfl, by decide +kernel, rfl, by decide +kernel, by decide +kernel⟩
theorem b_between_of (t : Tx T) : Binds T.K (fdOf T.K ("between_of", none)) ["room", "row", "other"] [] := t.d_between_of.bindsN fun _ _ _ _ _ _ us hl => match us, hl with | [_, _, _], _ => rfl
def c_between_of : Sc := (sRet (cCall F_dot (aCons (cUn (oFld js_own_prime) (cVar 0)) (aCons (cCall F_led_of (aCons (cUn (oFld js_own_prime) (cVar 0)) (aCons (cVar 1) (aCons (cUn (oFld js_own_rows) (cVar 0)) aNil)))) (aCons (cVar 2) aNil)))))
def F_between_of : List PV → Tr PV := body (.ret .non) 3 c_between_of
theorem g_between_of (t : Tx T) : FnG T 4 (He.fAd T.K ("between_of", none)) (fdOf T.K ("between_of", none)) ["room", "row", "other"] (SpC (kn T.K) (zV (kn T.K)) 3 F_between_of) := fn_bodyZ (own := []) (c := c_between_of) (N := N_between_of) end_V t.d_between_of sc_between_of rfl (by decide) fun cdv A outer s H E g hr =>
 (sb_one (ss_ret (sx_call (z := zV _) ⟨rfl, rfl, rfl, rfl, rfl⟩ (g_dot t) (hr.mono (by decide)) rfl t.g_dot (t.k_dot) (b_dot t) (sa_cons (se_fld rfl t.fl_own_prime (se_var (i := 0) rfl (vis_by rfl) rfl)) (sa_cons (sx_call (z := zV _) ⟨rfl, rfl, rfl, rfl, rfl⟩ (g_led_of t) (hr.mono (by decide)) rfl t.g_led_of (t.k_led_of) (b_led_of t) (sa_cons (se_fld rfl t.fl_own_prime (se_var (i := 0) rfl (vis_by rfl) rfl)) (sa_cons (se_var (i := 1) rfl (vis_by rfl) rfl) (sa_cons (se_fld rfl t.fl_own_rows (se_var (i := 0) rfl (vis_by rfl) rfl)) sa_nil))) rfl rfl) (sa_cons (se_var (i := 2) rfl (vis_by rfl) rfl) sa_nil))) rfl rfl)))
abbrev N_is_kept : List Str := ["room", "rows", "images", "first", "second"]
theorem sc_is_kept : FnScope N_is_kept ["room", "rows", "images", "first", "second"] (defScope s_is_kept) := ⟨rfl, rfl, rfl, by decide +kernel, rfl, by decide +kernel, by decide +kernel⟩
theorem b_is_kept (t : Tx T) : Binds T.K (fdOf T.K ("is_kept", none)) ["room", "rows", "images", "first", "second"] [] := t.d_is_kept.bindsN fun _ _ _ _ _ _ us hl => match us, hl with | [_, _, _, _, _], _ => rfl
def c_is_kept : Sc := (sRet (cBin (oEq false) (cCall F_between_of (aCons (cVar 0) (aCons (cBin oIx (cVar 1) (cVar 3)) (aCons (cBin oIx (cVar 1) (cVar 4)) aNil)))) (cCall F_between_of (aCons (cVar 0) (aCons (cBin oIx (cVar 2) (cVar 3)) (aCons (cBin oIx (cVar 2) (cVar 4)) aNil))))))
def F_is_kept : List PV → Tr PV := body (.ret .non) 5 c_is_kept
theorem g_is_kept (t : Tx T) : FnG T 5 (He.fAd T.K ("is_kept", none)) (fdOf T.K ("is_kept", none)) ["room", "rows", "images", "first", "second"] (SpC (kn T.K) (zV (kn T.K)) 5 F_is_kept) := fn_bodyZ (own := []) (c := c_is_kept) (N := N_is_kept) end_V t.d_is_kept sc_is_kept rfl (by decide) fun cdv A outer s H E g hr =>
 (sb_one (ss_ret (sx_cmp (z := zV _) (op_eq' rfl hr.hu) (SX.toV (sx_call (z := zV _) ⟨rfl, rfl, rfl, rfl, rfl⟩ (g_between_of t) (hr.mono (by decide)) rfl t.g_between_of (t.k_between_of) (b_between_of t) (sa_cons (se_var (i := 0) rfl (vis_by rfl) rfl) (sa_cons (se_ix rfl (SX.toV (se_var (i := 1) rfl (vis_by rfl) rfl)) (se_var (i := 3) rfl (vis_by rfl) rfl) (by intro _ _; rfl)) (sa_cons (se_ix rfl (SX.toV (se_var (i := 1) rfl (vis_by rfl) rfl)) (se_var (i := 4) rfl (vis_by rfl) rfl) (by intro _ _; rfl)) sa_nil))) rfl rfl)) (SX.toV (sx_call (z := zV _) ⟨rfl, rfl, rfl, rfl, rfl⟩ (g_between_of t) (hr.mono (by decide)) rfl t.g_between_of (t.k_between_of) (b_between_of t) (sa_cons (se_var (i := 0) rfl (vis_by rfl) rfl) (sa_cons (se_ix rfl (SX.toV (se_var (i := 2) rfl (vis_by rfl) rfl)) (se_var (i := 3) rfl (vis_by rfl) rfl) (by intro _ _; rfl)) (sa_cons (se_ix rfl (SX.toV (se_var (i := 2) rfl (vis_by rfl) rfl)) (se_var (i := 4) rfl (vis_by rfl) rfl) (by intro _ _; rfl)) sa_nil))) rfl rfl)) (nomark _))))
abbrev N_bent_pair : List Str := ["room", "rows", "images", "first", "second"]
theorem sc_bent_pair : FnScope N_bent_pair ["room", "rows", "images"] (defScope s_bent_pair) := ⟨rfl, rfl, rfl, by decide +kernel, rfl, by decide +kernel, by decide +kernel⟩
theorem b_bent_pair (t : Tx T) : Binds T.K (fdOf T.K ("bent_pair", none)) ["room", "rows", "images"] [] := t.d_bent_pair.bindsN fun _ _ _ _ _ _ us hl => match us, hl with | [_, _, _], _ => rfl
def c_bent_pair : Sc := (sSeq (sFor (jRng1 (cUn oLen (cVar 1))) (gSt 3) (sFor (jRng2 (cVar 3) (cUn oLen (cVar 1))) (gSt 4) (sIf (tNot (tVal (cCall F_is_kept (aCons (cVar 0) (aCons (cVar 1) (aCons (cVar 2) (aCons (cVar 3) (aCons (cVar 4) aNil)))))))) (sRet (cTup (aCons (cVar 3) (aCons (cVar 4) aNil)))) sSkip))) (sRet (cC .non)))
def F_bent_pair : List PV → Tr PV := body (.ret .non) 5 c_bent_pair
theorem g_bent_pair (t : Tx T) : FnG T 6 (He.fAd T.K ("bent_pair", none)) (fdOf T.K ("bent_pair", none)) ["room", "rows", "images"] (SpC (kn T.K) (zV (kn T.K)) 3 F_bent_pair) := fn_bodyZ (own := []) (c := c_bent_pair) (N := N_bent_pair) end_V t.d_bent_pair sc_bent_pair rfl (by decide) fun cdv A outer s H E g hr =>
 (sb_cons (ss_for (passes_of rfl) rfl (si_rng1 rfl (t.fr_range) (se_len rfl rfl (t.fr_len) (SX.toV (se_var (i := 1) rfl (vis_by rfl) rfl)))) (fun _ => (sg_name (i := 3) sc_bent_pair.nd rfl (loc_by rfl) rfl)) (fun _ => (sb_one (ss_for (passes_of rfl) rfl (si_rng2 rfl (t.fr_range) (se_var (i := 3) rfl (vis_by rfl) rfl) (se_len rfl rfl (t.fr_len) (SX.toV (se_var (i := 1) rfl (vis_by rfl) rfl)))) (fun _ => (sg_name (i := 4) sc_bent_pair.nd rfl (loc_by rfl) rfl)) (fun _ => (sb_one (ss_if (st_not (st_val (sx_call (z := zV _) ⟨rfl, rfl, rfl, rfl, rfl⟩ (g_is_kept t) (hr.mono (by decide)) rfl t.g_is_kept (t.k_is_kept) (b_is_kept t) (sa_cons (se_var (i := 0) rfl (vis_by rfl) rfl) (sa_cons (se_var (i := 1) rfl (vis_by rfl) rfl) (sa_cons (se_var (i := 2) rfl (vis_by rfl) rfl) (sa_cons (se_var (i := 3) rfl (vis_by rfl) rfl) (sa_cons (se_var (i := 4) rfl (vis_by rfl) rfl) sa_nil))))) rfl rfl) (fun _ => rfl))) (sb_one (ss_ret (se_tup (sa_cons (se_var (i := 3) rfl (vis_by rfl) rfl) (sa_cons (se_var (i := 4) rfl (vis_by rfl) rfl) sa_nil))))) sb_nil)))))))
 (sb_one (ss_ret se_non)))
abbrev N_head_of : List Str := ["row", "place", "number"]
theorem sc_head_of : FnScope N_head_of ["row"] (defScope s_head_of) := ⟨rfl, rfl, rfl, by decide +kernel, rfl, by decide +kernel, by decide +kernel⟩
theorem b_head_of (t : Tx T) : Binds T.K (fdOf T.K ("head_of", none)) ["row"] [] := t.d_head_of.bindsN fun _ _ _ _ _ _ us hl => match us, hl with | [_], _ => rfl
def c_head_of : Sc := (sRet (cBin oIx (cLc [1, 2] (jEnum (cVar 0)) (gTupc 2 (gsCons (gSt 1) (gsCons (gSt 2) gsNil))) (tVal (cBin (oEq true) (cVar 2) (cC (.int 0)))) (cVar 1)) (cC (.int 0))))
def F_head_of : List PV → Tr PV := body (.ret .non) 3 c_head_of
theorem g_head_of (t : Tx T) : FnG T 1 (He.fAd T.K ("head_of", none)) (fdOf T.K ("head_of", none)) ["row"] (SpC (kn T.K) (zV (kn T.K)) 1 F_head_of) := fn_bodyZ (own := []) (c := c_head_of) (N := N_head_of) end_V t.d_head_of sc_head_of rfl (by decide) fun cdv A outer s H E g hr =>
 (sb_one (ss_ret (se_ix rfl (SX.ofFV (sf_lc (own := [("place", 1), ("number", 2)]) rfl rfl sc_head_of.nd (sj_enum rfl rfl (t.fr_enumerate) (SX.toV (se_var (i := 0) rfl (vis_by rfl) rfl))) (blkOk_by (own := [("place", 1), ("number", 2)]) rfl) rfl rfl (fun _ _ _ _ _ => (sg_tup rfl rfl (sgs_cons (sg_name (i := 1) sc_head_of.nd rfl (loc_by rfl) rfl) (sgs_cons (sg_name (i := 2) sc_head_of.nd rfl (loc_by rfl) rfl) sgs_nil)))) (fun _ _ _ _ _ => (sts_one (st_cmp (op_ne' rfl hr.hu) (SX.toV (se_var (i := 2) rfl (vis_by rfl) rfl)) (SX.toV se_int) (nomark _)))) (fun _ _ _ _ _ => (se_var (i := 1) rfl (vis_by rfl) rfl)))) se_int (by intro _ _; rfl))))
abbrev N_heads_of : List Str := ["steps", "row"]
theorem sc_heads_of : FnScope N_heads_of ["steps"] (defScope s_heads_of) := ⟨rfl, rfl, rfl, by decide +kernel, rfl, by decide +kernel, by decide +kernel⟩
theorem b_heads_of (t : Tx T) : Binds T.K (fdOf T.K ("heads_of", none)) ["steps"] [] := t.d_heads_of.bindsN fun _ _ _ _ _ _ us hl => match us, hl with | [_], _ => rfl
def c_heads_of : Sc := (sRet (cLc [1] (jSeq (cVar 0)) (gSt 1) cYes (cCall F_head_of (aCons (cVar 1) aNil))))
def F_heads_of : List PV → Tr PV := body (.ret .non) 2 c_heads_of
theorem g_heads_of (t : Tx T) : FnG T 2 (He.fAd T.K ("heads_of", none)) (fdOf T.K ("heads_of", none)) ["steps"] (SpC (kn T.K) (zV (kn T.K)) 1 F_heads_of) := fn_bodyZ (own := []) (c := c_heads_of) (N := N_heads_of) end_V t.d_heads_of sc_heads_of rfl (by decide) fun cdv A outer s H E g hr =>
 (sb_one (ss_ret (SX.ofF (sf_lc (own := [("row", 1)]) rfl rfl sc_heads_of.nd (sj_seq rfl (SX.toV (se_var (i := 0) rfl (vis_by rfl) rfl))) (blkOk_by (own := [("row", 1)]) rfl) rfl rfl (fun _ _ _ _ _ => (sg_name (i := 1) sc_heads_of.nd rfl (loc_by rfl) rfl)) (fun _ _ _ _ _ => sts_nil) (fun _ _ _ _ _ => (sx_call (z := zV _) ⟨rfl, rfl, rfl, rfl, rfl⟩ (g_head_of t) (hr.mono (by decide)) rfl t.g_head_of (t.k_head_of) (b_head_of t) (sa_cons (se_var (i := 1) rfl (vis_by rfl) rfl) sa_nil) rfl rfl))))))
abbrev N_unit : List Str := ["size", "place", "at"]
theorem sc_unit : FnScope N_unit ["size", "place"] (defScope s_unit) := ⟨rfl, rfl, rfl, by decide +kernel, rfl, by decide +kernel, by decide +kernel⟩
theorem b_unit (t : Tx T) : Binds T.K (fdOf T.K ("unit", none)) ["size", "place"] [] := t.d_unit.bindsN fun _ _ _ _ _ _ us hl => match us, hl with | [_, _], _ => rfl
def c_unit : Sc := (sRet (cUn oTuple (cLc [2] (jRng1 (cVar 0)) (gSt 2) cYes (cIf (tVal (cBin (oEq false) (cVar 2) (cVar 1))) (cC (.int 1)) (cC (.int 0))))))
def F_unit : List PV → Tr PV := body (.ret .non) 3 c_unit
theorem g_unit (t : Tx T) : FnG T 1 (He.fAd T.K ("unit", none)) (fdOf T.K ("unit", none)) ["size", "place"] (SpC (kn T.K) (zV (kn T.K)) 2 F_unit) := fn_bodyZ (own := []) (c := c_unit) (N := N_unit) end_V t.d_unit sc_unit rfl (by decide) fun cdv A outer s H E g hr =>
 (sb_one (ss_ret (se_tuple rfl rfl (t.fr_tuple) (SX.ofFV (sf_lc (own := [("at", 2)]) rfl rfl sc_unit.nd (SI.toJ (si_rng1 rfl (t.fr_range) (se_var (i := 0) rfl (vis_by rfl) rfl))) (blkOk_by (own := [("at", 2)]) rfl) rfl rfl (fun _ _ _ _ _ => (sg_name (i := 2) sc_unit.nd rfl (loc_by rfl) rfl)) (fun _ _ _ _ _ => sts_nil) (fun _ _ _ _ _ => (sx_if (z := zV _) (st_cmp (op_eq' rfl hr.hu) (SX.toV (se_var (i := 2) rfl (vis_by rfl) rfl)) (SX.toV (se_var (i := 1) rfl (vis_by rfl) rfl)) (nomark _)) se_int se_int)))))))
abbrev N_zeros_of : List Str := ["prime", "size", "rows", "solved", "heads", "found", "place", "row", "head", "step", "at"]
theorem sc_zeros_of : FnScope N_zeros_of ["prime", "size", "rows"] (defScope s_zeros_of) := ⟨rfl, rfl, rfl, by decide +kernel, rfl, by decide +kernel, by decide +kernel⟩
theorem b_zeros_of (t : Tx T) : Binds T.K (fdOf T.K ("zeros_of", none)) ["prime", "size", "rows"] [] := t.d_zeros_of.bindsN fun _ _ _ _ _ _ us hl => match us, hl with | [_, _, _], _ => rfl
def c_zeros_of : Sc := (sSeq (sSet 3 (cCall F_steps_of (aCons (cVar 0) (aCons (cVar 2) aNil)))) (sSeq (sPar 4 5 (cCall F_heads_of (aCons (cVar 3) aNil)) (cLst aNil)) (sSeq (sFor (jSeq (cLc [10] (jRng1 (cVar 1)) (gSt 10) (tVal (cBin (oIn true) (cVar 10) (cVar 4))) (cVar 10))) (gSt 6) (sSeq (sSet 7 (cUn oList (cCall F_unit (aCons (cVar 1) (aCons (cVar 6) aNil))))) (sSeq (sFor (jZip (cVar 4) (cVar 3)) (gTupc 2 (gsCons (gSt 8) (gsCons (gSt 9) gsNil))) (sSetI 7 (cVar 8) (cBin oMod (cBin oSub (cC (.int 0)) (cBin oIx (cVar 9) (cVar 6))) (cVar 0)))) (sApp 5 (cUn oTuple (cVar 7)))))) (sRet (cCall F_steps_of (aCons (cVar 0) (aCons (cVar 5) aNil)))))))
def F_zeros_of : List PV → Tr PV := body (.ret .non) 11 c_zeros_of
theorem g_zeros_of (t : Tx T) : FnG T 4 (He.fAd T.K ("zeros_of", none)) (fdOf T.K ("zeros_of", none)) ["prime", "size", "rows"] (SpC (kn T.K) (zV (kn T.K)) 3 F_zeros_of) := fn_bodyZ (own := [5, 7]) (c := c_zeros_of) (N := N_zeros_of) end_V t.d_zeros_of sc_zeros_of rfl (by decide) fun cdv A outer s H E g hr =>
 (sb_cons (ss_set (i := 3) sc_zeros_of.nd rfl (loc_by rfl) rfl (sx_call (z := zV _) ⟨rfl, rfl, rfl, rfl, rfl⟩ (g_steps_of t) (hr.mono (by decide)) rfl t.g_steps_of (t.k_steps_of) (b_steps_of t) (sa_cons (se_var (i := 0) rfl (vis_by rfl) rfl) (sa_cons (se_var (i := 2) rfl (vis_by rfl) rfl) sa_nil)) rfl rfl))
 (sb_cons (ss_parG (i := 4) (j := 5) rfl sc_zeros_of.nd rfl rfl (loc_by rfl) (loc_by rfl) (.inr ⟨rfl, rfl⟩) (.inl ⟨rfl, rfl⟩) (sx_call (z := zV _) ⟨rfl, rfl, rfl, rfl, rfl⟩ (g_heads_of t) (hr.mono (by decide)) rfl t.g_heads_of (t.k_heads_of) (b_heads_of t) (sa_cons (se_var (i := 3) rfl (vis_by rfl) rfl) sa_nil) rfl rfl) (sf_lst sa_nil))
 (sb_cons (ss_for (passes_of rfl) rfl (si_seq rfl (SX.ofF (sf_lc (own := [("at", 10)]) rfl rfl sc_zeros_of.nd (SI.toJ (si_rng1 rfl (t.fr_range) (se_var (i := 1) rfl (vis_by rfl) rfl))) (blkOk_by (own := [("at", 10)]) rfl) rfl rfl (fun _ _ _ _ _ => (sg_name (i := 10) sc_zeros_of.nd rfl (loc_by rfl) rfl)) (fun _ _ _ _ _ => (sts_one (st_cmp (op_notin' rfl) (SX.toV (se_var (i := 10) rfl (vis_by rfl) rfl)) (SX.toV (se_var (i := 4) rfl (vis_by rfl) rfl)) (by with_unfolding_all rfl)))) (fun _ _ _ _ _ => (se_var (i := 10) rfl (vis_by rfl) rfl))))) (fun _ => (sg_name (i := 6) sc_zeros_of.nd rfl (loc_by rfl) rfl)) (fun _ => (sb_cons (ss_setF (i := 7) sc_zeros_of.nd rfl (loc_by rfl) rfl (sf_list rfl rfl (t.fr_list) (SX.toV (sx_call (z := zV _) ⟨rfl, rfl, rfl, rfl, rfl⟩ (g_unit t) (hr.mono (by decide)) rfl t.g_unit (t.k_unit) (b_unit t) (sa_cons (se_var (i := 1) rfl (vis_by rfl) rfl) (sa_cons (se_var (i := 6) rfl (vis_by rfl) rfl) sa_nil)) rfl rfl))))
 (sb_cons (ss_for (passes_of rfl) rfl (si_zip rfl rfl (t.fr_zip) (se_var (i := 4) rfl (vis_by rfl) rfl) (se_var (i := 3) rfl (vis_by rfl) rfl)) (fun _ => (sg_tup rfl rfl (sgs_cons (sg_name (i := 8) sc_zeros_of.nd rfl (loc_by rfl) rfl) (sgs_cons (sg_name (i := 9) sc_zeros_of.nd rfl (loc_by rfl) rfl) sgs_nil)))) (fun _ => (sb_one (ss_setI (i := 7) rfl (vis_by rfl) rfl (se_var (i := 8) rfl (vis_by rfl) rfl) (sx_bin (z := zV _) op_mod' (SX.toV (sx_bin (z := zV _) op_sub' (SX.toV se_int) (SX.toV (se_ix rfl (SX.toV (se_var (i := 9) rfl (vis_by rfl) rfl)) (se_var (i := 6) rfl (vis_by rfl) rfl) (by intro _ _; rfl))))) (SX.toV (se_var (i := 0) rfl (vis_by rfl) rfl)))))))
 (sb_one (ss_app (i := 5) rfl (vis_by rfl) rfl (se_tuple rfl rfl (t.fr_tuple) (sv_own (i := 7) rfl (vis_by rfl) rfl))))))))
 (sb_one (ss_give 5 (ss_ret (sx_call (z := zV _) ⟨rfl, rfl, rfl, rfl, rfl⟩ (g_steps_of t) (hr.mono (by decide)) rfl t.g_steps_of (t.k_steps_of) (b_steps_of t) (sa_cons (se_var (i := 0) rfl (vis_by rfl) rfl) (sa_cons (se_var (i := 5) rfl (vis_by rfl) rfl) sa_nil)) rfl rfl)))))))
abbrev N_columns_of : List Str := ["rows", "size", "place", "row"]
theorem sc_columns_of : FnScope N_columns_of ["rows", "size"] (defScope s_columns_of) := ⟨rfl, rfl, rfl, by decide +kernel, rfl, by decide +kernel, by decide +kernel⟩
theorem b_columns_of (t : Tx T) : Binds T.K (fdOf T.K ("columns_of", none)) ["rows", "size"] [] := t.d_columns_of.bindsN fun _ _ _ _ _ _ us hl => match us, hl with | [_, _], _ => rfl
def c_columns_of : Sc := (sRet (cLc [2] (jRng1 (cVar 1)) (gSt 2) cYes (cUn oTuple (cLc [3] (jSeq (cVar 0)) (gSt 3) cYes (cBin oIx (cVar 3) (cVar 2))))))
def F_columns_of : List PV → Tr PV := body (.ret .non) 4 c_columns_of
theorem g_columns_of (t : Tx T) : FnG T 1 (He.fAd T.K ("columns_of", none)) (fdOf T.K ("columns_of", none)) ["rows", "size"] (SpC (kn T.K) (zV (kn T.K)) 2 F_columns_of) := fn_bodyZ (own := []) (c := c_columns_of) (N := N_columns_of) end_V t.d_columns_of sc_columns_of rfl (by decide) fun cdv A outer s H E g hr =>
 (sb_one (ss_ret (SX.ofF (sf_lc (own := [("place", 2)]) rfl rfl sc_columns_of.nd (SI.toJ (si_rng1 rfl (t.fr_range) (se_var (i := 1) rfl (vis_by rfl) rfl))) (blkOk_by (own := [("place", 2)]) rfl) rfl rfl (fun _ _ _ _ _ => (sg_name (i := 2) sc_columns_of.nd rfl (loc_by rfl) rfl)) (fun _ _ _ _ _ => sts_nil) (fun _ _ _ _ _ => (se_tuple rfl rfl (t.fr_tuple) (SX.ofFV (sf_lc (own := [("row", 3)]) rfl rfl sc_columns_of.nd (sj_seq rfl (SX.toV (se_var (i := 0) rfl (vis_by rfl) rfl))) (blkOk_by (own := [("row", 3)]) rfl) rfl rfl (fun _ _ _ _ _ => (sg_name (i := 3) sc_columns_of.nd rfl (loc_by rfl) rfl)) (fun _ _ _ _ _ => sts_nil) (fun _ _ _ _ _ => (se_ix rfl (SX.toV (se_var (i := 3) rfl (vis_by rfl) rfl)) (se_var (i := 2) rfl (vis_by rfl) rfl) (by intro _ _; rfl)))))))))))
abbrev N_lost_rests : List Str := ["room", "rows"]
theorem sc_lost_rests : FnScope N_lost_rests ["room", "rows"] (defScope s_lost_rests) := ⟨rfl, rfl, rfl, by decide +kernel, rfl, by decide +kernel, by decide +kernel⟩
theorem b_lost_rests (t : Tx T) : Binds T.K (fdOf T.K ("lost_rests", none)) ["room", "rows"] [] := t.d_lost_rests.bindsN fun _ _ _ _ _ _ us hl => match us, hl with | [_, _], _ => rfl
def c_lost_rests : Sc := (sRet (cCall F_zeros_of (aCons (cUn (oFld js_own_prime) (cVar 0)) (aCons (cUn oLen (cVar 1)) (aCons (cCall F_columns_of (aCons (cVar 1) (aCons (cUn oLen (cUn (oFld js_own_rows) (cVar 0))) aNil))) aNil)))))
def F_lost_rests : List PV → Tr PV := body (.ret .non) 2 c_lost_rests
theorem g_lost_rests (t : Tx T) : FnG T 5 (He.fAd T.K ("lost_rests", none)) (fdOf T.K ("lost_rests", none)) ["room", "rows"] (SpC (kn T.K) (zV (kn T.K)) 2 F_lost_rests) := fn_bodyZ (own := []) (c := c_lost_rests) (N := N_lost_rests) end_V t.d_lost_rests sc_lost_rests rfl (by decide) fun cdv A outer s H E g hr =>
 (sb_one (ss_ret (sx_call (z := zV _) ⟨rfl, rfl, rfl, rfl, rfl⟩ (g_zeros_of t) (hr.mono (by decide)) rfl t.g_zeros_of (t.k_zeros_of) (b_zeros_of t) (sa_cons (se_fld rfl t.fl_own_prime (se_var (i := 0) rfl (vis_by rfl) rfl)) (sa_cons (se_len rfl rfl (t.fr_len) (SX.toV (se_var (i := 1) rfl (vis_by rfl) rfl))) (sa_cons (sx_call (z := zV _) ⟨rfl, rfl, rfl, rfl, rfl⟩ (g_columns_of t) (hr.mono (by decide)) rfl t.g_columns_of (t.k_columns_of) (b_columns_of t) (sa_cons (se_var (i := 1) rfl (vis_by rfl) rfl) (sa_cons (se_len rfl rfl (t.fr_len) (SX.toV (se_fld rfl t.fl_own_rows (se_var (i := 0) rfl (vis_by rfl) rfl)))) sa_nil)) rfl rfl) sa_nil))) rfl rfl)))
abbrev N_still_rests : List Str := ["room", "rows", "row"]
theorem sc_still_rests : FnScope N_still_rests ["room", "rows"] (defScope s_still_rests) := ⟨rfl, rfl, rfl, by decide +kernel, rfl, by decide +kernel, by decide +kernel⟩
theorem b_still_rests (t : Tx T) : Binds T.K (fdOf T.K ("still_rests", none)) ["room", "rows"] [] := t.d_still_rests.bindsN fun _ _ _ _ _ _ us hl => match us, hl with | [_, _], _ => rfl
def c_still_rests : Sc := (sRet (cCall F_lost_rests (aCons (cVar 0) (aCons (cLc [2] (jSeq (cVar 1)) (gSt 2) cYes (cCall F_led_of (aCons (cUn (oFld js_own_prime) (cVar 0)) (aCons (cVar 2) (aCons (cUn (oFld js_own_rows) (cVar 0)) aNil))))) aNil))))
def F_still_rests : List PV → Tr PV := body (.ret .non) 3 c_still_rests
theorem g_still_rests (t : Tx T) : FnG T 6 (He.fAd T.K ("still_rests", none)) (fdOf T.K ("still_rests", none)) ["room", "rows"] (SpC (kn T.K) (zV (kn T.K)) 2 F_still_rests) := fn_bodyZ (own := []) (c := c_still_rests) (N := N_still_rests) end_V t.d_still_rests sc_still_rests rfl (by decide) fun cdv A outer s H E g hr =>
 (sb_one (ss_ret (sx_call (z := zV _) ⟨rfl, rfl, rfl, rfl, rfl⟩ (g_lost_rests t) (hr.mono (by decide)) rfl t.g_lost_rests (t.k_lost_rests) (b_lost_rests t) (sa_cons (se_var (i := 0) rfl (vis_by rfl) rfl) (sa_cons (SX.ofF (sf_lc (own := [("row", 2)]) rfl rfl sc_still_rests.nd (sj_seq rfl (SX.toV (se_var (i := 1) rfl (vis_by rfl) rfl))) (blkOk_by (own := [("row", 2)]) rfl) rfl rfl (fun _ _ _ _ _ => (sg_name (i := 2) sc_still_rests.nd rfl (loc_by rfl) rfl)) (fun _ _ _ _ _ => sts_nil) (fun _ _ _ _ _ => (sx_call (z := zV _) ⟨rfl, rfl, rfl, rfl, rfl⟩ (g_led_of t) (hr.mono (by decide)) rfl t.g_led_of (t.k_led_of) (b_led_of t) (sa_cons (se_fld rfl t.fl_own_prime (se_var (i := 0) rfl (vis_by rfl) rfl)) (sa_cons (se_var (i := 2) rfl (vis_by rfl) rfl) (sa_cons (se_fld rfl t.fl_own_rows (se_var (i := 0) rfl (vis_by rfl) rfl)) sa_nil))) rfl rfl)))) sa_nil)) rfl rfl)))
abbrev N_made_by : List Str := ["prime", "steps", "row", "rests", "place"]
theorem sc_made_by : FnScope N_made_by ["prime", "steps", "row"] (defScope s_made_by) := ⟨rfl, rfl, rfl, by decide +kernel, rfl, by decide +kernel, by decide +kernel⟩
theorem b_made_by (t : Tx T) : Binds T.K (fdOf T.K ("made_by", none)) ["prime", "steps", "row"] [] := t.d_made_by.bindsN fun _ _ _ _ _ _ us hl => match us, hl with | [_, _, _], _ => rfl
def c_made_by : Sc := (sSeq (sSet 3 (cLc [4] (jSeq (cCall F_heads_of (aCons (cVar 1) aNil))) (gSt 4) cYes (cBin oIx (cVar 2) (cVar 4)))) (sRet (cIf (tVal (cBin (oEq false) (cCall F_mix_of (aCons (cVar 0) (aCons (cVar 3) (aCons (cVar 1) (aCons (cUn oLen (cVar 2)) aNil))))) (cVar 2))) (cVar 3) (cC .non))))
def F_made_by : List PV → Tr PV := body (.ret .non) 5 c_made_by
theorem g_made_by (t : Tx T) : FnG T 3 (He.fAd T.K ("made_by", none)) (fdOf T.K ("made_by", none)) ["prime", "steps", "row"] (SpC (kn T.K) (zV (kn T.K)) 3 F_made_by) := fn_bodyZ (own := []) (c := c_made_by) (N := N_made_by) end_V t.d_made_by sc_made_by rfl (by decide) fun cdv A outer s H E g hr =>
 (sb_cons (ss_setLc (own := [("place", 4)]) (i := 3) rfl rfl sc_made_by.nd rfl rfl rfl rfl (sj_seq rfl (SX.toV (sx_call (z := zV _) ⟨rfl, rfl, rfl, rfl, rfl⟩ (g_heads_of t) (hr.mono (by decide)) rfl t.g_heads_of (t.k_heads_of) (b_heads_of t) (sa_cons (se_var (i := 1) rfl (vis_by rfl) rfl) sa_nil) rfl rfl))) (blkOk_by (own := [("place", 4)]) rfl) rfl rfl (fun _ _ _ _ _ => (sg_name (i := 4) sc_made_by.nd rfl (loc_by rfl) rfl)) (fun _ _ _ _ _ => sts_nil) (fun _ _ _ _ _ => (se_ix rfl (SX.toV (se_var (i := 2) rfl (vis_by rfl) rfl)) (se_var (i := 4) rfl (vis_by rfl) rfl) (by intro _ _; rfl))))
 (sb_one (ss_ret (sx_if (z := zV _) (st_cmp (op_eq' rfl hr.hu) (SX.toV (sx_call (z := zV _) ⟨rfl, rfl, rfl, rfl, rfl⟩ (g_mix_of t) (hr.mono (by decide)) rfl t.g_mix_of (t.k_mix_of) (b_mix_of t) (sa_cons (se_var (i := 0) rfl (vis_by rfl) rfl) (sa_cons (se_var (i := 3) rfl (vis_by rfl) rfl) (sa_cons (se_var (i := 1) rfl (vis_by rfl) rfl) (sa_cons (se_len rfl rfl (t.fr_len) (SX.toV (se_var (i := 2) rfl (vis_by rfl) rfl))) sa_nil)))) rfl rfl)) (SX.toV (se_var (i := 2) rfl (vis_by rfl) rfl)) (nomark _)) (se_var (i := 3) rfl (vis_by rfl) rfl) se_non))))
abbrev N_is_within : List Str := ["prime", "steps", "row"]
theorem sc_is_within : FnScope N_is_within ["prime", "steps", "row"] (defScope s_is_within) := ⟨rfl, rfl, rfl, by decide +kernel, rfl, by decide +kernel, by decide +kernel⟩
theorem b_is_within (t : Tx T) : Binds T.K (fdOf T.K ("is_within", none)) ["prime", "steps", "row"] [] := t.d_is_within.bindsN fun _ _ _ _ _ _ us hl => match us, hl with | [_, _, _], _ => rfl
def c_is_within : Sc := (sRet (cUn (oIsNon true) (cCall F_made_by (aCons (cVar 0) (aCons (cVar 1) (aCons (cVar 2) aNil))))))
def F_is_within : List PV → Tr PV := body (.ret .non) 3 c_is_within
theorem g_is_within (t : Tx T) : FnG T 4 (He.fAd T.K ("is_within", none)) (fdOf T.K ("is_within", none)) ["prime", "steps", "row"] (SpC (kn T.K) (zV (kn T.K)) 3 F_is_within) := fn_bodyZ (own := []) (c := c_is_within) (N := N_is_within) end_V t.d_is_within sc_is_within rfl (by decide) fun cdv A outer s H E g hr =>
 (sb_one (ss_ret (se_notN (SX.toV (sx_call (z := zV _) ⟨rfl, rfl, rfl, rfl, rfl⟩ (g_made_by t) (hr.mono (by decide)) rfl t.g_made_by (t.k_made_by) (b_made_by t) (sa_cons (se_var (i := 0) rfl (vis_by rfl) rfl) (sa_cons (se_var (i := 1) rfl (vis_by rfl) rfl) (sa_cons (se_var (i := 2) rfl (vis_by rfl) rfl) sa_nil))) rfl rfl)))))
abbrev N_apart_rests : List Str := ["room", "rows", "images", "near", "far", "some", "others", "rests"]
theorem sc_apart_rests : FnScope N_apart_rests ["room", "rows", "images"] (defScope s_apart_rests) := ⟨rfl, rfl, rfl, by decide +kernel, rfl, by decide +kernel, by decide +kernel⟩
theorem b_apart_rests (t : Tx T) : Binds T.K (fdOf T.K ("apart_rests", none)) ["room", "rows", "images"] [] := t.d_apart_rests.bindsN fun _ _ _ _ _ _ us hl => match us, hl with | [_, _, _], _ => rfl
def c_apart_rests : Sc := (sSeq (sPar 3 4 (cCall F_still_rests (aCons (cVar 0) (aCons (cVar 1) aNil))) (cCall F_still_rests (aCons (cVar 0) (aCons (cVar 2) aNil)))) (sSeq (sFor (jSeq (cTup (aCons (cTup (aCons (cVar 3) (aCons (cVar 4) aNil))) (aCons (cTup (aCons (cVar 4) (aCons (cVar 3) aNil))) aNil)))) (gTupc 2 (gsCons (gSt 5) (gsCons (gSt 6) gsNil))) (sFor (jSeq (cVar 5)) (gSt 7) (sIf (tNot (tVal (cCall F_is_within (aCons (cUn (oFld js_own_prime) (cVar 0)) (aCons (cVar 6) (aCons (cVar 7) aNil)))))) (sRet (cVar 7)) sSkip))) (sRet (cC .non))))
def F_apart_rests : List PV → Tr PV := body (.ret .non) 8 c_apart_rests
theorem g_apart_rests (t : Tx T) : FnG T 7 (He.fAd T.K ("apart_rests", none)) (fdOf T.K ("apart_rests", none)) ["room", "rows", "images"] (SpC (kn T.K) (zV (kn T.K)) 3 F_apart_rests) := fn_bodyZ (own := []) (c := c_apart_rests) (N := N_apart_rests) end_V t.d_apart_rests sc_apart_rests rfl (by decide) fun cdv A outer s H E g hr =>
 (sb_cons (ss_par (i := 3) (j := 4) rfl sc_apart_rests.nd rfl rfl (by decide) rfl rfl (.inr ⟨rfl, rfl⟩) (.inr ⟨rfl, rfl⟩) (sx_call (z := zV _) ⟨rfl, rfl, rfl, rfl, rfl⟩ (g_still_rests t) (hr.mono (by decide)) rfl t.g_still_rests (t.k_still_rests) (b_still_rests t) (sa_cons (se_var (i := 0) rfl (vis_by rfl) rfl) (sa_cons (se_var (i := 1) rfl (vis_by rfl) rfl) sa_nil)) rfl rfl) (sx_call (z := zV _) ⟨rfl, rfl, rfl, rfl, rfl⟩ (g_still_rests t) (hr.mono (by decide)) rfl t.g_still_rests (t.k_still_rests) (b_still_rests t) (sa_cons (se_var (i := 0) rfl (vis_by rfl) rfl) (sa_cons (se_var (i := 2) rfl (vis_by rfl) rfl) sa_nil)) rfl rfl))
 (sb_cons (ss_for (passes_of rfl) rfl (si_seq rfl (se_tup (sa_cons (se_tup (sa_cons (se_var (i := 3) rfl (vis_by rfl) rfl) (sa_cons (se_var (i := 4) rfl (vis_by rfl) rfl) sa_nil))) (sa_cons (se_tup (sa_cons (se_var (i := 4) rfl (vis_by rfl) rfl) (sa_cons (se_var (i := 3) rfl (vis_by rfl) rfl) sa_nil))) sa_nil)))) (fun _ => (sg_tup rfl rfl (sgs_cons (sg_name (i := 5) sc_apart_rests.nd rfl (loc_by rfl) rfl) (sgs_cons (sg_name (i := 6) sc_apart_rests.nd rfl (loc_by rfl) rfl) sgs_nil)))) (fun _ => (sb_one (ss_for (passes_of rfl) rfl (si_seq rfl (se_var (i := 5) rfl (vis_by rfl) rfl)) (fun _ => (sg_name (i := 7) sc_apart_rests.nd rfl (loc_by rfl) rfl)) (fun _ => (sb_one (ss_if (st_not (st_val (sx_call (z := zV _) ⟨rfl, rfl, rfl, rfl, rfl⟩ (g_is_within t) (hr.mono (by decide)) rfl t.g_is_within (t.k_is_within) (b_is_within t) (sa_cons (se_fld rfl t.fl_own_prime (se_var (i := 0) rfl (vis_by rfl) rfl)) (sa_cons (se_var (i := 6) rfl (vis_by rfl) rfl) (sa_cons (se_var (i := 7) rfl (vis_by rfl) rfl) sa_nil))) rfl rfl) (fun _ => rfl))) (sb_one (ss_ret (se_var (i := 7) rfl (vis_by rfl) rfl))) sb_nil)))))))
 (sb_one (ss_ret se_non))))
abbrev N_bar_of : List Str := ["room", "rows", "images", "pair", "lost", "rests"]
theorem sc_bar_of : FnScope N_bar_of ["room", "rows", "images"] (defScope s_bar_of) := ⟨rfl, rfl, rfl, by decide +kernel, rfl, by decide +kernel, by decide +kernel⟩
theorem b_bar_of (t : Tx T) : Binds T.K (fdOf T.K ("bar_of", none)) ["room", "rows", "images"] [] := t.d_bar_of.bindsN fun _ _ _ _ _ _ us hl => match us, hl with | [_, _, _], _ => rfl
def c_bar_of : Sc := (sSeq (sSet 3 (cCall F_bent_pair (aCons (cVar 0) (aCons (cVar 1) (aCons (cVar 2) aNil))))) (sSeq (sIf (tVal (cUn (oIsNon true) (cVar 3))) (sRet (cTup (aCons (cC (.str [98, 101, 116, 119, 101, 101, 110])) (aCons (cBin oIx (cVar 3) (cC (.int 0))) (aCons (cBin oIx (cVar 3) (cC (.int 1))) aNil))))) sSkip) (sSeq (sSet 4 (cCall F_lost_rests (aCons (cVar 0) (aCons (cVar 2) aNil)))) (sSeq (sIf (tVal (cBin (oEq true) (cVar 4) (cLst aNil))) (sRet (cTup (aCons (cC (.str [108, 111, 115, 116])) (aCons (cUn oList (cBin oIx (cVar 4) (cC (.int 0)))) aNil)))) sSkip) (sSeq (sSet 5 (cCall F_apart_rests (aCons (cVar 0) (aCons (cVar 1) (aCons (cVar 2) aNil))))) (sRet (cIf (tVal (cUn (oIsNon false) (cVar 5))) (cC .non) (cTup (aCons (cC (.str [115, 116, 105, 108, 108])) (aCons (cUn oList (cVar 5)) aNil))))))))))
def F_bar_of : List PV → Tr PV := body (.ret .non) 6 c_bar_of
theorem g_bar_of (t : Tx T) : FnG T 8 (He.fAd T.K ("bar_of", none)) (fdOf T.K ("bar_of", none)) ["room", "rows", "images"] (SpC (kn T.K) (zV (kn T.K)) 3 F_bar_of) := fn_bodyZ (own := []) (c := c_bar_of) (N := N_bar_of) end_V t.d_bar_of sc_bar_of rfl (by decide) fun cdv A outer s H E g hr =>
 (sb_cons (ss_set (i := 3) sc_bar_of.nd rfl (loc_by rfl) rfl (sx_call (z := zV _) ⟨rfl, rfl, rfl, rfl, rfl⟩ (g_bent_pair t) (hr.mono (by decide)) rfl t.g_bent_pair (t.k_bent_pair) (b_bent_pair t) (sa_cons (se_var (i := 0) rfl (vis_by rfl) rfl) (sa_cons (se_var (i := 1) rfl (vis_by rfl) rfl) (sa_cons (se_var (i := 2) rfl (vis_by rfl) rfl) sa_nil))) rfl rfl))
 (sb_cons (ss_if (st_notN (SX.toV (se_var (i := 3) rfl (vis_by rfl) rfl))) (sb_one (ss_ret (se_tup (sa_cons (se_gstr t.c_BETWEEN (by kernel_rfl) rfl) (sa_cons (se_ix rfl (SX.toV (se_var (i := 3) rfl (vis_by rfl) rfl)) se_int (by intro _ _; rfl)) (sa_cons (se_ix rfl (SX.toV (se_var (i := 3) rfl (vis_by rfl) rfl)) se_int (by intro _ _; rfl)) sa_nil)))))) sb_nil)
 (sb_cons (ss_set (i := 4) sc_bar_of.nd rfl (loc_by rfl) rfl (sx_call (z := zV _) ⟨rfl, rfl, rfl, rfl, rfl⟩ (g_lost_rests t) (hr.mono (by decide)) rfl t.g_lost_rests (t.k_lost_rests) (b_lost_rests t) (sa_cons (se_var (i := 0) rfl (vis_by rfl) rfl) (sa_cons (se_var (i := 2) rfl (vis_by rfl) rfl) sa_nil)) rfl rfl))
 (sb_cons (ss_if (st_cmp (op_ne' rfl hr.hu) (SX.toV (se_var (i := 4) rfl (vis_by rfl) rfl)) (SX.ofFV (sf_lst sa_nil)) (nomark _)) (sb_one (ss_ret (se_tup (sa_cons (se_gstr t.c_LOST (by kernel_rfl) rfl) (sa_cons (SX.ofF (sf_list rfl rfl (t.fr_list) (SX.toV (se_ix rfl (SX.toV (se_var (i := 4) rfl (vis_by rfl) rfl)) se_int (by intro _ _; rfl))))) sa_nil))))) sb_nil)
 (sb_cons (ss_set (i := 5) sc_bar_of.nd rfl (loc_by rfl) rfl (sx_call (z := zV _) ⟨rfl, rfl, rfl, rfl, rfl⟩ (g_apart_rests t) (hr.mono (by decide)) rfl t.g_apart_rests (t.k_apart_rests) (b_apart_rests t) (sa_cons (se_var (i := 0) rfl (vis_by rfl) rfl) (sa_cons (se_var (i := 1) rfl (vis_by rfl) rfl) (sa_cons (se_var (i := 2) rfl (vis_by rfl) rfl) sa_nil))) rfl rfl))
 (sb_one (ss_ret (sx_if (z := zV _) (st_isN (SX.toV (se_var (i := 5) rfl (vis_by rfl) rfl))) se_non (se_tup (sa_cons (se_gstr t.c_STILL (by kernel_rfl) rfl) (sa_cons (SX.ofF (sf_list rfl rfl (t.fr_list) (SX.toV (se_var (i := 5) rfl (vis_by rfl) rfl)))) sa_nil)))))))))))
abbrev N_goes_on : List Str := ["room", "part", "images", "rows", "led"]
theorem sc_goes_on : FnScope N_goes_on ["room", "part", "images"] (defScope s_goes_on) := ⟨rfl, rfl, rfl, by decide +kernel, rfl, by decide +kernel, by decide +kernel⟩
theorem b_goes_on (t : Tx T) : Binds T.K (fdOf T.K ("goes_on", none)) ["room", "part", "images"] [] := t.d_goes_on.bindsN fun _ _ _ _ _ _ us hl => match us, hl with | [_, _, _], _ => rfl
def c_goes_on : Sc := (sSeq (sUnp (cCall F_told_map (aCons (cVar 0) (aCons (cVar 1) (aCons (cVar 2) aNil)))) (gTupc 2 (gsCons (gSt 3) (gsCons (gSt 4) gsNil)))) (sRet (cUn (oIsNon false) (cCall F_bar_of (aCons (cVar 0) (aCons (cVar 3) (aCons (cVar 4) aNil)))))))
def F_goes_on : List PV → Tr PV := body (.ret .non) 5 c_goes_on
theorem g_goes_on (t : Tx T) : FnG T 9 (He.fAd T.K ("goes_on", none)) (fdOf T.K ("goes_on", none)) ["room", "part", "images"] (SpC (kn T.K) (zV (kn T.K)) 3 F_goes_on) := fn_bodyZ (own := []) (c := c_goes_on) (N := N_goes_on) end_V t.d_goes_on sc_goes_on rfl (by decide) fun cdv A outer s H E g hr =>
 (sb_cons (ss_unp (sx_call (z := zV _) ⟨rfl, rfl, rfl, rfl, rfl⟩ (g_told_map t) (hr.mono (by decide)) rfl t.g_told_map (t.k_told_map) (b_told_map t) (sa_cons (se_var (i := 0) rfl (vis_by rfl) rfl) (sa_cons (se_var (i := 1) rfl (vis_by rfl) rfl) (sa_cons (se_var (i := 2) rfl (vis_by rfl) rfl) sa_nil))) rfl rfl) (sg_tup rfl rfl (sgs_cons (sg_name (i := 3) sc_goes_on.nd rfl (loc_by rfl) rfl) (sgs_cons (sg_name (i := 4) sc_goes_on.nd rfl (loc_by rfl) rfl) sgs_nil))))
 (sb_one (ss_ret (se_isN (SX.toV (sx_call (z := zV _) ⟨rfl, rfl, rfl, rfl, rfl⟩ (g_bar_of t) (hr.mono (by decide)) rfl t.g_bar_of (t.k_bar_of) (b_bar_of t) (sa_cons (se_var (i := 0) rfl (vis_by rfl) rfl) (sa_cons (se_var (i := 3) rfl (vis_by rfl) rfl) (sa_cons (se_var (i := 4) rfl (vis_by rfl) rfl) sa_nil))) rfl rfl))))))
abbrev N_bar : List Str := ["room", "part", "images", "rows", "led"]
theorem sc_bar : FnScope N_bar ["room", "part", "images"] (defScope s_bar) := ⟨rfl, rfl, rfl, by decide +kernel, rfl, by decide +kernel, by decide +kernel⟩
theorem b_bar (t : Tx T) : Binds T.K (fdOf T.K ("bar", none)) ["room", "part", "images"] [] := t.d_bar.bindsN fun _ _ _ _ _ _ us hl => match us, hl with | [_, _, _], _ => rfl
def c_bar : Sc := (sSeq (sUnp (cCall F_told_map (aCons (cVar 0) (aCons (cVar 1) (aCons (cVar 2) aNil)))) (gTupc 2 (gsCons (gSt 3) (gsCons (gSt 4) gsNil)))) (sRet (cCall F_bar_of (aCons (cVar 0) (aCons (cVar 3) (aCons (cVar 4) aNil))))))
def F_bar : List PV → Tr PV := body (.ret .non) 5 c_bar
theorem g_bar (t : Tx T) : FnG T 9 (He.fAd T.K ("bar", none)) (fdOf T.K ("bar", none)) ["room", "part", "images"] (SpC (kn T.K) (zV (kn T.K)) 3 F_bar) := fn_bodyZ (own := []) (c := c_bar) (N := N_bar) end_V t.d_bar sc_bar rfl (by decide) fun cdv A outer s H E g hr =>
 (sb_cons (ss_unp (sx_call (z := zV _) ⟨rfl, rfl, rfl, rfl, rfl⟩ (g_told_map t) (hr.mono (by decide)) rfl t.g_told_map (t.k_told_map) (b_told_map t) (sa_cons (se_var (i := 0) rfl (vis_by rfl) rfl) (sa_cons (se_var (i := 1) rfl (vis_by rfl) rfl) (sa_cons (se_var (i := 2) rfl (vis_by rfl) rfl) sa_nil))) rfl rfl) (sg_tup rfl rfl (sgs_cons (sg_name (i := 3) sc_bar.nd rfl (loc_by rfl) rfl) (sgs_cons (sg_name (i := 4) sc_bar.nd rfl (loc_by rfl) rfl) sgs_nil))))
 (sb_one (ss_ret (sx_call (z := zV _) ⟨rfl, rfl, rfl, rfl, rfl⟩ (g_bar_of t) (hr.mono (by decide)) rfl t.g_bar_of (t.k_bar_of) (b_bar_of t) (sa_cons (se_var (i := 0) rfl (vis_by rfl) rfl) (sa_cons (se_var (i := 3) rfl (vis_by rfl) rfl) (sa_cons (se_var (i := 4) rfl (vis_by rfl) rfl) sa_nil))) rfl rfl))))
abbrev N_added : List Str := ["room", "rests", "rows"]
theorem sc_added : FnScope N_added ["room", "rests", "rows"] (defScope s_added) := ⟨rfl, rfl, rfl, by decide +kernel, rfl, by decide +kernel, by decide +kernel⟩
theorem b_added (t : Tx T) : Binds T.K (fdOf T.K ("added", none)) ["room", "rests", "rows"] [] := t.d_added.bindsN fun _ _ _ _ _ _ us hl => match us, hl with | [_, _, _], _ => rfl
def c_added : Sc := (sRet (cCall F_mix_of (aCons (cUn (oFld js_own_prime) (cVar 0)) (aCons (cVar 1) (aCons (cVar 2) (aCons (cUn oLen (cUn (oFld js_own_rows) (cVar 0))) aNil))))))
def F_added : List PV → Tr PV := body (.ret .non) 3 c_added
theorem g_added (t : Tx T) : FnG T 3 (He.fAd T.K ("added", none)) (fdOf T.K ("added", none)) ["room", "rests", "rows"] (SpC (kn T.K) (zV (kn T.K)) 3 F_added) := fn_bodyZ (own := []) (c := c_added) (N := N_added) end_V t.d_added sc_added rfl (by decide) fun cdv A outer s H E g hr =>
 (sb_one (ss_ret (sx_call (z := zV _) ⟨rfl, rfl, rfl, rfl, rfl⟩ (g_mix_of t) (hr.mono (by decide)) rfl t.g_mix_of (t.k_mix_of) (b_mix_of t) (sa_cons (se_fld rfl t.fl_own_prime (se_var (i := 0) rfl (vis_by rfl) rfl)) (sa_cons (se_var (i := 1) rfl (vis_by rfl) rfl) (sa_cons (se_var (i := 2) rfl (vis_by rfl) rfl) (sa_cons (se_len rfl rfl (t.fr_len) (SX.toV (se_fld rfl t.fl_own_rows (se_var (i := 0) rfl (vis_by rfl) rfl)))) sa_nil)))) rfl rfl)))
abbrev N_is_still_row : List Str := ["room", "row"]
theorem sc_is_still_row : FnScope N_is_still_row ["room", "row"] (defScope s_is_still_row) := ⟨rfl, rfl, rfl, by decide +kernel, rfl, by decide +kernel, by decide +kernel⟩
theorem b_is_still_row (t : Tx T) : Binds T.K (fdOf T.K ("is_still_row", none)) ["room", "row"] [] := t.d_is_still_row.bindsN fun _ _ _ _ _ _ us hl => match us, hl with | [_, _], _ => rfl
def c_is_still_row : Sc := (sRet (cNot (cUn (oQ anyP) (cCall F_led_of (aCons (cUn (oFld js_own_prime) (cVar 0)) (aCons (cVar 1) (aCons (cUn (oFld js_own_rows) (cVar 0)) aNil)))))))
def F_is_still_row : List PV → Tr PV := body (.ret .non) 2 c_is_still_row
theorem g_is_still_row (t : Tx T) : FnG T 4 (He.fAd T.K ("is_still_row", none)) (fdOf T.K ("is_still_row", none)) ["room", "row"] (SpC (kn T.K) (zV (kn T.K)) 2 F_is_still_row) := fn_bodyZ (own := []) (c := c_is_still_row) (N := N_is_still_row) end_V t.d_is_still_row sc_is_still_row rfl (by decide) fun cdv A outer s H E g hr =>
 (sb_one (ss_ret (se_not (se_any rfl rfl rfl (t.fr_any) (SX.toV (sx_call (z := zV _) ⟨rfl, rfl, rfl, rfl, rfl⟩ (g_led_of t) (hr.mono (by decide)) rfl t.g_led_of (t.k_led_of) (b_led_of t) (sa_cons (se_fld rfl t.fl_own_prime (se_var (i := 0) rfl (vis_by rfl) rfl)) (sa_cons (se_var (i := 1) rfl (vis_by rfl) rfl) (sa_cons (se_fld rfl t.fl_own_rows (se_var (i := 0) rfl (vis_by rfl) rfl)) sa_nil))) rfl rfl))))))
abbrev N_is_rests_bar : List Str := ["room", "rows", "images", "value", "rests", "near", "far"]
theorem sc_is_rests_bar : FnScope N_is_rests_bar ["room", "rows", "images", "value"] (defScope s_is_rests_bar) := ⟨rfl, rfl, rfl, by decide +kernel, rfl, by decide +kernel, by decide +kernel⟩
theorem b_is_rests_bar (t : Tx T) : Binds T.K (fdOf T.K ("is_rests_bar", none)) ["room", "rows", "images", "value"] [] := t.d_is_rests_bar.bindsN fun _ _ _ _ _ _ us hl => match us, hl with | [_, _, _, _], _ => rfl
def c_is_rests_bar : Sc := (sSeq (sSet 4 (cCall F_row_in (aCons (cUn (oFld js_own_prime) (cVar 0)) (aCons (cBin oIx (cVar 3) (cC (.int 1))) (aCons (cUn oLen (cVar 1)) aNil))))) (sSeq (sIf (tVal (cUn (oIsNon false) (cVar 4))) (sRet (cC (.bl false))) sSkip) (sSeq (sPar 5 6 (cCall F_added (aCons (cVar 0) (aCons (cVar 4) (aCons (cVar 1) aNil)))) (cCall F_added (aCons (cVar 0) (aCons (cVar 4) (aCons (cVar 2) aNil))))) (sSeq (sIf (tVal (cBin (oEq false) (cBin oIx (cVar 3) (cC (.int 0))) (cC (.str [108, 111, 115, 116])))) (sRet (cAnd (cUn (oQ anyP) (cVar 4)) (cNot (cUn (oQ anyP) (cVar 6))))) sSkip) (sRet (cAnd (cBin (oEq false) (cBin oIx (cVar 3) (cC (.int 0))) (cC (.str [115, 116, 105, 108, 108]))) (cBin (oEq true) (cCall F_is_still_row (aCons (cVar 0) (aCons (cVar 5) aNil))) (cCall F_is_still_row (aCons (cVar 0) (aCons (cVar 6) aNil))))))))))
def F_is_rests_bar : List PV → Tr PV := body (.ret .non) 7 c_is_rests_bar
theorem g_is_rests_bar (t : Tx T) : FnG T 5 (He.fAd T.K ("is_rests_bar", none)) (fdOf T.K ("is_rests_bar", none)) ["room", "rows", "images", "value"] (SpC (kn T.K) (zV (kn T.K)) 4 F_is_rests_bar) := fn_bodyZ (own := []) (c := c_is_rests_bar) (N := N_is_rests_bar) end_V t.d_is_rests_bar sc_is_rests_bar rfl (by decide) fun cdv A outer s H E g hr =>
 (sb_cons (ss_set (i := 4) sc_is_rests_bar.nd rfl (loc_by rfl) rfl (sx_call (z := zV _) ⟨rfl, rfl, rfl, rfl, rfl⟩ (g_row_in t) (hr.mono (by decide)) rfl t.g_row_in (t.k_row_in) (b_row_in t) (sa_cons (se_fld rfl t.fl_own_prime (se_var (i := 0) rfl (vis_by rfl) rfl)) (sa_cons (se_ix rfl (SX.toV (se_var (i := 3) rfl (vis_by rfl) rfl)) se_int (by intro _ _; rfl)) (sa_cons (se_len rfl rfl (t.fr_len) (SX.toV (se_var (i := 1) rfl (vis_by rfl) rfl))) sa_nil))) rfl rfl))
 (sb_cons (ss_if (st_isN (SX.toV (se_var (i := 4) rfl (vis_by rfl) rfl))) (sb_one (ss_ret se_bl)) sb_nil)
 (sb_cons (ss_par (i := 5) (j := 6) rfl sc_is_rests_bar.nd rfl rfl (by decide) rfl rfl (.inr ⟨rfl, rfl⟩) (.inr ⟨rfl, rfl⟩) (sx_call (z := zV _) ⟨rfl, rfl, rfl, rfl, rfl⟩ (g_added t) (hr.mono (by decide)) rfl t.g_added (t.k_added) (b_added t) (sa_cons (se_var (i := 0) rfl (vis_by rfl) rfl) (sa_cons (se_var (i := 4) rfl (vis_by rfl) rfl) (sa_cons (se_var (i := 1) rfl (vis_by rfl) rfl) sa_nil))) rfl rfl) (sx_call (z := zV _) ⟨rfl, rfl, rfl, rfl, rfl⟩ (g_added t) (hr.mono (by decide)) rfl t.g_added (t.k_added) (b_added t) (sa_cons (se_var (i := 0) rfl (vis_by rfl) rfl) (sa_cons (se_var (i := 4) rfl (vis_by rfl) rfl) (sa_cons (se_var (i := 2) rfl (vis_by rfl) rfl) sa_nil))) rfl rfl))
 (sb_cons (ss_if (st_cmp (op_eq' rfl hr.hu) (SX.toV (se_ix rfl (SX.toV (se_var (i := 3) rfl (vis_by rfl) rfl)) se_int (by intro _ _; rfl))) (SX.toV (se_gstr t.c_LOST (by kernel_rfl) rfl)) (nomark _)) (sb_one (ss_ret (se_and (se_any rfl rfl rfl (t.fr_any) (SX.toV (se_var (i := 4) rfl (vis_by rfl) rfl))) (se_one (se_not (se_any rfl rfl rfl (t.fr_any) (SX.toV (se_var (i := 6) rfl (vis_by rfl) rfl)))))))) sb_nil)
 (sb_one (ss_ret (se_and (sx_cmp (z := zV _) (op_eq' rfl hr.hu) (SX.toV (se_ix rfl (SX.toV (se_var (i := 3) rfl (vis_by rfl) rfl)) se_int (by intro _ _; rfl))) (SX.toV (se_gstr t.c_STILL (by kernel_rfl) rfl)) (nomark _)) (se_one (sx_cmp (z := zV _) (op_ne' rfl hr.hu) (SX.toV (sx_call (z := zV _) ⟨rfl, rfl, rfl, rfl, rfl⟩ (g_is_still_row t) (hr.mono (by decide)) rfl t.g_is_still_row (t.k_is_still_row) (b_is_still_row t) (sa_cons (se_var (i := 0) rfl (vis_by rfl) rfl) (sa_cons (se_var (i := 5) rfl (vis_by rfl) rfl) sa_nil)) rfl rfl)) (SX.toV (sx_call (z := zV _) ⟨rfl, rfl, rfl, rfl, rfl⟩ (g_is_still_row t) (hr.mono (by decide)) rfl t.g_is_still_row (t.k_is_still_row) (b_is_still_row t) (sa_cons (se_var (i := 0) rfl (vis_by rfl) rfl) (sa_cons (se_var (i := 6) rfl (vis_by rfl) rfl) sa_nil)) rfl rfl)) (nomark _))))))))))
abbrev N_is_count : List Str := ["value"]
theorem sc_is_count : FnScope N_is_count ["value"] (defScope s_is_count) := ⟨rfl, rfl, rfl, by decide +kernel, rfl, by decide +kernel, by decide +kernel⟩
theorem b_is_count (t : Tx T) : Binds T.K (fdOf T.K ("is_count", none)) ["value"] [] := t.d_is_count.bindsN fun _ _ _ _ _ _ us hl => match us, hl with | [_], _ => rfl
def c_is_count : Sc := (sRet (cAnd (cCall F_is_integer (aCons (cVar 0) aNil)) (cBin oGe (cVar 0) (cC (.int 0)))))
def F_is_count : List PV → Tr PV := body (.ret .non) 1 c_is_count
theorem g_is_count (t : Tx T) : FnG T 2 (He.fAd T.K ("is_count", none)) (fdOf T.K ("is_count", none)) ["value"] (SpC (kn T.K) (zV (kn T.K)) 1 F_is_count) := fn_bodyZ (own := []) (c := c_is_count) (N := N_is_count) end_V t.d_is_count sc_is_count rfl (by decide) fun cdv A outer s H E g hr =>
 (sb_one (ss_ret (se_and (sx_call (z := zV _) ⟨rfl, rfl, rfl, rfl, rfl⟩ (g_is_integer t) (hr.mono (by decide)) rfl t.g_is_integer (t.k_is_integer) (b_is_integer t) (sa_cons (se_var (i := 0) rfl (vis_by rfl) rfl) sa_nil) rfl rfl) (se_one (sx_cmp (z := zV _) op_ge' (SX.toV (se_var (i := 0) rfl (vis_by rfl) rfl)) (SX.toV se_int) (nomark _))))))
abbrev N_is_between_bar : List Str := ["room", "rows", "images", "value", "first", "second"]
theorem sc_is_between_bar : FnScope N_is_between_bar ["room", "rows", "images", "value"] (defScope s_is_between_bar) := ⟨rfl, rfl, rfl, by decide +kernel, rfl, by decide +kernel, by decide +kernel⟩
theorem b_is_between_bar (t : Tx T) : Binds T.K (fdOf T.K ("is_between_bar", none)) ["room", "rows", "images", "value"] [] := t.d_is_between_bar.bindsN fun _ _ _ _ _ _ us hl => match us, hl with | [_, _, _, _], _ => rfl
def c_is_between_bar : Sc := (sSeq (sPar 4 5 (cBin oIx (cVar 3) (cC (.int 1))) (cBin oIx (cVar 3) (cC (.int 2)))) (sSeq (sIf (tOr (tNot (tVal (cCall F_is_count (aCons (cVar 4) aNil)))) (tOr (tNot (tVal (cCall F_is_count (aCons (cVar 5) aNil)))) (tNot (tVal (cChain oLe oLt (cVar 4) (cVar 5) (cUn oLen (cVar 1))))))) (sRet (cC (.bl false))) sSkip) (sRet (cNot (cCall F_is_kept (aCons (cVar 0) (aCons (cVar 1) (aCons (cVar 2) (aCons (cVar 4) (aCons (cVar 5) aNil))))))))))
def F_is_between_bar : List PV → Tr PV := body (.ret .non) 6 c_is_between_bar
theorem g_is_between_bar (t : Tx T) : FnG T 6 (He.fAd T.K ("is_between_bar", none)) (fdOf T.K ("is_between_bar", none)) ["room", "rows", "images", "value"] (SpC (kn T.K) (zV (kn T.K)) 4 F_is_between_bar) := fn_bodyZ (own := []) (c := c_is_between_bar) (N := N_is_between_bar) end_V t.d_is_between_bar sc_is_between_bar rfl (by decide) fun cdv A outer s H E g hr =>
 (sb_cons (ss_par (i := 4) (j := 5) rfl sc_is_between_bar.nd rfl rfl (by decide) rfl rfl (.inr ⟨rfl, rfl⟩) (.inr ⟨rfl, rfl⟩) (se_ix rfl (SX.toV (se_var (i := 3) rfl (vis_by rfl) rfl)) se_int (by intro _ _; rfl)) (se_ix rfl (SX.toV (se_var (i := 3) rfl (vis_by rfl) rfl)) se_int (by intro _ _; rfl)))
 (sb_cons (ss_if (SW.st (sw_or (st_not (st_val (sx_call (z := zV _) ⟨rfl, rfl, rfl, rfl, rfl⟩ (g_is_count t) (hr.mono (by decide)) rfl t.g_is_count (t.k_is_count) (b_is_count t) (sa_cons (se_var (i := 4) rfl (vis_by rfl) rfl) sa_nil) rfl rfl) (fun _ => rfl))) (sw_or (st_not (st_val (sx_call (z := zV _) ⟨rfl, rfl, rfl, rfl, rfl⟩ (g_is_count t) (hr.mono (by decide)) rfl t.g_is_count (t.k_is_count) (b_is_count t) (sa_cons (se_var (i := 5) rfl (vis_by rfl) rfl) sa_nil) rfl rfl) (fun _ => rfl))) (sw_or1 (st_not (st_chain op_le' op_lt' (SX.toV (se_var (i := 4) rfl (vis_by rfl) rfl)) (SX.toV (se_var (i := 5) rfl (vis_by rfl) rfl)) (SX.toV (se_len rfl rfl (t.fr_len) (SX.toV (se_var (i := 1) rfl (vis_by rfl) rfl)))))))))) (sb_one (ss_ret se_bl)) sb_nil)
 (sb_one (ss_ret (se_not (sx_call (z := zV _) ⟨rfl, rfl, rfl, rfl, rfl⟩ (g_is_kept t) (hr.mono (by decide)) rfl t.g_is_kept (t.k_is_kept) (b_is_kept t) (sa_cons (se_var (i := 0) rfl (vis_by rfl) rfl) (sa_cons (se_var (i := 1) rfl (vis_by rfl) rfl) (sa_cons (se_var (i := 2) rfl (vis_by rfl) rfl) (sa_cons (se_var (i := 4) rfl (vis_by rfl) rfl) (sa_cons (se_var (i := 5) rfl (vis_by rfl) rfl) sa_nil))))) rfl rfl))))))
abbrev N_is_bar_of : List Str := ["room", "rows", "images", "value"]
theorem sc_is_bar_of : FnScope N_is_bar_of ["room", "rows", "images", "value"] (defScope s_is_bar_of) := ⟨rfl, rfl, rfl, by decide +kernel, rfl, by decide +kernel, by decide +kernel⟩
theorem b_is_bar_of (t : Tx T) : Binds T.K (fdOf T.K ("is_bar_of", none)) ["room", "rows", "images", "value"] [] := t.d_is_bar_of.bindsN fun _ _ _ _ _ _ us hl => match us, hl with | [_, _, _, _], _ => rfl
def c_is_bar_of : Sc := (sSeq (sIf (tOr (tNot (tVal (cUn (oIsi clss .tup) (cVar 3)))) (tOr (tVal (cBin oLt (cUn oLen (cVar 3)) (cC (.int 2)))) (tNot (tVal (cUn (oIsi clss .str) (cBin oIx (cVar 3) (cC (.int 0)))))))) (sRet (cC (.bl false))) sSkip) (sSeq (sIf (tVal (cBin (oEq false) (cUn oLen (cVar 3)) (cC (.int 3)))) (sRet (cAnd (cBin (oEq false) (cBin oIx (cVar 3) (cC (.int 0))) (cC (.str [98, 101, 116, 119, 101, 101, 110]))) (cCall F_is_between_bar (aCons (cVar 0) (aCons (cVar 1) (aCons (cVar 2) (aCons (cVar 3) aNil))))))) sSkip) (sRet (cAnd (cBin (oEq false) (cUn oLen (cVar 3)) (cC (.int 2))) (cCall F_is_rests_bar (aCons (cVar 0) (aCons (cVar 1) (aCons (cVar 2) (aCons (cVar 3) aNil)))))))))
def F_is_bar_of : List PV → Tr PV := body (.ret .non) 4 c_is_bar_of
theorem g_is_bar_of (t : Tx T) : FnG T 7 (He.fAd T.K ("is_bar_of", none)) (fdOf T.K ("is_bar_of", none)) ["room", "rows", "images", "value"] (SpC (kn T.K) (zV (kn T.K)) 4 F_is_bar_of) := fn_bodyZ (own := []) (c := c_is_bar_of) (N := N_is_bar_of) end_V t.d_is_bar_of sc_is_bar_of rfl (by decide) fun cdv A outer s H E g hr =>
 (sb_cons (ss_if (SW.st (sw_or (st_not (st_val (se_isi rfl t.kt rfl (t.fr_isinstance) (SX.toV (se_var (i := 3) rfl (vis_by rfl) rfl)) (sc_ty .tup rfl (t.fr_tuple) bt_tuple)) (fun _ => rfl))) (sw_or (st_cmp op_lt' (SX.toV (se_len rfl rfl (t.fr_len) (SX.toV (se_var (i := 3) rfl (vis_by rfl) rfl)))) (SX.toV se_int) (nomark _)) (sw_or1 (st_not (st_val (se_isi rfl t.kt rfl (t.fr_isinstance) (SX.toV (se_ix rfl (SX.toV (se_var (i := 3) rfl (vis_by rfl) rfl)) se_int (by intro _ _; rfl))) (sc_ty .str rfl (t.fr_str) bt_str)) (fun _ => rfl))))))) (sb_one (ss_ret se_bl)) sb_nil)
 (sb_cons (ss_if (st_cmp (op_eq' rfl hr.hu) (SX.toV (se_len rfl rfl (t.fr_len) (SX.toV (se_var (i := 3) rfl (vis_by rfl) rfl)))) (SX.toV se_int) (nomark _)) (sb_one (ss_ret (se_and (sx_cmp (z := zV _) (op_eq' rfl hr.hu) (SX.toV (se_ix rfl (SX.toV (se_var (i := 3) rfl (vis_by rfl) rfl)) se_int (by intro _ _; rfl))) (SX.toV (se_gstr t.c_BETWEEN (by kernel_rfl) rfl)) (nomark _)) (se_one (sx_call (z := zV _) ⟨rfl, rfl, rfl, rfl, rfl⟩ (g_is_between_bar t) (hr.mono (by decide)) rfl t.g_is_between_bar (t.k_is_between_bar) (b_is_between_bar t) (sa_cons (se_var (i := 0) rfl (vis_by rfl) rfl) (sa_cons (se_var (i := 1) rfl (vis_by rfl) rfl) (sa_cons (se_var (i := 2) rfl (vis_by rfl) rfl) (sa_cons (se_var (i := 3) rfl (vis_by rfl) rfl) sa_nil)))) rfl rfl))))) sb_nil)
 (sb_one (ss_ret (se_and (sx_cmp (z := zV _) (op_eq' rfl hr.hu) (SX.toV (se_len rfl rfl (t.fr_len) (SX.toV (se_var (i := 3) rfl (vis_by rfl) rfl)))) (SX.toV se_int) (nomark _)) (se_one (sx_call (z := zV _) ⟨rfl, rfl, rfl, rfl, rfl⟩ (g_is_rests_bar t) (hr.mono (by decide)) rfl t.g_is_rests_bar (t.k_is_rests_bar) (b_is_rests_bar t) (sa_cons (se_var (i := 0) rfl (vis_by rfl) rfl) (sa_cons (se_var (i := 1) rfl (vis_by rfl) rfl) (sa_cons (se_var (i := 2) rfl (vis_by rfl) rfl) (sa_cons (se_var (i := 3) rfl (vis_by rfl) rfl) sa_nil)))) rfl rfl)))))))
abbrev N_is_bar : List Str := ["room", "part", "images", "value", "rows", "led"]
theorem sc_is_bar : FnScope N_is_bar ["room", "part", "images", "value"] (defScope s_is_bar) := ⟨rfl, rfl, rfl, by decide +kernel, rfl, by decide +kernel, by decide +kernel⟩
theorem b_is_bar (t : Tx T) : Binds T.K (fdOf T.K ("is_bar", none)) ["room", "part", "images", "value"] [] := t.d_is_bar.bindsN fun _ _ _ _ _ _ us hl => match us, hl with | [_, _, _, _], _ => rfl
def c_is_bar : Sc := (sSeq (sUnp (cCall F_told_map (aCons (cVar 0) (aCons (cVar 1) (aCons (cVar 2) aNil)))) (gTupc 2 (gsCons (gSt 4) (gsCons (gSt 5) gsNil)))) (sRet (cCall F_is_bar_of (aCons (cVar 0) (aCons (cVar 4) (aCons (cVar 5) (aCons (cVar 3) aNil)))))))
def F_is_bar : List PV → Tr PV := body (.ret .non) 6 c_is_bar
theorem g_is_bar (t : Tx T) : FnG T 8 (He.fAd T.K ("is_bar", none)) (fdOf T.K ("is_bar", none)) ["room", "part", "images", "value"] (SpC (kn T.K) (zV (kn T.K)) 4 F_is_bar) := fn_bodyZ (own := []) (c := c_is_bar) (N := N_is_bar) end_V t.d_is_bar sc_is_bar rfl (by decide) fun cdv A outer s H E g hr =>
 (sb_cons (ss_unp (sx_call (z := zV _) ⟨rfl, rfl, rfl, rfl, rfl⟩ (g_told_map t) (hr.mono (by decide)) rfl t.g_told_map (t.k_told_map) (b_told_map t) (sa_cons (se_var (i := 0) rfl (vis_by rfl) rfl) (sa_cons (se_var (i := 1) rfl (vis_by rfl) rfl) (sa_cons (se_var (i := 2) rfl (vis_by rfl) rfl) sa_nil))) rfl rfl) (sg_tup rfl rfl (sgs_cons (sg_name (i := 4) sc_is_bar.nd rfl (loc_by rfl) rfl) (sgs_cons (sg_name (i := 5) sc_is_bar.nd rfl (loc_by rfl) rfl) sgs_nil))))
 (sb_one (ss_ret (sx_call (z := zV _) ⟨rfl, rfl, rfl, rfl, rfl⟩ (g_is_bar_of t) (hr.mono (by decide)) rfl t.g_is_bar_of (t.k_is_bar_of) (b_is_bar_of t) (sa_cons (se_var (i := 0) rfl (vis_by rfl) rfl) (sa_cons (se_var (i := 4) rfl (vis_by rfl) rfl) (sa_cons (se_var (i := 5) rfl (vis_by rfl) rfl) (sa_cons (se_var (i := 3) rfl (vis_by rfl) rfl) sa_nil)))) rfl rfl))))
abbrev N_between_by : List Str := ["prime", "rows", "one", "other"]
theorem sc_between_by : FnScope N_between_by ["prime", "rows", "one", "other"] (defScope s_between_by) := ⟨rfl, rfl, rfl, by decide +kernel, rfl, by decide +kernel, by decide +kernel⟩
theorem b_between_by (t : Tx T) : Binds T.K (fdOf T.K ("between_by", none)) ["prime", "rows", "one", "other"] [] := t.d_between_by.bindsN fun _ _ _ _ _ _ us hl => match us, hl with | [_, _, _, _], _ => rfl
def c_between_by : Sc := (sRet (cCall F_dot (aCons (cVar 0) (aCons (cCall F_led_of (aCons (cVar 0) (aCons (cVar 2) (aCons (cVar 1) aNil)))) (aCons (cVar 3) aNil)))))
def F_between_by : List PV → Tr PV := body (.ret .non) 4 c_between_by
theorem g_between_by (t : Tx T) : FnG T 4 (He.fAd T.K ("between_by", none)) (fdOf T.K ("between_by", none)) ["prime", "rows", "one", "other"] (SpC (kn T.K) (zV (kn T.K)) 4 F_between_by) := fn_bodyZ (own := []) (c := c_between_by) (N := N_between_by) end_V t.d_between_by sc_between_by rfl (by decide) fun cdv A outer s H E g hr =>
 (sb_one (ss_ret (sx_call (z := zV _) ⟨rfl, rfl, rfl, rfl, rfl⟩ (g_dot t) (hr.mono (by decide)) rfl t.g_dot (t.k_dot) (b_dot t) (sa_cons (se_var (i := 0) rfl (vis_by rfl) rfl) (sa_cons (sx_call (z := zV _) ⟨rfl, rfl, rfl, rfl, rfl⟩ (g_led_of t) (hr.mono (by decide)) rfl t.g_led_of (t.k_led_of) (b_led_of t) (sa_cons (se_var (i := 0) rfl (vis_by rfl) rfl) (sa_cons (se_var (i := 2) rfl (vis_by rfl) rfl) (sa_cons (se_var (i := 1) rfl (vis_by rfl) rfl) sa_nil))) rfl rfl) (sa_cons (se_var (i := 3) rfl (vis_by rfl) rfl) sa_nil))) rfl rfl)))
abbrev N_first_worthy : List Str := ["prime", "rows", "left", "place", "row", "other"]
theorem sc_first_worthy : FnScope N_first_worthy ["prime", "rows", "left"] (defScope s_first_worthy) := ⟨rfl, rfl, rfl, by decide +kernel, rfl, by decide +kernel, by decide +kernel⟩
theorem b_first_worthy (t : Tx T) : Binds T.K (fdOf T.K ("first_worthy", none)) ["prime", "rows", "left"] [] := t.d_first_worthy.bindsN fun _ _ _ _ _ _ us hl => match us, hl with | [_, _, _], _ => rfl
def c_first_worthy : Sc := (sSeq (sFor (jEnum (cVar 2)) (gTupc 2 (gsCons (gSt 3) (gsCons (gSt 4) gsNil))) (sIf (tVal (cBin (oEq true) (cCall F_between_by (aCons (cVar 0) (aCons (cVar 1) (aCons (cVar 4) (aCons (cVar 4) aNil))))) (cC (.int 0)))) (sRet (cTup (aCons (cVar 3) (aCons (cVar 4) aNil)))) sSkip)) (sSeq (sFor (jEnum (cVar 2)) (gTupc 2 (gsCons (gSt 3) (gsCons (gSt 4) gsNil))) (sFor (jSeq (cSl (cVar 2) (pAt (cBin oAdd (cVar 3) (cC (.int 1)))) pNo)) (gSt 5) (sIf (tVal (cBin (oEq true) (cCall F_between_by (aCons (cVar 0) (aCons (cVar 1) (aCons (cVar 4) (aCons (cVar 5) aNil))))) (cC (.int 0)))) (sRet (cTup (aCons (cVar 3) (aCons (cCall F_sum_of (aCons (cVar 0) (aCons (cVar 4) (aCons (cVar 5) (aCons (cC (.int 1)) aNil))))) aNil)))) sSkip))) (sRet (cC .non))))
def F_first_worthy : List PV → Tr PV := body (.ret .non) 6 c_first_worthy
theorem g_first_worthy (t : Tx T) : FnG T 5 (He.fAd T.K ("first_worthy", none)) (fdOf T.K ("first_worthy", none)) ["prime", "rows", "left"] (SpC (kn T.K) (zV (kn T.K)) 3 F_first_worthy) := fn_bodyZ (own := []) (c := c_first_worthy) (N := N_first_worthy) end_V t.d_first_worthy sc_first_worthy rfl (by decide) fun cdv A outer s H E g hr =>
 (sb_cons (ss_for (passes_of rfl) rfl (si_enum rfl rfl (t.fr_enumerate) (se_var (i := 2) rfl (vis_by rfl) rfl)) (fun _ => (sg_tup rfl rfl (sgs_cons (sg_name (i := 3) sc_first_worthy.nd rfl (loc_by rfl) rfl) (sgs_cons (sg_name (i := 4) sc_first_worthy.nd rfl (loc_by rfl) rfl) sgs_nil)))) (fun _ => (sb_one (ss_if (st_cmp (op_ne' rfl hr.hu) (SX.toV (sx_call (z := zV _) ⟨rfl, rfl, rfl, rfl, rfl⟩ (g_between_by t) (hr.mono (by decide)) rfl t.g_between_by (t.k_between_by) (b_between_by t) (sa_cons (se_var (i := 0) rfl (vis_by rfl) rfl) (sa_cons (se_var (i := 1) rfl (vis_by rfl) rfl) (sa_cons (se_var (i := 4) rfl (vis_by rfl) rfl) (sa_cons (se_var (i := 4) rfl (vis_by rfl) rfl) sa_nil)))) rfl rfl)) (SX.toV se_int) (nomark _)) (sb_one (ss_ret (se_tup (sa_cons (se_var (i := 3) rfl (vis_by rfl) rfl) (sa_cons (se_var (i := 4) rfl (vis_by rfl) rfl) sa_nil))))) sb_nil))))
 (sb_cons (ss_for (passes_of rfl) rfl (si_enum rfl rfl (t.fr_enumerate) (se_var (i := 2) rfl (vis_by rfl) rfl)) (fun _ => (sg_tup rfl rfl (sgs_cons (sg_name (i := 3) sc_first_worthy.nd rfl (loc_by rfl) rfl) (sgs_cons (sg_name (i := 4) sc_first_worthy.nd rfl (loc_by rfl) rfl) sgs_nil)))) (fun _ => (sb_one (ss_for (passes_of rfl) rfl (si_seq rfl (se_sl rfl (SX.toV (se_var (i := 2) rfl (vis_by rfl) rfl)) (so_at (sx_bin (z := zV _) (op_add' rfl) (SX.toV (se_var (i := 3) rfl (vis_by rfl) rfl)) (SX.toV se_int))) so_no)) (fun _ => (sg_name (i := 5) sc_first_worthy.nd rfl (loc_by rfl) rfl)) (fun _ => (sb_one (ss_if (st_cmp (op_ne' rfl hr.hu) (SX.toV (sx_call (z := zV _) ⟨rfl, rfl, rfl, rfl, rfl⟩ (g_between_by t) (hr.mono (by decide)) rfl t.g_between_by (t.k_between_by) (b_between_by t) (sa_cons (se_var (i := 0) rfl (vis_by rfl) rfl) (sa_cons (se_var (i := 1) rfl (vis_by rfl) rfl) (sa_cons (se_var (i := 4) rfl (vis_by rfl) rfl) (sa_cons (se_var (i := 5) rfl (vis_by rfl) rfl) sa_nil)))) rfl rfl)) (SX.toV se_int) (nomark _)) (sb_one (ss_ret (se_tup (sa_cons (se_var (i := 3) rfl (vis_by rfl) rfl) (sa_cons (sx_call (z := zV _) ⟨rfl, rfl, rfl, rfl, rfl⟩ (g_sum_of t) (hr.mono (by decide)) rfl t.g_sum_of (t.k_sum_of) (b_sum_of t) (sa_cons (se_var (i := 0) rfl (vis_by rfl) rfl) (sa_cons (se_var (i := 4) rfl (vis_by rfl) rfl) (sa_cons (se_var (i := 5) rfl (vis_by rfl) rfl) (sa_cons se_int sa_nil)))) rfl rfl) sa_nil))))) sb_nil)))))))
 (sb_one (ss_ret se_non))))
abbrev N_idle_of : List Str := ["size", "place"]
theorem sc_idle_of : FnScope N_idle_of ["size"] (defScope s_idle_of) := ⟨rfl, rfl, rfl, by decide +kernel, rfl, by decide +kernel, by decide +kernel⟩
theorem b_idle_of (t : Tx T) : Binds T.K (fdOf T.K ("idle_of", none)) ["size"] [] := t.d_idle_of.bindsN fun _ _ _ _ _ _ us hl => match us, hl with | [_], _ => rfl
def c_idle_of : Sc := (sRet (cUn oTuple (cLc [1] (jRng1 (cVar 0)) (gSt 1) cYes (cCall F_unit (aCons (cVar 0) (aCons (cVar 1) aNil))))))
def F_idle_of : List PV → Tr PV := body (.ret .non) 2 c_idle_of
theorem g_idle_of (t : Tx T) : FnG T 2 (He.fAd T.K ("idle_of", none)) (fdOf T.K ("idle_of", none)) ["size"] (SpC (kn T.K) (zV (kn T.K)) 1 F_idle_of) := fn_bodyZ (own := []) (c := c_idle_of) (N := N_idle_of) end_V t.d_idle_of sc_idle_of rfl (by decide) fun cdv A outer s H E g hr =>
 (sb_one (ss_ret (se_tuple rfl rfl (t.fr_tuple) (SX.ofFV (sf_lc (own := [("place", 1)]) rfl rfl sc_idle_of.nd (SI.toJ (si_rng1 rfl (t.fr_range) (se_var (i := 0) rfl (vis_by rfl) rfl))) (blkOk_by (own := [("place", 1)]) rfl) rfl rfl (fun _ _ _ _ _ => (sg_name (i := 1) sc_idle_of.nd rfl (loc_by rfl) rfl)) (fun _ _ _ _ _ => sts_nil) (fun _ _ _ _ _ => (sx_call (z := zV _) ⟨rfl, rfl, rfl, rfl, rfl⟩ (g_unit t) (hr.mono (by decide)) rfl t.g_unit (t.k_unit) (b_unit t) (sa_cons (se_var (i := 0) rfl (vis_by rfl) rfl) (sa_cons (se_var (i := 1) rfl (vis_by rfl) rfl) sa_nil)) rfl rfl)))))))
abbrev N_squares_of : List Str := ["prime", "rows", "left", "found", "numbers", "here", "worth", "turn", "others", "place", "row", "one"]
theorem sc_squares_of : FnScope N_squares_of ["prime", "rows"] (defScope s_squares_of) := ⟨rfl, rfl, rfl, by decide +kernel, rfl, by decide +kernel, by decide +kernel⟩
theorem b_squares_of (t : Tx T) : Binds T.K (fdOf T.K ("squares_of", none)) ["prime", "rows"] [] := t.d_squares_of.bindsN fun _ _ _ _ _ _ us hl => match us, hl with | [_, _], _ => rfl
def c_squares_of : Sc := (sSeq (sPar3 2 3 4 (cUn oList (cCall F_idle_of (aCons (cUn oLen (cVar 1)) aNil))) (cLst aNil) (cLst aNil)) (sSeq (sSet 5 (cCall F_first_worthy (aCons (cVar 0) (aCons (cVar 1) (aCons (cVar 2) aNil))))) (sSeq (whGo (tVal (cUn (oIsNon true) (cVar 5))) (sSeq (sUnp (cVar 5) (gTupc 2 (gsCons (gSt 9) (gsCons (gSt 10) gsNil)))) (sSeq (sSet 6 (cCall F_between_by (aCons (cVar 0) (aCons (cVar 1) (aCons (cVar 10) (aCons (cVar 10) aNil)))))) (sSeq (sSet 7 (cCall F_undone_of (aCons (cVar 0) (aCons (cVar 6) aNil)))) (sSeq (sSet 8 (cBin oAdd (cSl (cVar 2) pNo (pAt (cVar 9))) (cSl (cVar 2) (pAt (cBin oAdd (cVar 9) (cC (.int 1)))) pNo))) (sSeq (sSet 2 (cLc [11] (jSeq (cVar 8)) (gSt 11) cYes (cCall F_sum_of (aCons (cVar 0) (aCons (cVar 11) (aCons (cVar 10) (aCons (cBin oMod (cBin oSub (cC (.int 0)) (cBin oMul (cCall F_between_by (aCons (cVar 0) (aCons (cVar 1) (aCons (cVar 11) (aCons (cVar 10) aNil))))) (cVar 7))) (cVar 0)) aNil))))))) (sSeq (sApp 3 (cVar 10)) (sSeq (sApp 4 (cVar 6)) (sSet 5 (cCall F_first_worthy (aCons (cVar 0) (aCons (cVar 1) (aCons (cVar 2) aNil)))))))))))) 40) (sRet (cTup (aCons (cUn oTuple (cBin oAdd (cVar 3) (cVar 2))) (aCons (cBin oAdd (cVar 4) (cBin oMul (cLst (aCons (cC (.int 0)) aNil)) (cUn oLen (cVar 2)))) aNil)))))))
def F_squares_of : List PV → Tr PV := body (.ret .non) 12 c_squares_of
theorem g_squares_of (t : Tx T) : FnG T 6 (He.fAd T.K ("squares_of", none)) (fdOf T.K ("squares_of", none)) ["prime", "rows"] (SpC (kn T.K) (zV (kn T.K)) 2 F_squares_of) := fn_bodyZ (own := [3, 4]) (c := c_squares_of) (N := N_squares_of) end_V t.d_squares_of sc_squares_of rfl (by decide) fun cdv A outer s H E g hr =>
 (sb_cons (ss_par3 (i := 2) (j := 3) (l := 4) rfl sc_squares_of.nd rfl rfl rfl (by decide) (by decide) (by decide) rfl rfl rfl (.inr ⟨rfl, rfl⟩) (.inl ⟨rfl, rfl⟩) (.inl ⟨rfl, rfl⟩) (SX.ofF (sf_list rfl rfl (t.fr_list) (SX.toV (sx_call (z := zV _) ⟨rfl, rfl, rfl, rfl, rfl⟩ (g_idle_of t) (hr.mono (by decide)) rfl t.g_idle_of (t.k_idle_of) (b_idle_of t) (sa_cons (se_len rfl rfl (t.fr_len) (SX.toV (se_var (i := 1) rfl (vis_by rfl) rfl))) sa_nil) rfl rfl)))) (sf_lst sa_nil) (sf_lst sa_nil))
 (sb_cons (ss_set (i := 5) sc_squares_of.nd rfl (loc_by rfl) rfl (sx_call (z := zV _) ⟨rfl, rfl, rfl, rfl, rfl⟩ (g_first_worthy t) (hr.mono (by decide)) rfl t.g_first_worthy (t.k_first_worthy) (b_first_worthy t) (sa_cons (se_var (i := 0) rfl (vis_by rfl) rfl) (sa_cons (se_var (i := 1) rfl (vis_by rfl) rfl) (sa_cons (se_var (i := 2) rfl (vis_by rfl) rfl) sa_nil))) rfl rfl))
 (sb_cons (ss_while 40 (passes_of rfl) (st_notN (SX.toV (se_var (i := 5) rfl (vis_by rfl) rfl))) (sb_cons (ss_unp (se_var (i := 5) rfl (vis_by rfl) rfl) (sg_tup rfl rfl (sgs_cons (sg_name (i := 9) sc_squares_of.nd rfl (loc_by rfl) rfl) (sgs_cons (sg_name (i := 10) sc_squares_of.nd rfl (loc_by rfl) rfl) sgs_nil))))
 (sb_cons (ss_set (i := 6) sc_squares_of.nd rfl (loc_by rfl) rfl (sx_call (z := zV _) ⟨rfl, rfl, rfl, rfl, rfl⟩ (g_between_by t) (hr.mono (by decide)) rfl t.g_between_by (t.k_between_by) (b_between_by t) (sa_cons (se_var (i := 0) rfl (vis_by rfl) rfl) (sa_cons (se_var (i := 1) rfl (vis_by rfl) rfl) (sa_cons (se_var (i := 10) rfl (vis_by rfl) rfl) (sa_cons (se_var (i := 10) rfl (vis_by rfl) rfl) sa_nil)))) rfl rfl))
 (sb_cons (ss_set (i := 7) sc_squares_of.nd rfl (loc_by rfl) rfl (sx_call (z := zV _) ⟨rfl, rfl, rfl, rfl, rfl⟩ (g_undone_of t) (hr.mono (by decide)) rfl t.g_undone_of (t.k_undone_of) (b_undone_of t) (sa_cons (se_var (i := 0) rfl (vis_by rfl) rfl) (sa_cons (se_var (i := 6) rfl (vis_by rfl) rfl) sa_nil)) rfl rfl))
 (sb_cons (ss_set (i := 8) sc_squares_of.nd rfl (loc_by rfl) rfl (sx_bin (z := zV _) (op_add' rfl) (SX.toV (se_sl rfl (SX.toV (se_var (i := 2) rfl (vis_by rfl) rfl)) so_no (so_at (se_var (i := 9) rfl (vis_by rfl) rfl)))) (SX.toV (se_sl rfl (SX.toV (se_var (i := 2) rfl (vis_by rfl) rfl)) (so_at (sx_bin (z := zV _) (op_add' rfl) (SX.toV (se_var (i := 9) rfl (vis_by rfl) rfl)) (SX.toV se_int))) so_no))))
 (sb_cons (ss_setLc (own := [("one", 11)]) (i := 2) rfl rfl sc_squares_of.nd rfl rfl rfl rfl (sj_seq rfl (SX.toV (se_var (i := 8) rfl (vis_by rfl) rfl))) (blkOk_by (own := [("one", 11)]) rfl) rfl rfl (fun _ _ _ _ _ => (sg_name (i := 11) sc_squares_of.nd rfl (loc_by rfl) rfl)) (fun _ _ _ _ _ => sts_nil) (fun _ _ _ _ _ => (sx_call (z := zV _) ⟨rfl, rfl, rfl, rfl, rfl⟩ (g_sum_of t) (hr.mono (by decide)) rfl t.g_sum_of (t.k_sum_of) (b_sum_of t) (sa_cons (se_var (i := 0) rfl (vis_by rfl) rfl) (sa_cons (se_var (i := 11) rfl (vis_by rfl) rfl) (sa_cons (se_var (i := 10) rfl (vis_by rfl) rfl) (sa_cons (sx_bin (z := zV _) op_mod' (SX.toV (sx_bin (z := zV _) op_sub' (SX.toV se_int) (SX.toV (sx_bin (z := zV _) (op_mul' rfl) (SX.toV (sx_call (z := zV _) ⟨rfl, rfl, rfl, rfl, rfl⟩ (g_between_by t) (hr.mono (by decide)) rfl t.g_between_by (t.k_between_by) (b_between_by t) (sa_cons (se_var (i := 0) rfl (vis_by rfl) rfl) (sa_cons (se_var (i := 1) rfl (vis_by rfl) rfl) (sa_cons (se_var (i := 11) rfl (vis_by rfl) rfl) (sa_cons (se_var (i := 10) rfl (vis_by rfl) rfl) sa_nil)))) rfl rfl)) (SX.toV (se_var (i := 7) rfl (vis_by rfl) rfl)))))) (SX.toV (se_var (i := 0) rfl (vis_by rfl) rfl))) sa_nil)))) rfl rfl)))
 (sb_cons (ss_app (i := 3) rfl (vis_by rfl) rfl (se_var (i := 10) rfl (vis_by rfl) rfl))
 (sb_cons (ss_app (i := 4) rfl (vis_by rfl) rfl (se_var (i := 6) rfl (vis_by rfl) rfl))
 (sb_one (ss_set (i := 5) sc_squares_of.nd rfl (loc_by rfl) rfl (sx_call (z := zV _) ⟨rfl, rfl, rfl, rfl, rfl⟩ (g_first_worthy t) (hr.mono (by decide)) rfl t.g_first_worthy (t.k_first_worthy) (b_first_worthy t) (sa_cons (se_var (i := 0) rfl (vis_by rfl) rfl) (sa_cons (se_var (i := 1) rfl (vis_by rfl) rfl) (sa_cons (se_var (i := 2) rfl (vis_by rfl) rfl) sa_nil))) rfl rfl)))))))))))
 (sb_one (ss_give 4 (ss_give 3 (ss_ret (se_tup (sa_cons (se_tuple rfl rfl (t.fr_tuple) (SX.toV (sx_bin (z := zV _) (op_add' rfl) (SX.toV (se_var (i := 3) rfl (vis_by rfl) rfl)) (SX.toV (se_var (i := 2) rfl (vis_by rfl) rfl))))) (sa_cons (sx_bin (z := zV _) (op_add' rfl) (SX.toV (se_var (i := 4) rfl (vis_by rfl) rfl)) (SX.toV (sx_bin (z := zV _) (op_mul' rfl) (SX.ofFV (sf_lst (sa_cons se_int sa_nil))) (SX.toV (se_len rfl rfl (t.fr_len) (SX.toV (se_var (i := 2) rfl (vis_by rfl) rfl))))))) sa_nil))))))))))
abbrev N_betweens_of : List Str := ["room", "rows", "prime", "led", "row", "near"]
theorem sc_betweens_of : FnScope N_betweens_of ["room", "rows"] (defScope s_betweens_of) := ⟨rfl, rfl, rfl, by decide +kernel, rfl, by decide +kernel, by decide +kernel⟩
theorem b_betweens_of (t : Tx T) : Binds T.K (fdOf T.K ("betweens_of", none)) ["room", "rows"] [] := t.d_betweens_of.bindsN fun _ _ _ _ _ _ us hl => match us, hl with | [_, _], _ => rfl
def c_betweens_of : Sc := (sSeq (sSet 2 (cUn (oFld js_own_prime) (cVar 0))) (sSeq (sSet 3 (cLc [4] (jSeq (cVar 1)) (gSt 4) cYes (cCall F_led_of (aCons (cVar 2) (aCons (cVar 4) (aCons (cUn (oFld js_own_rows) (cVar 0)) aNil)))))) (sRet (cUn oTuple (cLc [5] (jSeq (cVar 3)) (gSt 5) cYes (cUn oTuple (cLc [4] (jSeq (cVar 1)) (gSt 4) cYes (cCall F_dot (aCons (cVar 2) (aCons (cVar 5) (aCons (cVar 4) aNil)))))))))))
def F_betweens_of : List PV → Tr PV := body (.ret .non) 6 c_betweens_of
theorem g_betweens_of (t : Tx T) : FnG T 4 (He.fAd T.K ("betweens_of", none)) (fdOf T.K ("betweens_of", none)) ["room", "rows"] (SpC (kn T.K) (zV (kn T.K)) 2 F_betweens_of) := fn_bodyZ (own := []) (c := c_betweens_of) (N := N_betweens_of) end_V t.d_betweens_of sc_betweens_of rfl (by decide) fun cdv A outer s H E g hr =>
 (sb_cons (ss_set (i := 2) sc_betweens_of.nd rfl (loc_by rfl) rfl (se_fld rfl t.fl_own_prime (se_var (i := 0) rfl (vis_by rfl) rfl)))
 (sb_cons (ss_setLc (own := [("row", 4)]) (i := 3) rfl rfl sc_betweens_of.nd rfl rfl rfl rfl (sj_seq rfl (SX.toV (se_var (i := 1) rfl (vis_by rfl) rfl))) (blkOk_by (own := [("row", 4)]) rfl) rfl rfl (fun _ _ _ _ _ => (sg_name (i := 4) sc_betweens_of.nd rfl (loc_by rfl) rfl)) (fun _ _ _ _ _ => sts_nil) (fun _ _ _ _ _ => (sx_call (z := zV _) ⟨rfl, rfl, rfl, rfl, rfl⟩ (g_led_of t) (hr.mono (by decide)) rfl t.g_led_of (t.k_led_of) (b_led_of t) (sa_cons (se_var (i := 2) rfl (vis_by rfl) rfl) (sa_cons (se_var (i := 4) rfl (vis_by rfl) rfl) (sa_cons (se_fld rfl t.fl_own_rows (se_var (i := 0) rfl (vis_by rfl) rfl)) sa_nil))) rfl rfl)))
 (sb_one (ss_ret (se_tuple rfl rfl (t.fr_tuple) (SX.ofFV (sf_lc (own := [("near", 5)]) rfl rfl sc_betweens_of.nd (sj_seq rfl (SX.toV (se_var (i := 3) rfl (vis_by rfl) rfl))) (blkOk_by (own := [("near", 5)]) rfl) rfl rfl (fun _ _ _ _ _ => (sg_name (i := 5) sc_betweens_of.nd rfl (loc_by rfl) rfl)) (fun _ _ _ _ _ => sts_nil) (fun _ _ _ _ _ => (se_tuple rfl rfl (t.fr_tuple) (SX.ofFV (sf_lc (own := [("row", 4)]) rfl rfl sc_betweens_of.nd (sj_seq rfl (SX.toV (se_var (i := 1) rfl (vis_by rfl) rfl))) (blkOk_by (own := [("row", 4)]) rfl) rfl rfl (fun _ _ _ _ _ => (sg_name (i := 4) sc_betweens_of.nd rfl (loc_by rfl) rfl)) (fun _ _ _ _ _ => sts_nil) (fun _ _ _ _ _ => (sx_call (z := zV _) ⟨rfl, rfl, rfl, rfl, rfl⟩ (g_dot t) (hr.mono (by decide)) rfl t.g_dot (t.k_dot) (b_dot t) (sa_cons (se_var (i := 2) rfl (vis_by rfl) rfl) (sa_cons (se_var (i := 5) rfl (vis_by rfl) rfl) (sa_cons (se_var (i := 4) rfl (vis_by rfl) rfl) sa_nil))) rfl rfl)))))))))))))
abbrev N_filled : List Str := ["prime", "some", "rows", "found", "row"]
theorem sc_filled : FnScope N_filled ["prime", "some", "rows"] (defScope s_filled) := ⟨rfl, rfl, rfl, by decide +kernel, rfl, by decide +kernel, by decide +kernel⟩
theorem b_filled (t : Tx T) : Binds T.K (fdOf T.K ("filled", none)) ["prime", "some", "rows"] [] := t.d_filled.bindsN fun _ _ _ _ _ _ us hl => match us, hl with | [_, _, _], _ => rfl
def c_filled : Sc := (sSeq (sSet 3 (cLst aNil)) (sSeq (sFor (jSeq (cVar 1)) (gSt 4) (sIf (tNot (tVal (cCall F_is_within (aCons (cVar 0) (aCons (cCall F_steps_of (aCons (cVar 0) (aCons (cBin oAdd (cVar 2) (cVar 3)) aNil))) (aCons (cVar 4) aNil)))))) (sApp 3 (cVar 4)) sSkip)) (sRet (cVar 3))))
def F_filled : List PV → Tr PV := body (.ret .non) 5 c_filled
theorem g_filled (t : Tx T) : FnG T 5 (He.fAd T.K ("filled", none)) (fdOf T.K ("filled", none)) ["prime", "some", "rows"] (SpC (kn T.K) (zV (kn T.K)) 3 F_filled) := fn_bodyZ (own := [3]) (c := c_filled) (N := N_filled) end_V t.d_filled sc_filled rfl (by decide) fun cdv A outer s H E g hr =>
 (sb_cons (ss_setF (i := 3) sc_filled.nd rfl (loc_by rfl) rfl (sf_lst sa_nil))
 (sb_cons (ss_for (passes_of rfl) rfl (si_seq rfl (se_var (i := 1) rfl (vis_by rfl) rfl)) (fun _ => (sg_name (i := 4) sc_filled.nd rfl (loc_by rfl) rfl)) (fun _ => (sb_one (ss_if (st_not (st_val (sx_call (z := zV _) ⟨rfl, rfl, rfl, rfl, rfl⟩ (g_is_within t) (hr.mono (by decide)) rfl t.g_is_within (t.k_is_within) (b_is_within t) (sa_cons (se_var (i := 0) rfl (vis_by rfl) rfl) (sa_cons (sx_call (z := zV _) ⟨rfl, rfl, rfl, rfl, rfl⟩ (g_steps_of t) (hr.mono (by decide)) rfl t.g_steps_of (t.k_steps_of) (b_steps_of t) (sa_cons (se_var (i := 0) rfl (vis_by rfl) rfl) (sa_cons (sx_bin (z := zV _) (op_add' rfl) (SX.toV (se_var (i := 2) rfl (vis_by rfl) rfl)) (sv_own (i := 3) rfl (vis_by rfl) rfl)) sa_nil)) rfl rfl) (sa_cons (se_var (i := 4) rfl (vis_by rfl) rfl) sa_nil))) rfl rfl) (fun _ => rfl))) (sb_one (ss_app (i := 3) rfl (vis_by rfl) rfl (se_var (i := 4) rfl (vis_by rfl) rfl))) sb_nil))))
 (sb_one (ss_give 3 (ss_ret (se_var (i := 3) rfl (vis_by rfl) rfl))))))
abbrev N_split : List Str := ["room", "rows", "prime", "still", "table", "rests", "whole", "noughts", "row", "rest"]
theorem sc_split : FnScope N_split ["room", "rows"] (defScope s_split) := ⟨rfl, rfl, rfl, by decide +kernel, rfl, by decide +kernel, by decide +kernel⟩
theorem b_split (t : Tx T) : Binds T.K (fdOf T.K ("split", none)) ["room", "rows"] [] := t.d_split.bindsN fun _ _ _ _ _ _ us hl => match us, hl with | [_, _], _ => rfl
def c_split : Sc := (sSeq (sPar 2 3 (cUn (oFld js_own_prime) (cVar 0)) (cLc [5] (jSeq (cCall F_still_rests (aCons (cVar 0) (aCons (cVar 1) aNil)))) (gSt 5) cYes (cUn oTuple (cVar 5)))) (sSeq (sUnp (cCall F_squares_of (aCons (cVar 2) (aCons (cCall F_betweens_of (aCons (cVar 0) (aCons (cVar 1) aNil))) aNil))) (gTupc 2 (gsCons (gSt 4) (gsCons (gSt 5) gsNil)))) (sSeq (sSet 6 (cLc [8, 9] (jZip (cVar 4) (cVar 5)) (gTupc 2 (gsCons (gSt 8) (gsCons (gSt 9) gsNil))) (tVal (cBin (oEq true) (cVar 9) (cC (.int 0)))) (cVar 8))) (sSeq (sSet 7 (cLc [8, 9] (jZip (cVar 4) (cVar 5)) (gTupc 2 (gsCons (gSt 8) (gsCons (gSt 9) gsNil))) (tVal (cBin (oEq false) (cVar 9) (cC (.int 0)))) (cVar 8))) (sRet (cTup (aCons (cVar 6) (aCons (cCall F_filled (aCons (cVar 2) (aCons (cVar 7) (aCons (cVar 3) aNil)))) (aCons (cVar 3) aNil)))))))))
def F_split : List PV → Tr PV := body (.ret .non) 10 c_split
theorem g_split (t : Tx T) : FnG T 7 (He.fAd T.K ("split", none)) (fdOf T.K ("split", none)) ["room", "rows"] (SpC (kn T.K) (zV (kn T.K)) 2 F_split) := fn_bodyZ (own := []) (c := c_split) (N := N_split) end_V t.d_split sc_split rfl (by decide) fun cdv A outer s H E g hr =>
 (sb_cons (ss_par (i := 2) (j := 3) rfl sc_split.nd rfl rfl (by decide) rfl rfl (.inr ⟨rfl, rfl⟩) (.inr ⟨rfl, rfl⟩) (se_fld rfl t.fl_own_prime (se_var (i := 0) rfl (vis_by rfl) rfl)) (SX.ofF (sf_lc (own := [("rests", 5)]) rfl rfl sc_split.nd (sj_seq rfl (SX.toV (sx_call (z := zV _) ⟨rfl, rfl, rfl, rfl, rfl⟩ (g_still_rests t) (hr.mono (by decide)) rfl t.g_still_rests (t.k_still_rests) (b_still_rests t) (sa_cons (se_var (i := 0) rfl (vis_by rfl) rfl) (sa_cons (se_var (i := 1) rfl (vis_by rfl) rfl) sa_nil)) rfl rfl))) (blkOk_by (own := [("rests", 5)]) rfl) rfl rfl (fun _ _ _ _ _ => (sg_name (i := 5) sc_split.nd rfl (loc_by rfl) rfl)) (fun _ _ _ _ _ => sts_nil) (fun _ _ _ _ _ => (se_tuple rfl rfl (t.fr_tuple) (SX.toV (se_var (i := 5) rfl (vis_by rfl) rfl)))))))
 (sb_cons (ss_unp (sx_call (z := zV _) ⟨rfl, rfl, rfl, rfl, rfl⟩ (g_squares_of t) (hr.mono (by decide)) rfl t.g_squares_of (t.k_squares_of) (b_squares_of t) (sa_cons (se_var (i := 2) rfl (vis_by rfl) rfl) (sa_cons (sx_call (z := zV _) ⟨rfl, rfl, rfl, rfl, rfl⟩ (g_betweens_of t) (hr.mono (by decide)) rfl t.g_betweens_of (t.k_betweens_of) (b_betweens_of t) (sa_cons (se_var (i := 0) rfl (vis_by rfl) rfl) (sa_cons (se_var (i := 1) rfl (vis_by rfl) rfl) sa_nil)) rfl rfl) sa_nil)) rfl rfl) (sg_tup rfl rfl (sgs_cons (sg_name (i := 4) sc_split.nd rfl (loc_by rfl) rfl) (sgs_cons (sg_name (i := 5) sc_split.nd rfl (loc_by rfl) rfl) sgs_nil))))
 (sb_cons (ss_setLc (own := [("row", 8), ("rest", 9)]) (i := 6) rfl rfl sc_split.nd rfl rfl rfl rfl (sj_zip rfl rfl (t.fr_zip) (SX.toV (se_var (i := 4) rfl (vis_by rfl) rfl)) (SX.toV (se_var (i := 5) rfl (vis_by rfl) rfl))) (blkOk_by (own := [("row", 8), ("rest", 9)]) rfl) rfl rfl (fun _ _ _ _ _ => (sg_tup rfl rfl (sgs_cons (sg_name (i := 8) sc_split.nd rfl (loc_by rfl) rfl) (sgs_cons (sg_name (i := 9) sc_split.nd rfl (loc_by rfl) rfl) sgs_nil)))) (fun _ _ _ _ _ => (sts_one (st_cmp (op_ne' rfl hr.hu) (SX.toV (se_var (i := 9) rfl (vis_by rfl) rfl)) (SX.toV se_int) (nomark _)))) (fun _ _ _ _ _ => (se_var (i := 8) rfl (vis_by rfl) rfl)))
 (sb_cons (ss_setLc (own := [("row", 8), ("rest", 9)]) (i := 7) rfl rfl sc_split.nd rfl rfl rfl rfl (sj_zip rfl rfl (t.fr_zip) (SX.toV (se_var (i := 4) rfl (vis_by rfl) rfl)) (SX.toV (se_var (i := 5) rfl (vis_by rfl) rfl))) (blkOk_by (own := [("row", 8), ("rest", 9)]) rfl) rfl rfl (fun _ _ _ _ _ => (sg_tup rfl rfl (sgs_cons (sg_name (i := 8) sc_split.nd rfl (loc_by rfl) rfl) (sgs_cons (sg_name (i := 9) sc_split.nd rfl (loc_by rfl) rfl) sgs_nil)))) (fun _ _ _ _ _ => (sts_one (st_cmp (op_eq' rfl hr.hu) (SX.toV (se_var (i := 9) rfl (vis_by rfl) rfl)) (SX.toV se_int) (nomark _)))) (fun _ _ _ _ _ => (se_var (i := 8) rfl (vis_by rfl) rfl)))
 (sb_one (ss_ret (se_tup (sa_cons (se_var (i := 6) rfl (vis_by rfl) rfl) (sa_cons (sx_call (z := zV _) ⟨rfl, rfl, rfl, rfl, rfl⟩ (g_filled t) (hr.mono (by decide)) rfl t.g_filled (t.k_filled) (b_filled t) (sa_cons (se_var (i := 2) rfl (vis_by rfl) rfl) (sa_cons (se_var (i := 7) rfl (vis_by rfl) rfl) (sa_cons (se_var (i := 3) rfl (vis_by rfl) rfl) sa_nil))) rfl rfl) (sa_cons (se_var (i := 3) rfl (vis_by rfl) rfl) sa_nil))))))))))
abbrev N_solved : List Str := ["prime", "size", "rows", "goal", "wider", "some", "row", "rest"]
theorem sc_solved : FnScope N_solved ["prime", "size", "rows", "goal"] (defScope s_solved) := ⟨rfl, rfl, rfl, by decide +kernel, rfl, by decide +kernel, by decide +kernel⟩
theorem b_solved (t : Tx T) : Binds T.K (fdOf T.K ("solved", none)) ["prime", "size", "rows", "goal"] [] := t.d_solved.bindsN fun _ _ _ _ _ _ us hl => match us, hl with | [_, _, _, _], _ => rfl
def c_solved : Sc := (sSeq (sSet 4 (cLc [6, 7] (jZip (cVar 2) (cVar 3)) (gTupc 2 (gsCons (gSt 6) (gsCons (gSt 7) gsNil))) cYes (cBin oAdd (cVar 6) (cTup (aCons (cBin oMod (cBin oSub (cVar 0) (cVar 7)) (cVar 0)) aNil))))) (sSeq (sSet 5 (cLc [6] (jSeq (cCall F_zeros_of (aCons (cVar 0) (aCons (cBin oAdd (cVar 1) (cC (.int 1))) (aCons (cVar 4) aNil))))) (gSt 6) (tVal (cBin (oEq true) (cBin oIx (cVar 6) (cVar 1)) (cC (.int 0)))) (cVar 6))) (sRet (cSl (cCall F_scaled_of (aCons (cVar 0) (aCons (cBin oIx (cVar 5) (cC (.int 0))) (aCons (cCall F_undone_of (aCons (cVar 0) (aCons (cBin oIx (cBin oIx (cVar 5) (cC (.int 0))) (cVar 1)) aNil))) aNil)))) pNo (pAt (cVar 1))))))
def F_solved : List PV → Tr PV := body (.ret .non) 8 c_solved
theorem g_solved (t : Tx T) : FnG T 5 (He.fAd T.K ("solved", none)) (fdOf T.K ("solved", none)) ["prime", "size", "rows", "goal"] (SpC (kn T.K) (zV (kn T.K)) 4 F_solved) := fn_bodyZ (own := []) (c := c_solved) (N := N_solved) end_V t.d_solved sc_solved rfl (by decide) fun cdv A outer s H E g hr =>
 (sb_cons (ss_setLc (own := [("row", 6), ("rest", 7)]) (i := 4) rfl rfl sc_solved.nd rfl rfl rfl rfl (sj_zip rfl rfl (t.fr_zip) (SX.toV (se_var (i := 2) rfl (vis_by rfl) rfl)) (SX.toV (se_var (i := 3) rfl (vis_by rfl) rfl))) (blkOk_by (own := [("row", 6), ("rest", 7)]) rfl) rfl rfl (fun _ _ _ _ _ => (sg_tup rfl rfl (sgs_cons (sg_name (i := 6) sc_solved.nd rfl (loc_by rfl) rfl) (sgs_cons (sg_name (i := 7) sc_solved.nd rfl (loc_by rfl) rfl) sgs_nil)))) (fun _ _ _ _ _ => sts_nil) (fun _ _ _ _ _ => (sx_bin (z := zV _) (op_add' rfl) (SX.toV (se_var (i := 6) rfl (vis_by rfl) rfl)) (SX.toV (se_tup (sa_cons (sx_bin (z := zV _) op_mod' (SX.toV (sx_bin (z := zV _) op_sub' (SX.toV (se_var (i := 0) rfl (vis_by rfl) rfl)) (SX.toV (se_var (i := 7) rfl (vis_by rfl) rfl)))) (SX.toV (se_var (i := 0) rfl (vis_by rfl) rfl))) sa_nil))))))
 (sb_cons (ss_setLc (own := [("row", 6)]) (i := 5) rfl rfl sc_solved.nd rfl rfl rfl rfl (sj_seq rfl (SX.toV (sx_call (z := zV _) ⟨rfl, rfl, rfl, rfl, rfl⟩ (g_zeros_of t) (hr.mono (by decide)) rfl t.g_zeros_of (t.k_zeros_of) (b_zeros_of t) (sa_cons (se_var (i := 0) rfl (vis_by rfl) rfl) (sa_cons (sx_bin (z := zV _) (op_add' rfl) (SX.toV (se_var (i := 1) rfl (vis_by rfl) rfl)) (SX.toV se_int)) (sa_cons (se_var (i := 4) rfl (vis_by rfl) rfl) sa_nil))) rfl rfl))) (blkOk_by (own := [("row", 6)]) rfl) rfl rfl (fun _ _ _ _ _ => (sg_name (i := 6) sc_solved.nd rfl (loc_by rfl) rfl)) (fun _ _ _ _ _ => (sts_one (st_cmp (op_ne' rfl hr.hu) (SX.toV (se_ix rfl (SX.toV (se_var (i := 6) rfl (vis_by rfl) rfl)) (se_var (i := 1) rfl (vis_by rfl) rfl) (by intro _ _; rfl))) (SX.toV se_int) (nomark _)))) (fun _ _ _ _ _ => (se_var (i := 6) rfl (vis_by rfl) rfl)))
 (sb_one (ss_ret (se_sl rfl (SX.toV (sx_call (z := zV _) ⟨rfl, rfl, rfl, rfl, rfl⟩ (g_scaled_of t) (hr.mono (by decide)) rfl t.g_scaled_of (t.k_scaled_of) (b_scaled_of t) (sa_cons (se_var (i := 0) rfl (vis_by rfl) rfl) (sa_cons (se_ix rfl (SX.toV (se_var (i := 5) rfl (vis_by rfl) rfl)) se_int (by intro _ _; rfl)) (sa_cons (sx_call (z := zV _) ⟨rfl, rfl, rfl, rfl, rfl⟩ (g_undone_of t) (hr.mono (by decide)) rfl t.g_undone_of (t.k_undone_of) (b_undone_of t) (sa_cons (se_var (i := 0) rfl (vis_by rfl) rfl) (sa_cons (se_ix rfl (SX.toV (se_ix rfl (SX.toV (se_var (i := 5) rfl (vis_by rfl) rfl)) se_int (by intro _ _; rfl))) (se_var (i := 1) rfl (vis_by rfl) rfl) (by intro _ _; rfl)) sa_nil)) rfl rfl) sa_nil))) rfl rfl)) so_no (so_at (se_var (i := 1) rfl (vis_by rfl) rfl)))))))
abbrev N_worth_of : List Str := ["room", "row"]
theorem sc_worth_of : FnScope N_worth_of ["room", "row"] (defScope s_worth_of) := ⟨rfl, rfl, rfl, by decide +kernel, rfl, by decide +kernel, by decide +kernel⟩
theorem b_worth_of (t : Tx T) : Binds T.K (fdOf T.K ("worth_of", none)) ["room", "row"] [] := t.d_worth_of.bindsN fun _ _ _ _ _ _ us hl => match us, hl with | [_, _], _ => rfl
def c_worth_of : Sc := (sRet (cCall F_between_of (aCons (cVar 0) (aCons (cVar 1) (aCons (cVar 1) aNil)))))
def F_worth_of : List PV → Tr PV := body (.ret .non) 2 c_worth_of
theorem g_worth_of (t : Tx T) : FnG T 5 (He.fAd T.K ("worth_of", none)) (fdOf T.K ("worth_of", none)) ["room", "row"] (SpC (kn T.K) (zV (kn T.K)) 2 F_worth_of) := fn_bodyZ (own := []) (c := c_worth_of) (N := N_worth_of) end_V t.d_worth_of sc_worth_of rfl (by decide) fun cdv A outer s H E g hr =>
 (sb_one (ss_ret (sx_call (z := zV _) ⟨rfl, rfl, rfl, rfl, rfl⟩ (g_between_of t) (hr.mono (by decide)) rfl t.g_between_of (t.k_between_of) (b_between_of t) (sa_cons (se_var (i := 0) rfl (vis_by rfl) rfl) (sa_cons (se_var (i := 1) rfl (vis_by rfl) rfl) (sa_cons (se_var (i := 1) rfl (vis_by rfl) rfl) sa_nil))) rfl rfl)))
abbrev N_partners : List Str := ["room", "noughts", "whole", "prime", "size", "half", "found", "place", "nought", "others", "goal", "row", "at", "one"]
theorem sc_partners : FnScope N_partners ["room", "noughts", "whole"] (defScope s_partners) := ⟨rfl, rfl, rfl, by decide +kernel, rfl, by decide +kernel, by decide +kernel⟩
theorem b_partners (t : Tx T) : Binds T.K (fdOf T.K ("partners", none)) ["room", "noughts", "whole"] [] := t.d_partners.bindsN fun _ _ _ _ _ _ us hl => match us, hl with | [_, _, _], _ => rfl
def c_partners : Sc := (sSeq (sPar 3 4 (cUn (oFld js_own_prime) (cVar 0)) (cUn oLen (cUn (oFld js_own_rows) (cVar 0)))) (sSeq (sPar 5 6 (cCall F_undone_of (aCons (cVar 3) (aCons (cC (.int 2)) aNil))) (cLst aNil)) (sSeq (sFor (jEnum (cVar 1)) (gTupc 2 (gsCons (gSt 7) (gsCons (gSt 8) gsNil))) (sSeq (sSet 9 (cBin oAdd (cBin oAdd (cVar 2) (cVar 1)) (cVar 6))) (sSeq (sSet 10 (cLc [12] (jRng1 (cUn oLen (cVar 9))) (gSt 12) cYes (cIf (tVal (cBin (oEq false) (cVar 12) (cBin oAdd (cUn oLen (cVar 2)) (cVar 7)))) (cC (.int 1)) (cC (.int 0))))) (sSeq (sSet 11 (cCall F_solved (aCons (cVar 3) (aCons (cVar 4) (aCons (cLc [13] (jSeq (cVar 9)) (gSt 13) cYes (cCall F_led_of (aCons (cVar 3) (aCons (cVar 13) (aCons (cUn (oFld js_own_rows) (cVar 0)) aNil))))) (aCons (cVar 10) aNil)))))) (sApp 6 (cCall F_sum_of (aCons (cVar 3) (aCons (cVar 11) (aCons (cVar 8) (aCons (cBin oMod (cBin oMul (cBin oSub (cVar 3) (cCall F_worth_of (aCons (cVar 0) (aCons (cVar 11) aNil)))) (cVar 5)) (cVar 3)) aNil)))))))))) (sRet (cVar 6)))))
def F_partners : List PV → Tr PV := body (.ret .non) 14 c_partners
theorem g_partners (t : Tx T) : FnG T 6 (He.fAd T.K ("partners", none)) (fdOf T.K ("partners", none)) ["room", "noughts", "whole"] (SpC (kn T.K) (zV (kn T.K)) 3 F_partners) := fn_bodyZ (own := [6]) (c := c_partners) (N := N_partners) end_V t.d_partners sc_partners rfl (by decide) fun cdv A outer s H E g hr =>
 (sb_cons (ss_parG (i := 3) (j := 4) rfl sc_partners.nd rfl rfl (loc_by rfl) (loc_by rfl) (.inr ⟨rfl, rfl⟩) (.inr ⟨rfl, rfl⟩) (se_fld rfl t.fl_own_prime (se_var (i := 0) rfl (vis_by rfl) rfl)) (se_len rfl rfl (t.fr_len) (SX.toV (se_fld rfl t.fl_own_rows (se_var (i := 0) rfl (vis_by rfl) rfl)))))
 (sb_cons (ss_par (i := 5) (j := 6) rfl sc_partners.nd rfl rfl (by decide) rfl rfl (.inr ⟨rfl, rfl⟩) (.inl ⟨rfl, rfl⟩) (sx_call (z := zV _) ⟨rfl, rfl, rfl, rfl, rfl⟩ (g_undone_of t) (hr.mono (by decide)) rfl t.g_undone_of (t.k_undone_of) (b_undone_of t) (sa_cons (se_var (i := 3) rfl (vis_by rfl) rfl) (sa_cons se_int sa_nil)) rfl rfl) (sf_lst sa_nil))
 (sb_cons (ss_for (passes_of rfl) rfl (si_enum rfl rfl (t.fr_enumerate) (se_var (i := 1) rfl (vis_by rfl) rfl)) (fun _ => (sg_tup rfl rfl (sgs_cons (sg_name (i := 7) sc_partners.nd rfl (loc_by rfl) rfl) (sgs_cons (sg_name (i := 8) sc_partners.nd rfl (loc_by rfl) rfl) sgs_nil)))) (fun _ => (sb_cons (ss_set (i := 9) sc_partners.nd rfl (loc_by rfl) rfl (sx_bin (z := zV _) (op_add' rfl) (SX.toV (sx_bin (z := zV _) (op_add' rfl) (SX.toV (se_var (i := 2) rfl (vis_by rfl) rfl)) (SX.toV (se_var (i := 1) rfl (vis_by rfl) rfl)))) (sv_own (i := 6) rfl (vis_by rfl) rfl)))
 (sb_cons (ss_setLc (own := [("at", 12)]) (i := 10) rfl rfl sc_partners.nd rfl rfl rfl rfl (SI.toJ (si_rng1 rfl (t.fr_range) (se_len rfl rfl (t.fr_len) (SX.toV (se_var (i := 9) rfl (vis_by rfl) rfl))))) (blkOk_by (own := [("at", 12)]) rfl) rfl rfl (fun _ _ _ _ _ => (sg_name (i := 12) sc_partners.nd rfl (loc_by rfl) rfl)) (fun _ _ _ _ _ => sts_nil) (fun _ _ _ _ _ => (sx_if (z := zV _) (st_cmp (op_eq' rfl hr.hu) (SX.toV (se_var (i := 12) rfl (vis_by rfl) rfl)) (SX.toV (sx_bin (z := zV _) (op_add' rfl) (SX.toV (se_len rfl rfl (t.fr_len) (SX.toV (se_var (i := 2) rfl (vis_by rfl) rfl)))) (SX.toV (se_var (i := 7) rfl (vis_by rfl) rfl)))) (nomark _)) se_int se_int)))
 (sb_cons (ss_set (i := 11) sc_partners.nd rfl (loc_by rfl) rfl (sx_call (z := zV _) ⟨rfl, rfl, rfl, rfl, rfl⟩ (g_solved t) (hr.mono (by decide)) rfl t.g_solved (t.k_solved) (b_solved t) (sa_cons (se_var (i := 3) rfl (vis_by rfl) rfl) (sa_cons (se_var (i := 4) rfl (vis_by rfl) rfl) (sa_cons (SX.ofF (sf_lc (own := [("one", 13)]) rfl rfl sc_partners.nd (sj_seq rfl (SX.toV (se_var (i := 9) rfl (vis_by rfl) rfl))) (blkOk_by (own := [("one", 13)]) rfl) rfl rfl (fun _ _ _ _ _ => (sg_name (i := 13) sc_partners.nd rfl (loc_by rfl) rfl)) (fun _ _ _ _ _ => sts_nil) (fun _ _ _ _ _ => (sx_call (z := zV _) ⟨rfl, rfl, rfl, rfl, rfl⟩ (g_led_of t) (hr.mono (by decide)) rfl t.g_led_of (t.k_led_of) (b_led_of t) (sa_cons (se_var (i := 3) rfl (vis_by rfl) rfl) (sa_cons (se_var (i := 13) rfl (vis_by rfl) rfl) (sa_cons (se_fld rfl t.fl_own_rows (se_var (i := 0) rfl (vis_by rfl) rfl)) sa_nil))) rfl rfl)))) (sa_cons (se_var (i := 10) rfl (vis_by rfl) rfl) sa_nil)))) rfl rfl))
 (sb_one (ss_app (i := 6) rfl (vis_by rfl) rfl (sx_call (z := zV _) ⟨rfl, rfl, rfl, rfl, rfl⟩ (g_sum_of t) (hr.mono (by decide)) rfl t.g_sum_of (t.k_sum_of) (b_sum_of t) (sa_cons (se_var (i := 3) rfl (vis_by rfl) rfl) (sa_cons (se_var (i := 11) rfl (vis_by rfl) rfl) (sa_cons (se_var (i := 8) rfl (vis_by rfl) rfl) (sa_cons (sx_bin (z := zV _) op_mod' (SX.toV (sx_bin (z := zV _) (op_mul' rfl) (SX.toV (sx_bin (z := zV _) op_sub' (SX.toV (se_var (i := 3) rfl (vis_by rfl) rfl)) (SX.toV (sx_call (z := zV _) ⟨rfl, rfl, rfl, rfl, rfl⟩ (g_worth_of t) (hr.mono (by decide)) rfl t.g_worth_of (t.k_worth_of) (b_worth_of t) (sa_cons (se_var (i := 0) rfl (vis_by rfl) rfl) (sa_cons (se_var (i := 11) rfl (vis_by rfl) rfl) sa_nil)) rfl rfl)))) (SX.toV (se_var (i := 5) rfl (vis_by rfl) rfl)))) (SX.toV (se_var (i := 3) rfl (vis_by rfl) rfl))) sa_nil)))) rfl rfl))))))))
 (sb_one (ss_give 6 (ss_ret (se_var (i := 6) rfl (vis_by rfl) rfl)))))))
abbrev N_angles_of : List Str := ["room", "rows", "prime", "row"]
theorem sc_angles_of : FnScope N_angles_of ["room", "rows"] (defScope s_angles_of) := ⟨rfl, rfl, rfl, by decide +kernel, rfl, by decide +kernel, by decide +kernel⟩
theorem b_angles_of (t : Tx T) : Binds T.K (fdOf T.K ("angles_of", none)) ["room", "rows"] [] := t.d_angles_of.bindsN fun _ _ _ _ _ _ us hl => match us, hl with | [_, _], _ => rfl
def c_angles_of : Sc := (sSeq (sSet 2 (cUn (oFld js_own_prime) (cVar 0))) (sRet (cCall F_zeros_of (aCons (cVar 2) (aCons (cUn oLen (cUn (oFld js_own_rows) (cVar 0))) (aCons (cLc [3] (jSeq (cVar 1)) (gSt 3) cYes (cCall F_led_of (aCons (cVar 2) (aCons (cVar 3) (aCons (cUn (oFld js_own_rows) (cVar 0)) aNil))))) aNil))))))
def F_angles_of : List PV → Tr PV := body (.ret .non) 4 c_angles_of
theorem g_angles_of (t : Tx T) : FnG T 5 (He.fAd T.K ("angles_of", none)) (fdOf T.K ("angles_of", none)) ["room", "rows"] (SpC (kn T.K) (zV (kn T.K)) 2 F_angles_of) := fn_bodyZ (own := []) (c := c_angles_of) (N := N_angles_of) end_V t.d_angles_of sc_angles_of rfl (by decide) fun cdv A outer s H E g hr =>
 (sb_cons (ss_set (i := 2) sc_angles_of.nd rfl (loc_by rfl) rfl (se_fld rfl t.fl_own_prime (se_var (i := 0) rfl (vis_by rfl) rfl)))
 (sb_one (ss_ret (sx_call (z := zV _) ⟨rfl, rfl, rfl, rfl, rfl⟩ (g_zeros_of t) (hr.mono (by decide)) rfl t.g_zeros_of (t.k_zeros_of) (b_zeros_of t) (sa_cons (se_var (i := 2) rfl (vis_by rfl) rfl) (sa_cons (se_len rfl rfl (t.fr_len) (SX.toV (se_fld rfl t.fl_own_rows (se_var (i := 0) rfl (vis_by rfl) rfl)))) (sa_cons (SX.ofF (sf_lc (own := [("row", 3)]) rfl rfl sc_angles_of.nd (sj_seq rfl (SX.toV (se_var (i := 1) rfl (vis_by rfl) rfl))) (blkOk_by (own := [("row", 3)]) rfl) rfl rfl (fun _ _ _ _ _ => (sg_name (i := 3) sc_angles_of.nd rfl (loc_by rfl) rfl)) (fun _ _ _ _ _ => sts_nil) (fun _ _ _ _ _ => (sx_call (z := zV _) ⟨rfl, rfl, rfl, rfl, rfl⟩ (g_led_of t) (hr.mono (by decide)) rfl t.g_led_of (t.k_led_of) (b_led_of t) (sa_cons (se_var (i := 2) rfl (vis_by rfl) rfl) (sa_cons (se_var (i := 3) rfl (vis_by rfl) rfl) (sa_cons (se_fld rfl t.fl_own_rows (se_var (i := 0) rfl (vis_by rfl) rfl)) sa_nil))) rfl rfl)))) sa_nil))) rfl rfl))))
abbrev N_still_of : List Str := ["room"]
theorem sc_still_of : FnScope N_still_of ["room"] (defScope s_still_of) := ⟨rfl, rfl, rfl, by decide +kernel, rfl, by decide +kernel, by decide +kernel⟩
theorem b_still_of (t : Tx T) : Binds T.K (fdOf T.K ("still_of", none)) ["room"] [] := t.d_still_of.bindsN fun _ _ _ _ _ _ us hl => match us, hl with | [_], _ => rfl
def c_still_of : Sc := (sRet (cCall F_zeros_of (aCons (cUn (oFld js_own_prime) (cVar 0)) (aCons (cUn oLen (cUn (oFld js_own_rows) (cVar 0))) (aCons (cUn (oFld js_own_rows) (cVar 0)) aNil)))))
def F_still_of : List PV → Tr PV := body (.ret .non) 1 c_still_of
theorem g_still_of (t : Tx T) : FnG T 5 (He.fAd T.K ("still_of", none)) (fdOf T.K ("still_of", none)) ["room"] (SpC (kn T.K) (zV (kn T.K)) 1 F_still_of) := fn_bodyZ (own := []) (c := c_still_of) (N := N_still_of) end_V t.d_still_of sc_still_of rfl (by decide) fun cdv A outer s H E g hr =>
 (sb_one (ss_ret (sx_call (z := zV _) ⟨rfl, rfl, rfl, rfl, rfl⟩ (g_zeros_of t) (hr.mono (by decide)) rfl t.g_zeros_of (t.k_zeros_of) (b_zeros_of t) (sa_cons (se_fld rfl t.fl_own_prime (se_var (i := 0) rfl (vis_by rfl) rfl)) (sa_cons (se_len rfl rfl (t.fr_len) (SX.toV (se_fld rfl t.fl_own_rows (se_var (i := 0) rfl (vis_by rfl) rfl)))) (sa_cons (se_fld rfl t.fl_own_rows (se_var (i := 0) rfl (vis_by rfl) rfl)) sa_nil))) rfl rfl)))
abbrev N_framed : List Str := ["room", "whole", "noughts", "still", "prime", "all_still", "pairs", "here", "rest"]
theorem sc_framed : FnScope N_framed ["room", "whole", "noughts", "still"] (defScope s_framed) := ⟨rfl, rfl, rfl, by decide +kernel, rfl, by decide +kernel, by decide +kernel⟩
theorem b_framed (t : Tx T) : Binds T.K (fdOf T.K ("framed", none)) ["room", "whole", "noughts", "still"] [] := t.d_framed.bindsN fun _ _ _ _ _ _ us hl => match us, hl with | [_, _, _, _], _ => rfl
def c_framed : Sc := (sSeq (sPar 4 5 (cUn (oFld js_own_prime) (cVar 0)) (cCall F_still_of (aCons (cVar 0) aNil))) (sSeq (sSet 6 (cCall F_partners (aCons (cVar 0) (aCons (cVar 2) (aCons (cVar 1) aNil))))) (sSeq (sSet 7 (cBin oAdd (cBin oAdd (cBin oAdd (cBin oAdd (cVar 3) (cCall F_filled (aCons (cVar 4) (aCons (cVar 5) (aCons (cVar 3) aNil))))) (cVar 2)) (cVar 1)) (cVar 6))) (sSeq (sSet 8 (cCall F_angles_of (aCons (cVar 0) (aCons (cBin oAdd (cBin oAdd (cVar 2) (cVar 1)) (cVar 6)) aNil)))) (sRet (cTup (aCons (cVar 7) (aCons (cCall F_filled (aCons (cVar 4) (aCons (cVar 8) (aCons (cVar 5) aNil)))) aNil))))))))
def F_framed : List PV → Tr PV := body (.ret .non) 9 c_framed
theorem g_framed (t : Tx T) : FnG T 7 (He.fAd T.K ("framed", none)) (fdOf T.K ("framed", none)) ["room", "whole", "noughts", "still"] (SpC (kn T.K) (zV (kn T.K)) 4 F_framed) := fn_bodyZ (own := []) (c := c_framed) (N := N_framed) end_V t.d_framed sc_framed rfl (by decide) fun cdv A outer s H E g hr =>
 (sb_cons (ss_par (i := 4) (j := 5) rfl sc_framed.nd rfl rfl (by decide) rfl rfl (.inr ⟨rfl, rfl⟩) (.inr ⟨rfl, rfl⟩) (se_fld rfl t.fl_own_prime (se_var (i := 0) rfl (vis_by rfl) rfl)) (sx_call (z := zV _) ⟨rfl, rfl, rfl, rfl, rfl⟩ (g_still_of t) (hr.mono (by decide)) rfl t.g_still_of (t.k_still_of) (b_still_of t) (sa_cons (se_var (i := 0) rfl (vis_by rfl) rfl) sa_nil) rfl rfl))
 (sb_cons (ss_set (i := 6) sc_framed.nd rfl (loc_by rfl) rfl (sx_call (z := zV _) ⟨rfl, rfl, rfl, rfl, rfl⟩ (g_partners t) (hr.mono (by decide)) rfl t.g_partners (t.k_partners) (b_partners t) (sa_cons (se_var (i := 0) rfl (vis_by rfl) rfl) (sa_cons (se_var (i := 2) rfl (vis_by rfl) rfl) (sa_cons (se_var (i := 1) rfl (vis_by rfl) rfl) sa_nil))) rfl rfl))
 (sb_cons (ss_set (i := 7) sc_framed.nd rfl (loc_by rfl) rfl (sx_bin (z := zV _) (op_add' rfl) (SX.toV (sx_bin (z := zV _) (op_add' rfl) (SX.toV (sx_bin (z := zV _) (op_add' rfl) (SX.toV (sx_bin (z := zV _) (op_add' rfl) (SX.toV (se_var (i := 3) rfl (vis_by rfl) rfl)) (SX.toV (sx_call (z := zV _) ⟨rfl, rfl, rfl, rfl, rfl⟩ (g_filled t) (hr.mono (by decide)) rfl t.g_filled (t.k_filled) (b_filled t) (sa_cons (se_var (i := 4) rfl (vis_by rfl) rfl) (sa_cons (se_var (i := 5) rfl (vis_by rfl) rfl) (sa_cons (se_var (i := 3) rfl (vis_by rfl) rfl) sa_nil))) rfl rfl)))) (SX.toV (se_var (i := 2) rfl (vis_by rfl) rfl)))) (SX.toV (se_var (i := 1) rfl (vis_by rfl) rfl)))) (SX.toV (se_var (i := 6) rfl (vis_by rfl) rfl))))
 (sb_cons (ss_set (i := 8) sc_framed.nd rfl (loc_by rfl) rfl (sx_call (z := zV _) ⟨rfl, rfl, rfl, rfl, rfl⟩ (g_angles_of t) (hr.mono (by decide)) rfl t.g_angles_of (t.k_angles_of) (b_angles_of t) (sa_cons (se_var (i := 0) rfl (vis_by rfl) rfl) (sa_cons (sx_bin (z := zV _) (op_add' rfl) (SX.toV (sx_bin (z := zV _) (op_add' rfl) (SX.toV (se_var (i := 2) rfl (vis_by rfl) rfl)) (SX.toV (se_var (i := 1) rfl (vis_by rfl) rfl)))) (SX.toV (se_var (i := 6) rfl (vis_by rfl) rfl))) sa_nil)) rfl rfl))
 (sb_one (ss_ret (se_tup (sa_cons (se_var (i := 7) rfl (vis_by rfl) rfl) (sa_cons (sx_call (z := zV _) ⟨rfl, rfl, rfl, rfl, rfl⟩ (g_filled t) (hr.mono (by decide)) rfl t.g_filled (t.k_filled) (b_filled t) (sa_cons (se_var (i := 4) rfl (vis_by rfl) rfl) (sa_cons (se_var (i := 8) rfl (vis_by rfl) rfl) (sa_cons (se_var (i := 5) rfl (vis_by rfl) rfl) sa_nil))) rfl rfl) sa_nil)))))))))
abbrev N_reduced : List Str := ["prime", "table", "size", "found", "left", "place", "heads", "head", "row", "at"]
theorem sc_reduced : FnScope N_reduced ["prime", "table"] (defScope s_reduced) := ⟨rfl, rfl, rfl, by decide +kernel, rfl, by decide +kernel, by decide +kernel⟩
theorem b_reduced (t : Tx T) : Binds T.K (fdOf T.K ("reduced", none)) ["prime", "table"] [] := t.d_reduced.bindsN fun _ _ _ _ _ _ us hl => match us, hl with | [_, _], _ => rfl
def c_reduced : Sc := (sSeq (sPar 2 3 (cUn oLen (cVar 1)) (cC (.int 1))) (sSeq (sSet 4 (cLc [5, 8] (jEnum (cVar 1)) (gTupc 2 (gsCons (gSt 5) (gsCons (gSt 8) gsNil))) cYes (cBin oAdd (cVar 8) (cCall F_unit (aCons (cVar 2) (aCons (cVar 5) aNil)))))) (sSeq (sFor (jRng1 (cVar 2)) (gSt 5) (sSeq (sSet 6 (cLc [9] (jRng2 (cVar 5) (cVar 2)) (gSt 9) (tVal (cBin (oEq true) (cBin oIx (cBin oIx (cVar 4) (cVar 9)) (cVar 5)) (cC (.int 0)))) (cVar 9))) (sSeq (sIf (tVal (cBin (oEq false) (cVar 6) (cLst aNil))) (sRet (cTup (aCons (cC (.int 0)) (aCons (cC .non) aNil)))) sSkip) (sSeq (sIf (tVal (cBin (oEq true) (cBin oIx (cVar 6) (cC (.int 0))) (cVar 5))) (sSeq (sSwap 4 (cVar 5) (cBin oIx (cVar 6) (cC (.int 0))) (cBin oIx (cVar 4) (cBin oIx (cVar 6) (cC (.int 0)))) (cBin oIx (cVar 4) (cVar 5))) (sSet 3 (cBin oSub (cC (.int 0)) (cVar 3)))) sSkip) (sSeq (sSet 3 (cBin oMod (cBin oMul (cVar 3) (cBin oIx (cBin oIx (cVar 4) (cVar 5)) (cVar 5))) (cVar 0))) (sSeq (sSetI 4 (cVar 5) (cCall F_scaled_of (aCons (cVar 0) (aCons (cBin oIx (cVar 4) (cVar 5)) (aCons (cCall F_undone_of (aCons (cVar 0) (aCons (cBin oIx (cBin oIx (cVar 4) (cVar 5)) (cVar 5)) aNil))) aNil))))) (sSeq (sSet 7 (cBin oIx (cVar 4) (cVar 5))) (sSet 4 (cLc [9, 8] (jEnum (cVar 4)) (gTupc 2 (gsCons (gSt 9) (gsCons (gSt 8) gsNil))) cYes (cIf (tVal (cBin (oEq false) (cVar 9) (cVar 5))) (cVar 8) (cCall F_sum_of (aCons (cVar 0) (aCons (cVar 8) (aCons (cVar 7) (aCons (cBin oSub (cC (.int 0)) (cBin oIx (cVar 8) (cVar 5))) aNil))))))))))))))) (sRet (cTup (aCons (cBin oMod (cVar 3) (cVar 0)) (aCons (cUn oTuple (cLc [8] (jSeq (cVar 4)) (gSt 8) cYes (cSl (cVar 8) (pAt (cVar 2)) pNo))) aNil)))))))
def F_reduced : List PV → Tr PV := body (.ret .non) 10 c_reduced
theorem g_reduced (t : Tx T) : FnG T 3 (He.fAd T.K ("reduced", none)) (fdOf T.K ("reduced", none)) ["prime", "table"] (SpC (kn T.K) (zV (kn T.K)) 2 F_reduced) := fn_bodyZ (own := [4]) (c := c_reduced) (N := N_reduced) end_V t.d_reduced sc_reduced rfl (by decide) fun cdv A outer s H E g hr =>
 (sb_cons (ss_parG (i := 2) (j := 3) rfl sc_reduced.nd rfl rfl (loc_by rfl) (loc_by rfl) (.inr ⟨rfl, rfl⟩) (.inr ⟨rfl, rfl⟩) (se_len rfl rfl (t.fr_len) (SX.toV (se_var (i := 1) rfl (vis_by rfl) rfl))) se_int)
 (sb_cons (ss_setF (i := 4) sc_reduced.nd rfl (loc_by rfl) rfl (sf_lc (own := [("place", 5), ("row", 8)]) rfl rfl sc_reduced.nd (sj_enum rfl rfl (t.fr_enumerate) (SX.toV (se_var (i := 1) rfl (vis_by rfl) rfl))) (blkOk_by (own := [("place", 5), ("row", 8)]) rfl) rfl rfl (fun _ _ _ _ _ => (sg_tup rfl rfl (sgs_cons (sg_name (i := 5) sc_reduced.nd rfl (loc_by rfl) rfl) (sgs_cons (sg_name (i := 8) sc_reduced.nd rfl (loc_by rfl) rfl) sgs_nil)))) (fun _ _ _ _ _ => sts_nil) (fun _ _ _ _ _ => (sx_bin (z := zV _) (op_add' rfl) (SX.toV (se_var (i := 8) rfl (vis_by rfl) rfl)) (SX.toV (sx_call (z := zV _) ⟨rfl, rfl, rfl, rfl, rfl⟩ (g_unit t) (hr.mono (by decide)) rfl t.g_unit (t.k_unit) (b_unit t) (sa_cons (se_var (i := 2) rfl (vis_by rfl) rfl) (sa_cons (se_var (i := 5) rfl (vis_by rfl) rfl) sa_nil)) rfl rfl))))))
 (sb_cons (ss_for (passes_of rfl) rfl (si_rng1 rfl (t.fr_range) (se_var (i := 2) rfl (vis_by rfl) rfl)) (fun _ => (sg_name (i := 5) sc_reduced.nd rfl (loc_by rfl) rfl)) (fun _ => (sb_cons (ss_setLc (own := [("at", 9)]) (i := 6) rfl rfl sc_reduced.nd rfl rfl rfl rfl (SI.toJ (si_rng2 rfl (t.fr_range) (se_var (i := 5) rfl (vis_by rfl) rfl) (se_var (i := 2) rfl (vis_by rfl) rfl))) (blkOk_by (own := [("at", 9)]) rfl) rfl rfl (fun _ _ _ _ _ => (sg_name (i := 9) sc_reduced.nd rfl (loc_by rfl) rfl)) (fun _ _ _ _ _ => (sts_one (st_cmp (op_ne' rfl hr.hu) (SX.toV (se_ix rfl (SX.toV (se_ix rfl (sv_own (i := 4) rfl (vis_by rfl) rfl) (se_var (i := 9) rfl (vis_by rfl) rfl) (by intro _ _; rfl))) (se_var (i := 5) rfl (vis_by rfl) rfl) (by intro _ _; rfl))) (SX.toV se_int) (nomark _)))) (fun _ _ _ _ _ => (se_var (i := 9) rfl (vis_by rfl) rfl)))
 (sb_cons (ss_if (st_cmp (op_eq' rfl hr.hu) (SX.toV (se_var (i := 6) rfl (vis_by rfl) rfl)) (SX.ofFV (sf_lst sa_nil)) (nomark _)) (sb_one (ss_ret (se_tup (sa_cons se_int (sa_cons se_non sa_nil))))) sb_nil)
 (sb_cons (ss_if (st_cmp (op_ne' rfl hr.hu) (SX.toV (se_ix rfl (SX.toV (se_var (i := 6) rfl (vis_by rfl) rfl)) se_int (by intro _ _; rfl))) (SX.toV (se_var (i := 5) rfl (vis_by rfl) rfl)) (nomark _)) (sb_cons (ss_swap (i := 4) rfl rfl rfl (vis_by rfl) rfl (se_var (i := 5) rfl (vis_by rfl) rfl) (se_ix rfl (SX.toV (se_var (i := 6) rfl (vis_by rfl) rfl)) se_int (by intro _ _; rfl)) (se_ix rfl (sv_own (i := 4) rfl (vis_by rfl) rfl) (se_ix rfl (SX.toV (se_var (i := 6) rfl (vis_by rfl) rfl)) se_int (by intro _ _; rfl)) (by intro _ _; rfl)) (se_ix rfl (sv_own (i := 4) rfl (vis_by rfl) rfl) (se_var (i := 5) rfl (vis_by rfl) rfl) (by intro _ _; rfl)))
 (sb_one (ss_set (i := 3) sc_reduced.nd rfl (loc_by rfl) rfl (sx_bin (z := zV _) op_sub' (SX.toV se_int) (SX.toV (se_var (i := 3) rfl (vis_by rfl) rfl)))))) sb_nil)
 (sb_cons (ss_set (i := 3) sc_reduced.nd rfl (loc_by rfl) rfl (sx_bin (z := zV _) op_mod' (SX.toV (sx_bin (z := zV _) (op_mul' rfl) (SX.toV (se_var (i := 3) rfl (vis_by rfl) rfl)) (SX.toV (se_ix rfl (SX.toV (se_ix rfl (sv_own (i := 4) rfl (vis_by rfl) rfl) (se_var (i := 5) rfl (vis_by rfl) rfl) (by intro _ _; rfl))) (se_var (i := 5) rfl (vis_by rfl) rfl) (by intro _ _; rfl))))) (SX.toV (se_var (i := 0) rfl (vis_by rfl) rfl))))
 (sb_cons (ss_setI (i := 4) rfl (vis_by rfl) rfl (se_var (i := 5) rfl (vis_by rfl) rfl) (sx_call (z := zV _) ⟨rfl, rfl, rfl, rfl, rfl⟩ (g_scaled_of t) (hr.mono (by decide)) rfl t.g_scaled_of (t.k_scaled_of) (b_scaled_of t) (sa_cons (se_var (i := 0) rfl (vis_by rfl) rfl) (sa_cons (se_ix rfl (sv_own (i := 4) rfl (vis_by rfl) rfl) (se_var (i := 5) rfl (vis_by rfl) rfl) (by intro _ _; rfl)) (sa_cons (sx_call (z := zV _) ⟨rfl, rfl, rfl, rfl, rfl⟩ (g_undone_of t) (hr.mono (by decide)) rfl t.g_undone_of (t.k_undone_of) (b_undone_of t) (sa_cons (se_var (i := 0) rfl (vis_by rfl) rfl) (sa_cons (se_ix rfl (SX.toV (se_ix rfl (sv_own (i := 4) rfl (vis_by rfl) rfl) (se_var (i := 5) rfl (vis_by rfl) rfl) (by intro _ _; rfl))) (se_var (i := 5) rfl (vis_by rfl) rfl) (by intro _ _; rfl)) sa_nil)) rfl rfl) sa_nil))) rfl rfl))
 (sb_cons (ss_set (i := 7) sc_reduced.nd rfl (loc_by rfl) rfl (se_ix rfl (sv_own (i := 4) rfl (vis_by rfl) rfl) (se_var (i := 5) rfl (vis_by rfl) rfl) (by intro _ _; rfl)))
 (sb_one (ss_setF (i := 4) sc_reduced.nd rfl (loc_by rfl) rfl (sf_lc (own := [("at", 9), ("row", 8)]) rfl rfl sc_reduced.nd (sj_enum rfl rfl (t.fr_enumerate) (sv_own (i := 4) rfl (vis_by rfl) rfl)) (blkOk_by (own := [("at", 9), ("row", 8)]) rfl) rfl rfl (fun _ _ _ _ _ => (sg_tup rfl rfl (sgs_cons (sg_name (i := 9) sc_reduced.nd rfl (loc_by rfl) rfl) (sgs_cons (sg_name (i := 8) sc_reduced.nd rfl (loc_by rfl) rfl) sgs_nil)))) (fun _ _ _ _ _ => sts_nil) (fun _ _ _ _ _ => (sx_if (z := zV _) (st_cmp (op_eq' rfl hr.hu) (SX.toV (se_var (i := 9) rfl (vis_by rfl) rfl)) (SX.toV (se_var (i := 5) rfl (vis_by rfl) rfl)) (nomark _)) (se_var (i := 8) rfl (vis_by rfl) rfl) (sx_call (z := zV _) ⟨rfl, rfl, rfl, rfl, rfl⟩ (g_sum_of t) (hr.mono (by decide)) rfl t.g_sum_of (t.k_sum_of) (b_sum_of t) (sa_cons (se_var (i := 0) rfl (vis_by rfl) rfl) (sa_cons (se_var (i := 8) rfl (vis_by rfl) rfl) (sa_cons (se_var (i := 7) rfl (vis_by rfl) rfl) (sa_cons (sx_bin (z := zV _) op_sub' (SX.toV se_int) (SX.toV (se_ix rfl (SX.toV (se_var (i := 8) rfl (vis_by rfl) rfl)) (se_var (i := 5) rfl (vis_by rfl) rfl) (by intro _ _; rfl)))) sa_nil)))) rfl rfl))))))))))))))
 (sb_one (ss_give 4 (ss_ret (se_tup (sa_cons (sx_bin (z := zV _) op_mod' (SX.toV (se_var (i := 3) rfl (vis_by rfl) rfl)) (SX.toV (se_var (i := 0) rfl (vis_by rfl) rfl))) (sa_cons (se_tuple rfl rfl (t.fr_tuple) (SX.ofFV (sf_lc (own := [("row", 8)]) rfl rfl sc_reduced.nd (sj_seq rfl (SX.toV (se_var (i := 4) rfl (vis_by rfl) rfl))) (blkOk_by (own := [("row", 8)]) rfl) rfl rfl (fun _ _ _ _ _ => (sg_name (i := 8) sc_reduced.nd rfl (loc_by rfl) rfl)) (fun _ _ _ _ _ => sts_nil) (fun _ _ _ _ _ => (se_sl rfl (SX.toV (se_var (i := 8) rfl (vis_by rfl) rfl)) (so_at (se_var (i := 2) rfl (vis_by rfl) rfl)) so_no))))) sa_nil)))))))))
abbrev N_undone_table : List Str := ["prime", "table"]
theorem sc_undone_table : FnScope N_undone_table ["prime", "table"] (defScope s_undone_table) := ⟨rfl, rfl, rfl, by decide +kernel, rfl, by decide +kernel, by decide +kernel⟩
theorem b_undone_table (t : Tx T) : Binds T.K (fdOf T.K ("undone_table", none)) ["prime", "table"] [] := t.d_undone_table.bindsN fun _ _ _ _ _ _ us hl => match us, hl with | [_, _], _ => rfl
def c_undone_table : Sc := (sRet (cBin oIx (cCall F_reduced (aCons (cVar 0) (aCons (cVar 1) aNil))) (cC (.int 1))))
def F_undone_table : List PV → Tr PV := body (.ret .non) 2 c_undone_table
theorem g_undone_table (t : Tx T) : FnG T 4 (He.fAd T.K ("undone_table", none)) (fdOf T.K ("undone_table", none)) ["prime", "table"] (SpC (kn T.K) (zV (kn T.K)) 2 F_undone_table) := fn_bodyZ (own := []) (c := c_undone_table) (N := N_undone_table) end_V t.d_undone_table sc_undone_table rfl (by decide) fun cdv A outer s H E g hr =>
 (sb_one (ss_ret (se_ix rfl (SX.toV (sx_call (z := zV _) ⟨rfl, rfl, rfl, rfl, rfl⟩ (g_reduced t) (hr.mono (by decide)) rfl t.g_reduced (t.k_reduced) (b_reduced t) (sa_cons (se_var (i := 0) rfl (vis_by rfl) rfl) (sa_cons (se_var (i := 1) rfl (vis_by rfl) rfl) sa_nil)) rfl rfl)) se_int (by intro _ _; rfl))))
abbrev N_times_of : List Str := ["prime", "table", "other", "row"]
theorem sc_times_of : FnScope N_times_of ["prime", "table", "other"] (defScope s_times_of) := ⟨rfl, rfl, rfl, by decide +kernel, rfl, by decide +kernel, by decide +kernel⟩
theorem b_times_of (t : Tx T) : Binds T.K (fdOf T.K ("times_of", none)) ["prime", "table", "other"] [] := t.d_times_of.bindsN fun _ _ _ _ _ _ us hl => match us, hl with | [_, _, _], _ => rfl
def c_times_of : Sc := (sRet (cUn oTuple (cLc [3] (jSeq (cVar 1)) (gSt 3) cYes (cCall F_led_of (aCons (cVar 0) (aCons (cVar 3) (aCons (cVar 2) aNil)))))))
def F_times_of : List PV → Tr PV := body (.ret .non) 4 c_times_of
theorem g_times_of (t : Tx T) : FnG T 4 (He.fAd T.K ("times_of", none)) (fdOf T.K ("times_of", none)) ["prime", "table", "other"] (SpC (kn T.K) (zV (kn T.K)) 3 F_times_of) := fn_bodyZ (own := []) (c := c_times_of) (N := N_times_of) end_V t.d_times_of sc_times_of rfl (by decide) fun cdv A outer s H E g hr =>
 (sb_one (ss_ret (se_tuple rfl rfl (t.fr_tuple) (SX.ofFV (sf_lc (own := [("row", 3)]) rfl rfl sc_times_of.nd (sj_seq rfl (SX.toV (se_var (i := 1) rfl (vis_by rfl) rfl))) (blkOk_by (own := [("row", 3)]) rfl) rfl rfl (fun _ _ _ _ _ => (sg_name (i := 3) sc_times_of.nd rfl (loc_by rfl) rfl)) (fun _ _ _ _ _ => sts_nil) (fun _ _ _ _ _ => (sx_call (z := zV _) ⟨rfl, rfl, rfl, rfl, rfl⟩ (g_led_of t) (hr.mono (by decide)) rfl t.g_led_of (t.k_led_of) (b_led_of t) (sa_cons (se_var (i := 0) rfl (vis_by rfl) rfl) (sa_cons (se_var (i := 3) rfl (vis_by rfl) rfl) (sa_cons (se_var (i := 2) rfl (vis_by rfl) rfl) sa_nil))) rfl rfl)))))))
abbrev N_sign_of : List Str := ["prime", "rest"]
theorem sc_sign_of : FnScope N_sign_of ["prime", "rest"] (defScope s_sign_of) := ⟨rfl, rfl, rfl, by decide +kernel, rfl, by decide +kernel, by decide +kernel⟩
theorem b_sign_of (t : Tx T) : Binds T.K (fdOf T.K ("sign_of", none)) ["prime", "rest"] [] := t.d_sign_of.bindsN fun _ _ _ _ _ _ us hl => match us, hl with | [_, _], _ => rfl
def c_sign_of : Sc := (sSeq (sIf (tVal (cBin (oEq false) (cVar 1) (cC (.int 0)))) (sRet (cC (.int 0))) sSkip) (sRet (cIf (tVal (cBin (oEq false) (cCall F_power_of (aCons (cVar 0) (aCons (cVar 1) (aCons (cBin oDiv (cBin oSub (cVar 0) (cC (.int 1))) (cC (.int 2))) aNil)))) (cC (.int 1)))) (cC (.int 1)) (cUn oNeg (cC (.int 1))))))
def F_sign_of : List PV → Tr PV := body (.ret .non) 2 c_sign_of
theorem g_sign_of (t : Tx T) : FnG T 2 (He.fAd T.K ("sign_of", none)) (fdOf T.K ("sign_of", none)) ["prime", "rest"] (SpC (kn T.K) (zV (kn T.K)) 2 F_sign_of) := fn_bodyZ (own := []) (c := c_sign_of) (N := N_sign_of) end_V t.d_sign_of sc_sign_of rfl (by decide) fun cdv A outer s H E g hr =>
 (sb_cons (ss_if (st_cmp (op_eq' rfl hr.hu) (SX.toV (se_var (i := 1) rfl (vis_by rfl) rfl)) (SX.toV se_int) (nomark _)) (sb_one (ss_ret se_int)) sb_nil)
 (sb_one (ss_ret (sx_if (z := zV _) (st_cmp (op_eq' rfl hr.hu) (SX.toV (sx_call (z := zV _) ⟨rfl, rfl, rfl, rfl, rfl⟩ (g_power_of t) (hr.mono (by decide)) rfl t.g_power_of (t.k_power_of) (b_power_of t) (sa_cons (se_var (i := 0) rfl (vis_by rfl) rfl) (sa_cons (se_var (i := 1) rfl (vis_by rfl) rfl) (sa_cons (sx_bin (z := zV _) op_div' (SX.toV (sx_bin (z := zV _) op_sub' (SX.toV (se_var (i := 0) rfl (vis_by rfl) rfl)) (SX.toV se_int))) (SX.toV se_int)) sa_nil))) rfl rfl)) (SX.toV se_int) (nomark _)) se_int (se_neg se_int)))))
abbrev N_kind_in : List Str := ["prime", "rows", "numbers", "sign", "number", "rest"]
theorem sc_kind_in : FnScope N_kind_in ["prime", "rows"] (defScope s_kind_in) := ⟨rfl, rfl, rfl, by decide +kernel, rfl, by decide +kernel, by decide +kernel⟩
theorem b_kind_in (t : Tx T) : Binds T.K (fdOf T.K ("kind_in", none)) ["prime", "rows"] [] := t.d_kind_in.bindsN fun _ _ _ _ _ _ us hl => match us, hl with | [_, _], _ => rfl
def c_kind_in : Sc := (sSeq (sSet 2 (cLc [5] (jSeq (cBin oIx (cCall F_squares_of (aCons (cVar 0) (aCons (cVar 1) aNil))) (cC (.int 1)))) (gSt 5) (tVal (cBin (oEq true) (cVar 5) (cC (.int 0)))) (cVar 5))) (sSeq (sSet 3 (cC (.int 1))) (sSeq (sFor (jSeq (cVar 2)) (gSt 4) (sSet 3 (cBin oMul (cVar 3) (cCall F_sign_of (aCons (cVar 0) (aCons (cVar 4) aNil)))))) (sRet (cTup (aCons (cUn oLen (cVar 1)) (aCons (cUn oLen (cVar 2)) (aCons (cVar 3) aNil))))))))
def F_kind_in : List PV → Tr PV := body (.ret .non) 6 c_kind_in
theorem g_kind_in (t : Tx T) : FnG T 7 (He.fAd T.K ("kind_in", none)) (fdOf T.K ("kind_in", none)) ["prime", "rows"] (SpC (kn T.K) (zV (kn T.K)) 2 F_kind_in) := fn_bodyZ (own := []) (c := c_kind_in) (N := N_kind_in) end_V t.d_kind_in sc_kind_in rfl (by decide) fun cdv A outer s H E g hr =>
 (sb_cons (ss_setLc (own := [("rest", 5)]) (i := 2) rfl rfl sc_kind_in.nd rfl rfl rfl rfl (sj_seq rfl (SX.toV (se_ix rfl (SX.toV (sx_call (z := zV _) ⟨rfl, rfl, rfl, rfl, rfl⟩ (g_squares_of t) (hr.mono (by decide)) rfl t.g_squares_of (t.k_squares_of) (b_squares_of t) (sa_cons (se_var (i := 0) rfl (vis_by rfl) rfl) (sa_cons (se_var (i := 1) rfl (vis_by rfl) rfl) sa_nil)) rfl rfl)) se_int (by intro _ _; rfl)))) (blkOk_by (own := [("rest", 5)]) rfl) rfl rfl (fun _ _ _ _ _ => (sg_name (i := 5) sc_kind_in.nd rfl (loc_by rfl) rfl)) (fun _ _ _ _ _ => (sts_one (st_cmp (op_ne' rfl hr.hu) (SX.toV (se_var (i := 5) rfl (vis_by rfl) rfl)) (SX.toV se_int) (nomark _)))) (fun _ _ _ _ _ => (se_var (i := 5) rfl (vis_by rfl) rfl)))
 (sb_cons (ss_set (i := 3) sc_kind_in.nd rfl (loc_by rfl) rfl se_int)
 (sb_cons (ss_for (passes_of rfl) rfl (si_seq rfl (se_var (i := 2) rfl (vis_by rfl) rfl)) (fun _ => (sg_name (i := 4) sc_kind_in.nd rfl (loc_by rfl) rfl)) (fun _ => (sb_one (ss_set (i := 3) sc_kind_in.nd rfl (loc_by rfl) rfl (sx_bin (z := zV _) (op_mul' rfl) (SX.toV (se_var (i := 3) rfl (vis_by rfl) rfl)) (SX.toV (sx_call (z := zV _) ⟨rfl, rfl, rfl, rfl, rfl⟩ (g_sign_of t) (hr.mono (by decide)) rfl t.g_sign_of (t.k_sign_of) (b_sign_of t) (sa_cons (se_var (i := 0) rfl (vis_by rfl) rfl) (sa_cons (se_var (i := 4) rfl (vis_by rfl) rfl) sa_nil)) rfl rfl)))))))
 (sb_one (ss_ret (se_tup (sa_cons (se_len rfl rfl (t.fr_len) (SX.toV (se_var (i := 1) rfl (vis_by rfl) rfl))) (sa_cons (se_len rfl rfl (t.fr_len) (SX.toV (se_var (i := 2) rfl (vis_by rfl) rfl))) (sa_cons (se_var (i := 3) rfl (vis_by rfl) rfl) sa_nil)))))))))
abbrev N_one_by : List Str := ["prime", "one", "other", "first", "second"]
theorem sc_one_by : FnScope N_one_by ["prime", "one", "other"] (defScope s_one_by) := ⟨rfl, rfl, rfl, by decide +kernel, rfl, by decide +kernel, by decide +kernel⟩
theorem b_one_by (t : Tx T) : Binds T.K (fdOf T.K ("one_by", none)) ["prime", "one", "other"] [] := t.d_one_by.bindsN fun _ _ _ _ _ _ us hl => match us, hl with | [_, _, _], _ => rfl
def c_one_by : Sc := (sSeq (sFor (jRng1 (cVar 0)) (gSt 3) (sFor (jRng1 (cVar 0)) (gSt 4) (sIf (tVal (cBin (oEq false) (cBin oMod (cBin oAdd (cBin oMul (cBin oMul (cVar 1) (cVar 3)) (cVar 3)) (cBin oMul (cBin oMul (cVar 2) (cVar 4)) (cVar 4))) (cVar 0)) (cC (.int 1)))) (sRet (cTup (aCons (cVar 3) (aCons (cVar 4) aNil)))) sSkip))) (sRet (cC .non)))
def F_one_by : List PV → Tr PV := body (.ret .non) 5 c_one_by
theorem g_one_by (t : Tx T) : FnG T 1 (He.fAd T.K ("one_by", none)) (fdOf T.K ("one_by", none)) ["prime", "one", "other"] (SpC (kn T.K) (zV (kn T.K)) 3 F_one_by) := fn_bodyZ (own := []) (c := c_one_by) (N := N_one_by) end_V t.d_one_by sc_one_by rfl (by decide) fun cdv A outer s H E g hr =>
 (sb_cons (ss_for (passes_of rfl) rfl (si_rng1 rfl (t.fr_range) (se_var (i := 0) rfl (vis_by rfl) rfl)) (fun _ => (sg_name (i := 3) sc_one_by.nd rfl (loc_by rfl) rfl)) (fun _ => (sb_one (ss_for (passes_of rfl) rfl (si_rng1 rfl (t.fr_range) (se_var (i := 0) rfl (vis_by rfl) rfl)) (fun _ => (sg_name (i := 4) sc_one_by.nd rfl (loc_by rfl) rfl)) (fun _ => (sb_one (ss_if (st_cmp (op_eq' rfl hr.hu) (SX.toV (sx_bin (z := zV _) op_mod' (SX.toV (sx_bin (z := zV _) (op_add' rfl) (SX.toV (sx_bin (z := zV _) (op_mul' rfl) (SX.toV (sx_bin (z := zV _) (op_mul' rfl) (SX.toV (se_var (i := 1) rfl (vis_by rfl) rfl)) (SX.toV (se_var (i := 3) rfl (vis_by rfl) rfl)))) (SX.toV (se_var (i := 3) rfl (vis_by rfl) rfl)))) (SX.toV (sx_bin (z := zV _) (op_mul' rfl) (SX.toV (sx_bin (z := zV _) (op_mul' rfl) (SX.toV (se_var (i := 2) rfl (vis_by rfl) rfl)) (SX.toV (se_var (i := 4) rfl (vis_by rfl) rfl)))) (SX.toV (se_var (i := 4) rfl (vis_by rfl) rfl)))))) (SX.toV (se_var (i := 0) rfl (vis_by rfl) rfl)))) (SX.toV se_int) (nomark _)) (sb_one (ss_ret (se_tup (sa_cons (se_var (i := 3) rfl (vis_by rfl) rfl) (sa_cons (se_var (i := 4) rfl (vis_by rfl) rfl) sa_nil))))) sb_nil)))))))
 (sb_one (ss_ret se_non)))
abbrev N_to_ones : List Str := ["prime", "found", "numbers", "rows", "last", "at", "first", "second", "near", "far"]
theorem sc_to_ones : FnScope N_to_ones ["prime", "found", "numbers"] (defScope s_to_ones) := ⟨rfl, rfl, rfl, by decide +kernel, rfl, by decide +kernel, by decide +kernel⟩
theorem b_to_ones (t : Tx T) : Binds T.K (fdOf T.K ("to_ones", none)) ["prime", "found", "numbers"] [] := t.d_to_ones.bindsN fun _ _ _ _ _ _ us hl => match us, hl with | [_, _, _], _ => rfl
def c_to_ones : Sc := (sSeq (sPar 3 4 (cUn oList (cVar 1)) (cBin oIx (cVar 2) (cC (.int 0)))) (sSeq (sFor (jRng2 (cC (.int 1)) (cUn oLen (cVar 2))) (gSt 5) (sSeq (sUnp (cCall F_one_by (aCons (cVar 0) (aCons (cVar 4) (aCons (cBin oIx (cVar 2) (cVar 5)) aNil)))) (gTupc 2 (gsCons (gSt 6) (gsCons (gSt 7) gsNil)))) (sSeq (sPar 8 9 (cBin oIx (cVar 3) (cBin oSub (cVar 5) (cC (.int 1)))) (cBin oIx (cVar 3) (cVar 5))) (sSeq (sSetI 3 (cBin oSub (cVar 5) (cC (.int 1))) (cCall F_sum_of (aCons (cVar 0) (aCons (cCall F_scaled_of (aCons (cVar 0) (aCons (cVar 8) (aCons (cVar 6) aNil)))) (aCons (cVar 9) (aCons (cVar 7) aNil)))))) (sSeq (sSetI 3 (cVar 5) (cCall F_sum_of (aCons (cVar 0) (aCons (cCall F_scaled_of (aCons (cVar 0) (aCons (cVar 8) (aCons (cBin oMod (cBin oSub (cC (.int 0)) (cBin oMul (cBin oIx (cVar 2) (cVar 5)) (cVar 7))) (cVar 0)) aNil)))) (aCons (cVar 9) (aCons (cBin oMod (cBin oMul (cVar 4) (cVar 6)) (cVar 0)) aNil)))))) (sSet 4 (cBin oMod (cBin oMul (cVar 4) (cBin oIx (cVar 2) (cVar 5))) (cVar 0)))))))) (sRet (cTup (aCons (cVar 3) (aCons (cVar 4) aNil))))))
def F_to_ones : List PV → Tr PV := body (.ret .non) 10 c_to_ones
theorem g_to_ones (t : Tx T) : FnG T 2 (He.fAd T.K ("to_ones", none)) (fdOf T.K ("to_ones", none)) ["prime", "found", "numbers"] (SpC (kn T.K) (zV (kn T.K)) 3 F_to_ones) := fn_bodyZ (own := [3]) (c := c_to_ones) (N := N_to_ones) end_V t.d_to_ones sc_to_ones rfl (by decide) fun cdv A outer s H E g hr =>
 (sb_cons (ss_par (i := 3) (j := 4) rfl sc_to_ones.nd rfl rfl (by decide) rfl rfl (.inl ⟨rfl, rfl⟩) (.inr ⟨rfl, rfl⟩) (sf_list rfl rfl (t.fr_list) (SX.toV (se_var (i := 1) rfl (vis_by rfl) rfl))) (se_ix rfl (SX.toV (se_var (i := 2) rfl (vis_by rfl) rfl)) se_int (by intro _ _; rfl)))
 (sb_cons (ss_for (passes_of rfl) rfl (si_rng2 rfl (t.fr_range) se_int (se_len rfl rfl (t.fr_len) (SX.toV (se_var (i := 2) rfl (vis_by rfl) rfl)))) (fun _ => (sg_name (i := 5) sc_to_ones.nd rfl (loc_by rfl) rfl)) (fun _ => (sb_cons (ss_unp (sx_call (z := zV _) ⟨rfl, rfl, rfl, rfl, rfl⟩ (g_one_by t) (hr.mono (by decide)) rfl t.g_one_by (t.k_one_by) (b_one_by t) (sa_cons (se_var (i := 0) rfl (vis_by rfl) rfl) (sa_cons (se_var (i := 4) rfl (vis_by rfl) rfl) (sa_cons (se_ix rfl (SX.toV (se_var (i := 2) rfl (vis_by rfl) rfl)) (se_var (i := 5) rfl (vis_by rfl) rfl) (by intro _ _; rfl)) sa_nil))) rfl rfl) (sg_tup rfl rfl (sgs_cons (sg_name (i := 6) sc_to_ones.nd rfl (loc_by rfl) rfl) (sgs_cons (sg_name (i := 7) sc_to_ones.nd rfl (loc_by rfl) rfl) sgs_nil))))
 (sb_cons (ss_par (i := 8) (j := 9) rfl sc_to_ones.nd rfl rfl (by decide) rfl rfl (.inr ⟨rfl, rfl⟩) (.inr ⟨rfl, rfl⟩) (se_ix rfl (sv_own (i := 3) rfl (vis_by rfl) rfl) (sx_bin (z := zV _) op_sub' (SX.toV (se_var (i := 5) rfl (vis_by rfl) rfl)) (SX.toV se_int)) (by intro _ _; rfl)) (se_ix rfl (sv_own (i := 3) rfl (vis_by rfl) rfl) (se_var (i := 5) rfl (vis_by rfl) rfl) (by intro _ _; rfl)))
 (sb_cons (ss_setI (i := 3) rfl (vis_by rfl) rfl (sx_bin (z := zV _) op_sub' (SX.toV (se_var (i := 5) rfl (vis_by rfl) rfl)) (SX.toV se_int)) (sx_call (z := zV _) ⟨rfl, rfl, rfl, rfl, rfl⟩ (g_sum_of t) (hr.mono (by decide)) rfl t.g_sum_of (t.k_sum_of) (b_sum_of t) (sa_cons (se_var (i := 0) rfl (vis_by rfl) rfl) (sa_cons (sx_call (z := zV _) ⟨rfl, rfl, rfl, rfl, rfl⟩ (g_scaled_of t) (hr.mono (by decide)) rfl t.g_scaled_of (t.k_scaled_of) (b_scaled_of t) (sa_cons (se_var (i := 0) rfl (vis_by rfl) rfl) (sa_cons (se_var (i := 8) rfl (vis_by rfl) rfl) (sa_cons (se_var (i := 6) rfl (vis_by rfl) rfl) sa_nil))) rfl rfl) (sa_cons (se_var (i := 9) rfl (vis_by rfl) rfl) (sa_cons (se_var (i := 7) rfl (vis_by rfl) rfl) sa_nil)))) rfl rfl))
 (sb_cons (ss_setI (i := 3) rfl (vis_by rfl) rfl (se_var (i := 5) rfl (vis_by rfl) rfl) (sx_call (z := zV _) ⟨rfl, rfl, rfl, rfl, rfl⟩ (g_sum_of t) (hr.mono (by decide)) rfl t.g_sum_of (t.k_sum_of) (b_sum_of t) (sa_cons (se_var (i := 0) rfl (vis_by rfl) rfl) (sa_cons (sx_call (z := zV _) ⟨rfl, rfl, rfl, rfl, rfl⟩ (g_scaled_of t) (hr.mono (by decide)) rfl t.g_scaled_of (t.k_scaled_of) (b_scaled_of t) (sa_cons (se_var (i := 0) rfl (vis_by rfl) rfl) (sa_cons (se_var (i := 8) rfl (vis_by rfl) rfl) (sa_cons (sx_bin (z := zV _) op_mod' (SX.toV (sx_bin (z := zV _) op_sub' (SX.toV se_int) (SX.toV (sx_bin (z := zV _) (op_mul' rfl) (SX.toV (se_ix rfl (SX.toV (se_var (i := 2) rfl (vis_by rfl) rfl)) (se_var (i := 5) rfl (vis_by rfl) rfl) (by intro _ _; rfl))) (SX.toV (se_var (i := 7) rfl (vis_by rfl) rfl)))))) (SX.toV (se_var (i := 0) rfl (vis_by rfl) rfl))) sa_nil))) rfl rfl) (sa_cons (se_var (i := 9) rfl (vis_by rfl) rfl) (sa_cons (sx_bin (z := zV _) op_mod' (SX.toV (sx_bin (z := zV _) (op_mul' rfl) (SX.toV (se_var (i := 4) rfl (vis_by rfl) rfl)) (SX.toV (se_var (i := 6) rfl (vis_by rfl) rfl)))) (SX.toV (se_var (i := 0) rfl (vis_by rfl) rfl))) sa_nil)))) rfl rfl))
 (sb_one (ss_set (i := 4) sc_to_ones.nd rfl (loc_by rfl) rfl (sx_bin (z := zV _) op_mod' (SX.toV (sx_bin (z := zV _) (op_mul' rfl) (SX.toV (se_var (i := 4) rfl (vis_by rfl) rfl)) (SX.toV (se_ix rfl (SX.toV (se_var (i := 2) rfl (vis_by rfl) rfl)) (se_var (i := 5) rfl (vis_by rfl) rfl) (by intro _ _; rfl))))) (SX.toV (se_var (i := 0) rfl (vis_by rfl) rfl)))))))))))
 (sb_one (ss_give 3 (ss_ret (se_tup (sa_cons (se_var (i := 3) rfl (vis_by rfl) rfl) (sa_cons (se_var (i := 4) rfl (vis_by rfl) rfl) sa_nil))))))))
abbrev N_odd_of : List Str := ["prime", "rest"]
theorem sc_odd_of : FnScope N_odd_of ["prime"] (defScope s_odd_of) := ⟨rfl, rfl, rfl, by decide +kernel, rfl, by decide +kernel, by decide +kernel⟩
theorem b_odd_of (t : Tx T) : Binds T.K (fdOf T.K ("odd_of", none)) ["prime"] [] := t.d_odd_of.bindsN fun _ _ _ _ _ _ us hl => match us, hl with | [_], _ => rfl
def c_odd_of : Sc := (sRet (cBin oIx (cLc [1] (jRng1 (cVar 0)) (gSt 1) (tVal (cBin (oEq false) (cCall F_sign_of (aCons (cVar 0) (aCons (cVar 1) aNil))) (cUn oNeg (cC (.int 1))))) (cVar 1)) (cC (.int 0))))
def F_odd_of : List PV → Tr PV := body (.ret .non) 2 c_odd_of
theorem g_odd_of (t : Tx T) : FnG T 3 (He.fAd T.K ("odd_of", none)) (fdOf T.K ("odd_of", none)) ["prime"] (SpC (kn T.K) (zV (kn T.K)) 1 F_odd_of) := fn_bodyZ (own := []) (c := c_odd_of) (N := N_odd_of) end_V t.d_odd_of sc_odd_of rfl (by decide) fun cdv A outer s H E g hr =>
 (sb_one (ss_ret (se_ix rfl (SX.ofFV (sf_lc (own := [("rest", 1)]) rfl rfl sc_odd_of.nd (SI.toJ (si_rng1 rfl (t.fr_range) (se_var (i := 0) rfl (vis_by rfl) rfl))) (blkOk_by (own := [("rest", 1)]) rfl) rfl rfl (fun _ _ _ _ _ => (sg_name (i := 1) sc_odd_of.nd rfl (loc_by rfl) rfl)) (fun _ _ _ _ _ => (sts_one (st_cmp (op_eq' rfl hr.hu) (SX.toV (sx_call (z := zV _) ⟨rfl, rfl, rfl, rfl, rfl⟩ (g_sign_of t) (hr.mono (by decide)) rfl t.g_sign_of (t.k_sign_of) (b_sign_of t) (sa_cons (se_var (i := 0) rfl (vis_by rfl) rfl) (sa_cons (se_var (i := 1) rfl (vis_by rfl) rfl) sa_nil)) rfl rfl)) (SX.toV (se_neg se_int)) (nomark _)))) (fun _ _ _ _ _ => (se_var (i := 1) rfl (vis_by rfl) rfl)))) se_int (by intro _ _; rfl))))
abbrev N_told_last : List Str := ["prime", "sign"]
theorem sc_told_last : FnScope N_told_last ["prime", "sign"] (defScope s_told_last) := ⟨rfl, rfl, rfl, by decide +kernel, rfl, by decide +kernel, by decide +kernel⟩
theorem b_told_last (t : Tx T) : Binds T.K (fdOf T.K ("told_last", none)) ["prime", "sign"] [] := t.d_told_last.bindsN fun _ _ _ _ _ _ us hl => match us, hl with | [_, _], _ => rfl
def c_told_last : Sc := (sRet (cIf (tVal (cBin (oEq false) (cVar 1) (cC (.int 1)))) (cC (.int 1)) (cCall F_odd_of (aCons (cVar 0) aNil))))
def F_told_last : List PV → Tr PV := body (.ret .non) 2 c_told_last
theorem g_told_last (t : Tx T) : FnG T 4 (He.fAd T.K ("told_last", none)) (fdOf T.K ("told_last", none)) ["prime", "sign"] (SpC (kn T.K) (zV (kn T.K)) 2 F_told_last) := fn_bodyZ (own := []) (c := c_told_last) (N := N_told_last) end_V t.d_told_last sc_told_last rfl (by decide) fun cdv A outer s H E g hr =>
 (sb_one (ss_ret (sx_if (z := zV _) (st_cmp (op_eq' rfl hr.hu) (SX.toV (se_var (i := 1) rfl (vis_by rfl) rfl)) (SX.toV se_int) (nomark _)) se_int (sx_call (z := zV _) ⟨rfl, rfl, rfl, rfl, rfl⟩ (g_odd_of t) (hr.mono (by decide)) rfl t.g_odd_of (t.k_odd_of) (b_odd_of t) (sa_cons (se_var (i := 0) rfl (vis_by rfl) rfl) sa_nil) rfl rfl))))
abbrev N_root_of : List Str := ["prime", "rest", "number"]
theorem sc_root_of : FnScope N_root_of ["prime", "rest"] (defScope s_root_of) := ⟨rfl, rfl, rfl, by decide +kernel, rfl, by decide +kernel, by decide +kernel⟩
theorem b_root_of (t : Tx T) : Binds T.K (fdOf T.K ("root_of", none)) ["prime", "rest"] [] := t.d_root_of.bindsN fun _ _ _ _ _ _ us hl => match us, hl with | [_, _], _ => rfl
def c_root_of : Sc := (sSeq (sFor (jRng1 (cVar 0)) (gSt 2) (sIf (tVal (cBin (oEq false) (cBin oMod (cBin oMul (cVar 2) (cVar 2)) (cVar 0)) (cVar 1))) (sRet (cVar 2)) sSkip)) (sRet (cC .non)))
def F_root_of : List PV → Tr PV := body (.ret .non) 3 c_root_of
theorem g_root_of (t : Tx T) : FnG T 1 (He.fAd T.K ("root_of", none)) (fdOf T.K ("root_of", none)) ["prime", "rest"] (SpC (kn T.K) (zV (kn T.K)) 2 F_root_of) := fn_bodyZ (own := []) (c := c_root_of) (N := N_root_of) end_V t.d_root_of sc_root_of rfl (by decide) fun cdv A outer s H E g hr =>
 (sb_cons (ss_for (passes_of rfl) rfl (si_rng1 rfl (t.fr_range) (se_var (i := 0) rfl (vis_by rfl) rfl)) (fun _ => (sg_name (i := 2) sc_root_of.nd rfl (loc_by rfl) rfl)) (fun _ => (sb_one (ss_if (st_cmp (op_eq' rfl hr.hu) (SX.toV (sx_bin (z := zV _) op_mod' (SX.toV (sx_bin (z := zV _) (op_mul' rfl) (SX.toV (se_var (i := 2) rfl (vis_by rfl) rfl)) (SX.toV (se_var (i := 2) rfl (vis_by rfl) rfl)))) (SX.toV (se_var (i := 0) rfl (vis_by rfl) rfl)))) (SX.toV (se_var (i := 1) rfl (vis_by rfl) rfl)) (nomark _)) (sb_one (ss_ret (se_var (i := 2) rfl (vis_by rfl) rfl))) sb_nil))))
 (sb_one (ss_ret se_non)))
abbrev N_plain_lead_of : List Str := ["prime", "rows", "found", "rests", "numbers", "led", "last", "due", "many", "turn", "rest"]
theorem sc_plain_lead_of : FnScope N_plain_lead_of ["prime", "rows"] (defScope s_plain_lead_of) := ⟨rfl, rfl, rfl, by decide +kernel, rfl, by decide +kernel, by decide +kernel⟩
theorem b_plain_lead_of (t : Tx T) : Binds T.K (fdOf T.K ("plain_lead_of", none)) ["prime", "rows"] [] := t.d_plain_lead_of.bindsN fun _ _ _ _ _ _ us hl => match us, hl with | [_, _], _ => rfl
def c_plain_lead_of : Sc := (sSeq (sUnp (cCall F_squares_of (aCons (cVar 0) (aCons (cVar 1) aNil))) (gTupc 2 (gsCons (gSt 2) (gsCons (gSt 3) gsNil)))) (sSeq (sSet 4 (cLc [10] (jSeq (cVar 3)) (gSt 10) (tVal (cBin (oEq true) (cVar 10) (cC (.int 0)))) (cVar 10))) (sSeq (sIf (tVal (cBin (oEq false) (cVar 4) (cLst aNil))) (sRet (cVar 2)) sSkip) (sSeq (sUnp (cCall F_to_ones (aCons (cVar 0) (aCons (cVar 2) (aCons (cVar 4) aNil)))) (gTupc 2 (gsCons (gSt 5) (gsCons (gSt 6) gsNil)))) (sSeq (sSet 7 (cCall F_told_last (aCons (cVar 0) (aCons (cCall F_sign_of (aCons (cVar 0) (aCons (cVar 6) aNil))) aNil)))) (sSeq (sSet 8 (cUn oLen (cVar 4))) (sSeq (sSet 9 (cCall F_root_of (aCons (cVar 0) (aCons (cBin oMod (cBin oMul (cVar 7) (cCall F_undone_of (aCons (cVar 0) (aCons (cVar 6) aNil)))) (cVar 0)) aNil)))) (sRet (cUn oTuple (cBin oAdd (cBin oAdd (cSl (cVar 5) pNo (pAt (cBin oSub (cVar 8) (cC (.int 1))))) (cLst (aCons (cCall F_scaled_of (aCons (cVar 0) (aCons (cBin oIx (cVar 5) (cBin oSub (cVar 8) (cC (.int 1)))) (aCons (cVar 9) aNil)))) aNil))) (cSl (cVar 5) (pAt (cVar 8)) pNo)))))))))))
def F_plain_lead_of : List PV → Tr PV := body (.ret .non) 11 c_plain_lead_of
theorem g_plain_lead_of (t : Tx T) : FnG T 7 (He.fAd T.K ("plain_lead_of", none)) (fdOf T.K ("plain_lead_of", none)) ["prime", "rows"] (SpC (kn T.K) (zV (kn T.K)) 2 F_plain_lead_of) := fn_bodyZ (own := []) (c := c_plain_lead_of) (N := N_plain_lead_of) end_V t.d_plain_lead_of sc_plain_lead_of rfl (by decide) fun cdv A outer s H E g hr =>
 (sb_cons (ss_unp (sx_call (z := zV _) ⟨rfl, rfl, rfl, rfl, rfl⟩ (g_squares_of t) (hr.mono (by decide)) rfl t.g_squares_of (t.k_squares_of) (b_squares_of t) (sa_cons (se_var (i := 0) rfl (vis_by rfl) rfl) (sa_cons (se_var (i := 1) rfl (vis_by rfl) rfl) sa_nil)) rfl rfl) (sg_tup rfl rfl (sgs_cons (sg_name (i := 2) sc_plain_lead_of.nd rfl (loc_by rfl) rfl) (sgs_cons (sg_name (i := 3) sc_plain_lead_of.nd rfl (loc_by rfl) rfl) sgs_nil))))
 (sb_cons (ss_setLc (own := [("rest", 10)]) (i := 4) rfl rfl sc_plain_lead_of.nd rfl rfl rfl rfl (sj_seq rfl (SX.toV (se_var (i := 3) rfl (vis_by rfl) rfl))) (blkOk_by (own := [("rest", 10)]) rfl) rfl rfl (fun _ _ _ _ _ => (sg_name (i := 10) sc_plain_lead_of.nd rfl (loc_by rfl) rfl)) (fun _ _ _ _ _ => (sts_one (st_cmp (op_ne' rfl hr.hu) (SX.toV (se_var (i := 10) rfl (vis_by rfl) rfl)) (SX.toV se_int) (nomark _)))) (fun _ _ _ _ _ => (se_var (i := 10) rfl (vis_by rfl) rfl)))
 (sb_cons (ss_if (st_cmp (op_eq' rfl hr.hu) (SX.toV (se_var (i := 4) rfl (vis_by rfl) rfl)) (SX.ofFV (sf_lst sa_nil)) (nomark _)) (sb_one (ss_ret (se_var (i := 2) rfl (vis_by rfl) rfl))) sb_nil)
 (sb_cons (ss_unp (sx_call (z := zV _) ⟨rfl, rfl, rfl, rfl, rfl⟩ (g_to_ones t) (hr.mono (by decide)) rfl t.g_to_ones (t.k_to_ones) (b_to_ones t) (sa_cons (se_var (i := 0) rfl (vis_by rfl) rfl) (sa_cons (se_var (i := 2) rfl (vis_by rfl) rfl) (sa_cons (se_var (i := 4) rfl (vis_by rfl) rfl) sa_nil))) rfl rfl) (sg_tup rfl rfl (sgs_cons (sg_name (i := 5) sc_plain_lead_of.nd rfl (loc_by rfl) rfl) (sgs_cons (sg_name (i := 6) sc_plain_lead_of.nd rfl (loc_by rfl) rfl) sgs_nil))))
 (sb_cons (ss_set (i := 7) sc_plain_lead_of.nd rfl (loc_by rfl) rfl (sx_call (z := zV _) ⟨rfl, rfl, rfl, rfl, rfl⟩ (g_told_last t) (hr.mono (by decide)) rfl t.g_told_last (t.k_told_last) (b_told_last t) (sa_cons (se_var (i := 0) rfl (vis_by rfl) rfl) (sa_cons (sx_call (z := zV _) ⟨rfl, rfl, rfl, rfl, rfl⟩ (g_sign_of t) (hr.mono (by decide)) rfl t.g_sign_of (t.k_sign_of) (b_sign_of t) (sa_cons (se_var (i := 0) rfl (vis_by rfl) rfl) (sa_cons (se_var (i := 6) rfl (vis_by rfl) rfl) sa_nil)) rfl rfl) sa_nil)) rfl rfl))
 (sb_cons (ss_set (i := 8) sc_plain_lead_of.nd rfl (loc_by rfl) rfl (se_len rfl rfl (t.fr_len) (SX.toV (se_var (i := 4) rfl (vis_by rfl) rfl))))
 (sb_cons (ss_set (i := 9) sc_plain_lead_of.nd rfl (loc_by rfl) rfl (sx_call (z := zV _) ⟨rfl, rfl, rfl, rfl, rfl⟩ (g_root_of t) (hr.mono (by decide)) rfl t.g_root_of (t.k_root_of) (b_root_of t) (sa_cons (se_var (i := 0) rfl (vis_by rfl) rfl) (sa_cons (sx_bin (z := zV _) op_mod' (SX.toV (sx_bin (z := zV _) (op_mul' rfl) (SX.toV (se_var (i := 7) rfl (vis_by rfl) rfl)) (SX.toV (sx_call (z := zV _) ⟨rfl, rfl, rfl, rfl, rfl⟩ (g_undone_of t) (hr.mono (by decide)) rfl t.g_undone_of (t.k_undone_of) (b_undone_of t) (sa_cons (se_var (i := 0) rfl (vis_by rfl) rfl) (sa_cons (se_var (i := 6) rfl (vis_by rfl) rfl) sa_nil)) rfl rfl)))) (SX.toV (se_var (i := 0) rfl (vis_by rfl) rfl))) sa_nil)) rfl rfl))
 (sb_one (ss_ret (se_tuple rfl rfl (t.fr_tuple) (SX.toV (sx_bin (z := zV _) (op_add' rfl) (SX.toV (sx_bin (z := zV _) (op_add' rfl) (SX.toV (se_sl rfl (SX.toV (se_var (i := 5) rfl (vis_by rfl) rfl)) so_no (so_at (sx_bin (z := zV _) op_sub' (SX.toV (se_var (i := 8) rfl (vis_by rfl) rfl)) (SX.toV se_int))))) (SX.ofFV (sf_lst (sa_cons (sx_call (z := zV _) ⟨rfl, rfl, rfl, rfl, rfl⟩ (g_scaled_of t) (hr.mono (by decide)) rfl t.g_scaled_of (t.k_scaled_of) (b_scaled_of t) (sa_cons (se_var (i := 0) rfl (vis_by rfl) rfl) (sa_cons (se_ix rfl (SX.toV (se_var (i := 5) rfl (vis_by rfl) rfl)) (sx_bin (z := zV _) op_sub' (SX.toV (se_var (i := 8) rfl (vis_by rfl) rfl)) (SX.toV se_int)) (by intro _ _; rfl)) (sa_cons (se_var (i := 9) rfl (vis_by rfl) rfl) sa_nil))) rfl rfl) sa_nil))))) (SX.toV (se_sl rfl (SX.toV (se_var (i := 5) rfl (vis_by rfl) rfl)) (so_at (se_var (i := 8) rfl (vis_by rfl) rfl)) so_no))))))))))))))
abbrev N_lead_of : List Str := ["prime", "rows", "others", "back"]
theorem sc_lead_of : FnScope N_lead_of ["prime", "rows", "others"] (defScope s_lead_of) := ⟨rfl, rfl, rfl, by decide +kernel, rfl, by decide +kernel, by decide +kernel⟩
theorem b_lead_of (t : Tx T) : Binds T.K (fdOf T.K ("lead_of", none)) ["prime", "rows", "others"] [] := t.d_lead_of.bindsN fun _ _ _ _ _ _ us hl => match us, hl with | [_, _, _], _ => rfl
def c_lead_of : Sc := (sSeq (sIf (tVal (cBin (oEq true) (cCall F_kind_in (aCons (cVar 0) (aCons (cVar 1) aNil))) (cCall F_kind_in (aCons (cVar 0) (aCons (cVar 2) aNil))))) (sRet (cC .non)) sSkip) (sSeq (sSet 3 (cCall F_undone_table (aCons (cVar 0) (aCons (cCall F_plain_lead_of (aCons (cVar 0) (aCons (cVar 1) aNil))) aNil)))) (sRet (cCall F_times_of (aCons (cVar 0) (aCons (cVar 3) (aCons (cCall F_plain_lead_of (aCons (cVar 0) (aCons (cVar 2) aNil))) aNil)))))))
def F_lead_of : List PV → Tr PV := body (.ret .non) 4 c_lead_of
theorem g_lead_of (t : Tx T) : FnG T 8 (He.fAd T.K ("lead_of", none)) (fdOf T.K ("lead_of", none)) ["prime", "rows", "others"] (SpC (kn T.K) (zV (kn T.K)) 3 F_lead_of) := fn_bodyZ (own := []) (c := c_lead_of) (N := N_lead_of) end_V t.d_lead_of sc_lead_of rfl (by decide) fun cdv A outer s H E g hr =>
 (sb_cons (ss_if (st_cmp (op_ne' rfl hr.hu) (SX.toV (sx_call (z := zV _) ⟨rfl, rfl, rfl, rfl, rfl⟩ (g_kind_in t) (hr.mono (by decide)) rfl t.g_kind_in (t.k_kind_in) (b_kind_in t) (sa_cons (se_var (i := 0) rfl (vis_by rfl) rfl) (sa_cons (se_var (i := 1) rfl (vis_by rfl) rfl) sa_nil)) rfl rfl)) (SX.toV (sx_call (z := zV _) ⟨rfl, rfl, rfl, rfl, rfl⟩ (g_kind_in t) (hr.mono (by decide)) rfl t.g_kind_in (t.k_kind_in) (b_kind_in t) (sa_cons (se_var (i := 0) rfl (vis_by rfl) rfl) (sa_cons (se_var (i := 2) rfl (vis_by rfl) rfl) sa_nil)) rfl rfl)) (nomark _)) (sb_one (ss_ret se_non)) sb_nil)
 (sb_cons (ss_set (i := 3) sc_lead_of.nd rfl (loc_by rfl) rfl (sx_call (z := zV _) ⟨rfl, rfl, rfl, rfl, rfl⟩ (g_undone_table t) (hr.mono (by decide)) rfl t.g_undone_table (t.k_undone_table) (b_undone_table t) (sa_cons (se_var (i := 0) rfl (vis_by rfl) rfl) (sa_cons (sx_call (z := zV _) ⟨rfl, rfl, rfl, rfl, rfl⟩ (g_plain_lead_of t) (hr.mono (by decide)) rfl t.g_plain_lead_of (t.k_plain_lead_of) (b_plain_lead_of t) (sa_cons (se_var (i := 0) rfl (vis_by rfl) rfl) (sa_cons (se_var (i := 1) rfl (vis_by rfl) rfl) sa_nil)) rfl rfl) sa_nil)) rfl rfl))
 (sb_one (ss_ret (sx_call (z := zV _) ⟨rfl, rfl, rfl, rfl, rfl⟩ (g_times_of t) (hr.mono (by decide)) rfl t.g_times_of (t.k_times_of) (b_times_of t) (sa_cons (se_var (i := 0) rfl (vis_by rfl) rfl) (sa_cons (se_var (i := 3) rfl (vis_by rfl) rfl) (sa_cons (sx_call (z := zV _) ⟨rfl, rfl, rfl, rfl, rfl⟩ (g_plain_lead_of t) (hr.mono (by decide)) rfl t.g_plain_lead_of (t.k_plain_lead_of) (b_plain_lead_of t) (sa_cons (se_var (i := 0) rfl (vis_by rfl) rfl) (sa_cons (se_var (i := 2) rfl (vis_by rfl) rfl) sa_nil)) rfl rfl) sa_nil))) rfl rfl)))))
abbrev N_keeper_by : List Str := ["room", "near", "far", "prime", "here", "rest", "there", "others", "table", "goal", "row"]
theorem sc_keeper_by : FnScope N_keeper_by ["room", "near", "far"] (defScope s_keeper_by) := ⟨rfl, rfl, rfl, by decide +kernel, rfl, by decide +kernel, by decide +kernel⟩
theorem b_keeper_by (t : Tx T) : Binds T.K (fdOf T.K ("keeper_by", none)) ["room", "near", "far"] [] := t.d_keeper_by.bindsN fun _ _ _ _ _ _ us hl => match us, hl with | [_, _, _], _ => rfl
def c_keeper_by : Sc := (sSeq (sSet 3 (cUn (oFld js_own_prime) (cVar 0))) (sSeq (sUnp (cCall F_framed (aCons (cVar 0) (aCons (cBin oIx (cVar 1) (cC (.int 0))) (aCons (cBin oIx (cVar 1) (cC (.int 1))) (aCons (cBin oIx (cVar 1) (cC (.int 2))) aNil))))) (gTupc 2 (gsCons (gSt 4) (gsCons (gSt 5) gsNil)))) (sSeq (sUnp (cCall F_framed (aCons (cVar 0) (aCons (cBin oIx (cVar 2) (cC (.int 0))) (aCons (cBin oIx (cVar 2) (cC (.int 1))) (aCons (cBin oIx (cVar 2) (cC (.int 2))) aNil))))) (gTupc 2 (gsCons (gSt 6) (gsCons (gSt 7) gsNil)))) (sSeq (sSet 8 (cCall F_lead_of (aCons (cVar 3) (aCons (cCall F_betweens_of (aCons (cVar 0) (aCons (cVar 5) aNil))) (aCons (cCall F_betweens_of (aCons (cVar 0) (aCons (cVar 7) aNil))) aNil))))) (sSeq (sSet 9 (cBin oAdd (cVar 6) (cLc [10] (jSeq (cVar 8)) (gSt 10) cYes (cCall F_added (aCons (cVar 0) (aCons (cVar 10) (aCons (cVar 7) aNil))))))) (sRet (cCall F_times_of (aCons (cVar 3) (aCons (cCall F_undone_table (aCons (cVar 3) (aCons (cUn oTuple (cBin oAdd (cVar 4) (cVar 5))) aNil))) (aCons (cUn oTuple (cVar 9)) aNil))))))))))
def F_keeper_by : List PV → Tr PV := body (.ret .non) 11 c_keeper_by
theorem g_keeper_by (t : Tx T) : FnG T 9 (He.fAd T.K ("keeper_by", none)) (fdOf T.K ("keeper_by", none)) ["room", "near", "far"] (SpC (kn T.K) (zV (kn T.K)) 3 F_keeper_by) := fn_bodyZ (own := []) (c := c_keeper_by) (N := N_keeper_by) end_V t.d_keeper_by sc_keeper_by rfl (by decide) fun cdv A outer s H E g hr =>
 (sb_cons (ss_set (i := 3) sc_keeper_by.nd rfl (loc_by rfl) rfl (se_fld rfl t.fl_own_prime (se_var (i := 0) rfl (vis_by rfl) rfl)))
 (sb_cons (ss_unp (sx_call (z := zV _) ⟨rfl, rfl, rfl, rfl, rfl⟩ (g_framed t) (hr.mono (by decide)) rfl t.g_framed (t.k_framed) (b_framed t) (sa_cons (se_var (i := 0) rfl (vis_by rfl) rfl) (sa_cons (se_ix rfl (SX.toV (se_var (i := 1) rfl (vis_by rfl) rfl)) se_int (by intro _ _; rfl)) (sa_cons (se_ix rfl (SX.toV (se_var (i := 1) rfl (vis_by rfl) rfl)) se_int (by intro _ _; rfl)) (sa_cons (se_ix rfl (SX.toV (se_var (i := 1) rfl (vis_by rfl) rfl)) se_int (by intro _ _; rfl)) sa_nil)))) rfl rfl) (sg_tup rfl rfl (sgs_cons (sg_name (i := 4) sc_keeper_by.nd rfl (loc_by rfl) rfl) (sgs_cons (sg_name (i := 5) sc_keeper_by.nd rfl (loc_by rfl) rfl) sgs_nil))))
 (sb_cons (ss_unp (sx_call (z := zV _) ⟨rfl, rfl, rfl, rfl, rfl⟩ (g_framed t) (hr.mono (by decide)) rfl t.g_framed (t.k_framed) (b_framed t) (sa_cons (se_var (i := 0) rfl (vis_by rfl) rfl) (sa_cons (se_ix rfl (SX.toV (se_var (i := 2) rfl (vis_by rfl) rfl)) se_int (by intro _ _; rfl)) (sa_cons (se_ix rfl (SX.toV (se_var (i := 2) rfl (vis_by rfl) rfl)) se_int (by intro _ _; rfl)) (sa_cons (se_ix rfl (SX.toV (se_var (i := 2) rfl (vis_by rfl) rfl)) se_int (by intro _ _; rfl)) sa_nil)))) rfl rfl) (sg_tup rfl rfl (sgs_cons (sg_name (i := 6) sc_keeper_by.nd rfl (loc_by rfl) rfl) (sgs_cons (sg_name (i := 7) sc_keeper_by.nd rfl (loc_by rfl) rfl) sgs_nil))))
 (sb_cons (ss_set (i := 8) sc_keeper_by.nd rfl (loc_by rfl) rfl (sx_call (z := zV _) ⟨rfl, rfl, rfl, rfl, rfl⟩ (g_lead_of t) (hr.mono (by decide)) rfl t.g_lead_of (t.k_lead_of) (b_lead_of t) (sa_cons (se_var (i := 3) rfl (vis_by rfl) rfl) (sa_cons (sx_call (z := zV _) ⟨rfl, rfl, rfl, rfl, rfl⟩ (g_betweens_of t) (hr.mono (by decide)) rfl t.g_betweens_of (t.k_betweens_of) (b_betweens_of t) (sa_cons (se_var (i := 0) rfl (vis_by rfl) rfl) (sa_cons (se_var (i := 5) rfl (vis_by rfl) rfl) sa_nil)) rfl rfl) (sa_cons (sx_call (z := zV _) ⟨rfl, rfl, rfl, rfl, rfl⟩ (g_betweens_of t) (hr.mono (by decide)) rfl t.g_betweens_of (t.k_betweens_of) (b_betweens_of t) (sa_cons (se_var (i := 0) rfl (vis_by rfl) rfl) (sa_cons (se_var (i := 7) rfl (vis_by rfl) rfl) sa_nil)) rfl rfl) sa_nil))) rfl rfl))
 (sb_cons (ss_set (i := 9) sc_keeper_by.nd rfl (loc_by rfl) rfl (sx_bin (z := zV _) (op_add' rfl) (SX.toV (se_var (i := 6) rfl (vis_by rfl) rfl)) (SX.ofFV (sf_lc (own := [("row", 10)]) rfl rfl sc_keeper_by.nd (sj_seq rfl (SX.toV (se_var (i := 8) rfl (vis_by rfl) rfl))) (blkOk_by (own := [("row", 10)]) rfl) rfl rfl (fun _ _ _ _ _ => (sg_name (i := 10) sc_keeper_by.nd rfl (loc_by rfl) rfl)) (fun _ _ _ _ _ => sts_nil) (fun _ _ _ _ _ => (sx_call (z := zV _) ⟨rfl, rfl, rfl, rfl, rfl⟩ (g_added t) (hr.mono (by decide)) rfl t.g_added (t.k_added) (b_added t) (sa_cons (se_var (i := 0) rfl (vis_by rfl) rfl) (sa_cons (se_var (i := 10) rfl (vis_by rfl) rfl) (sa_cons (se_var (i := 7) rfl (vis_by rfl) rfl) sa_nil))) rfl rfl))))))
 (sb_one (ss_ret (sx_call (z := zV _) ⟨rfl, rfl, rfl, rfl, rfl⟩ (g_times_of t) (hr.mono (by decide)) rfl t.g_times_of (t.k_times_of) (b_times_of t) (sa_cons (se_var (i := 3) rfl (vis_by rfl) rfl) (sa_cons (sx_call (z := zV _) ⟨rfl, rfl, rfl, rfl, rfl⟩ (g_undone_table t) (hr.mono (by decide)) rfl t.g_undone_table (t.k_undone_table) (b_undone_table t) (sa_cons (se_var (i := 3) rfl (vis_by rfl) rfl) (sa_cons (se_tuple rfl rfl (t.fr_tuple) (SX.toV (sx_bin (z := zV _) (op_add' rfl) (SX.toV (se_var (i := 4) rfl (vis_by rfl) rfl)) (SX.toV (se_var (i := 5) rfl (vis_by rfl) rfl))))) sa_nil)) rfl rfl) (sa_cons (se_tuple rfl rfl (t.fr_tuple) (SX.toV (se_var (i := 9) rfl (vis_by rfl) rfl))) sa_nil))) rfl rfl))))))))
abbrev N_keeper_of : List Str := ["room", "rows", "images", "lists", "near", "far", "some", "rests"]
theorem sc_keeper_of : FnScope N_keeper_of ["room", "rows", "images"] (defScope s_keeper_of) := ⟨rfl, rfl, rfl, by decide +kernel, rfl, by decide +kernel, by decide +kernel⟩
theorem b_keeper_of (t : Tx T) : Binds T.K (fdOf T.K ("keeper_of", none)) ["room", "rows", "images"] [] := t.d_keeper_of.bindsN fun _ _ _ _ _ _ us hl => match us, hl with | [_, _, _], _ => rfl
def c_keeper_of : Sc := (sSeq (sSet 3 (cCall F_split (aCons (cVar 0) (aCons (cVar 1) aNil)))) (sSeq (sSet 4 (cLc [6] (jSeq (cVar 3)) (gSt 6) cYes (cLc [7] (jSeq (cVar 6)) (gSt 7) cYes (cCall F_added (aCons (cVar 0) (aCons (cVar 7) (aCons (cVar 1) aNil))))))) (sSeq (sSet 5 (cLc [6] (jSeq (cVar 3)) (gSt 6) cYes (cLc [7] (jSeq (cVar 6)) (gSt 7) cYes (cCall F_added (aCons (cVar 0) (aCons (cVar 7) (aCons (cVar 2) aNil))))))) (sRet (cCall F_keeper_by (aCons (cVar 0) (aCons (cVar 4) (aCons (cVar 5) aNil))))))))
def F_keeper_of : List PV → Tr PV := body (.ret .non) 8 c_keeper_of
theorem g_keeper_of (t : Tx T) : FnG T 10 (He.fAd T.K ("keeper_of", none)) (fdOf T.K ("keeper_of", none)) ["room", "rows", "images"] (SpC (kn T.K) (zV (kn T.K)) 3 F_keeper_of) := fn_bodyZ (own := []) (c := c_keeper_of) (N := N_keeper_of) end_V t.d_keeper_of sc_keeper_of rfl (by decide) fun cdv A outer s H E g hr =>
 (sb_cons (ss_set (i := 3) sc_keeper_of.nd rfl (loc_by rfl) rfl (sx_call (z := zV _) ⟨rfl, rfl, rfl, rfl, rfl⟩ (g_split t) (hr.mono (by decide)) rfl t.g_split (t.k_split) (b_split t) (sa_cons (se_var (i := 0) rfl (vis_by rfl) rfl) (sa_cons (se_var (i := 1) rfl (vis_by rfl) rfl) sa_nil)) rfl rfl))
 (sb_cons (ss_setLc (own := [("some", 6)]) (i := 4) rfl rfl sc_keeper_of.nd rfl rfl rfl rfl (sj_seq rfl (SX.toV (se_var (i := 3) rfl (vis_by rfl) rfl))) (blkOk_by (own := [("some", 6)]) rfl) rfl rfl (fun _ _ _ _ _ => (sg_name (i := 6) sc_keeper_of.nd rfl (loc_by rfl) rfl)) (fun _ _ _ _ _ => sts_nil) (fun _ _ _ _ _ => (SX.ofF (sf_lc (own := [("rests", 7)]) rfl rfl sc_keeper_of.nd (sj_seq rfl (SX.toV (se_var (i := 6) rfl (vis_by rfl) rfl))) (blkOk_by (own := [("rests", 7)]) rfl) rfl rfl (fun _ _ _ _ _ => (sg_name (i := 7) sc_keeper_of.nd rfl (loc_by rfl) rfl)) (fun _ _ _ _ _ => sts_nil) (fun _ _ _ _ _ => (sx_call (z := zV _) ⟨rfl, rfl, rfl, rfl, rfl⟩ (g_added t) (hr.mono (by decide)) rfl t.g_added (t.k_added) (b_added t) (sa_cons (se_var (i := 0) rfl (vis_by rfl) rfl) (sa_cons (se_var (i := 7) rfl (vis_by rfl) rfl) (sa_cons (se_var (i := 1) rfl (vis_by rfl) rfl) sa_nil))) rfl rfl))))))
 (sb_cons (ss_setLc (own := [("some", 6)]) (i := 5) rfl rfl sc_keeper_of.nd rfl rfl rfl rfl (sj_seq rfl (SX.toV (se_var (i := 3) rfl (vis_by rfl) rfl))) (blkOk_by (own := [("some", 6)]) rfl) rfl rfl (fun _ _ _ _ _ => (sg_name (i := 6) sc_keeper_of.nd rfl (loc_by rfl) rfl)) (fun _ _ _ _ _ => sts_nil) (fun _ _ _ _ _ => (SX.ofF (sf_lc (own := [("rests", 7)]) rfl rfl sc_keeper_of.nd (sj_seq rfl (SX.toV (se_var (i := 6) rfl (vis_by rfl) rfl))) (blkOk_by (own := [("rests", 7)]) rfl) rfl rfl (fun _ _ _ _ _ => (sg_name (i := 7) sc_keeper_of.nd rfl (loc_by rfl) rfl)) (fun _ _ _ _ _ => sts_nil) (fun _ _ _ _ _ => (sx_call (z := zV _) ⟨rfl, rfl, rfl, rfl, rfl⟩ (g_added t) (hr.mono (by decide)) rfl t.g_added (t.k_added) (b_added t) (sa_cons (se_var (i := 0) rfl (vis_by rfl) rfl) (sa_cons (se_var (i := 7) rfl (vis_by rfl) rfl) (sa_cons (se_var (i := 2) rfl (vis_by rfl) rfl) sa_nil))) rfl rfl))))))
 (sb_one (ss_ret (sx_call (z := zV _) ⟨rfl, rfl, rfl, rfl, rfl⟩ (g_keeper_by t) (hr.mono (by decide)) rfl t.g_keeper_by (t.k_keeper_by) (b_keeper_by t) (sa_cons (se_var (i := 0) rfl (vis_by rfl) rfl) (sa_cons (se_var (i := 4) rfl (vis_by rfl) rfl) (sa_cons (se_var (i := 5) rfl (vis_by rfl) rfl) sa_nil))) rfl rfl))))))
abbrev N_keeper_on : List Str := ["room", "part", "images", "rows", "led"]
theorem sc_keeper_on : FnScope N_keeper_on ["room", "part", "images"] (defScope s_keeper_on) := ⟨rfl, rfl, rfl, by decide +kernel, rfl, by decide +kernel, by decide +kernel⟩
theorem b_keeper_on (t : Tx T) : Binds T.K (fdOf T.K ("keeper_on", none)) ["room", "part", "images"] [] := t.d_keeper_on.bindsN fun _ _ _ _ _ _ us hl => match us, hl with | [_, _, _], _ => rfl
def c_keeper_on : Sc := (sSeq (sUnp (cCall F_told_map (aCons (cVar 0) (aCons (cVar 1) (aCons (cVar 2) aNil)))) (gTupc 2 (gsCons (gSt 3) (gsCons (gSt 4) gsNil)))) (sRet (cIf (tVal (cUn (oIsNon true) (cCall F_bar_of (aCons (cVar 0) (aCons (cVar 3) (aCons (cVar 4) aNil)))))) (cC .non) (cCall F_keeper_of (aCons (cVar 0) (aCons (cVar 3) (aCons (cVar 4) aNil)))))))
def F_keeper_on : List PV → Tr PV := body (.ret .non) 5 c_keeper_on
theorem g_keeper_on (t : Tx T) : FnG T 11 (He.fAd T.K ("keeper_on", none)) (fdOf T.K ("keeper_on", none)) ["room", "part", "images"] (SpC (kn T.K) (zV (kn T.K)) 3 F_keeper_on) := fn_bodyZ (own := []) (c := c_keeper_on) (N := N_keeper_on) end_V t.d_keeper_on sc_keeper_on rfl (by decide) fun cdv A outer s H E g hr =>
 (sb_cons (ss_unp (sx_call (z := zV _) ⟨rfl, rfl, rfl, rfl, rfl⟩ (g_told_map t) (hr.mono (by decide)) rfl t.g_told_map (t.k_told_map) (b_told_map t) (sa_cons (se_var (i := 0) rfl (vis_by rfl) rfl) (sa_cons (se_var (i := 1) rfl (vis_by rfl) rfl) (sa_cons (se_var (i := 2) rfl (vis_by rfl) rfl) sa_nil))) rfl rfl) (sg_tup rfl rfl (sgs_cons (sg_name (i := 3) sc_keeper_on.nd rfl (loc_by rfl) rfl) (sgs_cons (sg_name (i := 4) sc_keeper_on.nd rfl (loc_by rfl) rfl) sgs_nil))))
 (sb_one (ss_ret (sx_if (z := zV _) (st_notN (SX.toV (sx_call (z := zV _) ⟨rfl, rfl, rfl, rfl, rfl⟩ (g_bar_of t) (hr.mono (by decide)) rfl t.g_bar_of (t.k_bar_of) (b_bar_of t) (sa_cons (se_var (i := 0) rfl (vis_by rfl) rfl) (sa_cons (se_var (i := 3) rfl (vis_by rfl) rfl) (sa_cons (se_var (i := 4) rfl (vis_by rfl) rfl) sa_nil))) rfl rfl))) se_non (sx_call (z := zV _) ⟨rfl, rfl, rfl, rfl, rfl⟩ (g_keeper_of t) (hr.mono (by decide)) rfl t.g_keeper_of (t.k_keeper_of) (b_keeper_of t) (sa_cons (se_var (i := 0) rfl (vis_by rfl) rfl) (sa_cons (se_var (i := 3) rfl (vis_by rfl) rfl) (sa_cons (se_var (i := 4) rfl (vis_by rfl) rfl) sa_nil))) rfl rfl)))))
abbrev N_keeps_all : List Str := ["room", "table"]
theorem sc_keeps_all : FnScope N_keeps_all ["room", "table"] (defScope s_keeps_all) := ⟨rfl, rfl, rfl, by decide +kernel, rfl, by decide +kernel, by decide +kernel⟩
theorem b_keeps_all (t : Tx T) : Binds T.K (fdOf T.K ("keeps_all", none)) ["room", "table"] [] := t.d_keeps_all.bindsN fun _ _ _ _ _ _ us hl => match us, hl with | [_, _], _ => rfl
def c_keeps_all : Sc := (sRet (cBin (oEq false) (cCall F_betweens_of (aCons (cVar 0) (aCons (cVar 1) aNil))) (cUn (oFld js_own_rows) (cVar 0))))
def F_keeps_all : List PV → Tr PV := body (.ret .non) 2 c_keeps_all
theorem g_keeps_all (t : Tx T) : FnG T 5 (He.fAd T.K ("keeps_all", none)) (fdOf T.K ("keeps_all", none)) ["room", "table"] (SpC (kn T.K) (zV (kn T.K)) 2 F_keeps_all) := fn_bodyZ (own := []) (c := c_keeps_all) (N := N_keeps_all) end_V t.d_keeps_all sc_keeps_all rfl (by decide) fun cdv A outer s H E g hr =>
 (sb_one (ss_ret (sx_cmp (z := zV _) (op_eq' rfl hr.hu) (SX.toV (sx_call (z := zV _) ⟨rfl, rfl, rfl, rfl, rfl⟩ (g_betweens_of t) (hr.mono (by decide)) rfl t.g_betweens_of (t.k_betweens_of) (b_betweens_of t) (sa_cons (se_var (i := 0) rfl (vis_by rfl) rfl) (sa_cons (se_var (i := 1) rfl (vis_by rfl) rfl) sa_nil)) rfl rfl)) (SX.toV (se_fld rfl t.fl_own_rows (se_var (i := 0) rfl (vis_by rfl) rfl))) (nomark _))))
abbrev N_determinant_of : List Str := ["prime", "table"]
theorem sc_determinant_of : FnScope N_determinant_of ["prime", "table"] (defScope s_determinant_of) := ⟨rfl, rfl, rfl, by decide +kernel, rfl, by decide +kernel, by decide +kernel⟩
theorem b_determinant_of (t : Tx T) : Binds T.K (fdOf T.K ("determinant_of", none)) ["prime", "table"] [] := t.d_determinant_of.bindsN fun _ _ _ _ _ _ us hl => match us, hl with | [_, _], _ => rfl
def c_determinant_of : Sc := (sRet (cBin oIx (cCall F_reduced (aCons (cVar 0) (aCons (cVar 1) aNil))) (cC (.int 0))))
def F_determinant_of : List PV → Tr PV := body (.ret .non) 2 c_determinant_of
theorem g_determinant_of (t : Tx T) : FnG T 4 (He.fAd T.K ("determinant_of", none)) (fdOf T.K ("determinant_of", none)) ["prime", "table"] (SpC (kn T.K) (zV (kn T.K)) 2 F_determinant_of) := fn_bodyZ (own := []) (c := c_determinant_of) (N := N_determinant_of) end_V t.d_determinant_of sc_determinant_of rfl (by decide) fun cdv A outer s H E g hr =>
 (sb_one (ss_ret (se_ix rfl (SX.toV (sx_call (z := zV _) ⟨rfl, rfl, rfl, rfl, rfl⟩ (g_reduced t) (hr.mono (by decide)) rfl t.g_reduced (t.k_reduced) (b_reduced t) (sa_cons (se_var (i := 0) rfl (vis_by rfl) rfl) (sa_cons (se_var (i := 1) rfl (vis_by rfl) rfl) sa_nil)) rfl rfl)) se_int (by intro _ _; rfl))))
abbrev N_keeper_in : List Str := ["room", "value", "table"]
theorem sc_keeper_in : FnScope N_keeper_in ["room", "value"] (defScope s_keeper_in) := ⟨rfl, rfl, rfl, by decide +kernel, rfl, by decide +kernel, by decide +kernel⟩
theorem b_keeper_in (t : Tx T) : Binds T.K (fdOf T.K ("keeper_in", none)) ["room", "value"] [] := t.d_keeper_in.bindsN fun _ _ _ _ _ _ us hl => match us, hl with | [_, _], _ => rfl
def c_keeper_in : Sc := (sSeq (sSet 2 (cCall F_table_in (aCons (cUn (oFld js_own_prime) (cVar 0)) (aCons (cVar 1) aNil)))) (sSeq (sIf (tOr (tVal (cUn (oIsNon false) (cVar 2))) (tOr (tVal (cBin (oEq true) (cUn oLen (cVar 2)) (cUn oLen (cUn (oFld js_own_rows) (cVar 0))))) (tVal (cBin (oEq false) (cCall F_determinant_of (aCons (cUn (oFld js_own_prime) (cVar 0)) (aCons (cVar 2) aNil))) (cC (.int 0)))))) (sRet (cC .non)) sSkip) (sRet (cIf (tVal (cCall F_keeps_all (aCons (cVar 0) (aCons (cVar 2) aNil)))) (cVar 2) (cC .non)))))
def F_keeper_in : List PV → Tr PV := body (.ret .non) 3 c_keeper_in
theorem g_keeper_in (t : Tx T) : FnG T 6 (He.fAd T.K ("keeper_in", none)) (fdOf T.K ("keeper_in", none)) ["room", "value"] (SpC (kn T.K) (zV (kn T.K)) 2 F_keeper_in) := fn_bodyZ (own := []) (c := c_keeper_in) (N := N_keeper_in) end_V t.d_keeper_in sc_keeper_in rfl (by decide) fun cdv A outer s H E g hr =>
 (sb_cons (ss_set (i := 2) sc_keeper_in.nd rfl (loc_by rfl) rfl (sx_call (z := zV _) ⟨rfl, rfl, rfl, rfl, rfl⟩ (g_table_in t) (hr.mono (by decide)) rfl t.g_table_in (t.k_table_in) (b_table_in t) (sa_cons (se_fld rfl t.fl_own_prime (se_var (i := 0) rfl (vis_by rfl) rfl)) (sa_cons (se_var (i := 1) rfl (vis_by rfl) rfl) sa_nil)) rfl rfl))
 (sb_cons (ss_if (SW.st (sw_or (st_isN (SX.toV (se_var (i := 2) rfl (vis_by rfl) rfl))) (sw_or (st_cmp (op_ne' rfl hr.hu) (SX.toV (se_len rfl rfl (t.fr_len) (SX.toV (se_var (i := 2) rfl (vis_by rfl) rfl)))) (SX.toV (se_len rfl rfl (t.fr_len) (SX.toV (se_fld rfl t.fl_own_rows (se_var (i := 0) rfl (vis_by rfl) rfl))))) (nomark _)) (sw_or1 (st_cmp (op_eq' rfl hr.hu) (SX.toV (sx_call (z := zV _) ⟨rfl, rfl, rfl, rfl, rfl⟩ (g_determinant_of t) (hr.mono (by decide)) rfl t.g_determinant_of (t.k_determinant_of) (b_determinant_of t) (sa_cons (se_fld rfl t.fl_own_prime (se_var (i := 0) rfl (vis_by rfl) rfl)) (sa_cons (se_var (i := 2) rfl (vis_by rfl) rfl) sa_nil)) rfl rfl)) (SX.toV se_int) (nomark _)))))) (sb_one (ss_ret se_non)) sb_nil)
 (sb_one (ss_ret (sx_if (z := zV _) (st_val (sx_call (z := zV _) ⟨rfl, rfl, rfl, rfl, rfl⟩ (g_keeps_all t) (hr.mono (by decide)) rfl t.g_keeps_all (t.k_keeps_all) (b_keeps_all t) (sa_cons (se_var (i := 0) rfl (vis_by rfl) rfl) (sa_cons (se_var (i := 2) rfl (vis_by rfl) rfl) sa_nil)) rfl rfl) (fun _ => rfl)) (se_var (i := 2) rfl (vis_by rfl) rfl) se_non)))))
abbrev N_continues : List Str := ["room", "part", "images", "value", "rows", "led", "table", "row"]
theorem sc_continues : FnScope N_continues ["room", "part", "images", "value"] (defScope s_continues) := ⟨rfl, rfl, rfl, by decide +kernel, rfl, by decide +kernel, by decide +kernel⟩
theorem b_continues (t : Tx T) : Binds T.K (fdOf T.K ("continues", none)) ["room", "part", "images", "value"] [] := t.d_continues.bindsN fun _ _ _ _ _ _ us hl => match us, hl with | [_, _, _, _], _ => rfl
def c_continues : Sc := (sSeq (sUnp (cCall F_told_map (aCons (cVar 0) (aCons (cVar 1) (aCons (cVar 2) aNil)))) (gTupc 2 (gsCons (gSt 4) (gsCons (gSt 5) gsNil)))) (sSeq (sSet 6 (cCall F_keeper_in (aCons (cVar 0) (aCons (cVar 3) aNil)))) (sRet (cAnd (cUn (oIsNon true) (cVar 6)) (cBin (oEq false) (cLc [7] (jSeq (cVar 4)) (gSt 7) cYes (cCall F_led_of (aCons (cUn (oFld js_own_prime) (cVar 0)) (aCons (cVar 7) (aCons (cVar 6) aNil))))) (cVar 5))))))
def F_continues : List PV → Tr PV := body (.ret .non) 8 c_continues
theorem g_continues (t : Tx T) : FnG T 7 (He.fAd T.K ("continues", none)) (fdOf T.K ("continues", none)) ["room", "part", "images", "value"] (SpC (kn T.K) (zV (kn T.K)) 4 F_continues) := fn_bodyZ (own := []) (c := c_continues) (N := N_continues) end_V t.d_continues sc_continues rfl (by decide) fun cdv A outer s H E g hr =>
 (sb_cons (ss_unp (sx_call (z := zV _) ⟨rfl, rfl, rfl, rfl, rfl⟩ (g_told_map t) (hr.mono (by decide)) rfl t.g_told_map (t.k_told_map) (b_told_map t) (sa_cons (se_var (i := 0) rfl (vis_by rfl) rfl) (sa_cons (se_var (i := 1) rfl (vis_by rfl) rfl) (sa_cons (se_var (i := 2) rfl (vis_by rfl) rfl) sa_nil))) rfl rfl) (sg_tup rfl rfl (sgs_cons (sg_name (i := 4) sc_continues.nd rfl (loc_by rfl) rfl) (sgs_cons (sg_name (i := 5) sc_continues.nd rfl (loc_by rfl) rfl) sgs_nil))))
 (sb_cons (ss_set (i := 6) sc_continues.nd rfl (loc_by rfl) rfl (sx_call (z := zV _) ⟨rfl, rfl, rfl, rfl, rfl⟩ (g_keeper_in t) (hr.mono (by decide)) rfl t.g_keeper_in (t.k_keeper_in) (b_keeper_in t) (sa_cons (se_var (i := 0) rfl (vis_by rfl) rfl) (sa_cons (se_var (i := 3) rfl (vis_by rfl) rfl) sa_nil)) rfl rfl))
 (sb_one (ss_ret (se_and (se_notN (SX.toV (se_var (i := 6) rfl (vis_by rfl) rfl))) (se_one (sx_cmp (z := zV _) (op_eq' rfl hr.hu) (SX.ofFV (sf_lc (own := [("row", 7)]) rfl rfl sc_continues.nd (sj_seq rfl (SX.toV (se_var (i := 4) rfl (vis_by rfl) rfl))) (blkOk_by (own := [("row", 7)]) rfl) rfl rfl (fun _ _ _ _ _ => (sg_name (i := 7) sc_continues.nd rfl (loc_by rfl) rfl)) (fun _ _ _ _ _ => sts_nil) (fun _ _ _ _ _ => (sx_call (z := zV _) ⟨rfl, rfl, rfl, rfl, rfl⟩ (g_led_of t) (hr.mono (by decide)) rfl t.g_led_of (t.k_led_of) (b_led_of t) (sa_cons (se_fld rfl t.fl_own_prime (se_var (i := 0) rfl (vis_by rfl) rfl)) (sa_cons (se_var (i := 7) rfl (vis_by rfl) rfl) (sa_cons (se_var (i := 6) rfl (vis_by rfl) rfl) sa_nil))) rfl rfl)))) (SX.toV (se_var (i := 5) rfl (vis_by rfl) rfl)) (nomark _))))))))
abbrev N_both_parts : List Str := ["room", "part", "other"]
theorem sc_both_parts : FnScope N_both_parts ["room", "part", "other"] (defScope s_both_parts) := ⟨rfl, rfl, rfl, by decide +kernel, rfl, by decide +kernel, by decide +kernel⟩
theorem b_both_parts (t : Tx T) : Binds T.K (fdOf T.K ("both_parts", none)) ["room", "part", "other"] [] := t.d_both_parts.bindsN fun _ _ _ _ _ _ us hl => match us, hl with | [_, _, _], _ => rfl
def c_both_parts : Sc := (sSeq (sDrop (cCall F_want_room (aCons (cVar 0) aNil))) (sRet (cTup (aCons (cCall F_want_part (aCons (cVar 0) (aCons (cVar 1) aNil))) (aCons (cCall F_want_part (aCons (cVar 0) (aCons (cVar 2) aNil))) aNil)))))
def F_both_parts : List PV → Tr PV := body (.ret .non) 3 c_both_parts
theorem g_both_parts (t : Tx T) : FnG T 6 (He.fAd T.K ("both_parts", none)) (fdOf T.K ("both_parts", none)) ["room", "part", "other"] (SpC (kn T.K) (zV (kn T.K)) 3 F_both_parts) := fn_bodyZ (own := []) (c := c_both_parts) (N := N_both_parts) end_V t.d_both_parts sc_both_parts rfl (by decide) fun cdv A outer s H E g hr =>
 (sb_cons (ss_drop (SX.toV (sx_call (z := zV _) ⟨rfl, rfl, rfl, rfl, rfl⟩ (g_want_room t) (hr.mono (by decide)) rfl t.g_want_room (t.k_want_room) (b_want_room t) (sa_cons (se_var (i := 0) rfl (vis_by rfl) rfl) sa_nil) rfl rfl)))
 (sb_one (ss_ret (se_tup (sa_cons (sx_call (z := zV _) ⟨rfl, rfl, rfl, rfl, rfl⟩ (g_want_part t) (hr.mono (by decide)) rfl t.g_want_part (t.k_want_part) (b_want_part t) (sa_cons (se_var (i := 0) rfl (vis_by rfl) rfl) (sa_cons (se_var (i := 1) rfl (vis_by rfl) rfl) sa_nil)) rfl rfl) (sa_cons (sx_call (z := zV _) ⟨rfl, rfl, rfl, rfl, rfl⟩ (g_want_part t) (hr.mono (by decide)) rfl t.g_want_part (t.k_want_part) (b_want_part t) (sa_cons (se_var (i := 0) rfl (vis_by rfl) rfl) (sa_cons (se_var (i := 2) rfl (vis_by rfl) rfl) sa_nil)) rfl rfl) sa_nil))))))
abbrev N_own_table : List Str := ["room", "part"]
theorem sc_own_table : FnScope N_own_table ["room", "part"] (defScope s_own_table) := ⟨rfl, rfl, rfl, by decide +kernel, rfl, by decide +kernel, by decide +kernel⟩
theorem b_own_table (t : Tx T) : Binds T.K (fdOf T.K ("own_table", none)) ["room", "part"] [] := t.d_own_table.bindsN fun _ _ _ _ _ _ us hl => match us, hl with | [_, _], _ => rfl
def c_own_table : Sc := (sRet (cCall F_betweens_of (aCons (cVar 0) (aCons (cVar 1) aNil))))
def F_own_table : List PV → Tr PV := body (.ret .non) 2 c_own_table
theorem g_own_table (t : Tx T) : FnG T 5 (He.fAd T.K ("own_table", none)) (fdOf T.K ("own_table", none)) ["room", "part"] (SpC (kn T.K) (zV (kn T.K)) 2 F_own_table) := fn_bodyZ (own := []) (c := c_own_table) (N := N_own_table) end_V t.d_own_table sc_own_table rfl (by decide) fun cdv A outer s H E g hr =>
 (sb_one (ss_ret (sx_call (z := zV _) ⟨rfl, rfl, rfl, rfl, rfl⟩ (g_betweens_of t) (hr.mono (by decide)) rfl t.g_betweens_of (t.k_betweens_of) (b_betweens_of t) (sa_cons (se_var (i := 0) rfl (vis_by rfl) rfl) (sa_cons (se_var (i := 1) rfl (vis_by rfl) rfl) sa_nil)) rfl rfl)))
abbrev N_meeting_of : List Str := ["room", "one", "other", "prime", "size", "both"]
theorem sc_meeting_of : FnScope N_meeting_of ["room", "one", "other"] (defScope s_meeting_of) := ⟨rfl, rfl, rfl, by decide +kernel, rfl, by decide +kernel, by decide +kernel⟩
theorem b_meeting_of (t : Tx T) : Binds T.K (fdOf T.K ("meeting_of", none)) ["room", "one", "other"] [] := t.d_meeting_of.bindsN fun _ _ _ _ _ _ us hl => match us, hl with | [_, _, _], _ => rfl
def c_meeting_of : Sc := (sSeq (sPar 3 4 (cUn (oFld js_own_prime) (cVar 0)) (cUn oLen (cUn (oFld js_own_rows) (cVar 0)))) (sSeq (sSet 5 (cBin oAdd (cCall F_zeros_of (aCons (cVar 3) (aCons (cVar 4) (aCons (cVar 1) aNil)))) (cCall F_zeros_of (aCons (cVar 3) (aCons (cVar 4) (aCons (cVar 2) aNil)))))) (sRet (cCall F_zeros_of (aCons (cVar 3) (aCons (cVar 4) (aCons (cVar 5) aNil)))))))
def F_meeting_of : List PV → Tr PV := body (.ret .non) 6 c_meeting_of
theorem g_meeting_of (t : Tx T) : FnG T 5 (He.fAd T.K ("meeting_of", none)) (fdOf T.K ("meeting_of", none)) ["room", "one", "other"] (SpC (kn T.K) (zV (kn T.K)) 3 F_meeting_of) := fn_bodyZ (own := []) (c := c_meeting_of) (N := N_meeting_of) end_V t.d_meeting_of sc_meeting_of rfl (by decide) fun cdv A outer s H E g hr =>
 (sb_cons (ss_par (i := 3) (j := 4) rfl sc_meeting_of.nd rfl rfl (by decide) rfl rfl (.inr ⟨rfl, rfl⟩) (.inr ⟨rfl, rfl⟩) (se_fld rfl t.fl_own_prime (se_var (i := 0) rfl (vis_by rfl) rfl)) (se_len rfl rfl (t.fr_len) (SX.toV (se_fld rfl t.fl_own_rows (se_var (i := 0) rfl (vis_by rfl) rfl)))))
 (sb_cons (ss_set (i := 5) sc_meeting_of.nd rfl (loc_by rfl) rfl (sx_bin (z := zV _) (op_add' rfl) (SX.toV (sx_call (z := zV _) ⟨rfl, rfl, rfl, rfl, rfl⟩ (g_zeros_of t) (hr.mono (by decide)) rfl t.g_zeros_of (t.k_zeros_of) (b_zeros_of t) (sa_cons (se_var (i := 3) rfl (vis_by rfl) rfl) (sa_cons (se_var (i := 4) rfl (vis_by rfl) rfl) (sa_cons (se_var (i := 1) rfl (vis_by rfl) rfl) sa_nil))) rfl rfl)) (SX.toV (sx_call (z := zV _) ⟨rfl, rfl, rfl, rfl, rfl⟩ (g_zeros_of t) (hr.mono (by decide)) rfl t.g_zeros_of (t.k_zeros_of) (b_zeros_of t) (sa_cons (se_var (i := 3) rfl (vis_by rfl) rfl) (sa_cons (se_var (i := 4) rfl (vis_by rfl) rfl) (sa_cons (se_var (i := 2) rfl (vis_by rfl) rfl) sa_nil))) rfl rfl))))
 (sb_one (ss_ret (sx_call (z := zV _) ⟨rfl, rfl, rfl, rfl, rfl⟩ (g_zeros_of t) (hr.mono (by decide)) rfl t.g_zeros_of (t.k_zeros_of) (b_zeros_of t) (sa_cons (se_var (i := 3) rfl (vis_by rfl) rfl) (sa_cons (se_var (i := 4) rfl (vis_by rfl) rfl) (sa_cons (se_var (i := 5) rfl (vis_by rfl) rfl) sa_nil))) rfl rfl)))))
abbrev N_still_part : List Str := ["room", "part"]
theorem sc_still_part : FnScope N_still_part ["room", "part"] (defScope s_still_part) := ⟨rfl, rfl, rfl, by decide +kernel, rfl, by decide +kernel, by decide +kernel⟩
theorem b_still_part (t : Tx T) : Binds T.K (fdOf T.K ("still_part", none)) ["room", "part"] [] := t.d_still_part.bindsN fun _ _ _ _ _ _ us hl => match us, hl with | [_, _], _ => rfl
def c_still_part : Sc := (sRet (cCall F_meeting_of (aCons (cVar 0) (aCons (cVar 1) (aCons (cCall F_still_of (aCons (cVar 0) aNil)) aNil)))))
def F_still_part : List PV → Tr PV := body (.ret .non) 2 c_still_part
theorem g_still_part (t : Tx T) : FnG T 6 (He.fAd T.K ("still_part", none)) (fdOf T.K ("still_part", none)) ["room", "part"] (SpC (kn T.K) (zV (kn T.K)) 2 F_still_part) := fn_bodyZ (own := []) (c := c_still_part) (N := N_still_part) end_V t.d_still_part sc_still_part rfl (by decide) fun cdv A outer s H E g hr =>
 (sb_one (ss_ret (sx_call (z := zV _) ⟨rfl, rfl, rfl, rfl, rfl⟩ (g_meeting_of t) (hr.mono (by decide)) rfl t.g_meeting_of (t.k_meeting_of) (b_meeting_of t) (sa_cons (se_var (i := 0) rfl (vis_by rfl) rfl) (sa_cons (se_var (i := 1) rfl (vis_by rfl) rfl) (sa_cons (sx_call (z := zV _) ⟨rfl, rfl, rfl, rfl, rfl⟩ (g_still_of t) (hr.mono (by decide)) rfl t.g_still_of (t.k_still_of) (b_still_of t) (sa_cons (se_var (i := 0) rfl (vis_by rfl) rfl) sa_nil) rfl rfl) sa_nil))) rfl rfl)))
abbrev N_part_kind_of : List Str := ["room", "part", "size", "rank", "sign"]
theorem sc_part_kind_of : FnScope N_part_kind_of ["room", "part"] (defScope s_part_kind_of) := ⟨rfl, rfl, rfl, by decide +kernel, rfl, by decide +kernel, by decide +kernel⟩
theorem b_part_kind_of (t : Tx T) : Binds T.K (fdOf T.K ("part_kind_of", none)) ["room", "part"] [] := t.d_part_kind_of.bindsN fun _ _ _ _ _ _ us hl => match us, hl with | [_, _], _ => rfl
def c_part_kind_of : Sc := (sSeq (sUnp (cCall F_kind_in (aCons (cUn (oFld js_own_prime) (cVar 0)) (aCons (cCall F_own_table (aCons (cVar 0) (aCons (cVar 1) aNil))) aNil))) (gTupc 3 (gsCons (gSt 2) (gsCons (gSt 3) (gsCons (gSt 4) gsNil))))) (sRet (cTup (aCons (cVar 2) (aCons (cVar 3) (aCons (cVar 4) (aCons (cUn oLen (cCall F_still_part (aCons (cVar 0) (aCons (cVar 1) aNil)))) aNil)))))))
def F_part_kind_of : List PV → Tr PV := body (.ret .non) 5 c_part_kind_of
theorem g_part_kind_of (t : Tx T) : FnG T 8 (He.fAd T.K ("part_kind_of", none)) (fdOf T.K ("part_kind_of", none)) ["room", "part"] (SpC (kn T.K) (zV (kn T.K)) 2 F_part_kind_of) := fn_bodyZ (own := []) (c := c_part_kind_of) (N := N_part_kind_of) end_V t.d_part_kind_of sc_part_kind_of rfl (by decide) fun cdv A outer s H E g hr =>
 (sb_cons (ss_unp (sx_call (z := zV _) ⟨rfl, rfl, rfl, rfl, rfl⟩ (g_kind_in t) (hr.mono (by decide)) rfl t.g_kind_in (t.k_kind_in) (b_kind_in t) (sa_cons (se_fld rfl t.fl_own_prime (se_var (i := 0) rfl (vis_by rfl) rfl)) (sa_cons (sx_call (z := zV _) ⟨rfl, rfl, rfl, rfl, rfl⟩ (g_own_table t) (hr.mono (by decide)) rfl t.g_own_table (t.k_own_table) (b_own_table t) (sa_cons (se_var (i := 0) rfl (vis_by rfl) rfl) (sa_cons (se_var (i := 1) rfl (vis_by rfl) rfl) sa_nil)) rfl rfl) sa_nil)) rfl rfl) (sg_tup rfl rfl (sgs_cons (sg_name (i := 2) sc_part_kind_of.nd rfl (loc_by rfl) rfl) (sgs_cons (sg_name (i := 3) sc_part_kind_of.nd rfl (loc_by rfl) rfl) (sgs_cons (sg_name (i := 4) sc_part_kind_of.nd rfl (loc_by rfl) rfl) sgs_nil)))))
 (sb_one (ss_ret (se_tup (sa_cons (se_var (i := 2) rfl (vis_by rfl) rfl) (sa_cons (se_var (i := 3) rfl (vis_by rfl) rfl) (sa_cons (se_var (i := 4) rfl (vis_by rfl) rfl) (sa_cons (se_len rfl rfl (t.fr_len) (SX.toV (sx_call (z := zV _) ⟨rfl, rfl, rfl, rfl, rfl⟩ (g_still_part t) (hr.mono (by decide)) rfl t.g_still_part (t.k_still_part) (b_still_part t) (sa_cons (se_var (i := 0) rfl (vis_by rfl) rfl) (sa_cons (se_var (i := 1) rfl (vis_by rfl) rfl) sa_nil)) rfl rfl))) sa_nil))))))))
abbrev N_part_lead : List Str := ["room", "part", "other", "rows", "others", "near", "far", "table", "some", "rests", "row"]
theorem sc_part_lead : FnScope N_part_lead ["room", "part", "other"] (defScope s_part_lead) := ⟨rfl, rfl, rfl, by decide +kernel, rfl, by decide +kernel, by decide +kernel⟩
theorem b_part_lead (t : Tx T) : Binds T.K (fdOf T.K ("part_lead", none)) ["room", "part", "other"] [] := t.d_part_lead.bindsN fun _ _ _ _ _ _ us hl => match us, hl with | [_, _, _], _ => rfl
def c_part_lead : Sc := (sSeq (sUnp (cCall F_both_parts (aCons (cVar 0) (aCons (cVar 1) (aCons (cVar 2) aNil)))) (gTupc 2 (gsCons (gSt 3) (gsCons (gSt 4) gsNil)))) (sSeq (sIf (tVal (cBin (oEq true) (cCall F_part_kind_of (aCons (cVar 0) (aCons (cVar 3) aNil))) (cCall F_part_kind_of (aCons (cVar 0) (aCons (cVar 4) aNil))))) (sRet (cC .non)) sSkip) (sSeq (sSet 5 (cLc [8] (jSeq (cCall F_split (aCons (cVar 0) (aCons (cVar 3) aNil)))) (gSt 8) cYes (cLc [9] (jSeq (cVar 8)) (gSt 9) cYes (cCall F_added (aCons (cVar 0) (aCons (cVar 9) (aCons (cVar 3) aNil))))))) (sSeq (sSet 6 (cLc [8] (jSeq (cCall F_split (aCons (cVar 0) (aCons (cVar 4) aNil)))) (gSt 8) cYes (cLc [9] (jSeq (cVar 8)) (gSt 9) cYes (cCall F_added (aCons (cVar 0) (aCons (cVar 9) (aCons (cVar 4) aNil))))))) (sSeq (sSet 7 (cCall F_lead_of (aCons (cUn (oFld js_own_prime) (cVar 0)) (aCons (cCall F_betweens_of (aCons (cVar 0) (aCons (cBin oIx (cVar 5) (cC (.int 0))) aNil))) (aCons (cCall F_betweens_of (aCons (cVar 0) (aCons (cBin oIx (cVar 6) (cC (.int 0))) aNil))) aNil))))) (sRet (cCall F_keeper_by (aCons (cVar 0) (aCons (cVar 5) (aCons (cLst (aCons (cLc [10] (jSeq (cVar 7)) (gSt 10) cYes (cCall F_added (aCons (cVar 0) (aCons (cVar 10) (aCons (cBin oIx (cVar 6) (cC (.int 0))) aNil))))) (aCons (cBin oIx (cVar 6) (cC (.int 1))) (aCons (cBin oIx (cVar 6) (cC (.int 2))) aNil)))) aNil))))))))))
def F_part_lead : List PV → Tr PV := body (.ret .non) 11 c_part_lead
theorem g_part_lead (t : Tx T) : FnG T 10 (He.fAd T.K ("part_lead", none)) (fdOf T.K ("part_lead", none)) ["room", "part", "other"] (SpC (kn T.K) (zV (kn T.K)) 3 F_part_lead) := fn_bodyZ (own := []) (c := c_part_lead) (N := N_part_lead) end_V t.d_part_lead sc_part_lead rfl (by decide) fun cdv A outer s H E g hr =>
 (sb_cons (ss_unp (sx_call (z := zV _) ⟨rfl, rfl, rfl, rfl, rfl⟩ (g_both_parts t) (hr.mono (by decide)) rfl t.g_both_parts (t.k_both_parts) (b_both_parts t) (sa_cons (se_var (i := 0) rfl (vis_by rfl) rfl) (sa_cons (se_var (i := 1) rfl (vis_by rfl) rfl) (sa_cons (se_var (i := 2) rfl (vis_by rfl) rfl) sa_nil))) rfl rfl) (sg_tup rfl rfl (sgs_cons (sg_name (i := 3) sc_part_lead.nd rfl (loc_by rfl) rfl) (sgs_cons (sg_name (i := 4) sc_part_lead.nd rfl (loc_by rfl) rfl) sgs_nil))))
 (sb_cons (ss_if (st_cmp (op_ne' rfl hr.hu) (SX.toV (sx_call (z := zV _) ⟨rfl, rfl, rfl, rfl, rfl⟩ (g_part_kind_of t) (hr.mono (by decide)) rfl t.g_part_kind_of (t.k_part_kind_of) (b_part_kind_of t) (sa_cons (se_var (i := 0) rfl (vis_by rfl) rfl) (sa_cons (se_var (i := 3) rfl (vis_by rfl) rfl) sa_nil)) rfl rfl)) (SX.toV (sx_call (z := zV _) ⟨rfl, rfl, rfl, rfl, rfl⟩ (g_part_kind_of t) (hr.mono (by decide)) rfl t.g_part_kind_of (t.k_part_kind_of) (b_part_kind_of t) (sa_cons (se_var (i := 0) rfl (vis_by rfl) rfl) (sa_cons (se_var (i := 4) rfl (vis_by rfl) rfl) sa_nil)) rfl rfl)) (nomark _)) (sb_one (ss_ret se_non)) sb_nil)
 (sb_cons (ss_setLc (own := [("some", 8)]) (i := 5) rfl rfl sc_part_lead.nd rfl rfl rfl rfl (sj_seq rfl (SX.toV (sx_call (z := zV _) ⟨rfl, rfl, rfl, rfl, rfl⟩ (g_split t) (hr.mono (by decide)) rfl t.g_split (t.k_split) (b_split t) (sa_cons (se_var (i := 0) rfl (vis_by rfl) rfl) (sa_cons (se_var (i := 3) rfl (vis_by rfl) rfl) sa_nil)) rfl rfl))) (blkOk_by (own := [("some", 8)]) rfl) rfl rfl (fun _ _ _ _ _ => (sg_name (i := 8) sc_part_lead.nd rfl (loc_by rfl) rfl)) (fun _ _ _ _ _ => sts_nil) (fun _ _ _ _ _ => (SX.ofF (sf_lc (own := [("rests", 9)]) rfl rfl sc_part_lead.nd (sj_seq rfl (SX.toV (se_var (i := 8) rfl (vis_by rfl) rfl))) (blkOk_by (own := [("rests", 9)]) rfl) rfl rfl (fun _ _ _ _ _ => (sg_name (i := 9) sc_part_lead.nd rfl (loc_by rfl) rfl)) (fun _ _ _ _ _ => sts_nil) (fun _ _ _ _ _ => (sx_call (z := zV _) ⟨rfl, rfl, rfl, rfl, rfl⟩ (g_added t) (hr.mono (by decide)) rfl t.g_added (t.k_added) (b_added t) (sa_cons (se_var (i := 0) rfl (vis_by rfl) rfl) (sa_cons (se_var (i := 9) rfl (vis_by rfl) rfl) (sa_cons (se_var (i := 3) rfl (vis_by rfl) rfl) sa_nil))) rfl rfl))))))
 (sb_cons (ss_set (i := 6) sc_part_lead.nd rfl (loc_by rfl) rfl (SX.ofF (sf_lc (own := [("some", 8)]) rfl rfl sc_part_lead.nd (sj_seq rfl (SX.toV (sx_call (z := zV _) ⟨rfl, rfl, rfl, rfl, rfl⟩ (g_split t) (hr.mono (by decide)) rfl t.g_split (t.k_split) (b_split t) (sa_cons (se_var (i := 0) rfl (vis_by rfl) rfl) (sa_cons (se_var (i := 4) rfl (vis_by rfl) rfl) sa_nil)) rfl rfl))) (blkOk_by (own := [("some", 8)]) rfl) rfl rfl (fun _ _ _ _ _ => (sg_name (i := 8) sc_part_lead.nd rfl (loc_by rfl) rfl)) (fun _ _ _ _ _ => sts_nil) (fun _ _ _ _ _ => (SX.ofF (sf_lc (own := [("rests", 9)]) rfl rfl sc_part_lead.nd (sj_seq rfl (SX.toV (se_var (i := 8) rfl (vis_by rfl) rfl))) (blkOk_by (own := [("rests", 9)]) rfl) rfl rfl (fun _ _ _ _ _ => (sg_name (i := 9) sc_part_lead.nd rfl (loc_by rfl) rfl)) (fun _ _ _ _ _ => sts_nil) (fun _ _ _ _ _ => (sx_call (z := zV _) ⟨rfl, rfl, rfl, rfl, rfl⟩ (g_added t) (hr.mono (by decide)) rfl t.g_added (t.k_added) (b_added t) (sa_cons (se_var (i := 0) rfl (vis_by rfl) rfl) (sa_cons (se_var (i := 9) rfl (vis_by rfl) rfl) (sa_cons (se_var (i := 4) rfl (vis_by rfl) rfl) sa_nil))) rfl rfl))))))))
 (sb_cons (ss_set (i := 7) sc_part_lead.nd rfl (loc_by rfl) rfl (sx_call (z := zV _) ⟨rfl, rfl, rfl, rfl, rfl⟩ (g_lead_of t) (hr.mono (by decide)) rfl t.g_lead_of (t.k_lead_of) (b_lead_of t) (sa_cons (se_fld rfl t.fl_own_prime (se_var (i := 0) rfl (vis_by rfl) rfl)) (sa_cons (sx_call (z := zV _) ⟨rfl, rfl, rfl, rfl, rfl⟩ (g_betweens_of t) (hr.mono (by decide)) rfl t.g_betweens_of (t.k_betweens_of) (b_betweens_of t) (sa_cons (se_var (i := 0) rfl (vis_by rfl) rfl) (sa_cons (se_ix rfl (SX.toV (se_var (i := 5) rfl (vis_by rfl) rfl)) se_int (by intro _ _; rfl)) sa_nil)) rfl rfl) (sa_cons (sx_call (z := zV _) ⟨rfl, rfl, rfl, rfl, rfl⟩ (g_betweens_of t) (hr.mono (by decide)) rfl t.g_betweens_of (t.k_betweens_of) (b_betweens_of t) (sa_cons (se_var (i := 0) rfl (vis_by rfl) rfl) (sa_cons (se_ix rfl (SX.toV (se_var (i := 6) rfl (vis_by rfl) rfl)) se_int (by intro _ _; rfl)) sa_nil)) rfl rfl) sa_nil))) rfl rfl))
 (sb_one (ss_ret (sx_call (z := zV _) ⟨rfl, rfl, rfl, rfl, rfl⟩ (g_keeper_by t) (hr.mono (by decide)) rfl t.g_keeper_by (t.k_keeper_by) (b_keeper_by t) (sa_cons (se_var (i := 0) rfl (vis_by rfl) rfl) (sa_cons (se_var (i := 5) rfl (vis_by rfl) rfl) (sa_cons (SX.ofF (sf_lst (sa_cons (SX.ofF (sf_lc (own := [("row", 10)]) rfl rfl sc_part_lead.nd (sj_seq rfl (SX.toV (se_var (i := 7) rfl (vis_by rfl) rfl))) (blkOk_by (own := [("row", 10)]) rfl) rfl rfl (fun _ _ _ _ _ => (sg_name (i := 10) sc_part_lead.nd rfl (loc_by rfl) rfl)) (fun _ _ _ _ _ => sts_nil) (fun _ _ _ _ _ => (sx_call (z := zV _) ⟨rfl, rfl, rfl, rfl, rfl⟩ (g_added t) (hr.mono (by decide)) rfl t.g_added (t.k_added) (b_added t) (sa_cons (se_var (i := 0) rfl (vis_by rfl) rfl) (sa_cons (se_var (i := 10) rfl (vis_by rfl) rfl) (sa_cons (se_ix rfl (SX.toV (se_var (i := 6) rfl (vis_by rfl) rfl)) se_int (by intro _ _; rfl)) sa_nil))) rfl rfl)))) (sa_cons (se_ix rfl (SX.toV (se_var (i := 6) rfl (vis_by rfl) rfl)) se_int (by intro _ _; rfl)) (sa_cons (se_ix rfl (SX.toV (se_var (i := 6) rfl (vis_by rfl) rfl)) se_int (by intro _ _; rfl)) sa_nil))))) sa_nil))) rfl rfl))))))))
abbrev N_leads_part : List Str := ["room", "part", "other", "value", "rows", "others", "table", "row"]
theorem sc_leads_part : FnScope N_leads_part ["room", "part", "other", "value"] (defScope s_leads_part) := ⟨rfl, rfl, rfl, by decide +kernel, rfl, by decide +kernel, by decide +kernel⟩
theorem b_leads_part (t : Tx T) : Binds T.K (fdOf T.K ("leads_part", none)) ["room", "part", "other", "value"] [] := t.d_leads_part.bindsN fun _ _ _ _ _ _ us hl => match us, hl with | [_, _, _, _], _ => rfl
def c_leads_part : Sc := (sSeq (sUnp (cCall F_both_parts (aCons (cVar 0) (aCons (cVar 1) (aCons (cVar 2) aNil)))) (gTupc 2 (gsCons (gSt 4) (gsCons (gSt 5) gsNil)))) (sSeq (sSet 6 (cCall F_keeper_in (aCons (cVar 0) (aCons (cVar 3) aNil)))) (sSeq (sIf (tVal (cUn (oIsNon false) (cVar 6))) (sRet (cC (.bl false))) sSkip) (sRet (cBin (oEq false) (cCall F_steps_of (aCons (cUn (oFld js_own_prime) (cVar 0)) (aCons (cLc [7] (jSeq (cVar 4)) (gSt 7) cYes (cCall F_led_of (aCons (cUn (oFld js_own_prime) (cVar 0)) (aCons (cVar 7) (aCons (cVar 6) aNil))))) aNil))) (cVar 5))))))
def F_leads_part : List PV → Tr PV := body (.ret .non) 8 c_leads_part
theorem g_leads_part (t : Tx T) : FnG T 7 (He.fAd T.K ("leads_part", none)) (fdOf T.K ("leads_part", none)) ["room", "part", "other", "value"] (SpC (kn T.K) (zV (kn T.K)) 4 F_leads_part) := fn_bodyZ (own := []) (c := c_leads_part) (N := N_leads_part) end_V t.d_leads_part sc_leads_part rfl (by decide) fun cdv A outer s H E g hr =>
 (sb_cons (ss_unp (sx_call (z := zV _) ⟨rfl, rfl, rfl, rfl, rfl⟩ (g_both_parts t) (hr.mono (by decide)) rfl t.g_both_parts (t.k_both_parts) (b_both_parts t) (sa_cons (se_var (i := 0) rfl (vis_by rfl) rfl) (sa_cons (se_var (i := 1) rfl (vis_by rfl) rfl) (sa_cons (se_var (i := 2) rfl (vis_by rfl) rfl) sa_nil))) rfl rfl) (sg_tup rfl rfl (sgs_cons (sg_name (i := 4) sc_leads_part.nd rfl (loc_by rfl) rfl) (sgs_cons (sg_name (i := 5) sc_leads_part.nd rfl (loc_by rfl) rfl) sgs_nil))))
 (sb_cons (ss_set (i := 6) sc_leads_part.nd rfl (loc_by rfl) rfl (sx_call (z := zV _) ⟨rfl, rfl, rfl, rfl, rfl⟩ (g_keeper_in t) (hr.mono (by decide)) rfl t.g_keeper_in (t.k_keeper_in) (b_keeper_in t) (sa_cons (se_var (i := 0) rfl (vis_by rfl) rfl) (sa_cons (se_var (i := 3) rfl (vis_by rfl) rfl) sa_nil)) rfl rfl))
 (sb_cons (ss_if (st_isN (SX.toV (se_var (i := 6) rfl (vis_by rfl) rfl))) (sb_one (ss_ret se_bl)) sb_nil)
 (sb_one (ss_ret (sx_cmp (z := zV _) (op_eq' rfl hr.hu) (SX.toV (sx_call (z := zV _) ⟨rfl, rfl, rfl, rfl, rfl⟩ (g_steps_of t) (hr.mono (by decide)) rfl t.g_steps_of (t.k_steps_of) (b_steps_of t) (sa_cons (se_fld rfl t.fl_own_prime (se_var (i := 0) rfl (vis_by rfl) rfl)) (sa_cons (SX.ofF (sf_lc (own := [("row", 7)]) rfl rfl sc_leads_part.nd (sj_seq rfl (SX.toV (se_var (i := 4) rfl (vis_by rfl) rfl))) (blkOk_by (own := [("row", 7)]) rfl) rfl rfl (fun _ _ _ _ _ => (sg_name (i := 7) sc_leads_part.nd rfl (loc_by rfl) rfl)) (fun _ _ _ _ _ => sts_nil) (fun _ _ _ _ _ => (sx_call (z := zV _) ⟨rfl, rfl, rfl, rfl, rfl⟩ (g_led_of t) (hr.mono (by decide)) rfl t.g_led_of (t.k_led_of) (b_led_of t) (sa_cons (se_fld rfl t.fl_own_prime (se_var (i := 0) rfl (vis_by rfl) rfl)) (sa_cons (se_var (i := 7) rfl (vis_by rfl) rfl) (sa_cons (se_var (i := 6) rfl (vis_by rfl) rfl) sa_nil))) rfl rfl)))) sa_nil)) rfl rfl)) (SX.toV (se_var (i := 5) rfl (vis_by rfl) rfl)) (nomark _)))))))
abbrev N__law_fault : List Str := ["_law_way", "_law_room", "_law_part", "_law_more", "e"]
theorem sc__law_fault : FnScope N__law_fault ["_law_way", "_law_room", "_law_part", "_law_more"] (defScope s__law_fault) := ⟨rfl, rfl, rfl, by decide +kernel, rfl, by decide +kernel, by decide +kernel⟩
theorem b__law_fault (t : Tx T) : Binds T.K (fdOf T.K ("_law_fault", none)) ["_law_way", "_law_room", "_law_part", "_law_more"] [] := t.d__law_fault.bindsN fun _ _ _ _ _ _ us hl => match us, hl with | [_, _, _, _], _ => rfl
def c__law_fault : Sc := (sSeq (sTry exns 4 (sIf (tVal (cBin (oEq false) (cVar 0) (cC (.int 0)))) (sDrop (cCall F_images_by (aCons (cVar 1) (aCons (cVar 2) (aCons (cVar 3) aNil))))) (sIf (tVal (cBin (oEq false) (cVar 0) (cC (.int 1)))) (sDrop (cCall F_goes_on (aCons (cVar 1) (aCons (cVar 2) (aCons (cVar 3) aNil))))) (sIf (tVal (cBin (oEq false) (cVar 0) (cC (.int 2)))) (sDrop (cCall F_bar (aCons (cVar 1) (aCons (cVar 2) (aCons (cVar 3) aNil))))) (sIf (tVal (cBin (oEq false) (cVar 0) (cC (.int 3)))) (sDrop (cCall F_is_bar (aCons (cVar 1) (aCons (cVar 2) (aCons (cVar 3) (aCons (cC .non) aNil)))))) (sIf (tVal (cBin (oEq false) (cVar 0) (cC (.int 4)))) (sDrop (cCall F_keeper_on (aCons (cVar 1) (aCons (cVar 2) (aCons (cVar 3) aNil))))) (sIf (tVal (cBin (oEq false) (cVar 0) (cC (.int 5)))) (sDrop (cCall F_continues (aCons (cVar 1) (aCons (cVar 2) (aCons (cVar 3) (aCons (cC .non) aNil)))))) (sIf (tVal (cBin (oEq false) (cVar 0) (cC (.int 6)))) (sDrop (cCall F_part_lead (aCons (cVar 1) (aCons (cVar 2) (aCons (cVar 3) aNil))))) (sDrop (cCall F_leads_part (aCons (cVar 1) (aCons (cVar 2) (aCons (cVar 3) (aCons (cC .non) aNil))))))))))))) [(4, fun fs => (sRet (cLst (aCons (cC (.str [114, 111, 111, 109])) (aCons (cExIs 4 true) (aCons (cUn oRepr (cExF 4 fs[0]?)) aNil)))))), (2, fun fs => (sRet (cLst (aCons (cC (.str [112, 97, 114, 116])) (aCons (cExIs 4 true) (aCons (cUn oRepr (cExF 4 fs[0]?)) aNil)))))), (1, fun fs => (sRet (cLst (aCons (cC (.str [105, 109, 97, 103, 101, 115])) (aCons (cExIs 4 true) (aCons (cUn oRepr (cExF 4 fs[0]?)) aNil)))))), (6, fun fs => (sRet (cLst (aCons (cC (.str [116, 97, 98, 108, 101])) (aCons (cExIs 4 true) (aCons (cUn oRepr (cExF 4 fs[0]?)) aNil))))))]) (sRet (cC .non)))
def F__law_fault : List PV → Tr PV := body (.ret .non) 5 c__law_fault
theorem g__law_fault (t : Tx T) : FnG T 12 (He.fAd T.K ("_law_fault", none)) (fdOf T.K ("_law_fault", none)) ["_law_way", "_law_room", "_law_part", "_law_more"] (SpC (kn T.K) (zV (kn T.K)) 4 F__law_fault) := fn_bodyZ (own := []) (c := c__law_fault) (N := N__law_fault) end_V t.d__law_fault sc__law_fault rfl (by decide) fun cdv A outer s H E g hr =>
 (sb_cons (ss_try (i := 4) (ns := exns) rfl t.ms rfl rfl rfl rfl sc__law_fault.nd rfl rfl (fun pn xe hp => (tb_one (tb_if (st_cmp (op_eq' rfl hr.hu) (SX.toV (se_var (i := 0) rfl (vis_by rfl) rfl)) (SX.toV se_int) (nomark _)) (tb_one (tb_drop (SX.toV (sx_call (z := zV _) ⟨rfl, rfl, rfl, rfl, rfl⟩ (g_images_by t) (hr.mono (by decide)) rfl t.g_images_by (t.k_images_by) (b_images_by t) (sa_cons (se_var (i := 1) rfl (vis_by rfl) rfl) (sa_cons (se_var (i := 2) rfl (vis_by rfl) rfl) (sa_cons (se_var (i := 3) rfl (vis_by rfl) rfl) sa_nil))) rfl rfl)))) (tb_one (tb_if (st_cmp (op_eq' rfl hr.hu) (SX.toV (se_var (i := 0) rfl (vis_by rfl) rfl)) (SX.toV se_int) (nomark _)) (tb_one (tb_drop (SX.toV (sx_call (z := zV _) ⟨rfl, rfl, rfl, rfl, rfl⟩ (g_goes_on t) (hr.mono (by decide)) rfl t.g_goes_on (t.k_goes_on) (b_goes_on t) (sa_cons (se_var (i := 1) rfl (vis_by rfl) rfl) (sa_cons (se_var (i := 2) rfl (vis_by rfl) rfl) (sa_cons (se_var (i := 3) rfl (vis_by rfl) rfl) sa_nil))) rfl rfl)))) (tb_one (tb_if (st_cmp (op_eq' rfl hr.hu) (SX.toV (se_var (i := 0) rfl (vis_by rfl) rfl)) (SX.toV se_int) (nomark _)) (tb_one (tb_drop (SX.toV (sx_call (z := zV _) ⟨rfl, rfl, rfl, rfl, rfl⟩ (g_bar t) (hr.mono (by decide)) rfl t.g_bar (t.k_bar) (b_bar t) (sa_cons (se_var (i := 1) rfl (vis_by rfl) rfl) (sa_cons (se_var (i := 2) rfl (vis_by rfl) rfl) (sa_cons (se_var (i := 3) rfl (vis_by rfl) rfl) sa_nil))) rfl rfl)))) (tb_one (tb_if (st_cmp (op_eq' rfl hr.hu) (SX.toV (se_var (i := 0) rfl (vis_by rfl) rfl)) (SX.toV se_int) (nomark _)) (tb_one (tb_drop (SX.toV (sx_call (z := zV _) ⟨rfl, rfl, rfl, rfl, rfl⟩ (g_is_bar t) (hr.mono (by decide)) rfl t.g_is_bar (t.k_is_bar) (b_is_bar t) (sa_cons (se_var (i := 1) rfl (vis_by rfl) rfl) (sa_cons (se_var (i := 2) rfl (vis_by rfl) rfl) (sa_cons (se_var (i := 3) rfl (vis_by rfl) rfl) (sa_cons se_non sa_nil)))) rfl rfl)))) (tb_one (tb_if (st_cmp (op_eq' rfl hr.hu) (SX.toV (se_var (i := 0) rfl (vis_by rfl) rfl)) (SX.toV se_int) (nomark _)) (tb_one (tb_drop (SX.toV (sx_call (z := zV _) ⟨rfl, rfl, rfl, rfl, rfl⟩ (g_keeper_on t) (hr.mono (by decide)) rfl t.g_keeper_on (t.k_keeper_on) (b_keeper_on t) (sa_cons (se_var (i := 1) rfl (vis_by rfl) rfl) (sa_cons (se_var (i := 2) rfl (vis_by rfl) rfl) (sa_cons (se_var (i := 3) rfl (vis_by rfl) rfl) sa_nil))) rfl rfl)))) (tb_one (tb_if (st_cmp (op_eq' rfl hr.hu) (SX.toV (se_var (i := 0) rfl (vis_by rfl) rfl)) (SX.toV se_int) (nomark _)) (tb_one (tb_drop (SX.toV (sx_call (z := zV _) ⟨rfl, rfl, rfl, rfl, rfl⟩ (g_continues t) (hr.mono (by decide)) rfl t.g_continues (t.k_continues) (b_continues t) (sa_cons (se_var (i := 1) rfl (vis_by rfl) rfl) (sa_cons (se_var (i := 2) rfl (vis_by rfl) rfl) (sa_cons (se_var (i := 3) rfl (vis_by rfl) rfl) (sa_cons se_non sa_nil)))) rfl rfl)))) (tb_one (tb_if (st_cmp (op_eq' rfl hr.hu) (SX.toV (se_var (i := 0) rfl (vis_by rfl) rfl)) (SX.toV se_int) (nomark _)) (tb_one (tb_drop (SX.toV (sx_call (z := zV _) ⟨rfl, rfl, rfl, rfl, rfl⟩ (g_part_lead t) (hr.mono (by decide)) rfl t.g_part_lead (t.k_part_lead) (b_part_lead t) (sa_cons (se_var (i := 1) rfl (vis_by rfl) rfl) (sa_cons (se_var (i := 2) rfl (vis_by rfl) rfl) (sa_cons (se_var (i := 3) rfl (vis_by rfl) rfl) sa_nil))) rfl rfl)))) (tb_one (tb_drop (SX.toV (sx_call (z := zV _) ⟨rfl, rfl, rfl, rfl, rfl⟩ (g_leads_part t) (hr.mono (by decide)) rfl t.g_leads_part (t.k_leads_part) (b_leads_part t) (sa_cons (se_var (i := 1) rfl (vis_by rfl) rfl) (sa_cons (se_var (i := 2) rfl (vis_by rfl) rfl) (sa_cons (se_var (i := 3) rfl (vis_by rfl) rfl) (sa_cons se_non sa_nil)))) rfl rfl)))))))))))))))))))
 (SHs.cons (n := 4) (s := fun fs => (sRet (cLst (aCons (cC (.str [114, 111, 111, 109])) (aCons (cExIs 4 true) (aCons (cUn oRepr (cExF 4 fs[0]?)) aNil)))))) rfl t.g_InvalidRoom (fun a dx oe pn fs hz hf => (sb_one (ss_ret (SX.ofF (sf_lst (sa_cons (se_str (by kernel_rfl)) (sa_cons (se_exIs (p2 := ⟨0, 0, 0, 0⟩) (i := 4) (n := 4) (bb := true) rfl t.ef_InvalidRoom hz hf rfl (t.fr_isinstance) rfl (vis_by rfl) (pe_bltn (v := .ty "ValueError") (u := .type "ValueError") rfl (t.fr_ValueError) (by decide +kernel) rfl) (.ty _) t.ek_InvalidRoom_ValueError) (sa_cons (se_repr rfl hr.gd hr.hu t.sm rfl (t.fr_repr) (SX.toV (se_exF (i := 4) (n := 4) (j := 0) rfl t.ef_InvalidRoom hz hf rfl (t.er_InvalidRoom.no _ (by simp [eflds])) rfl (vis_by rfl)))) sa_nil))))))))
 (SHs.cons (n := 2) (s := fun fs => (sRet (cLst (aCons (cC (.str [112, 97, 114, 116])) (aCons (cExIs 4 true) (aCons (cUn oRepr (cExF 4 fs[0]?)) aNil)))))) rfl t.g_InvalidPart (fun a dx oe pn fs hz hf => (sb_one (ss_ret (SX.ofF (sf_lst (sa_cons (se_str (by kernel_rfl)) (sa_cons (se_exIs (p2 := ⟨0, 0, 0, 0⟩) (i := 4) (n := 2) (bb := true) rfl t.ef_InvalidPart hz hf rfl (t.fr_isinstance) rfl (vis_by rfl) (pe_bltn (v := .ty "ValueError") (u := .type "ValueError") rfl (t.fr_ValueError) (by decide +kernel) rfl) (.ty _) t.ek_InvalidPart_ValueError) (sa_cons (se_repr rfl hr.gd hr.hu t.sm rfl (t.fr_repr) (SX.toV (se_exF (i := 4) (n := 2) (j := 0) rfl t.ef_InvalidPart hz hf rfl (t.er_InvalidPart.no _ (by simp [eflds])) rfl (vis_by rfl)))) sa_nil))))))))
 (SHs.cons (n := 1) (s := fun fs => (sRet (cLst (aCons (cC (.str [105, 109, 97, 103, 101, 115])) (aCons (cExIs 4 true) (aCons (cUn oRepr (cExF 4 fs[0]?)) aNil)))))) rfl t.g_InvalidImages (fun a dx oe pn fs hz hf => (sb_one (ss_ret (SX.ofF (sf_lst (sa_cons (se_str (by kernel_rfl)) (sa_cons (se_exIs (p2 := ⟨0, 0, 0, 0⟩) (i := 4) (n := 1) (bb := true) rfl t.ef_InvalidImages hz hf rfl (t.fr_isinstance) rfl (vis_by rfl) (pe_bltn (v := .ty "ValueError") (u := .type "ValueError") rfl (t.fr_ValueError) (by decide +kernel) rfl) (.ty _) t.ek_InvalidImages_ValueError) (sa_cons (se_repr rfl hr.gd hr.hu t.sm rfl (t.fr_repr) (SX.toV (se_exF (i := 4) (n := 1) (j := 0) rfl t.ef_InvalidImages hz hf rfl (t.er_InvalidImages.no _ (by simp [eflds])) rfl (vis_by rfl)))) sa_nil))))))))
 (SHs.cons (n := 6) (s := fun fs => (sRet (cLst (aCons (cC (.str [116, 97, 98, 108, 101])) (aCons (cExIs 4 true) (aCons (cUn oRepr (cExF 4 fs[0]?)) aNil)))))) rfl t.g_InvalidTable (fun a dx oe pn fs hz hf => (sb_one (ss_ret (SX.ofF (sf_lst (sa_cons (se_str (by kernel_rfl)) (sa_cons (se_exIs (p2 := ⟨0, 0, 0, 0⟩) (i := 4) (n := 6) (bb := true) rfl t.ef_InvalidTable hz hf rfl (t.fr_isinstance) rfl (vis_by rfl) (pe_bltn (v := .ty "ValueError") (u := .type "ValueError") rfl (t.fr_ValueError) (by decide +kernel) rfl) (.ty _) t.ek_InvalidTable_ValueError) (sa_cons (se_repr rfl hr.gd hr.hu t.sm rfl (t.fr_repr) (SX.toV (se_exF (i := 4) (n := 6) (j := 0) rfl t.ef_InvalidTable hz hf rfl (t.er_InvalidTable.no _ (by simp [eflds])) rfl (vis_by rfl)))) sa_nil))))))))
 SHs.nil rfl) rfl) rfl) rfl) rfl)
 (sb_one (ss_ret se_non)))
abbrev N__law_values_right : List Str := ["_law_room", "_law_bad", "_law_bad_ones", "_law_way"]
theorem sc__law_values_right : FnScope N__law_values_right ["_law_room"] (defScope s__law_values_right) := ⟨rfl, rfl, rfl, by decide +kernel, rfl, by decide +kernel, by decide +kernel⟩
theorem b__law_values_right (t : Tx T) : Binds T.K (fdOf T.K ("_law_values_right", none)) ["_law_room"] [] := t.d__law_values_right.bindsN fun _ _ _ _ _ _ us hl => match us, hl with | [_], _ => rfl
def c__law_values_right : Sc := (sSeq (sFor (jSeq (cLst (aCons (cC .non) (aCons (cC (.int 5)) (aCons (cC (.bl true)) (aCons (cC (.str [114, 111, 111, 109])) (aCons (cC (.dct [] [])) (aCons (cLst (aCons (cLst (aCons (cC (.int 1)) (aCons (cC (.int 0)) aNil))) (aCons (cLst (aCons (cC (.int 0)) (aCons (cC (.int 1)) aNil))) aNil))) (aCons (cTup (aCons (cC (.int 3)) (aCons (cTup (aCons (cTup (aCons (cC (.int 1)) (aCons (cC (.int 0)) aNil))) (aCons (cTup (aCons (cC (.int 0)) (aCons (cC (.int 1)) aNil))) aNil))) aNil))) aNil))))))))) (gSt 1) (sIf (tVal (cBin (oEq true) (cLc [3] (jRng1 (cC (.int 8))) (gSt 3) cYes (cCall F__law_fault (aCons (cVar 3) (aCons (cVar 1) (aCons (cC .non) (aCons (cC .non) aNil)))))) (cBin oMul (cLst (aCons (cLst (aCons (cC (.str [114, 111, 111, 109])) (aCons (cC (.bl true)) (aCons (cUn oRepr (cVar 1)) aNil)))) aNil)) (cC (.int 8))))) (sRet (cC (.bl false))) sSkip)) (sSeq (sSet 2 (cLst (aCons (cC .non) (aCons (cC (.int 5)) (aCons (cC (.str [112, 97, 114, 116])) (aCons (cC (.dct [] [])) (aCons (cLst (aCons (cLst (aCons (cC (.int 0)) (aCons (cC (.int 0)) aNil))) aNil)) (aCons (cLst (aCons (cLst (aCons (cC (.int 2)) (aCons (cC (.int 0)) aNil))) aNil)) (aCons (cLst (aCons (cLst (aCons (cC (.int 1)) (aCons (cC (.int 0)) (aCons (cC (.int 0)) aNil)))) aNil)) (aCons (cLst (aCons (cLst (aCons (cC (.int 1)) aNil)) aNil)) (aCons (cLst (aCons (cTup (aCons (cC (.int 0)) (aCons (cC (.int 1)) aNil))) (aCons (cTup (aCons (cC (.int 1)) (aCons (cC (.int 0)) aNil))) aNil))) (aCons (cLst (aCons (cTup (aCons (cC (.int 1)) (aCons (cC (.int 1)) aNil))) (aCons (cTup (aCons (cC (.int 0)) (aCons (cC (.int 1)) aNil))) aNil))) (aCons (cLst (aCons (cTup (aCons (cC (.int 1)) (aCons (cC (.int 0)) aNil))) (aCons (cTup (aCons (cC (.int 0)) (aCons (cC (.int 2)) aNil))) aNil))) (aCons (cLst (aCons (cTup (aCons (cC (.int 1)) (aCons (cC (.bl true)) aNil))) aNil)) aNil)))))))))))))) (sSeq (sFor (jSeq (cBin oAdd (cVar 2) (cLst (aCons (cLst (aCons (cC .non) aNil)) (aCons (cLst (aCons (cTup (aCons (cC (.int 1)) (aCons (cC (.int 3)) aNil))) aNil)) (aCons (cLst (aCons (cTup (aCons (cC (.int 1)) (aCons (cUn oNeg (cC (.int 1))) aNil))) aNil)) (aCons (cLst (aCons (cTup (aCons (cC (.str [49])) (aCons (cC (.int 0)) aNil))) aNil)) (aCons (cTup (aCons (cC (.int 1)) (aCons (cC (.int 0)) aNil))) (aCons (cBin oMul (cLst (aCons (cLst (aCons (cC (.int 1)) (aCons (cC (.int 0)) aNil))) aNil)) (cC (.int 2))) (aCons (cLst (aCons (cTup (aCons (cC (.int 1)) (aCons (cC (.int 0)) aNil))) (aCons (cTup (aCons (cC (.int 0)) (aCons (cC (.int 1)) aNil))) (aCons (cTup (aCons (cC (.int 0)) (aCons (cC (.int 0)) aNil))) aNil)))) (aCons (cLst (aCons (cC (.dct [] [])) aNil)) aNil))))))))))) (gSt 1) (sSeq (sIf (tVal (cBin (oEq true) (cLc [3] (jRng1 (cC (.int 8))) (gSt 3) cYes (cCall F__law_fault (aCons (cVar 3) (aCons (cVar 0) (aCons (cVar 1) (aCons (cC .non) aNil)))))) (cBin oMul (cLst (aCons (cLst (aCons (cC (.str [112, 97, 114, 116])) (aCons (cC (.bl true)) (aCons (cUn oRepr (cVar 1)) aNil)))) aNil)) (cC (.int 8))))) (sRet (cC (.bl false))) sSkip) (sIf (tVal (cBin (oEq true) (cLc [3] (jSeq (cLst (aCons (cC (.int 6)) (aCons (cC (.int 7)) aNil)))) (gSt 3) cYes (cCall F__law_fault (aCons (cVar 3) (aCons (cVar 0) (aCons (cLst aNil) (aCons (cVar 1) aNil)))))) (cBin oMul (cLst (aCons (cLst (aCons (cC (.str [112, 97, 114, 116])) (aCons (cC (.bl true)) (aCons (cUn oRepr (cVar 1)) aNil)))) aNil)) (cC (.int 2))))) (sRet (cC (.bl false))) sSkip))) (sSeq (sFor (jSeq (cLst (aCons (cC .non) (aCons (cC (.int 5)) (aCons (cC (.str [120])) (aCons (cC (.dct [] [])) (aCons (cLst aNil) (aCons (cLst (aCons (cLst (aCons (cC (.int 1)) (aCons (cC (.int 0)) aNil))) (aCons (cLst (aCons (cC (.int 0)) (aCons (cC (.int 1)) aNil))) aNil))) (aCons (cLst (aCons (cLst (aCons (cC (.int 1)) aNil)) aNil)) (aCons (cLst (aCons (cLst (aCons (cC (.int 1)) (aCons (cC (.int 3)) aNil))) aNil)) (aCons (cLst (aCons (cLst (aCons (cC (.bl true)) (aCons (cC (.int 0)) aNil))) aNil)) (aCons (cLst (aCons (cC .non) aNil)) (aCons (cLst (aCons (cLst (aCons (cC (.int 1)) (aCons (cC (.int 0)) (aCons (cC (.int 0)) aNil)))) aNil)) (aCons (cTup (aCons (cC (.int 1)) (aCons (cC (.int 0)) aNil))) (aCons (cLst (aCons (cLst (aCons (cC (.str [49])) (aCons (cC (.int 0)) aNil))) aNil)) (aCons (cLst (aCons (cLst (aCons (cUn oNeg (cC (.int 1))) (aCons (cC (.int 0)) aNil))) aNil)) aNil)))))))))))))))) (gSt 1) (sIf (tVal (cBin (oEq true) (cLc [3] (jRng2 (cC (.int 1)) (cC (.int 6))) (gSt 3) cYes (cCall F__law_fault (aCons (cVar 3) (aCons (cVar 0) (aCons (cLst (aCons (cTup (aCons (cC (.int 1)) (aCons (cC (.int 0)) aNil))) aNil)) (aCons (cVar 1) aNil)))))) (cBin oMul (cLst (aCons (cLst (aCons (cC (.str [105, 109, 97, 103, 101, 115])) (aCons (cC (.bl true)) (aCons (cUn oRepr (cVar 1)) aNil)))) aNil)) (cC (.int 5))))) (sRet (cC (.bl false))) sSkip)) (sSeq (sFor (jSeq (cLst (aCons (cC .non) (aCons (cC (.int 5)) (aCons (cC (.str [120])) (aCons (cC (.dct [] [])) (aCons (cLst aNil) (aCons (cLst (aCons (cLst (aCons (cC (.int 1)) (aCons (cC (.int 0)) aNil))) aNil)) (aCons (cLst (aCons (cLst (aCons (cC (.int 1)) (aCons (cC (.int 0)) aNil))) (aCons (cLst (aCons (cC (.int 0)) (aCons (cC (.int 3)) aNil))) aNil))) (aCons (cLst (aCons (cLst (aCons (cC (.int 1)) (aCons (cC (.int 0)) aNil))) (aCons (cLst (aCons (cC (.int 0)) (aCons (cC (.bl true)) aNil))) aNil))) (aCons (cLst (aCons (cLst (aCons (cC (.int 1)) (aCons (cC (.int 0)) (aCons (cC (.int 0)) aNil)))) (aCons (cLst (aCons (cC (.int 0)) (aCons (cC (.int 1)) (aCons (cC (.int 0)) aNil)))) aNil))) (aCons (cLst (aCons (cLst (aCons (cC (.int 1)) (aCons (cC (.int 0)) aNil))) (aCons (cC .non) aNil))) (aCons (cLst (aCons (cLst (aCons (cC (.int 1)) (aCons (cC (.int 0)) aNil))) (aCons (cLst (aCons (cC (.int 0)) aNil)) aNil))) aNil))))))))))))) (gSt 1) (sIf (tVal (cBin (oEq true) (cCall F__law_fault (aCons (cC (.int 0)) (aCons (cVar 0) (aCons (cLst (aCons (cTup (aCons (cC (.int 1)) (aCons (cC (.int 0)) aNil))) aNil)) (aCons (cVar 1) aNil))))) (cLst (aCons (cC (.str [116, 97, 98, 108, 101])) (aCons (cC (.bl true)) (aCons (cUn oRepr (cVar 1)) aNil)))))) (sRet (cC (.bl false))) sSkip)) (sRet (cC (.bl true))))))))
def F__law_values_right : List PV → Tr PV := body (.ret .non) 4 c__law_values_right
theorem g__law_values_right (t : Tx T) : FnG T 13 (He.fAd T.K ("_law_values_right", none)) (fdOf T.K ("_law_values_right", none)) ["_law_room"] (SpC (kn T.K) (zV (kn T.K)) 1 F__law_values_right) := fn_bodyZ (own := []) (c := c__law_values_right) (N := N__law_values_right) end_V t.d__law_values_right sc__law_values_right rfl (by decide) fun cdv A outer s H E g hr =>
 (sb_cons (ss_for (passes_of rfl) rfl (si_seq rfl (SX.ofF (sf_lst (sa_cons se_non (sa_cons se_int (sa_cons se_bl (sa_cons (se_str (by kernel_rfl)) (sa_cons se_dct0 (sa_cons (SX.ofF (sf_lst (sa_cons (SX.ofF (sf_lst (sa_cons se_int (sa_cons se_int sa_nil)))) (sa_cons (SX.ofF (sf_lst (sa_cons se_int (sa_cons se_int sa_nil)))) sa_nil)))) (sa_cons (se_tup (sa_cons se_int (sa_cons (se_tup (sa_cons (se_tup (sa_cons se_int (sa_cons se_int sa_nil))) (sa_cons (se_tup (sa_cons se_int (sa_cons se_int sa_nil))) sa_nil))) sa_nil))) sa_nil)))))))))) (fun _ => (sg_name (i := 1) sc__law_values_right.nd rfl (loc_by rfl) rfl)) (fun _ => (sb_one (ss_if (st_cmp (op_ne' rfl hr.hu) (SX.ofFV (sf_lc (own := [("_law_way", 3)]) rfl rfl sc__law_values_right.nd (SI.toJ (si_rng1 rfl (t.fr_range) se_int)) (blkOk_by (own := [("_law_way", 3)]) rfl) rfl rfl (fun _ _ _ _ _ => (sg_name (i := 3) sc__law_values_right.nd rfl (loc_by rfl) rfl)) (fun _ _ _ _ _ => sts_nil) (fun _ _ _ _ _ => (sx_call (z := zV _) ⟨rfl, rfl, rfl, rfl, rfl⟩ (g__law_fault t) (hr.mono (by decide)) rfl t.g__law_fault (t.k__law_fault) (b__law_fault t) (sa_cons (se_var (i := 3) rfl (vis_by rfl) rfl) (sa_cons (se_var (i := 1) rfl (vis_by rfl) rfl) (sa_cons se_non (sa_cons se_non sa_nil)))) rfl rfl)))) (SX.toV (sx_bin (z := zV _) (op_mul' rfl) (SX.ofFV (sf_lst (sa_cons (SX.ofF (sf_lst (sa_cons (se_str (by kernel_rfl)) (sa_cons se_bl (sa_cons (se_repr rfl hr.gd hr.hu t.sm rfl (t.fr_repr) (SX.toV (se_var (i := 1) rfl (vis_by rfl) rfl))) sa_nil))))) sa_nil))) (SX.toV se_int))) (nomark _)) (sb_one (ss_ret se_bl)) sb_nil))))
 (sb_cons (ss_set (i := 2) sc__law_values_right.nd rfl (loc_by rfl) rfl (SX.ofF (sf_lst (sa_cons se_non (sa_cons se_int (sa_cons (se_str (by kernel_rfl)) (sa_cons se_dct0 (sa_cons (SX.ofF (sf_lst (sa_cons (SX.ofF (sf_lst (sa_cons se_int (sa_cons se_int sa_nil)))) sa_nil))) (sa_cons (SX.ofF (sf_lst (sa_cons (SX.ofF (sf_lst (sa_cons se_int (sa_cons se_int sa_nil)))) sa_nil))) (sa_cons (SX.ofF (sf_lst (sa_cons (SX.ofF (sf_lst (sa_cons se_int (sa_cons se_int (sa_cons se_int sa_nil))))) sa_nil))) (sa_cons (SX.ofF (sf_lst (sa_cons (SX.ofF (sf_lst (sa_cons se_int sa_nil))) sa_nil))) (sa_cons (SX.ofF (sf_lst (sa_cons (se_tup (sa_cons se_int (sa_cons se_int sa_nil))) (sa_cons (se_tup (sa_cons se_int (sa_cons se_int sa_nil))) sa_nil)))) (sa_cons (SX.ofF (sf_lst (sa_cons (se_tup (sa_cons se_int (sa_cons se_int sa_nil))) (sa_cons (se_tup (sa_cons se_int (sa_cons se_int sa_nil))) sa_nil)))) (sa_cons (SX.ofF (sf_lst (sa_cons (se_tup (sa_cons se_int (sa_cons se_int sa_nil))) (sa_cons (se_tup (sa_cons se_int (sa_cons se_int sa_nil))) sa_nil)))) (sa_cons (SX.ofF (sf_lst (sa_cons (se_tup (sa_cons se_int (sa_cons se_bl sa_nil))) sa_nil))) sa_nil)))))))))))))))
 (sb_cons (ss_for (passes_of rfl) rfl (si_seq rfl (sx_bin (z := zV _) (op_add' rfl) (SX.toV (se_var (i := 2) rfl (vis_by rfl) rfl)) (SX.ofFV (sf_lst (sa_cons (SX.ofF (sf_lst (sa_cons se_non sa_nil))) (sa_cons (SX.ofF (sf_lst (sa_cons (se_tup (sa_cons se_int (sa_cons se_int sa_nil))) sa_nil))) (sa_cons (SX.ofF (sf_lst (sa_cons (se_tup (sa_cons se_int (sa_cons (se_neg se_int) sa_nil))) sa_nil))) (sa_cons (SX.ofF (sf_lst (sa_cons (se_tup (sa_cons (se_str (by kernel_rfl)) (sa_cons se_int sa_nil))) sa_nil))) (sa_cons (se_tup (sa_cons se_int (sa_cons se_int sa_nil))) (sa_cons (sx_bin (z := zV _) (op_mul' rfl) (SX.ofFV (sf_lst (sa_cons (SX.ofF (sf_lst (sa_cons se_int (sa_cons se_int sa_nil)))) sa_nil))) (SX.toV se_int)) (sa_cons (SX.ofF (sf_lst (sa_cons (se_tup (sa_cons se_int (sa_cons se_int sa_nil))) (sa_cons (se_tup (sa_cons se_int (sa_cons se_int sa_nil))) (sa_cons (se_tup (sa_cons se_int (sa_cons se_int sa_nil))) sa_nil))))) (sa_cons (SX.ofF (sf_lst (sa_cons se_dct0 sa_nil))) sa_nil)))))))))))) (fun _ => (sg_name (i := 1) sc__law_values_right.nd rfl (loc_by rfl) rfl)) (fun _ => (sb_cons (ss_if (st_cmp (op_ne' rfl hr.hu) (SX.ofFV (sf_lc (own := [("_law_way", 3)]) rfl rfl sc__law_values_right.nd (SI.toJ (si_rng1 rfl (t.fr_range) se_int)) (blkOk_by (own := [("_law_way", 3)]) rfl) rfl rfl (fun _ _ _ _ _ => (sg_name (i := 3) sc__law_values_right.nd rfl (loc_by rfl) rfl)) (fun _ _ _ _ _ => sts_nil) (fun _ _ _ _ _ => (sx_call (z := zV _) ⟨rfl, rfl, rfl, rfl, rfl⟩ (g__law_fault t) (hr.mono (by decide)) rfl t.g__law_fault (t.k__law_fault) (b__law_fault t) (sa_cons (se_var (i := 3) rfl (vis_by rfl) rfl) (sa_cons (se_var (i := 0) rfl (vis_by rfl) rfl) (sa_cons (se_var (i := 1) rfl (vis_by rfl) rfl) (sa_cons se_non sa_nil)))) rfl rfl)))) (SX.toV (sx_bin (z := zV _) (op_mul' rfl) (SX.ofFV (sf_lst (sa_cons (SX.ofF (sf_lst (sa_cons (se_str (by kernel_rfl)) (sa_cons se_bl (sa_cons (se_repr rfl hr.gd hr.hu t.sm rfl (t.fr_repr) (SX.toV (se_var (i := 1) rfl (vis_by rfl) rfl))) sa_nil))))) sa_nil))) (SX.toV se_int))) (nomark _)) (sb_one (ss_ret se_bl)) sb_nil)
 (sb_one (ss_if (st_cmp (op_ne' rfl hr.hu) (SX.ofFV (sf_lc (own := [("_law_way", 3)]) rfl rfl sc__law_values_right.nd (sj_seq rfl (SX.ofFV (sf_lst (sa_cons se_int (sa_cons se_int sa_nil))))) (blkOk_by (own := [("_law_way", 3)]) rfl) rfl rfl (fun _ _ _ _ _ => (sg_name (i := 3) sc__law_values_right.nd rfl (loc_by rfl) rfl)) (fun _ _ _ _ _ => sts_nil) (fun _ _ _ _ _ => (sx_call (z := zV _) ⟨rfl, rfl, rfl, rfl, rfl⟩ (g__law_fault t) (hr.mono (by decide)) rfl t.g__law_fault (t.k__law_fault) (b__law_fault t) (sa_cons (se_var (i := 3) rfl (vis_by rfl) rfl) (sa_cons (se_var (i := 0) rfl (vis_by rfl) rfl) (sa_cons (SX.ofF (sf_lst sa_nil)) (sa_cons (se_var (i := 1) rfl (vis_by rfl) rfl) sa_nil)))) rfl rfl)))) (SX.toV (sx_bin (z := zV _) (op_mul' rfl) (SX.ofFV (sf_lst (sa_cons (SX.ofF (sf_lst (sa_cons (se_str (by kernel_rfl)) (sa_cons se_bl (sa_cons (se_repr rfl hr.gd hr.hu t.sm rfl (t.fr_repr) (SX.toV (se_var (i := 1) rfl (vis_by rfl) rfl))) sa_nil))))) sa_nil))) (SX.toV se_int))) (nomark _)) (sb_one (ss_ret se_bl)) sb_nil)))))
 (sb_cons (ss_for (passes_of rfl) rfl (si_seq rfl (SX.ofF (sf_lst (sa_cons se_non (sa_cons se_int (sa_cons (se_str (by kernel_rfl)) (sa_cons se_dct0 (sa_cons (SX.ofF (sf_lst sa_nil)) (sa_cons (SX.ofF (sf_lst (sa_cons (SX.ofF (sf_lst (sa_cons se_int (sa_cons se_int sa_nil)))) (sa_cons (SX.ofF (sf_lst (sa_cons se_int (sa_cons se_int sa_nil)))) sa_nil)))) (sa_cons (SX.ofF (sf_lst (sa_cons (SX.ofF (sf_lst (sa_cons se_int sa_nil))) sa_nil))) (sa_cons (SX.ofF (sf_lst (sa_cons (SX.ofF (sf_lst (sa_cons se_int (sa_cons se_int sa_nil)))) sa_nil))) (sa_cons (SX.ofF (sf_lst (sa_cons (SX.ofF (sf_lst (sa_cons se_bl (sa_cons se_int sa_nil)))) sa_nil))) (sa_cons (SX.ofF (sf_lst (sa_cons se_non sa_nil))) (sa_cons (SX.ofF (sf_lst (sa_cons (SX.ofF (sf_lst (sa_cons se_int (sa_cons se_int (sa_cons se_int sa_nil))))) sa_nil))) (sa_cons (se_tup (sa_cons se_int (sa_cons se_int sa_nil))) (sa_cons (SX.ofF (sf_lst (sa_cons (SX.ofF (sf_lst (sa_cons (se_str (by kernel_rfl)) (sa_cons se_int sa_nil)))) sa_nil))) (sa_cons (SX.ofF (sf_lst (sa_cons (SX.ofF (sf_lst (sa_cons (se_neg se_int) (sa_cons se_int sa_nil)))) sa_nil))) sa_nil))))))))))))))))) (fun _ => (sg_name (i := 1) sc__law_values_right.nd rfl (loc_by rfl) rfl)) (fun _ => (sb_one (ss_if (st_cmp (op_ne' rfl hr.hu) (SX.ofFV (sf_lc (own := [("_law_way", 3)]) rfl rfl sc__law_values_right.nd (SI.toJ (si_rng2 rfl (t.fr_range) se_int se_int)) (blkOk_by (own := [("_law_way", 3)]) rfl) rfl rfl (fun _ _ _ _ _ => (sg_name (i := 3) sc__law_values_right.nd rfl (loc_by rfl) rfl)) (fun _ _ _ _ _ => sts_nil) (fun _ _ _ _ _ => (sx_call (z := zV _) ⟨rfl, rfl, rfl, rfl, rfl⟩ (g__law_fault t) (hr.mono (by decide)) rfl t.g__law_fault (t.k__law_fault) (b__law_fault t) (sa_cons (se_var (i := 3) rfl (vis_by rfl) rfl) (sa_cons (se_var (i := 0) rfl (vis_by rfl) rfl) (sa_cons (SX.ofF (sf_lst (sa_cons (se_tup (sa_cons se_int (sa_cons se_int sa_nil))) sa_nil))) (sa_cons (se_var (i := 1) rfl (vis_by rfl) rfl) sa_nil)))) rfl rfl)))) (SX.toV (sx_bin (z := zV _) (op_mul' rfl) (SX.ofFV (sf_lst (sa_cons (SX.ofF (sf_lst (sa_cons (se_str (by kernel_rfl)) (sa_cons se_bl (sa_cons (se_repr rfl hr.gd hr.hu t.sm rfl (t.fr_repr) (SX.toV (se_var (i := 1) rfl (vis_by rfl) rfl))) sa_nil))))) sa_nil))) (SX.toV se_int))) (nomark _)) (sb_one (ss_ret se_bl)) sb_nil))))
 (sb_cons (ss_for (passes_of rfl) rfl (si_seq rfl (SX.ofF (sf_lst (sa_cons se_non (sa_cons se_int (sa_cons (se_str (by kernel_rfl)) (sa_cons se_dct0 (sa_cons (SX.ofF (sf_lst sa_nil)) (sa_cons (SX.ofF (sf_lst (sa_cons (SX.ofF (sf_lst (sa_cons se_int (sa_cons se_int sa_nil)))) sa_nil))) (sa_cons (SX.ofF (sf_lst (sa_cons (SX.ofF (sf_lst (sa_cons se_int (sa_cons se_int sa_nil)))) (sa_cons (SX.ofF (sf_lst (sa_cons se_int (sa_cons se_int sa_nil)))) sa_nil)))) (sa_cons (SX.ofF (sf_lst (sa_cons (SX.ofF (sf_lst (sa_cons se_int (sa_cons se_int sa_nil)))) (sa_cons (SX.ofF (sf_lst (sa_cons se_int (sa_cons se_bl sa_nil)))) sa_nil)))) (sa_cons (SX.ofF (sf_lst (sa_cons (SX.ofF (sf_lst (sa_cons se_int (sa_cons se_int (sa_cons se_int sa_nil))))) (sa_cons (SX.ofF (sf_lst (sa_cons se_int (sa_cons se_int (sa_cons se_int sa_nil))))) sa_nil)))) (sa_cons (SX.ofF (sf_lst (sa_cons (SX.ofF (sf_lst (sa_cons se_int (sa_cons se_int sa_nil)))) (sa_cons se_non sa_nil)))) (sa_cons (SX.ofF (sf_lst (sa_cons (SX.ofF (sf_lst (sa_cons se_int (sa_cons se_int sa_nil)))) (sa_cons (SX.ofF (sf_lst (sa_cons se_int sa_nil))) sa_nil)))) sa_nil)))))))))))))) (fun _ => (sg_name (i := 1) sc__law_values_right.nd rfl (loc_by rfl) rfl)) (fun _ => (sb_one (ss_if (st_cmp (op_ne' rfl hr.hu) (SX.toV (sx_call (z := zV _) ⟨rfl, rfl, rfl, rfl, rfl⟩ (g__law_fault t) (hr.mono (by decide)) rfl t.g__law_fault (t.k__law_fault) (b__law_fault t) (sa_cons se_int (sa_cons (se_var (i := 0) rfl (vis_by rfl) rfl) (sa_cons (SX.ofF (sf_lst (sa_cons (se_tup (sa_cons se_int (sa_cons se_int sa_nil))) sa_nil))) (sa_cons (se_var (i := 1) rfl (vis_by rfl) rfl) sa_nil)))) rfl rfl)) (SX.ofFV (sf_lst (sa_cons (se_str (by kernel_rfl)) (sa_cons se_bl (sa_cons (se_repr rfl hr.gd hr.hu t.sm rfl (t.fr_repr) (SX.toV (se_var (i := 1) rfl (vis_by rfl) rfl))) sa_nil))))) (nomark _)) (sb_one (ss_ret se_bl)) sb_nil))))
 (sb_one (ss_ret se_bl)))))))
abbrev N__law_judges_right : List Str := ["_law_room", "_law_part", "_law_images", "_law_idle", "_law_odd", "_law_value", "_law_some", "_law_told"]
theorem sc__law_judges_right : FnScope N__law_judges_right ["_law_room"] (defScope s__law_judges_right) := ⟨rfl, rfl, rfl, by decide +kernel, rfl, by decide +kernel, by decide +kernel⟩
theorem b__law_judges_right (t : Tx T) : Binds T.K (fdOf T.K ("_law_judges_right", none)) ["_law_room"] [] := t.d__law_judges_right.bindsN fun _ _ _ _ _ _ us hl => match us, hl with | [_], _ => rfl
def c__law_judges_right : Sc := (sSeq (sPar3 1 2 3 (cLst (aCons (cTup (aCons (cC (.int 1)) (aCons (cC (.int 0)) aNil))) aNil)) (cLst (aCons (cTup (aCons (cC (.int 0)) (aCons (cC (.int 2)) aNil))) aNil)) (cLst (aCons (cLst (aCons (cC (.int 1)) (aCons (cC (.int 0)) aNil))) (aCons (cLst (aCons (cC (.int 0)) (aCons (cC (.int 1)) aNil))) aNil)))) (sSeq (sSet 4 (cLst (aCons (cC .non) (aCons (cC (.int 5)) (aCons (cC (.bl true)) (aCons (cC (.str [116, 97, 98, 108, 101])) (aCons (cC (.dct [] [])) (aCons (cLst aNil) (aCons (cLst (aCons (cLst (aCons (cC (.int 1)) (aCons (cC (.int 0)) aNil))) aNil)) (aCons (cLst (aCons (cLst (aCons (cC (.int 1)) (aCons (cC (.int 0)) aNil))) (aCons (cLst (aCons (cC (.int 0)) (aCons (cC (.int 3)) aNil))) aNil))) (aCons (cLst (aCons (cLst (aCons (cC (.int 1)) (aCons (cC (.int 0)) aNil))) (aCons (cLst (aCons (cC (.int 0)) (aCons (cC (.bl true)) aNil))) aNil))) (aCons (cLst (aCons (cLst (aCons (cC (.int 1)) (aCons (cC (.int 0)) aNil))) (aCons (cC .non) aNil))) (aCons (cVar 3) (aCons (cLst (aCons (cLst (aCons (cC (.int 0)) (aCons (cC (.int 2)) aNil))) (aCons (cLst (aCons (cC (.int 0)) (aCons (cC (.int 1)) aNil))) aNil))) (aCons (cTup (aCons (cTup (aCons (cC (.int 1)) (aCons (cC (.int 0)) aNil))) (aCons (cTup (aCons (cC (.int 0)) (aCons (cC (.int 2)) aNil))) aNil))) aNil))))))))))))))) (sSeq (sFor (jSeq (cVar 4)) (gSt 5) (sIf (tOr (tVal (cBin (oIsB true) (cCall F_continues (aCons (cVar 0) (aCons (cVar 1) (aCons (cVar 2) (aCons (cVar 5) aNil))))) (cC (.bl false)))) (tVal (cBin (oIsB true) (cCall F_leads_part (aCons (cVar 0) (aCons (cVar 1) (aCons (cLst (aCons (cTup (aCons (cC (.int 0)) (aCons (cC (.int 1)) aNil))) aNil)) (aCons (cVar 5) aNil))))) (cC (.bl false))))) (sRet (cC (.bl false))) sSkip)) (sSeq (sFor (jSeq (cBin oAdd (cVar 4) (cLst (aCons (cTup (aCons (cC (.str [98, 101, 116, 119, 101, 101, 110])) (aCons (cC (.int 0)) (aCons (cC (.int 0)) aNil)))) (aCons (cTup (aCons (cC (.str [98, 101, 116, 119, 101, 101, 110])) (aCons (cC (.int 0)) (aCons (cC (.int 1)) aNil)))) (aCons (cTup (aCons (cC (.str [108, 111, 115, 116])) (aCons (cLst (aCons (cC (.int 1)) aNil)) aNil))) (aCons (cTup (aCons (cC (.str [115, 116, 105, 108, 108])) (aCons (cTup (aCons (cC (.int 1)) aNil)) aNil))) (aCons (cTup (aCons (cC (.str [98, 101, 116, 119, 101, 101, 110])) aNil)) (aCons (cLst (aCons (cC (.str [98, 101, 116, 119, 101, 101, 110])) (aCons (cC (.int 0)) (aCons (cC (.int 0)) aNil)))) (aCons (cTup (aCons (cC (.str [98, 101, 116, 119, 101, 101, 110])) (aCons (cC (.bl false)) (aCons (cC (.bl false)) aNil)))) aNil)))))))))) (gSt 5) (sIf (tVal (cBin (oIsB true) (cCall F_is_bar (aCons (cVar 0) (aCons (cVar 1) (aCons (cVar 2) (aCons (cVar 5) aNil))))) (cC (.bl false)))) (sRet (cC (.bl false))) sSkip)) (sSeq (sSet 6 (cLst (aCons (cTup (aCons (cC (.str [98, 101, 116, 119, 101, 101, 110])) (aCons (cC (.int 0)) (aCons (cC (.int 0)) aNil)))) (aCons (cTup (aCons (cC (.str [108, 111, 115, 116])) (aCons (cLst (aCons (cC (.int 1)) aNil)) aNil))) (aCons (cTup (aCons (cC (.str [108, 111, 115, 116])) (aCons (cTup (aCons (cC (.int 2)) aNil)) aNil))) (aCons (cTup (aCons (cC (.str [115, 116, 105, 108, 108])) (aCons (cLst (aCons (cC (.int 1)) aNil)) aNil))) (aCons (cTup (aCons (cC (.str [108, 111, 115, 116])) (aCons (cLst (aCons (cC (.int 0)) aNil)) aNil))) (aCons (cTup (aCons (cC (.str [108, 111, 115, 116])) (aCons (cLst (aCons (cC (.bl true)) aNil)) aNil))) (aCons (cTup (aCons (cC (.str [108, 111, 115, 116])) (aCons (cLst (aCons (cC (.int 1)) (aCons (cC (.int 0)) aNil))) aNil))) (aCons (cTup (aCons (cC (.str [108, 111, 115, 116])) (aCons (cC (.int 1)) aNil))) (aCons (cTup (aCons (cC (.str [108, 111, 115, 116])) aNil)) (aCons (cTup (aCons (cC (.str [76, 111, 115, 116])) (aCons (cLst (aCons (cC (.int 1)) aNil)) aNil))) aNil)))))))))))) (sSeq (sSet 7 (cLc [5] (jSeq (cBin oAdd (cVar 6) (cLst (aCons (cTup (aCons (cC (.str [98, 101, 116, 119, 101, 101, 110])) (aCons (cC (.int 0)) (aCons (cC (.int 0)) (aCons (cC (.int 0)) aNil))))) (aCons (cLst (aCons (cC (.str [108, 111, 115, 116])) (aCons (cLst (aCons (cC (.int 1)) aNil)) aNil))) (aCons (cTup (aCons (cC (.str [98, 101, 116, 119, 101, 101, 110])) (aCons (cC (.int 0)) (aCons (cC (.int 1)) aNil)))) (aCons (cTup (aCons (cC (.str [98, 101, 116, 119, 101, 101, 110])) (aCons (cUn oNeg (cC (.int 1))) (aCons (cC (.int 0)) aNil)))) (aCons (cTup (aCons (cC (.str [108, 111, 115, 116])) (aCons (cLst (aCons (cC (.int 3)) aNil)) aNil))) aNil)))))))) (gSt 5) cYes (cCall F_is_bar (aCons (cVar 0) (aCons (cVar 1) (aCons (cLst (aCons (cTup (aCons (cC (.int 0)) (aCons (cC (.int 0)) aNil))) aNil)) (aCons (cVar 5) aNil))))))) (sRet (cBin (oEq false) (cUn oRepr (cVar 7)) (cUn oRepr (cBin oAdd (cLst (aCons (cC (.bl true)) (aCons (cC (.bl true)) (aCons (cC (.bl true)) (aCons (cC (.bl true)) aNil))))) (cBin oMul (cLst (aCons (cC (.bl false)) aNil)) (cC (.int 11)))))))))))))
def F__law_judges_right : List PV → Tr PV := body (.ret .non) 8 c__law_judges_right
theorem g__law_judges_right (t : Tx T) : FnG T 9 (He.fAd T.K ("_law_judges_right", none)) (fdOf T.K ("_law_judges_right", none)) ["_law_room"] (SpC (kn T.K) (zV (kn T.K)) 1 F__law_judges_right) := fn_bodyZ (own := []) (c := c__law_judges_right) (N := N__law_judges_right) end_V t.d__law_judges_right sc__law_judges_right rfl (by decide) fun cdv A outer s H E g hr =>
 (sb_cons (ss_parG3 (i := 1) (j := 2) (l := 3) rfl sc__law_judges_right.nd rfl rfl rfl (loc_by rfl) (loc_by rfl) (loc_by rfl) (.inr ⟨rfl, rfl⟩) (.inr ⟨rfl, rfl⟩) (.inr ⟨rfl, rfl⟩) (SX.ofF (sf_lst (sa_cons (se_tup (sa_cons se_int (sa_cons se_int sa_nil))) sa_nil))) (SX.ofF (sf_lst (sa_cons (se_tup (sa_cons se_int (sa_cons se_int sa_nil))) sa_nil))) (SX.ofF (sf_lst (sa_cons (SX.ofF (sf_lst (sa_cons se_int (sa_cons se_int sa_nil)))) (sa_cons (SX.ofF (sf_lst (sa_cons se_int (sa_cons se_int sa_nil)))) sa_nil)))))
 (sb_cons (ss_set (i := 4) sc__law_judges_right.nd rfl (loc_by rfl) rfl (SX.ofF (sf_lst (sa_cons se_non (sa_cons se_int (sa_cons se_bl (sa_cons (se_str (by kernel_rfl)) (sa_cons se_dct0 (sa_cons (SX.ofF (sf_lst sa_nil)) (sa_cons (SX.ofF (sf_lst (sa_cons (SX.ofF (sf_lst (sa_cons se_int (sa_cons se_int sa_nil)))) sa_nil))) (sa_cons (SX.ofF (sf_lst (sa_cons (SX.ofF (sf_lst (sa_cons se_int (sa_cons se_int sa_nil)))) (sa_cons (SX.ofF (sf_lst (sa_cons se_int (sa_cons se_int sa_nil)))) sa_nil)))) (sa_cons (SX.ofF (sf_lst (sa_cons (SX.ofF (sf_lst (sa_cons se_int (sa_cons se_int sa_nil)))) (sa_cons (SX.ofF (sf_lst (sa_cons se_int (sa_cons se_bl sa_nil)))) sa_nil)))) (sa_cons (SX.ofF (sf_lst (sa_cons (SX.ofF (sf_lst (sa_cons se_int (sa_cons se_int sa_nil)))) (sa_cons se_non sa_nil)))) (sa_cons (se_var (i := 3) rfl (vis_by rfl) rfl) (sa_cons (SX.ofF (sf_lst (sa_cons (SX.ofF (sf_lst (sa_cons se_int (sa_cons se_int sa_nil)))) (sa_cons (SX.ofF (sf_lst (sa_cons se_int (sa_cons se_int sa_nil)))) sa_nil)))) (sa_cons (se_tup (sa_cons (se_tup (sa_cons se_int (sa_cons se_int sa_nil))) (sa_cons (se_tup (sa_cons se_int (sa_cons se_int sa_nil))) sa_nil))) sa_nil))))))))))))))))
 (sb_cons (ss_for (passes_of rfl) rfl (si_seq rfl (se_var (i := 4) rfl (vis_by rfl) rfl)) (fun _ => (sg_name (i := 5) sc__law_judges_right.nd rfl (loc_by rfl) rfl)) (fun _ => (sb_one (ss_if (SW.st (sw_or (st_cmp op_notB' (SX.toV (sx_call (z := zV _) ⟨rfl, rfl, rfl, rfl, rfl⟩ (g_continues t) (hr.mono (by decide)) rfl t.g_continues (t.k_continues) (b_continues t) (sa_cons (se_var (i := 0) rfl (vis_by rfl) rfl) (sa_cons (se_var (i := 1) rfl (vis_by rfl) rfl) (sa_cons (se_var (i := 2) rfl (vis_by rfl) rfl) (sa_cons (se_var (i := 5) rfl (vis_by rfl) rfl) sa_nil)))) rfl rfl)) (SX.toV se_bl) (nomark _)) (sw_or1 (st_cmp op_notB' (SX.toV (sx_call (z := zV _) ⟨rfl, rfl, rfl, rfl, rfl⟩ (g_leads_part t) (hr.mono (by decide)) rfl t.g_leads_part (t.k_leads_part) (b_leads_part t) (sa_cons (se_var (i := 0) rfl (vis_by rfl) rfl) (sa_cons (se_var (i := 1) rfl (vis_by rfl) rfl) (sa_cons (SX.ofF (sf_lst (sa_cons (se_tup (sa_cons se_int (sa_cons se_int sa_nil))) sa_nil))) (sa_cons (se_var (i := 5) rfl (vis_by rfl) rfl) sa_nil)))) rfl rfl)) (SX.toV se_bl) (nomark _))))) (sb_one (ss_ret se_bl)) sb_nil))))
 (sb_cons (ss_for (passes_of rfl) rfl (si_seq rfl (sx_bin (z := zV _) (op_add' rfl) (SX.toV (se_var (i := 4) rfl (vis_by rfl) rfl)) (SX.ofFV (sf_lst (sa_cons (se_tup (sa_cons (se_str (by kernel_rfl)) (sa_cons se_int (sa_cons se_int sa_nil)))) (sa_cons (se_tup (sa_cons (se_str (by kernel_rfl)) (sa_cons se_int (sa_cons se_int sa_nil)))) (sa_cons (se_tup (sa_cons (se_str (by kernel_rfl)) (sa_cons (SX.ofF (sf_lst (sa_cons se_int sa_nil))) sa_nil))) (sa_cons (se_tup (sa_cons (se_str (by kernel_rfl)) (sa_cons (se_tup (sa_cons se_int sa_nil)) sa_nil))) (sa_cons (se_tup (sa_cons (se_str (by kernel_rfl)) sa_nil)) (sa_cons (SX.ofF (sf_lst (sa_cons (se_str (by kernel_rfl)) (sa_cons se_int (sa_cons se_int sa_nil))))) (sa_cons (se_tup (sa_cons (se_str (by kernel_rfl)) (sa_cons se_bl (sa_cons se_bl sa_nil)))) sa_nil))))))))))) (fun _ => (sg_name (i := 5) sc__law_judges_right.nd rfl (loc_by rfl) rfl)) (fun _ => (sb_one (ss_if (st_cmp op_notB' (SX.toV (sx_call (z := zV _) ⟨rfl, rfl, rfl, rfl, rfl⟩ (g_is_bar t) (hr.mono (by decide)) rfl t.g_is_bar (t.k_is_bar) (b_is_bar t) (sa_cons (se_var (i := 0) rfl (vis_by rfl) rfl) (sa_cons (se_var (i := 1) rfl (vis_by rfl) rfl) (sa_cons (se_var (i := 2) rfl (vis_by rfl) rfl) (sa_cons (se_var (i := 5) rfl (vis_by rfl) rfl) sa_nil)))) rfl rfl)) (SX.toV se_bl) (nomark _)) (sb_one (ss_ret se_bl)) sb_nil))))
 (sb_cons (ss_set (i := 6) sc__law_judges_right.nd rfl (loc_by rfl) rfl (SX.ofF (sf_lst (sa_cons (se_tup (sa_cons (se_str (by kernel_rfl)) (sa_cons se_int (sa_cons se_int sa_nil)))) (sa_cons (se_tup (sa_cons (se_str (by kernel_rfl)) (sa_cons (SX.ofF (sf_lst (sa_cons se_int sa_nil))) sa_nil))) (sa_cons (se_tup (sa_cons (se_str (by kernel_rfl)) (sa_cons (se_tup (sa_cons se_int sa_nil)) sa_nil))) (sa_cons (se_tup (sa_cons (se_str (by kernel_rfl)) (sa_cons (SX.ofF (sf_lst (sa_cons se_int sa_nil))) sa_nil))) (sa_cons (se_tup (sa_cons (se_str (by kernel_rfl)) (sa_cons (SX.ofF (sf_lst (sa_cons se_int sa_nil))) sa_nil))) (sa_cons (se_tup (sa_cons (se_str (by kernel_rfl)) (sa_cons (SX.ofF (sf_lst (sa_cons se_bl sa_nil))) sa_nil))) (sa_cons (se_tup (sa_cons (se_str (by kernel_rfl)) (sa_cons (SX.ofF (sf_lst (sa_cons se_int (sa_cons se_int sa_nil)))) sa_nil))) (sa_cons (se_tup (sa_cons (se_str (by kernel_rfl)) (sa_cons se_int sa_nil))) (sa_cons (se_tup (sa_cons (se_str (by kernel_rfl)) sa_nil)) (sa_cons (se_tup (sa_cons (se_str (by kernel_rfl)) (sa_cons (SX.ofF (sf_lst (sa_cons se_int sa_nil))) sa_nil))) sa_nil)))))))))))))
 (sb_cons (ss_setLc (own := [("_law_value", 5)]) (i := 7) rfl rfl sc__law_judges_right.nd rfl rfl rfl rfl (sj_seq rfl (SX.toV (sx_bin (z := zV _) (op_add' rfl) (SX.toV (se_var (i := 6) rfl (vis_by rfl) rfl)) (SX.ofFV (sf_lst (sa_cons (se_tup (sa_cons (se_str (by kernel_rfl)) (sa_cons se_int (sa_cons se_int (sa_cons se_int sa_nil))))) (sa_cons (SX.ofF (sf_lst (sa_cons (se_str (by kernel_rfl)) (sa_cons (SX.ofF (sf_lst (sa_cons se_int sa_nil))) sa_nil)))) (sa_cons (se_tup (sa_cons (se_str (by kernel_rfl)) (sa_cons se_int (sa_cons se_int sa_nil)))) (sa_cons (se_tup (sa_cons (se_str (by kernel_rfl)) (sa_cons (se_neg se_int) (sa_cons se_int sa_nil)))) (sa_cons (se_tup (sa_cons (se_str (by kernel_rfl)) (sa_cons (SX.ofF (sf_lst (sa_cons se_int sa_nil))) sa_nil))) sa_nil)))))))))) (blkOk_by (own := [("_law_value", 5)]) rfl) rfl rfl (fun _ _ _ _ _ => (sg_name (i := 5) sc__law_judges_right.nd rfl (loc_by rfl) rfl)) (fun _ _ _ _ _ => sts_nil) (fun _ _ _ _ _ => (sx_call (z := zV _) ⟨rfl, rfl, rfl, rfl, rfl⟩ (g_is_bar t) (hr.mono (by decide)) rfl t.g_is_bar (t.k_is_bar) (b_is_bar t) (sa_cons (se_var (i := 0) rfl (vis_by rfl) rfl) (sa_cons (se_var (i := 1) rfl (vis_by rfl) rfl) (sa_cons (SX.ofF (sf_lst (sa_cons (se_tup (sa_cons se_int (sa_cons se_int sa_nil))) sa_nil))) (sa_cons (se_var (i := 5) rfl (vis_by rfl) rfl) sa_nil)))) rfl rfl)))
 (sb_one (ss_ret (sx_cmp (z := zV _) (op_eq' rfl hr.hu) (SX.toV (se_repr rfl hr.gd hr.hu t.sm rfl (t.fr_repr) (SX.toV (se_var (i := 7) rfl (vis_by rfl) rfl)))) (SX.toV (se_repr rfl hr.gd hr.hu t.sm rfl (t.fr_repr) (SX.toV (sx_bin (z := zV _) (op_add' rfl) (SX.ofFV (sf_lst (sa_cons se_bl (sa_cons se_bl (sa_cons se_bl (sa_cons se_bl sa_nil)))))) (SX.toV (sx_bin (z := zV _) (op_mul' rfl) (SX.ofFV (sf_lst (sa_cons se_bl sa_nil))) (SX.toV se_int))))))) (nomark _))))))))))
abbrev N_Room_repr : List Str := ["self"]
theorem sc_Room_repr : FnScope N_Room_repr ["self"] (defScope s_Room_repr) := ⟨rfl, rfl, rfl, by decide +kernel, rfl, by decide +kernel, by decide +kernel⟩
theorem b_Room_repr (t : Tx T) : Binds T.K (fdOf T.K ("Room", some "__repr__")) ["self"] [] := t.d_Room_repr.bindsN fun _ _ _ _ _ _ us hl => match us, hl with | [_], _ => rfl
def c_Room_repr : Sc := (sRet (cJoin [(cC (.str [82, 111, 111, 109, 40])), (cUn oFmt (cUn (oFld js_own_prime) (cVar 0))), (cC (.str [44, 32])), (cUn oFmt (cUn oRepr (cUn (oFld js_own_rows) (cVar 0)))), (cC (.str [41]))]))
def F_Room_repr : List PV → Tr PV := body (.ret .non) 1 c_Room_repr
theorem g_Room_repr (t : Tx T) : FnG T 1 (He.fAd T.K ("Room", some "__repr__")) (fdOf T.K ("Room", some "__repr__")) ["self"] (SpC (kn T.K) (zV (kn T.K)) 1 F_Room_repr) := fn_bodyZ (own := []) (c := c_Room_repr) (N := N_Room_repr) end_V t.d_Room_repr sc_Room_repr rfl (by decide) fun cdv A outer s H E g hr =>
 (sb_one (ss_ret (se_join (SJs.cons (se_str (by kernel_rfl)) (SJs.cons (se_fmt (se_fld rfl t.fl_own_prime (se_var (i := 0) rfl (vis_by rfl) rfl))) (SJs.cons (se_str (by kernel_rfl)) (SJs.cons (se_fmt (se_repr rfl hr.gd hr.hu t.sm rfl (t.fr_repr) (SX.toV (se_fld rfl t.fl_own_rows (se_var (i := 0) rfl (vis_by rfl) rfl))))) (SJs.cons (se_str (by kernel_rfl)) SJs.nil))))))))
abbrev N__law_names_right : List Str := ["_law_room", "_law_turn", "_law_stay", "_law_told", "_law_none", "_law_due"]
theorem sc__law_names_right : FnScope N__law_names_right ["_law_room"] (defScope s__law_names_right) := ⟨rfl, rfl, rfl, by decide +kernel, rfl, by decide +kernel, by decide +kernel⟩
theorem b__law_names_right (t : Tx T) : Binds T.K (fdOf T.K ("_law_names_right", none)) ["_law_room"] [] := t.d__law_names_right.bindsN fun _ _ _ _ _ _ us hl => match us, hl with | [_], _ => rfl
def c__law_names_right : Sc := (sSeq (sPar 1 2 (cLst (aCons (cLst (aCons (cC (.int 0)) (aCons (cC (.int 1)) aNil))) (aCons (cLst (aCons (cC (.int 1)) (aCons (cC (.int 0)) aNil))) aNil))) (cUn (oReprM 1 F_Room_repr) (cVar 0))) (sSeq (sSet 3 (cLst (aCons (cCallK F_images_by [2, 1, 0] aNil (aCons (cVar 1) (aCons (cLst (aCons (cLst (aCons (cC (.int 1)) (aCons (cC (.int 2)) aNil))) aNil)) (aCons (cVar 0) aNil)))) (aCons (cCallK F_goes_on [2, 1, 0] aNil (aCons (cLst (aCons (cLst (aCons (cC (.int 0)) (aCons (cC (.int 1)) aNil))) aNil)) (aCons (cLst (aCons (cLst (aCons (cC (.int 1)) (aCons (cC (.int 0)) aNil))) aNil)) (aCons (cVar 0) aNil)))) (aCons (cCallK F_bar [2, 1, 0] aNil (aCons (cLst (aCons (cLst (aCons (cC (.int 0)) (aCons (cC (.int 1)) aNil))) aNil)) (aCons (cLst (aCons (cLst (aCons (cC (.int 1)) (aCons (cC (.int 0)) aNil))) aNil)) (aCons (cVar 0) aNil)))) aNil))))) (sSeq (sSet 3 (cBin oAdd (cVar 3) (cLst (aCons (cCallK F_is_bar [3, 2, 1, 0] aNil (aCons (cTup (aCons (cC (.str [98, 101, 116, 119, 101, 101, 110])) (aCons (cC (.int 0)) (aCons (cC (.int 0)) aNil)))) (aCons (cLst (aCons (cLst (aCons (cC (.int 1)) (aCons (cC (.int 1)) aNil))) aNil)) (aCons (cLst (aCons (cLst (aCons (cC (.int 1)) (aCons (cC (.int 0)) aNil))) aNil)) (aCons (cVar 0) aNil))))) (aCons (cCallK F_continues [3, 2, 1, 0] aNil (aCons (cVar 1) (aCons (cLst (aCons (cLst (aCons (cC (.int 0)) (aCons (cC (.int 1)) aNil))) aNil)) (aCons (cLst (aCons (cLst (aCons (cC (.int 1)) (aCons (cC (.int 0)) aNil))) aNil)) (aCons (cVar 0) aNil))))) aNil))))) (sSeq (sSet 3 (cBin oAdd (cVar 3) (cLst (aCons (cCallK F_leads_part [3, 2, 1, 0] aNil (aCons (cVar 1) (aCons (cLst (aCons (cLst (aCons (cC (.int 0)) (aCons (cC (.int 1)) aNil))) aNil)) (aCons (cLst (aCons (cLst (aCons (cC (.int 1)) (aCons (cC (.int 0)) aNil))) aNil)) (aCons (cVar 0) aNil))))) (aCons (cCallK F_keeper_on [2, 1, 0] aNil (aCons (cLst (aCons (cLst (aCons (cC (.int 1)) (aCons (cC (.int 1)) aNil))) aNil)) (aCons (cLst (aCons (cLst (aCons (cC (.int 1)) (aCons (cC (.int 0)) aNil))) aNil)) (aCons (cVar 0) aNil)))) aNil))))) (sSeq (sSet 3 (cBin oAdd (cVar 3) (cLst (aCons (cCallK F_part_lead [2, 1, 0] aNil (aCons (cLst (aCons (cLst (aCons (cC (.int 1)) (aCons (cC (.int 1)) aNil))) aNil)) (aCons (cLst (aCons (cLst (aCons (cC (.int 1)) (aCons (cC (.int 0)) aNil))) aNil)) (aCons (cVar 0) aNil)))) (aCons (cCall F_images_by (aCons (cVar 0) (aCons (cLst aNil) (aCons (cVar 1) aNil)))) aNil))))) (sSeq (sSet 4 (cMake 1 I_Room_init [] (aCons (cC (.int 5)) (aCons (cTup aNil) aNil)))) (sSeq (sSet 3 (cBin oAdd (cVar 3) (cLst (aCons (cCall F_images_by (aCons (cVar 4) (aCons (cLst aNil) (aCons (cTup aNil) aNil)))) (aCons (cCall F_goes_on (aCons (cVar 4) (aCons (cLst aNil) (aCons (cLst aNil) aNil)))) (aCons (cCall F_bar (aCons (cVar 4) (aCons (cTup aNil) (aCons (cTup aNil) aNil)))) (aCons (cCall F_keeper_on (aCons (cVar 4) (aCons (cLst aNil) (aCons (cLst aNil) aNil)))) (aCons (cCall F_continues (aCons (cVar 4) (aCons (cLst aNil) (aCons (cLst aNil) (aCons (cTup aNil) aNil))))) (aCons (cCall F_part_lead (aCons (cVar 4) (aCons (cLst aNil) (aCons (cLst aNil) aNil)))) aNil))))))))) (sSeq (sSet 5 (cLst (aCons (cLst (aCons (cTup (aCons (cC (.int 2)) (aCons (cC (.int 1)) aNil))) aNil)) (aCons (cC (.bl true)) (aCons (cC .non) (aCons (cC (.bl true)) (aCons (cC (.bl true)) (aCons (cC (.bl true)) (aCons (cC .non) (aCons (cC .non) (aCons (cLst aNil) (aCons (cLst aNil) (aCons (cC (.bl true)) (aCons (cC .non) (aCons (cTup aNil) (aCons (cC (.bl true)) (aCons (cTup aNil) aNil))))))))))))))))) (sRet (cAnd (cBin (oEq false) (cUn oRepr (cVar 3)) (cUn oRepr (cVar 5))) (cBin (oEq false) (cUn (oReprM 1 F_Room_repr) (cVar 0)) (cVar 2))))))))))))
def F__law_names_right : List PV → Tr PV := body (.ret .non) 6 c__law_names_right
theorem g__law_names_right (t : Tx T) : FnG T 12 (He.fAd T.K ("_law_names_right", none)) (fdOf T.K ("_law_names_right", none)) ["_law_room"] (SpC (kn T.K) (zV (kn T.K)) 1 F__law_names_right) := fn_bodyZ (own := []) (c := c__law_names_right) (N := N__law_names_right) end_V t.d__law_names_right sc__law_names_right rfl (by decide) fun cdv A outer s H E g hr =>
 (sb_cons (ss_par (i := 1) (j := 2) rfl sc__law_names_right.nd rfl rfl (by decide) rfl rfl (.inr ⟨rfl, rfl⟩) (.inr ⟨rfl, rfl⟩) (SX.ofF (sf_lst (sa_cons (SX.ofF (sf_lst (sa_cons se_int (sa_cons se_int sa_nil)))) (sa_cons (SX.ofF (sf_lst (sa_cons se_int (sa_cons se_int sa_nil)))) sa_nil)))) (se_reprI ⟨rfl, rfl, rfl, rfl, rfl⟩ rfl t.rp (g_Room_repr t) (hr.mono (by decide)) (b_Room_repr t) rfl rfl (t.fr_repr) (se_var (i := 0) rfl (vis_by rfl) rfl)))
 (sb_cons (ss_set (i := 3) sc__law_names_right.nd rfl (loc_by rfl) rfl (SX.ofF (sf_lst (sa_cons (sx_callK0 (z := zV _) ⟨rfl, rfl, rfl, rfl, rfl⟩ (g_images_by t) (hr.mono (by decide)) rfl t.g_images_by (t.k_images_by) (bd_of (n := 0) (ks := ["table", "part", "room"]) (o := [2, 1, 0]) t.d_images_by (fun _ _ _ _ _ _ us ws h1 h2 => match us, ws, h1, h2 with | [], [_, _, _], _, _ => rfl)) (sk_cons (se_var (i := 1) rfl (vis_by rfl) rfl) (sk_cons (SX.ofF (sf_lst (sa_cons (SX.ofF (sf_lst (sa_cons se_int (sa_cons se_int sa_nil)))) sa_nil))) (sk_cons (se_var (i := 0) rfl (vis_by rfl) rfl) sk_nil))) rfl (fun l hl => match l, hl with | [_, _, _], _ => rfl)) (sa_cons (sx_callK0 (z := zV _) ⟨rfl, rfl, rfl, rfl, rfl⟩ (g_goes_on t) (hr.mono (by decide)) rfl t.g_goes_on (t.k_goes_on) (bd_of (n := 0) (ks := ["images", "part", "room"]) (o := [2, 1, 0]) t.d_goes_on (fun _ _ _ _ _ _ us ws h1 h2 => match us, ws, h1, h2 with | [], [_, _, _], _, _ => rfl)) (sk_cons (SX.ofF (sf_lst (sa_cons (SX.ofF (sf_lst (sa_cons se_int (sa_cons se_int sa_nil)))) sa_nil))) (sk_cons (SX.ofF (sf_lst (sa_cons (SX.ofF (sf_lst (sa_cons se_int (sa_cons se_int sa_nil)))) sa_nil))) (sk_cons (se_var (i := 0) rfl (vis_by rfl) rfl) sk_nil))) rfl (fun l hl => match l, hl with | [_, _, _], _ => rfl)) (sa_cons (sx_callK0 (z := zV _) ⟨rfl, rfl, rfl, rfl, rfl⟩ (g_bar t) (hr.mono (by decide)) rfl t.g_bar (t.k_bar) (bd_of (n := 0) (ks := ["images", "part", "room"]) (o := [2, 1, 0]) t.d_bar (fun _ _ _ _ _ _ us ws h1 h2 => match us, ws, h1, h2 with | [], [_, _, _], _, _ => rfl)) (sk_cons (SX.ofF (sf_lst (sa_cons (SX.ofF (sf_lst (sa_cons se_int (sa_cons se_int sa_nil)))) sa_nil))) (sk_cons (SX.ofF (sf_lst (sa_cons (SX.ofF (sf_lst (sa_cons se_int (sa_cons se_int sa_nil)))) sa_nil))) (sk_cons (se_var (i := 0) rfl (vis_by rfl) rfl) sk_nil))) rfl (fun l hl => match l, hl with | [_, _, _], _ => rfl)) sa_nil))))))
 (sb_cons (ss_set (i := 3) sc__law_names_right.nd rfl (loc_by rfl) rfl (sx_bin (z := zV _) (op_add' rfl) (SX.toV (se_var (i := 3) rfl (vis_by rfl) rfl)) (SX.ofFV (sf_lst (sa_cons (sx_callK0 (z := zV _) ⟨rfl, rfl, rfl, rfl, rfl⟩ (g_is_bar t) (hr.mono (by decide)) rfl t.g_is_bar (t.k_is_bar) (bd_of (n := 0) (ks := ["value", "images", "part", "room"]) (o := [3, 2, 1, 0]) t.d_is_bar (fun _ _ _ _ _ _ us ws h1 h2 => match us, ws, h1, h2 with | [], [_, _, _, _], _, _ => rfl)) (sk_cons (se_tup (sa_cons (se_str (by kernel_rfl)) (sa_cons se_int (sa_cons se_int sa_nil)))) (sk_cons (SX.ofF (sf_lst (sa_cons (SX.ofF (sf_lst (sa_cons se_int (sa_cons se_int sa_nil)))) sa_nil))) (sk_cons (SX.ofF (sf_lst (sa_cons (SX.ofF (sf_lst (sa_cons se_int (sa_cons se_int sa_nil)))) sa_nil))) (sk_cons (se_var (i := 0) rfl (vis_by rfl) rfl) sk_nil)))) rfl (fun l hl => match l, hl with | [_, _, _, _], _ => rfl)) (sa_cons (sx_callK0 (z := zV _) ⟨rfl, rfl, rfl, rfl, rfl⟩ (g_continues t) (hr.mono (by decide)) rfl t.g_continues (t.k_continues) (bd_of (n := 0) (ks := ["value", "images", "part", "room"]) (o := [3, 2, 1, 0]) t.d_continues (fun _ _ _ _ _ _ us ws h1 h2 => match us, ws, h1, h2 with | [], [_, _, _, _], _, _ => rfl)) (sk_cons (se_var (i := 1) rfl (vis_by rfl) rfl) (sk_cons (SX.ofF (sf_lst (sa_cons (SX.ofF (sf_lst (sa_cons se_int (sa_cons se_int sa_nil)))) sa_nil))) (sk_cons (SX.ofF (sf_lst (sa_cons (SX.ofF (sf_lst (sa_cons se_int (sa_cons se_int sa_nil)))) sa_nil))) (sk_cons (se_var (i := 0) rfl (vis_by rfl) rfl) sk_nil)))) rfl (fun l hl => match l, hl with | [_, _, _, _], _ => rfl)) sa_nil))))))
 (sb_cons (ss_set (i := 3) sc__law_names_right.nd rfl (loc_by rfl) rfl (sx_bin (z := zV _) (op_add' rfl) (SX.toV (se_var (i := 3) rfl (vis_by rfl) rfl)) (SX.ofFV (sf_lst (sa_cons (sx_callK0 (z := zV _) ⟨rfl, rfl, rfl, rfl, rfl⟩ (g_leads_part t) (hr.mono (by decide)) rfl t.g_leads_part (t.k_leads_part) (bd_of (n := 0) (ks := ["value", "other", "part", "room"]) (o := [3, 2, 1, 0]) t.d_leads_part (fun _ _ _ _ _ _ us ws h1 h2 => match us, ws, h1, h2 with | [], [_, _, _, _], _, _ => rfl)) (sk_cons (se_var (i := 1) rfl (vis_by rfl) rfl) (sk_cons (SX.ofF (sf_lst (sa_cons (SX.ofF (sf_lst (sa_cons se_int (sa_cons se_int sa_nil)))) sa_nil))) (sk_cons (SX.ofF (sf_lst (sa_cons (SX.ofF (sf_lst (sa_cons se_int (sa_cons se_int sa_nil)))) sa_nil))) (sk_cons (se_var (i := 0) rfl (vis_by rfl) rfl) sk_nil)))) rfl (fun l hl => match l, hl with | [_, _, _, _], _ => rfl)) (sa_cons (sx_callK0 (z := zV _) ⟨rfl, rfl, rfl, rfl, rfl⟩ (g_keeper_on t) (hr.mono (by decide)) rfl t.g_keeper_on (t.k_keeper_on) (bd_of (n := 0) (ks := ["images", "part", "room"]) (o := [2, 1, 0]) t.d_keeper_on (fun _ _ _ _ _ _ us ws h1 h2 => match us, ws, h1, h2 with | [], [_, _, _], _, _ => rfl)) (sk_cons (SX.ofF (sf_lst (sa_cons (SX.ofF (sf_lst (sa_cons se_int (sa_cons se_int sa_nil)))) sa_nil))) (sk_cons (SX.ofF (sf_lst (sa_cons (SX.ofF (sf_lst (sa_cons se_int (sa_cons se_int sa_nil)))) sa_nil))) (sk_cons (se_var (i := 0) rfl (vis_by rfl) rfl) sk_nil))) rfl (fun l hl => match l, hl with | [_, _, _], _ => rfl)) sa_nil))))))
 (sb_cons (ss_set (i := 3) sc__law_names_right.nd rfl (loc_by rfl) rfl (sx_bin (z := zV _) (op_add' rfl) (SX.toV (se_var (i := 3) rfl (vis_by rfl) rfl)) (SX.ofFV (sf_lst (sa_cons (sx_callK0 (z := zV _) ⟨rfl, rfl, rfl, rfl, rfl⟩ (g_part_lead t) (hr.mono (by decide)) rfl t.g_part_lead (t.k_part_lead) (bd_of (n := 0) (ks := ["other", "part", "room"]) (o := [2, 1, 0]) t.d_part_lead (fun _ _ _ _ _ _ us ws h1 h2 => match us, ws, h1, h2 with | [], [_, _, _], _, _ => rfl)) (sk_cons (SX.ofF (sf_lst (sa_cons (SX.ofF (sf_lst (sa_cons se_int (sa_cons se_int sa_nil)))) sa_nil))) (sk_cons (SX.ofF (sf_lst (sa_cons (SX.ofF (sf_lst (sa_cons se_int (sa_cons se_int sa_nil)))) sa_nil))) (sk_cons (se_var (i := 0) rfl (vis_by rfl) rfl) sk_nil))) rfl (fun l hl => match l, hl with | [_, _, _], _ => rfl)) (sa_cons (sx_call (z := zV _) ⟨rfl, rfl, rfl, rfl, rfl⟩ (g_images_by t) (hr.mono (by decide)) rfl t.g_images_by (t.k_images_by) (b_images_by t) (sa_cons (se_var (i := 0) rfl (vis_by rfl) rfl) (sa_cons (SX.ofF (sf_lst sa_nil)) (sa_cons (se_var (i := 1) rfl (vis_by rfl) rfl) sa_nil))) rfl rfl) sa_nil))))))
 (sb_cons (ss_set (i := 4) sc__law_names_right.nd rfl (loc_by rfl) rfl (mk_Room_2 t (hr.mono (by decide)) (sa_cons se_int (sa_cons (se_tup sa_nil) sa_nil))))
 (sb_cons (ss_set (i := 3) sc__law_names_right.nd rfl (loc_by rfl) rfl (sx_bin (z := zV _) (op_add' rfl) (SX.toV (se_var (i := 3) rfl (vis_by rfl) rfl)) (SX.ofFV (sf_lst (sa_cons (sx_call (z := zV _) ⟨rfl, rfl, rfl, rfl, rfl⟩ (g_images_by t) (hr.mono (by decide)) rfl t.g_images_by (t.k_images_by) (b_images_by t) (sa_cons (se_var (i := 4) rfl (vis_by rfl) rfl) (sa_cons (SX.ofF (sf_lst sa_nil)) (sa_cons (se_tup sa_nil) sa_nil))) rfl rfl) (sa_cons (sx_call (z := zV _) ⟨rfl, rfl, rfl, rfl, rfl⟩ (g_goes_on t) (hr.mono (by decide)) rfl t.g_goes_on (t.k_goes_on) (b_goes_on t) (sa_cons (se_var (i := 4) rfl (vis_by rfl) rfl) (sa_cons (SX.ofF (sf_lst sa_nil)) (sa_cons (SX.ofF (sf_lst sa_nil)) sa_nil))) rfl rfl) (sa_cons (sx_call (z := zV _) ⟨rfl, rfl, rfl, rfl, rfl⟩ (g_bar t) (hr.mono (by decide)) rfl t.g_bar (t.k_bar) (b_bar t) (sa_cons (se_var (i := 4) rfl (vis_by rfl) rfl) (sa_cons (se_tup sa_nil) (sa_cons (se_tup sa_nil) sa_nil))) rfl rfl) (sa_cons (sx_call (z := zV _) ⟨rfl, rfl, rfl, rfl, rfl⟩ (g_keeper_on t) (hr.mono (by decide)) rfl t.g_keeper_on (t.k_keeper_on) (b_keeper_on t) (sa_cons (se_var (i := 4) rfl (vis_by rfl) rfl) (sa_cons (SX.ofF (sf_lst sa_nil)) (sa_cons (SX.ofF (sf_lst sa_nil)) sa_nil))) rfl rfl) (sa_cons (sx_call (z := zV _) ⟨rfl, rfl, rfl, rfl, rfl⟩ (g_continues t) (hr.mono (by decide)) rfl t.g_continues (t.k_continues) (b_continues t) (sa_cons (se_var (i := 4) rfl (vis_by rfl) rfl) (sa_cons (SX.ofF (sf_lst sa_nil)) (sa_cons (SX.ofF (sf_lst sa_nil)) (sa_cons (se_tup sa_nil) sa_nil)))) rfl rfl) (sa_cons (sx_call (z := zV _) ⟨rfl, rfl, rfl, rfl, rfl⟩ (g_part_lead t) (hr.mono (by decide)) rfl t.g_part_lead (t.k_part_lead) (b_part_lead t) (sa_cons (se_var (i := 4) rfl (vis_by rfl) rfl) (sa_cons (SX.ofF (sf_lst sa_nil)) (sa_cons (SX.ofF (sf_lst sa_nil)) sa_nil))) rfl rfl) sa_nil))))))))))
 (sb_cons (ss_set (i := 5) sc__law_names_right.nd rfl (loc_by rfl) rfl (SX.ofF (sf_lst (sa_cons (SX.ofF (sf_lst (sa_cons (se_tup (sa_cons se_int (sa_cons se_int sa_nil))) sa_nil))) (sa_cons se_bl (sa_cons se_non (sa_cons se_bl (sa_cons se_bl (sa_cons se_bl (sa_cons se_non (sa_cons se_non (sa_cons (SX.ofF (sf_lst sa_nil)) (sa_cons (SX.ofF (sf_lst sa_nil)) (sa_cons se_bl (sa_cons se_non (sa_cons (se_tup sa_nil) (sa_cons se_bl (sa_cons (se_tup sa_nil) sa_nil))))))))))))))))))
 (sb_one (ss_ret (se_and (sx_cmp (z := zV _) (op_eq' rfl hr.hu) (SX.toV (se_repr rfl hr.gd hr.hu t.sm rfl (t.fr_repr) (SX.toV (se_var (i := 3) rfl (vis_by rfl) rfl)))) (SX.toV (se_repr rfl hr.gd hr.hu t.sm rfl (t.fr_repr) (SX.toV (se_var (i := 5) rfl (vis_by rfl) rfl)))) (nomark _)) (se_one (sx_cmp (z := zV _) (op_eq' rfl hr.hu) (SX.toV (se_reprI ⟨rfl, rfl, rfl, rfl, rfl⟩ rfl t.rp (g_Room_repr t) (hr.mono (by decide)) (b_Room_repr t) rfl rfl (t.fr_repr) (se_var (i := 0) rfl (vis_by rfl) rfl))) (SX.toV (se_var (i := 2) rfl (vis_by rfl) rfl)) (nomark _))))))))))))))
abbrev N_law : List Str := ["_law_script", "_law_room"]
theorem sc_law : FnScope N_law ["_law_script"] (defScope s_law) := ⟨rfl, rfl, rfl, by decide +kernel, rfl, by decide +kernel, by decide +kernel⟩
theorem b_law (t : Tx T) : Binds T.K (fdOf T.K ("law", none)) ["_law_script"] [] := t.d_law.bindsN fun _ _ _ _ _ _ us hl => match us, hl with | [_], _ => rfl
def c_law : Sc := (sSeq (sSet 1 (cMake 1 I_Room_init [] (aCons (cC (.int 3)) (aCons (cLst (aCons (cLst (aCons (cC (.int 1)) (aCons (cC (.int 0)) aNil))) (aCons (cLst (aCons (cC (.int 0)) (aCons (cC (.int 1)) aNil))) aNil))) aNil)))) (sRet (cAnd (cCall F__law_values_right (aCons (cVar 1) aNil)) (cAnd (cCall F__law_judges_right (aCons (cVar 1) aNil)) (cCall F__law_names_right (aCons (cVar 1) aNil))))))
def F_law : List PV → Tr PV := body (.ret .non) 2 c_law
theorem g_law (t : Tx T) : FnG T 14 (He.fAd T.K ("law", none)) (fdOf T.K ("law", none)) ["_law_script"] (SpC (kn T.K) (zV (kn T.K)) 1 F_law) := fn_bodyZ (own := []) (c := c_law) (N := N_law) end_V t.d_law sc_law rfl (by decide) fun cdv A outer s H E g hr =>
 (sb_cons (ss_set (i := 1) sc_law.nd rfl (loc_by rfl) rfl (mk_Room_2 t (hr.mono (by decide)) (sa_cons se_int (sa_cons (SX.ofF (sf_lst (sa_cons (SX.ofF (sf_lst (sa_cons se_int (sa_cons se_int sa_nil)))) (sa_cons (SX.ofF (sf_lst (sa_cons se_int (sa_cons se_int sa_nil)))) sa_nil)))) sa_nil))))
 (sb_one (ss_ret (se_and (sx_call (z := zV _) ⟨rfl, rfl, rfl, rfl, rfl⟩ (g__law_values_right t) (hr.mono (by decide)) rfl t.g__law_values_right (t.k__law_values_right) (b__law_values_right t) (sa_cons (se_var (i := 1) rfl (vis_by rfl) rfl) sa_nil) rfl rfl) (se_and (sx_call (z := zV _) ⟨rfl, rfl, rfl, rfl, rfl⟩ (g__law_judges_right t) (hr.mono (by decide)) rfl t.g__law_judges_right (t.k__law_judges_right) (b__law_judges_right t) (sa_cons (se_var (i := 1) rfl (vis_by rfl) rfl) sa_nil) rfl rfl) (se_one (sx_call (z := zV _) ⟨rfl, rfl, rfl, rfl, rfl⟩ (g__law_names_right t) (hr.mono (by decide)) rfl t.g__law_names_right (t.k__law_names_right) (b__law_names_right t) (sa_cons (se_var (i := 1) rfl (vis_by rfl) rfl) sa_nil) rfl rfl)))))))
end
end LW
namespace LW
open PySem PySem.Spec PyProof.Rows L2 RK
def isT : PV → Bool
  | .bl b => b
  | _ => false
theorem val : (fun ns : List Int => (F_law [.scr ns]).chk isT (fun _ _ => false)) = fun _ => true := by kernel_rfl
theorem isT_ok {p : PV} (h : isT p = true) : ∃ b, p = .bl b ∧ b = true := by
  cases p with
  | bl b => exact ⟨b, rfl, h⟩
  | _ => exact (nomatch (show false = true from h))
theorem val_law (ns : List Int) (_ : ns.length ≤ 63) : (F_law [.scr ns]).All (fun p => ∃ b, p = .bl b ∧ b = true) fun _ _ => False :=
  (Tr.chk_all (congrFun val ns)).mono (fun _ h => isT_ok h) fun _ _ h => (nomatch (show false = true from h))
end LW
namespace LW
open PySem PySem.Spec PyProof.Rows L2 RK
def lo0 : List PySem.Str := ["RoomError", "InvalidImages", "InvalidPart", "InvalidPrime", "InvalidRoom", "InvalidRow", "InvalidTable", "InvalidRows", "is_integer", "is_count", "is_list", "PRIMES", "power_of", "undone_of", "sign_of", "root_of", "odd_of", "is_rest_by", "want_prime", "is_prime", "MOST_SIZE", "unit", "idle_of", "dot", "sum_of", "scaled_of", "mix_of", "led_of", "times_of", "turned_of"]
def lo1 : List PySem.Str := ["reduced", "determinant_of", "undone_table", "row_in", "table_in", "want_row", "want_table", "want_sized", "head_of", "heads_of", "without", "steps_of", "zeros_of", "made_by", "is_within", "Known", "right_rows", "Room", "want_room", "room_of", "between_of", "worth_of", "betweens_of", "led_by", "still_of", "keeps_all", "angles_of", "is_still_row", "part_in", "want_part"]
def lo2 : List PySem.Str := ["own_table", "meeting_of", "still_part", "BETWEEN", "LOST", "STILL", "want_images", "columns_of", "lost_rests", "still_rests", "added", "is_kept", "bent_pair", "apart_rests", "bar_of", "is_between_bar", "is_rests_bar", "is_bar_of", "told_map", "images_by", "goes_on", "bar", "is_bar", "between_by", "first_worthy", "squares_of", "one_by", "to_ones", "told_last", "plain_lead_of"]
def lo3 : List PySem.Str := ["kind_in", "lead_of", "part_kind_of", "filled", "solved", "split", "partners", "framed", "keeper_by", "keeper_of", "keeper_on", "keeper_in", "continues", "both_parts", "part_lead", "leads_part", "_law_fault", "_law_values_right", "_law_judges_right", "_law_names_right"]
def loose : List PySem.Str := lo0 ++ lo1 ++ lo2 ++ lo3
abbrev R : PySem.W.OpenRow := PySem.W.OpenLaw.row PySem.Challenge.rw_restkeepers_k50_maps_refused
abbrev hk : PySem.W.Hook := hookM 5 fa fn exOk
def ob (s : PySem.W.SharedT) : AlX := obsMG 5 fa fn exOk (HandSHeadRun.getT s)
theorem ob_eq (s : PySem.W.SharedT) : ob s = hk.obs s.abs := obsMG_eq (HandSHeadRun.getT_eq s)
theorem run (w : World) : HandSHeadRun.RunEq R (PySem.W.view R.prog [124]) hk ob 8000 loose w := by
  intro os
  kernel_rfl
theorem rm0 : Rm 14 callerA := ⟨⟨rfl, by decide, by decide⟩, rfl⟩
end LW
open PySem PySem.W PySem.Calls PyProof.Rows
theorem PySem.Challenge.cw_restkeepers_k50_maps_refused_holds : PySem.Challenge.rw_restkeepers_k50_maps_refused.Holds := by
  w_on; o_law
  refine HandSHeadRun.head_any (r := OpenLaw.row PySem.Challenge.rw_restkeepers_k50_maps_refused) (q := view (OpenLaw.row PySem.Challenge.rw_restkeepers_k50_maps_refused).prog [124]) (H := LW.hk) (ob := LW.ob) (M := 8000) (loose := LW.loose) (d := HandSHeadRun.topDef (OpenLaw.row PySem.Challenge.rw_restkeepers_k50_maps_refused).prog 124) (kwd := []) LW.ob_eq
    (by kernel_rfl) (fun s => by kernel_rfl) LW.run (by kernel_rfl) (by kernel_rfl) (by kernel_rfl) (by rfl) (by first | assumption | decide +kernel) (by decide +kernel) ⟨rfl, rfl, rfl, rfl, rfl, by decide +kernel⟩ ?hw ?hc
  case hw => w_witness2
  case hc =>
    refine RK.law_walk (l := PySem.Challenge.rw_restkeepers_k50_maps_refused) (n := 63) (k := 14) (x := "_law_script") rfl (by decide) (by kernel_rfl) LW.rm0 LW.F_law ?G LW.val_law
    intro w mg fa h Y G hmg0
    obtain ⟨K, KX, c, hx⟩ := Y
    have hmg : mg ("law" : PySem.Str) = some (.ref fa) := by
      have e : (HandSHeadRun.topDef (OpenLaw.row PySem.Challenge.rw_restkeepers_k50_maps_refused).prog 124).name = ("law" : PySem.Str) := by kernel_rfl
      rw [← e]
      exact hmg0
    have t : ∀ base : Heap, LW.Tx ⟨(PySem.Challenge.rw_restkeepers_k50_maps_refused).prog, w, K, mg, base⟩ := fun base => ⟨⟨h, KX, G⟩, c, hx⟩
    have ef := hmg.symm.trans (t h).g_law
    cases ef
    refine ⟨K, LW.kn K, RK.fdOf K ("law", none), KX, rfl, fun s v => ?_, fun base _ _ => LW.g_law (t base)⟩
    exact L2.FunD.bindsA (ps := ["_law_script"]) (t h).d_law (fun _ _ _ _ _ _ us hl => match us, hl with | [_], _ => rfl) s [v] rfl

