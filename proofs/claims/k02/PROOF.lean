import PyProof.Rows.All
import Wide.All
import OpenK.AllK
import Wide.FinOn
import HandS.ForMost
import HandS.ForExc
import HandS.Walk
import HandS.IsInst
import HandS.Lambda
import HandS.Flow
import HandS.TupAny
import HandS.TupMul
import HandS.Deep
import HandS.Strs
import HandS.Text
import HandS.Defaults
import KE.KDictPairs
import KE.KDictZip
import HandS.Style
import KE.SortData
import KE.SortKeyHeap
import HandS.SortKw
import HandS.Keys
import HandS.ExcIs
import HandS.ExcField
import KE.KExcIs
import HandS.EndTab
import KE.KNestM
import PySem.Challenge.RW_movesup_k02_standings
section
set_option Elab.async false
set_option linter.all false
set_option maxRecDepth 100000
namespace Mv
open PySem PySem.Spec PyProof.Rows L2

/-! ### plain data -/
inductive Dv where
  | non | bl (b : Bool) | int (i : Int) | str (x : Str)
  | lst (xs : List Dv) | tup (xs : List Dv) | dct (ks vs : List Dv) | fdct (ks vs : List Dv) | tok (n : Nat) | scr (ns : List Int)

mutual
/-- nothing in it may be changed -/
def Dv.imm : Dv → Bool
  | .lst _ => false
  | .dct _ _ => false
  | .fdct _ _ => false
  | .tup xs => Dv.immL xs
  | .non => true
  | .bl _ => true
  | .int _ => true
  | .str _ => true
  | .tok _ => true
  | .scr _ => false
def Dv.immL : List Dv → Bool
  | [] => true
  | x :: xs => x.imm && Dv.immL xs
end
theorem immL_all : ∀ xs : List Dv, Dv.immL xs = xs.all Dv.imm
  | [] => rfl
  | x :: xs => by rw [Dv.immL, immL_all xs, List.all_cons]

/-- a key as data -/
def kD : Key → Dv
  | .inl i => .int i
  | .inr x => .str x

/-- a tuple's object -/
def tupO (its : List Value) : Obj := { cls := .type "tuple", data := .seq its.toArray }
/-! ### how data lies in a heap -/
mutual
inductive Rp (K : PySem.W.Frag) (fp : List Addr) (G : Hp) : V → Dv → Prop
  | non : Rp K fp G .non .non
  | bl (b : Bool) : Rp K fp G (.bl b) (.bl b)
  | int (i : Int) : Rp K fp G (.int i) (.int i)
  | str (x : Str) : Rp K fp G (.str x) (.str x)
  | lst {a : Addr} {xs : List V} {ds : List Dv} : G a = some (.lst xs) → RpL K fp G xs ds → Rp K fp G (.ref a) (.lst ds)
  | tup {a : Addr} {its : List Value} {xs : List V} {ds : List Dv} : G a = some (.frz (tupO its) (.tup xs)) → RpL K fp G xs ds → Rp K fp G (.ref a) (.tup ds)
  | dct {a : Addr} {kvs : List (Key × V)} {vs : List Dv} : G a = some (.dK kvs) → (kvs.map (·.1)).Nodup → RpL K fp G (kvs.map (·.2)) vs → Rp K fp G (.ref a) (.dct ((kvs.map (·.1)).map kD) vs)
  | fdct {a : Addr} {o : Obj} {kvs : List (Key × V)} {vs : List Dv} : G a = some (.frz o (.dK kvs)) → (kvs.map (·.1)).Nodup → RpL K fp G (kvs.map (·.2)) vs → Rp K fp G (.ref a) (.fdct ((kvs.map (·.1)).map kD) vs)
  | tok {a : Addr} {n : Nat} : fp[n]? = some a → Rp K fp G (.ref a) (.tok n)
  | scr {a : Addr} {ns : List Int} : SqL K G a (ns.map V.int) → Rp K fp G (.ref a) (.scr ns)
inductive RpL (K : PySem.W.Frag) (fp : List Addr) (G : Hp) : List V → List Dv → Prop
  | nil : RpL K fp G [] []
  | cons {v : V} {vs : List V} {d : Dv} {ds : List Dv} : Rp K fp G v d → RpL K fp G vs ds → RpL K fp G (v :: vs) (d :: ds)
end
section
variable {K : PySem.W.Frag} {fp fp' : List Addr} {G G' : Hp}
theorem Same.seqT {H H' : Hp} {a : Addr} {xs : List V} (e : Same H H') (h : SqT K H a xs) : SqT K H' a xs := by
  rcases h with (h | ⟨o, h⟩) | h
  · exact .inl (.inl (e _ _ h))
  · exact .inl (.inr ⟨o, e _ _ h⟩)
  · exact .inr h
theorem pre_get {α : Type} {l l' : List α} (h : l <+: l') {n : Nat} {a : α} (e : l[n]? = some a) : l'[n]? = some a := by
  obtain ⟨t, rfl⟩ := h
  rw [List.getElem?_append_left (by exact (List.getElem?_eq_some_iff.mp e).1)]
  exact e
mutual
theorem Rp.mono (s : Same G G') (p : fp <+: fp') : ∀ {d : Dv} {v : V}, Rp K fp G v d → Rp K fp' G' v d
  | .non, _, h => by cases h; exact .non
  | .bl _, _, h => by cases h; exact .bl _
  | .int _, _, h => by cases h; exact .int _
  | .str _, _, h => by cases h; exact .str _
  | .lst _, _, h => by cases h with | lst a b => exact .lst (s _ _ a) (RpL.mono s p b)
  | .tup _, _, h => by cases h with | tup a b => exact .tup (s _ _ a) (RpL.mono s p b)
  | .dct _ _, _, h => by cases h with | dct a n b => exact .dct (s _ _ a) n (RpL.mono s p b)
  | .fdct _ _, _, h => by cases h with | fdct a n b => exact .fdct (s _ _ a) n (RpL.mono s p b)
  | .tok _, _, h => by cases h with | tok a => exact .tok (pre_get p a)
  | .scr _, _, h => by cases h with | scr a => exact .scr (s.seq a)
theorem RpL.mono (s : Same G G') (p : fp <+: fp') : ∀ {ds : List Dv} {vs : List V}, RpL K fp G vs ds → RpL K fp' G' vs ds
  | [], _, h => by cases h; exact .nil
  | _ :: _, _, h => by cases h with | cons a b => exact .cons (Rp.mono s p a) (RpL.mono s p b)
end
theorem RpL.length : ∀ {ds : List Dv} {vs : List V}, RpL K fp G vs ds → vs.length = ds.length
  | [], _, h => by cases h; rfl
  | _ :: _, _, h => by cases h with | cons a b => simp [RpL.length b]
theorem RpL.get : ∀ {ds : List Dv} {vs : List V} {i : Nat} {d : Dv}, RpL K fp G vs ds → ds[i]? = some d → ∃ v, vs[i]? = some v ∧ Rp K fp G v d
  | [], _, _, _, _, e => by simp at e
  | _ :: _, _, 0, _, h, e => by cases h with | cons a b => cases e; exact ⟨_, rfl, a⟩
  | _ :: _, _, i + 1, _, h, e => by
    cases h with
    | cons a b =>
      obtain ⟨v, h1, h2⟩ := RpL.get (i := i) b (by simpa using e)
      exact ⟨v, by simpa using h1, h2⟩
theorem RpL.get' : ∀ {ds : List Dv} {vs : List V} {i : Nat} {v : V}, RpL K fp G vs ds → vs[i]? = some v → ∃ d, ds[i]? = some d ∧ Rp K fp G v d
  | [], _, _, _, h, e => by cases h; simp at e
  | _ :: _, _, 0, _, h, e => by cases h with | cons a b => cases e; exact ⟨_, rfl, a⟩
  | _ :: _, _, i + 1, _, h, e => by
    cases h with
    | cons a b =>
      obtain ⟨v, h1, h2⟩ := RpL.get' (i := i) b (by simpa using e)
      exact ⟨v, by simpa using h1, h2⟩
theorem RpL.append : ∀ {ds ds' : List Dv} {vs vs' : List V}, RpL K fp G vs ds → RpL K fp G vs' ds' → RpL K fp G (vs ++ vs') (ds ++ ds')
  | [], _, _, _, h, h' => by cases h; exact h'
  | _ :: _, _, _, _, h, h' => by cases h with | cons a b => exact .cons a (RpL.append b h')
theorem RpL.take : ∀ {ds : List Dv} {vs : List V} (n : Nat), RpL K fp G vs ds → RpL K fp G (vs.take n) (ds.take n)
  | _, _, 0, _ => by rw [List.take_zero, List.take_zero]; exact .nil
  | [], _, n + 1, h => by cases h; exact .nil
  | _ :: _, _, n + 1, h => by cases h with | cons a b => exact .cons a (RpL.take n b)
theorem RpL.drop : ∀ {ds : List Dv} {vs : List V} (n : Nat), RpL K fp G vs ds → RpL K fp G (vs.drop n) (ds.drop n)
  | _, _, 0, h => h
  | [], _, n + 1, h => by cases h; exact .nil
  | _ :: _, _, n + 1, h => by cases h with | cons a b => exact RpL.drop n b
theorem RpL.eraseIdx : ∀ {ds : List Dv} {vs : List V} (n : Nat), RpL K fp G vs ds → RpL K fp G (vs.eraseIdx n) (ds.eraseIdx n)
  | [], _, n, h => by cases h; exact .nil
  | _ :: _, _, 0, h => by cases h with | cons a b => exact b
  | _ :: _, _, n + 1, h => by cases h with | cons a b => exact .cons a (RpL.eraseIdx n b)
theorem RpL.set : ∀ {ds : List Dv} {vs : List V} (n : Nat) {v : V} {d : Dv}, RpL K fp G vs ds → Rp K fp G v d → RpL K fp G (vs.set n v) (ds.set n d)
  | [], _, n, _, _, h, _ => by cases h; exact .nil
  | _ :: _, _, 0, _, _, h, r => by cases h with | cons a b => exact .cons r b
  | _ :: _, _, n + 1, _, _, h, r => by cases h with | cons a b => exact .cons a (RpL.set n b r)
theorem RpL.reverse : ∀ {ds : List Dv} {vs : List V}, RpL K fp G vs ds → RpL K fp G vs.reverse ds.reverse
  | [], _, h => by cases h; exact .nil
  | _ :: _, _, h => by
    cases h with
    | cons a b =>
      rw [List.reverse_cons, List.reverse_cons]
      exact (RpL.reverse b).append (.cons a .nil)
/-- what a heap keeps that keeps tuples -/
def Tups (G G' : Hp) : Prop := ∀ a o xs, G a = some (.frz o (.tup xs)) → G' a = some (.frz o (.tup xs))
theorem Tups.of {G G' : Hp} (s : Same G G') : Tups G G' := fun a _ _ h => s a _ h
mutual
theorem Rp.imm (s : Tups G G') (p : fp <+: fp') : ∀ {d : Dv} {v : V}, d.imm = true → Rp K fp G v d → Rp K fp' G' v d
  | .non, _, _, h => by cases h; exact .non
  | .bl _, _, _, h => by cases h; exact .bl _
  | .int _, _, _, h => by cases h; exact .int _
  | .str _, _, _, h => by cases h; exact .str _
  | .lst _, _, e, _ => by simp [Dv.imm] at e
  | .dct _ _, _, e, _ => by simp [Dv.imm] at e
  | .fdct _ _, _, e, _ => by simp [Dv.imm] at e
  | .tup _, _, e, h => by
    cases h with
    | tup a b => exact .tup (s _ _ _ a) (RpL.imm s p (by simpa [Dv.imm] using e) b)
  | .tok _, _, _, h => by cases h with | tok a => exact .tok (pre_get p a)
  | .scr _, _, e, _ => by simp [Dv.imm] at e
theorem RpL.imm (s : Tups G G') (p : fp <+: fp') : ∀ {ds : List Dv} {vs : List V}, Dv.immL ds = true → RpL K fp G vs ds → RpL K fp' G' vs ds
  | [], _, _, h => by cases h; exact .nil
  | _ :: _, _, e, h => by
    have e' := Bool.and_eq_true_iff.mp (show (_ && _) = true from e)
    cases h with | cons a b => exact .cons (Rp.imm s p e'.1 a) (RpL.imm s p e'.2 b)
end
end

/-! ### data as PyData, for == -/
mutual
def Dv.py : Dv → PyData
  | .non => .none
  | .bl b => .bool b
  | .int i => .int i
  | .str x => .str x
  | .lst xs => .list (Dv.pyL xs)
  | .tup xs => .tuple (Dv.pyL xs)
  | .dct _ _ => .dict []
  | .fdct _ _ => .dict []
  | .tok _ => .dict []
  | .scr _ => .dict []
def Dv.pyL : List Dv → List PyData
  | [] => []
  | x :: xs => x.py :: Dv.pyL xs
end
mutual
theorem Rp.dp {K : PySem.W.Frag} {fp : List Addr} {G H : Hp} (s : Same G H) : ∀ {d : Dv} {v : V}, Rp K fp G v d → d.py.canLay0 = true → Dp K H v d.py
  | .non, _, h, _ => by cases h; exact .non
  | .bl _, _, h, _ => by cases h; exact .bl _
  | .int _, _, h, _ => by cases h; exact .int _
  | .str _, _, h, _ => by cases h; exact .str _
  | .lst _, _, h, e => by cases h with | lst a b => exact .lst (.inl (.inl (s _ _ a))) (RpL.dp s b (by simpa [Dv.py, PyData.canLay0] using e))
  | .tup _, _, h, e => by cases h with | tup a b => exact .tup (.inl (.inr ⟨_, s _ _ a⟩)) (RpL.dp s b (by simpa [Dv.py, PyData.canLay0] using e))
  | .dct _ _, _, h, e => by simp [Dv.py, PyData.canLay0] at e
  | .fdct _ _, _, h, e => by simp [Dv.py, PyData.canLay0] at e
  | .tok _, _, h, e => by simp [Dv.py, PyData.canLay0] at e
  | .scr _, _, h, e => by simp [Dv.py, PyData.canLay0] at e
theorem RpL.dp {K : PySem.W.Frag} {fp : List Addr} {G H : Hp} (s : Same G H) : ∀ {ds : List Dv} {vs : List V}, RpL K fp G vs ds → PyData.canLayAll0 (Dv.pyL ds) = true → DpAll K H vs (Dv.pyL ds)
  | [], _, h, _ => by cases h; exact .nil
  | _ :: _, _, h, e => by
    have e' := Bool.and_eq_true_iff.mp (show (_ && _) = true from e)
    cases h with | cons a b => exact .cons (Rp.dp s a e'.1) (RpL.dp s b e'.2)
end

/-! ### the store: what may be changed and is shared -/
inductive So where
  | lst (ds : List Dv)
  | dct (ks vs : List Dv)
  /-- an instance: its class by name, its attributes -/
  | ins (C : Str) (fs : List (Str × Dv))
  /-- an error that was caught: its class by name, what it carries -/
  | exc (n : Str) (arg : Option Dv)
abbrev Sto := List So
def So.imm : So → Bool
  | .lst ds => Dv.immL ds
  | .dct _ vs => Dv.immL vs
  | .ins _ fs => Dv.immL (fs.map (·.2))
  | .exc _ none => true
  | .exc _ (some d) => d.imm
/-- an error's object at a, tracked -/
def ErO (cls : Value) (d : Option Addr) (a : Addr) : HO := .ext fun h => ∃ (oe : Obj) (vs : Array Value), h.get? a = some oe ∧ oe.cls = cls ∧ oe.dict = d ∧ oe.data = .fields vs
/-- an object of the store at a -/
def SoR (K : PySem.W.Frag) (mg : Str → Option Value) (fp : List Addr) (G H : Hp) (a : Addr) : So → Prop
  | .lst ds => ∃ vs, H a = some (.lst vs) ∧ RpL K fp G vs ds
  | .dct ks vs => ∃ kvs : List (Key × V), H a = some (.dK kvs) ∧ (kvs.map (·.1)).Nodup ∧ ks = (kvs.map (·.1)).map kD ∧ RpL K fp G (kvs.map (·.2)) vs
  | .ins C fs => ∃ (c dx : Addr) (gs : List (Str × V)), H a = some (.ins c dx gs) ∧ mg C = some (.ref c) ∧ gs.map (·.1) = fs.map (·.1) ∧ RpL K fp G (gs.map (·.2)) (fs.map (·.2))
  | .exc n none => ∃ C : Addr, H a = some (ErO (.ref C) none a) ∧ mg n = some (.ref C)
  | .exc n (some x) => ∃ (C dx : Addr) (v : V), H a = some (ErO (.ref C) (some dx) a) ∧ mg n = some (.ref C) ∧ H dx = some (.xd [("person", v)]) ∧ Rp K fp G v x
structure StoR (K : PySem.W.Frag) (mg : Str → Option Value) (fp : List Addr) (G : Hp) (τ : Sto) (H : Hp) : Prop where
  len : fp.length = τ.length
  nd : fp.Nodup
  out : ∀ b ∈ fp, G b = none
  at_ : ∀ (n : Nat) (o : So) (a : Addr), τ[n]? = some o → fp[n]? = some a → SoR K mg fp G H a o
  im : ∀ o ∈ τ, o.imm = true
end Mv
end
section
set_option Elab.async false
set_option linter.all false
set_option maxRecDepth 100000
namespace Mv
open PySem PySem.Spec PyProof.Rows L2

/-! ### answers -/
structure Er where
  name : Str
  arg : Option Dv
inductive Res (α : Type) where
  | ok (a : α) (τ : Sto)
  | err (e : Er) (τ : Sto)
  | bad
def Res.bind {α β : Type} : Res α → (α → Sto → Res β) → Res β
  | .ok a τ, k => k a τ
  | .err e τ, _ => .err e τ
  | .bad, _ => .bad
/-- a plain answer -/
def lift {α : Type} (o : Option α) (τ : Sto) : Res α := match o with
  | some a => .ok a τ
  | none => .bad
abbrev EnvD := List (Option Dv)
abbrev XD := EnvD → Sto → Res Dv
abbrev XB := EnvD → Sto → Res Bool
abbrev XL := EnvD → Sto → Res (List Dv)

section
variable (K : PySem.W.Frag) (mg : Str → Option Value) (T : List (Addr × Str))
structure Base (fp : List Addr) (G : Hp) (τ : Sto) (H : Hp) : Prop where
  sub : Same G H
  nt : ∀ b ps, G b ≠ some (.tbl ps)
  sto : StoR K mg fp G τ H
  tab : LamX.Tabs T H
structure EnvR (fp : List Addr) (G : Hp) (ρ : EnvD) (σ : L2.St) : Prop where
  len : ρ.length = σ.length
  at_ : ∀ (i : Nat) (d : Dv), ρ[i]? = some (some d) → ∃ v, σ[i]? = some (some v) ∧ Rp K fp G v d
end
structure Gro (fp : List Addr) (G H : Hp) (fp' : List Addr) (G' H' : Hp) : Prop where
  pre : fp <+: fp'
  same : Same G G'
  keep : ∀ b o, b ∉ fp → H b = some o → (∀ ps, o ≠ .tbl ps) → H' b = some o
  ex : ∀ b, H b ≠ none → H' b ≠ none
  new : ∀ b, H b ≠ none → G b = none → G' b = none
  nfp : ∀ b ∈ fp', b ∉ fp → H b = none
theorem Gro.refl (fp : List Addr) (G H : Hp) : Gro fp G H fp G H := ⟨List.prefix_refl _, Same.refl _, fun _ _ _ h _ => h, fun _ h => h, fun _ _ h => h, fun _ h h' => absurd h h'⟩
theorem Gro.trans {fp fp1 fp2 : List Addr} {G G1 G2 H H1 H2 : Hp} (a : Gro fp G H fp1 G1 H1) (b : Gro fp1 G1 H1 fp2 G2 H2) : Gro fp G H fp2 G2 H2 where
  pre := a.pre.trans b.pre
  same := a.same.trans b.same
  keep := fun c o h e n => b.keep c o (fun z => by have := a.nfp c z h; rw [e] at this; cases this) (a.keep c o h e n) n
  ex := fun c h => b.ex c (a.ex c h)
  new := fun c h e => b.new c (a.ex c h) (a.new c h e)
  nfp := fun c h h' => by
    by_cases z : c ∈ fp1
    · exact a.nfp c z h'
    · have q := b.nfp c h z
      cases e : H c with
      | none => rfl
      | some o => exact absurd q (a.ex c (by rw [e]; exact fun z => nomatch z))
theorem EnvR.mono {K : PySem.W.Frag} {fp fp' : List Addr} {G G' : Hp} {ρ : EnvD} {σ : L2.St} (e : EnvR K fp G ρ σ) (s : Same G G') (p : fp <+: fp') : EnvR K fp' G' ρ σ := ⟨e.len, fun i d h => by
  obtain ⟨v, h1, h2⟩ := e.at_ i d h
  exact ⟨v, h1, h2.mono s p⟩⟩

/-- how an error lies behind a call -/
def ErrD (K : PySem.W.Frag) (mg : Str → Option Value) (fp : List Addr) (G H : Hp) (e : Er) (cls : Value) (dx : Option Addr) : Prop :=
  mg e.name = some cls ∧ match e.arg with
    | none => dx = none
    | some d => ∃ p v, dx = some p ∧ H p = some (.xd [("person", v)]) ∧ Rp K fp G v d
section
variable (K : PySem.W.Frag) (mg : Str → Option Value) (T : List (Addr × Str))
/-- what is wanted behind an answer -/
def AfterP {α β : Type} (R : List Addr → Hp → α → β → Prop) (E : XK) (fp : List Addr) (G H : Hp) (r : Res α) (Q : β → Hp → Prop) : Prop := match r with
  | .ok d τ' => ∀ v fp' G' H', Gro fp G H fp' G' H' → Base K mg T fp' G' τ' H' → R fp' G' d v → Q v H'
  | .err e τ' => ∀ cls dx fp' G' H', Gro fp G H fp' G' H' → Base K mg T fp' G' τ' H' → ErrD K mg fp' G' H' e cls dx → E cls dx H'
  | .bad => False
def tD (E : L2.St → XK) (f : XD) : TE := fun σ H Q => ∃ fp G ρ τ, Base K mg T fp G τ H ∧ EnvR K fp G ρ σ ∧ AfterP K mg T (fun fp G d v => Rp K fp G v d) (E σ) fp G H (f ρ τ) Q
/-- a def's promise -/
def spD (n : Nat) (F : List Dv → Sto → Res Dv) : Sp := fun vs H Q E => ∃ fp G τ ds, Base K mg T fp G τ H ∧ RpL K fp G vs ds ∧ ds.length = n ∧ AfterP K mg T (fun fp G d v => Rp K fp G v d) E fp G H (F ds τ) Q
def tT (E : L2.St → XK) (f : XB) : TT := fun σ H Q => ∃ fp G ρ τ, Base K mg T fp G τ H ∧ EnvR K fp G ρ σ ∧ AfterP K mg T (fun _ _ d v => v = d) (E σ) fp G H (f ρ τ) Q
def tA (E : L2.St → XK) (f : XL) : TA := fun σ H Q => ∃ fp G ρ τ, Base K mg T fp G τ H ∧ EnvR K fp G ρ σ ∧ AfterP K mg T (fun fp G d v => RpL K fp G v d) (E σ) fp G H (f ρ τ) Q
/-- the answer is a new object, which nothing else holds -/
def OwR (fp : List Addr) (G H : Hp) (p : Addr) : Dv → Prop
  | .lst ds => ∃ vs, H p = some (.lst vs) ∧ RpL K fp G vs ds
  | .dct ks vs => ∃ kvs : List (Key × V), H p = some (.dK kvs) ∧ (kvs.map (·.1)).Nodup ∧ ks = (kvs.map (·.1)).map kD ∧ RpL K fp G (kvs.map (·.2)) vs
  | _ => False
def AfterO (E : XK) (fp : List Addr) (G H : Hp) (r : Res Dv) (Q : VK) : Prop := match r with
  | .ok d τ' => ∀ p fp' G' H', Gro fp G H fp' G' H' → Base K mg T fp' G' τ' H' → H p = none → p ∉ fp' → G' p = none → OwR K fp' G' H' p d → Q (.ref p) H'
  | .err e τ' => ∀ cls dx fp' G' H', Gro fp G H fp' G' H' → Base K mg T fp' G' τ' H' → ErrD K mg fp' G' H' e cls dx → E cls dx H'
  | .bad => False
def tO (E : L2.St → XK) (f : XD) : TE := fun σ H Q => ∃ fp G ρ τ, Base K mg T fp G τ H ∧ EnvR K fp G ρ σ ∧ AfterO K mg T (E σ) fp G H (f ρ τ) Q
end
/-- an expression, a test, arguments, an expression that makes a new list or dict: by what they tell of data -/
abbrev PD (X : Cx) (T : List (Addr × Str)) (E : L2.St → XK) (e : Expr) (f : XD) : Prop := PE X e (tD X.K X.mg T E f)
abbrev PB (X : Cx) (T : List (Addr × Str)) (E : L2.St → XK) (e : Expr) (f : XB) : Prop := PT X e (tT X.K X.mg T E f)
abbrev PL (X : Cx) (T : List (Addr × Str)) (E : L2.St → XK) (es : List Expr) (f : XL) : Prop := PA X es (tA X.K X.mg T E f)
abbrev PO (X : Cx) (T : List (Addr × Str)) (E : L2.St → XK) (e : Expr) (f : XD) : Prop := PE X e (tO X.K X.mg T E f)

/-! ### weaker readings -/
theorem PE_imp {X : Cx} {e : Expr} {t t' : TE} (h : PE X e t) (w : ∀ σ H Q, t' σ H Q → t σ H Q) : PE X e t' := ⟨fun pins s σ H Q I q => h.run pins s σ H Q I (w σ H Q q)⟩
theorem PT_imp {X : Cx} {e : Expr} {t t' : TT} (h : PT X e t) (w : ∀ σ H Q, t' σ H Q → t σ H Q) : PT X e t' := ⟨fun pins s σ H Q I q => h.run pins s σ H Q I (w σ H Q q)⟩
theorem PA_imp {X : Cx} {e : List Expr} {t t' : TA} (h : PA X e t) (w : ∀ σ H Q, t' σ H Q → t σ H Q) : PA X e t' := ⟨fun pos pins s σ H Q I q => h.run pos pins s σ H Q I (w σ H Q q)⟩
theorem PS_imp {X : Cx} {e : Stmt} {t t' : TS} (h : PS X e t) (w : ∀ D σ H, t' D σ H → t D σ H) : PS X e t' := ⟨fun pins s σ H D I q => h.run pins s σ H D I (w D σ H q)⟩
theorem PSs_imp {X : Cx} {e : List Stmt} {t t' : TS} (h : PSs X e t) (w : ∀ D σ H, t' D σ H → t D σ H) : PSs X e t' := ⟨fun pins s σ H D I q => h.run pins s σ H D I (w D σ H q)⟩
theorem PI_imp {X : Cx} {tg e : Expr} {t t' : TI} (h : PI X tg e t) (w : ∀ σ H Q, t' σ H Q → t σ H Q) : PI X tg e t' := ⟨fun pins s σ H Q I q => h.run pins s σ H Q I (w σ H Q q)⟩

section
variable {K : PySem.W.Frag} {mg : Str → Option Value} {T : List (Addr × Str)}
/-- behind a first answer the rest -/
theorem AfterP.bind {α β γ δ : Type} {R : List Addr → Hp → α → β → Prop} {R2 : List Addr → Hp → γ → δ → Prop} {E : XK} {fp : List Addr} {G H : Hp} {r : Res α} {k : α → Sto → Res γ} {Q : δ → Hp → Prop}
    (h : AfterP K mg T R2 E fp G H (r.bind k) Q) :
    AfterP K mg T R E fp G H r fun v H1 => ∃ fp1 G1 τ1 a, Gro fp G H fp1 G1 H1 ∧ Base K mg T fp1 G1 τ1 H1 ∧ R fp1 G1 a v ∧ AfterP K mg T R2 E fp1 G1 H1 (k a τ1) Q := by
  cases r with
  | ok a τ =>
    intro v fp1 G1 H1 g b q
    refine ⟨fp1, G1, τ, a, g, b, q, ?_⟩
    change AfterP K mg T R2 E fp G H (k a τ) Q at h
    cases e : k a τ with
    | ok c τ2 =>
      rw [e] at h
      exact fun v2 fp2 G2 H2 g2 b2 q2 => h v2 fp2 G2 H2 (g.trans g2) b2 q2
    | err er τ2 =>
      rw [e] at h
      exact fun cls dx fp2 G2 H2 g2 b2 q2 => h cls dx fp2 G2 H2 (g.trans g2) b2 q2
    | bad => rw [e] at h; exact h
  | err er τ => exact h
  | bad => exact h
theorem AfterP.bindE {α β γ : Type} {R : List Addr → Hp → α → β → Prop} {E : XK} {fp : List Addr} {G H : Hp} {r : Res α} {Q : β → Hp → Prop}
    (h : AfterP K mg T R E fp G H r Q) {Q' : β → Hp → Prop} (w : ∀ v H', Q v H' → Q' v H') : AfterP K mg T R E fp G H r Q' := by
  cases r with
  | ok a τ => exact fun v fp1 G1 H1 g b q => w _ _ (h v fp1 G1 H1 g b q)
  | err er τ => exact h
  | bad => exact h
end
end Mv
end
section
set_option Elab.async false
set_option linter.all false
set_option maxRecDepth 100000
namespace Mv
open PySem PySem.Spec PyProof.Rows L2

/-! ### plain answers by values -/
/-- the heap has grown by new objects -/
structure Grow (G H G' H' : Hp) : Prop where
  same : Same G G'
  sameH : Same H H'
  sub : Same G' H'
  new : ∀ b, H b ≠ none → G b = none → G' b = none
  nt : (∀ b ps, G b ≠ some (.tbl ps)) → ∀ b ps, G' b ≠ some (.tbl ps)
theorem Grow.refl {G H : Hp} (s : Same G H) : Grow G H G H := ⟨Same.refl _, Same.refl _, s, fun _ _ h => h, fun h => h⟩
theorem Grow.upd {G H : Hp} (s : Same G H) {p : Addr} {o : HO} (h : H p = none) (ho : ∀ ps, o ≠ .tbl ps) : Grow G H (upd G p o) (upd H p o) where
  same := fun b u e => by rw [upd_ne (ne_of_none (s _ _ e) h)]; exact e
  sameH := fun b u e => by rw [upd_ne (ne_of_none e h)]; exact e
  sub := fun b u e => by
    by_cases z : b = p
    · subst z; rw [upd_same] at e ⊢; exact e
    · rw [upd_ne z] at e ⊢; exact s _ _ e
  new := fun b e n => by rw [upd_ne (fun z => e (by rw [z]; exact h))]; exact n
  nt := fun k b ps => by
    by_cases z : b = p
    · subst z; rw [upd_same]; exact fun z => ho ps (Option.some.inj z)
    · rw [upd_ne z]; exact k b ps
theorem Grow.apart {G H : Hp} (s : Same G H) {p : Addr} {o : HO} (h : H p = none) : Grow G H G (L2.upd H p o) where
  same := Same.refl _
  sameH := fun b u e => by rw [upd_ne (ne_of_none e h)]; exact e
  sub := fun b u e => by rw [upd_ne (ne_of_none (s _ _ e) h)]; exact s _ _ e
  new := fun _ _ n => n
  nt := fun k => k
theorem same_ex {H H' : Hp} (s : Same H H') {b : Addr} (e : H b ≠ none) : H' b ≠ none := by
  cases q : H b with
  | none => exact absurd q e
  | some o => rw [s b o q]; exact fun z => nomatch z
theorem Grow.trans {G H G1 H1 G2 H2 : Hp} (a : Grow G H G1 H1) (b : Grow G1 H1 G2 H2) : Grow G H G2 H2 where
  same := a.same.trans b.same
  sameH := a.sameH.trans b.sameH
  sub := b.sub
  new := fun c e n => b.new c (by
    cases q : H c with
    | none => exact absurd q e
    | some o => rw [a.sameH c o q]; exact fun z => nomatch z) (a.new c e n)
  nt := fun k => b.nt (a.nt k)

section
variable {K : PySem.W.Frag} {mg : Str → Option Value} {T : List (Addr × Str)}
theorem So.there {fp : List Addr} {G H : Hp} {a : Addr} {o : So} (h : SoR K mg fp G H a o) : H a ≠ none := by
  cases o with
  | lst ds => obtain ⟨_, e, _⟩ := h; rw [e]; exact fun z => nomatch z
  | dct ks vs => obtain ⟨_, e, _⟩ := h; rw [e]; exact fun z => nomatch z
  | ins C fs => obtain ⟨_, _, _, e, _⟩ := h; rw [e]; exact fun z => nomatch z
  | exc n x =>
    cases x with
    | none => obtain ⟨_, e, _⟩ := h; rw [e]; exact fun z => nomatch z
    | some x => obtain ⟨_, _, _, e, _⟩ := h; rw [e]; exact fun z => nomatch z
theorem SoR.mono {fp fp' : List Addr} {G G' H H' : Hp} {a : Addr} {o : So} (h : SoR K mg fp G H a o) (s : Same G G') (p : fp <+: fp') (e0 : ∀ c u, (c = a ∨ ∃ fs, u = .xd fs) → H c = some u → H' c = some u) : SoR K mg fp' G' H' a o := by
  have e : ∀ u, H a = some u → H' a = some u := fun u => e0 a u (.inl rfl)
  cases o with
  | lst ds => obtain ⟨vs, e1, r⟩ := h; exact ⟨vs, e _ e1, r.mono s p⟩
  | dct ks vs => obtain ⟨kvs, e1, n, e2, r⟩ := h; exact ⟨kvs, e _ e1, n, e2, r.mono s p⟩
  | ins C fs => obtain ⟨c, dx, gs, e1, e2, e3, r⟩ := h; exact ⟨c, dx, gs, e _ e1, e2, e3, r.mono s p⟩
  | exc n x =>
    cases x with
    | none => obtain ⟨C, e1, e2⟩ := h; exact ⟨C, e _ e1, e2⟩
    | some x => obtain ⟨C, dx, v, e1, e2, e3, r⟩ := h; exact ⟨C, dx, v, e _ e1, e2, e0 _ _ (.inr ⟨_, rfl⟩) e3, r.mono s p⟩
theorem StoR.there {fp : List Addr} {G H : Hp} {τ : Sto} (h : StoR K mg fp G τ H) {b : Addr} (hb : b ∈ fp) : H b ≠ none := by
  obtain ⟨n, hn⟩ := List.getElem?_of_mem hb
  have hl := (List.getElem?_eq_some_iff.mp hn).1
  rw [h.len] at hl
  exact So.there (h.at_ n _ b (List.getElem?_eq_getElem hl) hn)
theorem Base.grow {fp : List Addr} {G H G' H' : Hp} {τ : Sto} (b : Base K mg T fp G τ H) (g : Grow G H G' H') : Base K mg T fp G' τ H' :=
  ⟨g.sub, g.nt b.nt, ⟨b.sto.len, b.sto.nd, fun c hc => g.new c (b.sto.there hc) (b.sto.out c hc), fun n o a h1 h2 => (b.sto.at_ n o a h1 h2).mono g.same (List.prefix_refl _) (fun _ u _ e => g.sameH _ _ e), b.sto.im⟩, b.tab.ext g.sameH⟩
theorem Grow.gro {fp : List Addr} {G H G' H' : Hp} (g : Grow G H G' H') : Gro fp G H fp G' H' :=
  ⟨List.prefix_refl _, g.same, fun b o _ e _ => g.sameH b o e, fun _ e => same_ex g.sameH e, g.new, fun _ h h' => absurd h h'⟩

/-- told of values by a function of data: a plain answer -/
def VSp (K : PySem.W.Frag) (g : List Dv → Option Dv) : List V → Hp → VK → Prop := fun vs H Q =>
  ∃ fp G ds d, Same G H ∧ RpL K fp G vs ds ∧ g ds = some d ∧ ∀ v G' H', Grow G H G' H' → Rp K fp G' v d → Q v H'
/-- a new object -/
def VSo (K : PySem.W.Frag) (g : List Dv → Option Dv) : List V → Hp → VK → Prop := fun vs H Q =>
  ∃ fp G ds d, Same G H ∧ RpL K fp G vs ds ∧ g ds = some d ∧ ∀ p G' H', Grow G H G' H' → H p = none → G' p = none → OwR K fp G' H' p d → Q (.ref p) H'
/-- a truth -/
def VSb (K : PySem.W.Frag) (g : List Dv → Option Bool) : List V → Hp → VK → Prop := fun vs H Q =>
  ∃ fp G ds d, Same G H ∧ RpL K fp G vs ds ∧ g ds = some d ∧ Q (.bl d) H

theorem AfterP.plain {E : XK} {fp : List Addr} {G H : Hp} {τ : Sto} {vs : List V} {ds : List Dv} {g : List Dv → Option Dv} {Q : VK} (b : Base K mg T fp G τ H) (r : RpL K fp G vs ds)
    (h : AfterP K mg T (fun fp G d v => Rp K fp G v d) E fp G H (lift (g ds) τ) Q) : VSp K g vs H Q := by
  cases e : g ds with
  | none => rw [e] at h; exact False.elim h
  | some d =>
    rw [e] at h
    exact ⟨fp, G, ds, d, b.sub, r, e, fun v G' H' gr rv => h v fp G' H' gr.gro (b.grow gr) rv⟩
theorem AfterO.plain {E : XK} {fp : List Addr} {G H : Hp} {τ : Sto} {vs : List V} {ds : List Dv} {g : List Dv → Option Dv} {Q : VK} (b : Base K mg T fp G τ H) (r : RpL K fp G vs ds)
    (h : AfterO K mg T E fp G H (lift (g ds) τ) Q) : VSo K g vs H Q := by
  cases e : g ds with
  | none => rw [e] at h; exact False.elim h
  | some d =>
    rw [e] at h
    exact ⟨fp, G, ds, d, b.sub, r, e, fun p G' H' gr n1 n2 o => h p fp G' H' gr.gro (b.grow gr) n1 (fun z => b.sto.there z n1) n2 o⟩
theorem AfterP.truth {E : XK} {fp : List Addr} {G H : Hp} {τ : Sto} {vs : List V} {ds : List Dv} {g : List Dv → Option Bool} {Q : Bool → Hp → Prop} (b : Base K mg T fp G τ H) (r : RpL K fp G vs ds)
    (h : AfterP K mg T (fun _ _ d v => v = d) E fp G H (lift (g ds) τ) Q) : VSb K g vs H fun x H' => ∃ k, x = .bl k ∧ Q k H' := by
  cases e : g ds with
  | none => rw [e] at h; exact False.elim h
  | some d =>
    rw [e] at h
    exact ⟨fp, G, ds, d, b.sub, r, e, d, rfl, h d fp G H (Gro.refl _ _ _) b rfl⟩
theorem VSb.sp {g : List Dv → Option Bool} {vs : List V} {H : Hp} {Q : VK} (h : VSp K (fun ds => (g ds).map .bl) vs H Q) : VSb K g vs H Q := by
  obtain ⟨fp, G, ds, d, s, r, e, q⟩ := h
  change (g ds).map Dv.bl = some d at e
  cases e1 : g ds with
  | none => rw [e1] at e; cases e
  | some k =>
    rw [e1] at e
    cases e
    exact ⟨fp, G, ds, k, s, r, e1, q _ _ _ (Grow.refl s) (.bl k)⟩

/-! ### one step of evaluation -/
theorem tD_step {γ δ : Type} {R2 : List Addr → Hp → γ → δ → Prop} {E : L2.St → XK} {fp : List Addr} {G H : Hp} {ρ : EnvD} {τ : Sto} {σ : L2.St} {f : XD} {k : Dv → Sto → Res γ} {Q : δ → Hp → Prop} {Z : VK}
    (b : Base K mg T fp G τ H) (e : EnvR K fp G ρ σ) (h : AfterP K mg T R2 (E σ) fp G H ((f ρ τ).bind k) Q)
    (w : ∀ v fp1 G1 H1 τ1 d, Base K mg T fp1 G1 τ1 H1 → EnvR K fp1 G1 ρ σ → Gro fp G H fp1 G1 H1 → Rp K fp1 G1 v d → AfterP K mg T R2 (E σ) fp1 G1 H1 (k d τ1) Q → Z v H1) :
    tD K mg T E f σ H Z :=
  ⟨fp, G, ρ, τ, b, e, h.bind.bindE (fun v H1 ⟨fp1, G1, τ1, d, g, b1, r, q⟩ => w v fp1 G1 H1 τ1 d b1 (e.mono g.same g.pre) g r q) (γ := γ)⟩
theorem tT_step {γ δ : Type} {R2 : List Addr → Hp → γ → δ → Prop} {E : L2.St → XK} {fp : List Addr} {G H : Hp} {ρ : EnvD} {τ : Sto} {σ : L2.St} {f : XB} {k : Bool → Sto → Res γ} {Q : δ → Hp → Prop} {Z : Bool → Hp → Prop}
    (b : Base K mg T fp G τ H) (e : EnvR K fp G ρ σ) (h : AfterP K mg T R2 (E σ) fp G H ((f ρ τ).bind k) Q)
    (w : ∀ v fp1 G1 H1 τ1, Base K mg T fp1 G1 τ1 H1 → EnvR K fp1 G1 ρ σ → Gro fp G H fp1 G1 H1 → AfterP K mg T R2 (E σ) fp1 G1 H1 (k v τ1) Q → Z v H1) :
    tT K mg T E f σ H Z :=
  ⟨fp, G, ρ, τ, b, e, h.bind.bindE (fun v H1 ⟨fp1, G1, τ1, d, g, b1, r, q⟩ => w v fp1 G1 H1 τ1 b1 (e.mono g.same g.pre) g (by rw [r]; exact q)) (γ := γ)⟩
theorem tA_step {γ δ : Type} {R2 : List Addr → Hp → γ → δ → Prop} {E : L2.St → XK} {fp : List Addr} {G H : Hp} {ρ : EnvD} {τ : Sto} {σ : L2.St} {f : XL} {k : List Dv → Sto → Res γ} {Q : δ → Hp → Prop} {Z : List V → Hp → Prop}
    (b : Base K mg T fp G τ H) (e : EnvR K fp G ρ σ) (h : AfterP K mg T R2 (E σ) fp G H ((f ρ τ).bind k) Q)
    (w : ∀ v fp1 G1 H1 τ1 d, Base K mg T fp1 G1 τ1 H1 → EnvR K fp1 G1 ρ σ → Gro fp G H fp1 G1 H1 → RpL K fp1 G1 v d → AfterP K mg T R2 (E σ) fp1 G1 H1 (k d τ1) Q → Z v H1) :
    tA K mg T E f σ H Z :=
  ⟨fp, G, ρ, τ, b, e, h.bind.bindE (fun v H1 ⟨fp1, G1, τ1, d, g, b1, r, q⟩ => w v fp1 G1 H1 τ1 d b1 (e.mono g.same g.pre) g r q) (γ := γ)⟩
end
end Mv
end
section
set_option Elab.async false
set_option linter.all false
set_option maxRecDepth 100000
namespace Mv
open PySem PySem.Spec PyProof.Rows L2

/-! ### what an expression tells of data -/
def xV (i : Nat) : XD := fun ρ τ => match ρ[i]? with
  | some (some d) => .ok d τ
  | _ => .bad
def xC (d : Dv) : XD := fun _ τ => .ok d τ
def aN : XL := fun _ τ => .ok [] τ
def aC (f : XD) (g : XL) : XL := fun ρ τ => (f ρ τ).bind fun d τ1 => (g ρ τ1).bind fun ds τ2 => .ok (d :: ds) τ2
/-- a plain operation on the arguments -/
def xP (g : List Dv → Option Dv) (a : XL) : XD := fun ρ τ => (a ρ τ).bind fun ds τ1 => lift (g ds) τ1
def bP (g : List Dv → Option Bool) (a : XL) : XB := fun ρ τ => (a ρ τ).bind fun ds τ1 => lift (g ds) τ1
/-- a call -/
def xF (F : List Dv → Sto → Res Dv) (a : XL) : XD := fun ρ τ => (a ρ τ).bind F
def xIf (c : XB) (f g : XD) : XD := fun ρ τ => (c ρ τ).bind fun b τ1 => if b = true then f ρ τ1 else g ρ τ1
def bAnd (c d : XB) : XB := fun ρ τ => (c ρ τ).bind fun b τ1 => if b = true then d ρ τ1 else .ok false τ1
def bOr (c d : XB) : XB := fun ρ τ => (c ρ τ).bind fun b τ1 => if b = true then .ok true τ1 else d ρ τ1
def bNot (c : XB) : XB := fun ρ τ => (c ρ τ).bind fun b τ1 => .ok (!b) τ1
/-- a value's truth -/
def truD : Dv → Option Bool
  | .non => some false
  | .bl b => some b
  | .int i => some (i != 0)
  | .str x => if x.length ≤ 16777216 then some ((x.length : Int) != 0) else none
  | .lst xs => some (!xs.isEmpty)
  | .tup xs => some (!xs.isEmpty)
  | .dct ks _ => some (!ks.isEmpty)
  | .fdct _ _ => none
  | .tok _ => none
  | .scr ns => some (!ns.isEmpty)
def bT (f : XD) : XB := fun ρ τ => (f ρ τ).bind fun d τ1 => lift (truD d) τ1
def xOr (f g : XD) : XD := fun ρ τ => (f ρ τ).bind fun d τ1 => (lift (truD d) τ1).bind fun b τ2 => if b = true then .ok d τ2 else g ρ τ2
def xAnd (f g : XD) : XD := fun ρ τ => (f ρ τ).bind fun d τ1 => (lift (truD d) τ1).bind fun b τ2 => if b = true then g ρ τ2 else .ok d τ2
def xNot (f : XD) : XD := fun ρ τ => (f ρ τ).bind fun d τ1 => (lift (truD d) τ1).bind fun b τ2 => .ok (.bl (!b)) τ2
def xB (c : XB) : XD := fun ρ τ => (c ρ τ).bind fun b τ1 => .ok (.bl b) τ1

theorem bind_assoc {α β γ : Type} (r : Res α) (k : α → Sto → Res β) (l : β → Sto → Res γ) : (r.bind k).bind l = r.bind fun a τ => (k a τ).bind l := by cases r <;> rfl
theorem ok_bind {α β : Type} (a : α) (τ : Sto) (k : α → Sto → Res β) : (Res.ok a τ).bind k = k a τ := rfl
theorem bind_ok {α : Type} (r : Res α) : (r.bind fun a τ => .ok a τ) = r := by cases r <;> rfl

section
variable {X : Cx} {T : List (Addr × Str)} {E : L2.St → XK}

/-! ### names, constants -/
theorem pd_var (i : Nat) {x : Str} {pos : Pos} (hN : X.N[i]? = some x := by rfl) (hv : Vis X.env.scope x := by first | exact Or.inl rfl | exact Or.inr (Or.inl rfl) | exact Or.inr (Or.inr rfl)) (hd : (x == ("__debug__" : Str)) = false := by decide)
    (hcd : (x == ("__classdict__" : Str)) = false := by decide) : PD X T E (.Name x pos) (xV i) := by
  refine PE_imp (pe_var (i := i) hN hv hd hcd) fun σ H Q h => ?_
  obtain ⟨fp, G, ρ, τ, b, e, h⟩ := h
  unfold xV at h
  cases q : ρ[i]? with
  | none => rw [q] at h; exact False.elim h
  | some o =>
    cases o with
    | none => rw [q] at h; exact False.elim h
    | some d =>
      rw [q] at h
      obtain ⟨v, e1, r⟩ := e.at_ i d q
      exact ⟨v, e1, h v fp G H (Gro.refl _ _ _) b r⟩
theorem pd_const {e : Expr} {v : V} {d : Dv} (h : PE X e (tC v)) (r : ∀ fp G, Rp X.K fp G v d) : PD X T E e (xC d) := by
  refine PE_imp h fun σ H Q h => ?_
  obtain ⟨fp, G, ρ, τ, b, e, h⟩ := h
  exact h v fp G H (Gro.refl _ _ _) b (r fp G)
theorem pd_int {i j pos} : PD X T E (.Constant (.int i) j pos) (xC (.int i)) := pd_const pe_int fun _ _ => .int i
theorem pd_bl {b j pos} : PD X T E (.Constant (.bool b) j pos) (xC (.bl b)) := pd_const pe_bl fun _ _ => .bl b
theorem pd_non {j pos} : PD X T E (.Constant .none j pos) (xC .non) := pd_const pe_non fun _ _ => .non
theorem pd_str {x j pos} : PD X T E (.Constant (.str x) j pos) (xC (.str x)) := pd_const pe_str fun _ _ => .str x
/-- a module's constant -/
theorem pd_glob {x : Str} {v : V} {u : Value} {d : Dv} {pos : Pos} (hg : Gl X x) (hm : X.mg x = some u) (r : RelV v u) (rd : ∀ fp G, Rp X.K fp G v d) (hd : (x == ("__debug__" : Str)) = false := by decide) : PD X T E (.Name x pos) (xC d) :=
  pd_const (pe_glob hg hm r hd) rd

/-! ### arguments -/
theorem pl_nil : PL X T E [] aN := by
  refine PA_imp pa_nil fun σ H Q h => ?_
  obtain ⟨fp, G, ρ, τ, b, e, h⟩ := h
  exact h [] fp G H (Gro.refl _ _ _) b .nil
theorem pl_cons {e : Expr} {es : List Expr} {f : XD} {g : XL} (ha : PD X T E e f) (hr : PL X T E es g) (hs : starEach (e :: es) X.env = (false, eval e X.env) :: starEach es X.env := by rfl) : PL X T E (e :: es) (aC f g) := by
  refine PA_imp (pa_cons ha hr hs) fun σ H Q h => ?_
  obtain ⟨fp, G, ρ, τ, b, e, h⟩ := h
  refine tD_step (k := fun d τ1 => (g ρ τ1).bind fun ds τ2 => .ok (d :: ds) τ2) b e h fun v fp1 G1 H1 τ1 d b1 e1 g1 r1 h1 => ?_
  refine tA_step (k := fun ds τ2 => .ok (d :: ds) τ2) b1 e1 h1 fun vs fp2 G2 H2 τ2 ds b2 e2 g2 r2 h2 => ?_
  exact h2 (v :: vs) fp2 G2 H2 (Gro.refl _ _ _) b2 (.cons (r1.mono g2.same g2.pre) r2)

/-! ### operators -/
theorem arg2 {γ δ : Type} {K : PySem.W.Frag} {mg : Str → Option Value} {R2 : List Addr → Hp → γ → δ → Prop} {fp : List Addr} {G H : Hp} {ρ : EnvD} {τ : Sto} {σ : L2.St} {fa fb : XD} {k : List Dv → Sto → Res γ} {Q : δ → Hp → Prop} {Z : V → V → Hp → Prop}
    (b : Base K mg T fp G τ H) (e : EnvR K fp G ρ σ) (h : AfterP K mg T R2 (E σ) fp G H ((aC fa (aC fb aN) ρ τ).bind k) Q)
    (w : ∀ v u fp1 G1 H1 τ1 d c, Base K mg T fp1 G1 τ1 H1 → EnvR K fp1 G1 ρ σ → RpL K fp1 G1 [v, u] [d, c] → AfterP K mg T R2 (E σ) fp1 G1 H1 (k [d, c] τ1) Q → Z v u H1) :
    tD K mg T E fa σ H fun x H1 => tD K mg T E fb σ H1 fun y H2 => Z x y H2 := by
  refine tD_step (k := fun d τ1 => ((aC fb aN ρ τ1).bind fun ds τ2 => .ok (d :: ds) τ2).bind k) b e (by unfold aC at h ⊢; rw [bind_assoc] at h; exact h) fun v fp1 G1 H1 τ1 d b1 e1 g1 r1 h1 => ?_
  refine tD_step (k := fun c τ2 => k [d, c] τ2) b1 e1 (by unfold aC aN at h1; simp only [bind_assoc, ok_bind] at h1; exact h1) fun u fp2 G2 H2 τ2 c b2 e2 g2 r2 h2 => ?_
  exact w v u fp2 G2 H2 τ2 d c b2 e2 (.cons (r1.mono g2.same g2.pre) (.cons r2 .nil)) h2
theorem arg1 {γ δ : Type} {K : PySem.W.Frag} {mg : Str → Option Value} {R2 : List Addr → Hp → γ → δ → Prop} {fp : List Addr} {G H : Hp} {ρ : EnvD} {τ : Sto} {σ : L2.St} {fa : XD} {k : List Dv → Sto → Res γ} {Q : δ → Hp → Prop} {Z : V → Hp → Prop}
    (b : Base K mg T fp G τ H) (e : EnvR K fp G ρ σ) (h : AfterP K mg T R2 (E σ) fp G H ((aC fa aN ρ τ).bind k) Q)
    (w : ∀ v fp1 G1 H1 τ1 d, Base K mg T fp1 G1 τ1 H1 → EnvR K fp1 G1 ρ σ → RpL K fp1 G1 [v] [d] → AfterP K mg T R2 (E σ) fp1 G1 H1 (k [d] τ1) Q → Z v H1) :
    tD K mg T E fa σ H Z := by
  refine tD_step (k := fun d τ1 => k [d] τ1) b e (by unfold aC aN at h; simp only [bind_assoc, ok_bind] at h; exact h) fun v fp1 G1 H1 τ1 d b1 e1 g1 r1 h1 => ?_
  exact w v fp1 G1 H1 τ1 d b1 e1 (.cons r1 .nil) h1
/-- .. where the end is a new object (AfterO) -/
theorem AfterO.toP {K : PySem.W.Frag} {mg : Str → Option Value} {E : XK} {fp : List Addr} {G H : Hp} {r : Res Dv} {Q : VK} (h : AfterO K mg T E fp G H r Q) :
    AfterP K mg T (fun _ _ (_ : Dv) (_ : V) => False) E fp G H r (fun _ _ => True) := by
  cases r with
  | ok a τ => exact fun v fp' G' H' g b z => z.elim
  | err e τ => exact h
  | bad => exact h
theorem AfterO.bind {α β : Type} {K : PySem.W.Frag} {mg : Str → Option Value} {R : List Addr → Hp → α → β → Prop} {E : XK} {fp : List Addr} {G H : Hp} {r : Res α} {k : α → Sto → Res Dv} {Q : VK}
    (h : AfterO K mg T E fp G H (r.bind k) Q) :
    AfterP K mg T R E fp G H r fun v H1 => ∃ fp1 G1 τ1 a, Gro fp G H fp1 G1 H1 ∧ Base K mg T fp1 G1 τ1 H1 ∧ R fp1 G1 a v ∧ AfterO K mg T E fp1 G1 H1 (k a τ1) Q := by
  cases r with
  | ok a τ =>
    intro v fp1 G1 H1 g b q
    refine ⟨fp1, G1, τ, a, g, b, q, ?_⟩
    change AfterO K mg T E fp G H (k a τ) Q at h
    cases e : k a τ with
    | ok c τ2 =>
      rw [e] at h
      exact fun p fp2 G2 H2 g2 b2 n1 n2 n3 o => h p fp2 G2 H2 (g.trans g2) b2 (by
        cases z : H p with
        | none => rfl
        | some u => exact absurd n1 (g.ex p (by rw [z]; exact fun z => nomatch z))) n2 n3 o
    | err er τ2 =>
      rw [e] at h
      exact fun cls dx fp2 G2 H2 g2 b2 q2 => h cls dx fp2 G2 H2 (g.trans g2) b2 q2
    | bad => rw [e] at h; exact h
  | err er τ => exact h
  | bad => exact h
theorem tA_stepO {K : PySem.W.Frag} {mg : Str → Option Value} {fp : List Addr} {G H : Hp} {ρ : EnvD} {τ : Sto} {σ : L2.St} {f : XL} {k : List Dv → Sto → Res Dv} {Q : VK} {Z : List V → Hp → Prop}
    (b : Base K mg T fp G τ H) (e : EnvR K fp G ρ σ) (h : AfterO K mg T (E σ) fp G H ((f ρ τ).bind k) Q)
    (w : ∀ v fp1 G1 H1 τ1 d, Base K mg T fp1 G1 τ1 H1 → EnvR K fp1 G1 ρ σ → Gro fp G H fp1 G1 H1 → RpL K fp1 G1 v d → AfterO K mg T (E σ) fp1 G1 H1 (k d τ1) Q → Z v H1) :
    tA K mg T E f σ H Z :=
  ⟨fp, G, ρ, τ, b, e, h.bind.bindE (fun v H1 ⟨fp1, G1, τ1, d, g, b1, r, q⟩ => w v fp1 G1 H1 τ1 d b1 (e.mono g.same g.pre) g r q) (γ := Dv)⟩
theorem tD_stepO {K : PySem.W.Frag} {mg : Str → Option Value} {fp : List Addr} {G H : Hp} {ρ : EnvD} {τ : Sto} {σ : L2.St} {f : XD} {k : Dv → Sto → Res Dv} {Q : VK} {Z : V → Hp → Prop}
    (b : Base K mg T fp G τ H) (e : EnvR K fp G ρ σ) (h : AfterO K mg T (E σ) fp G H ((f ρ τ).bind k) Q)
    (w : ∀ v fp1 G1 H1 τ1 d, Base K mg T fp1 G1 τ1 H1 → EnvR K fp1 G1 ρ σ → Gro fp G H fp1 G1 H1 → Rp K fp1 G1 v d → AfterO K mg T (E σ) fp1 G1 H1 (k d τ1) Q → Z v H1) :
    tD K mg T E f σ H Z :=
  ⟨fp, G, ρ, τ, b, e, h.bind.bindE (fun v H1 ⟨fp1, G1, τ1, d, g, b1, r, q⟩ => w v fp1 G1 H1 τ1 d b1 (e.mono g.same g.pre) g r q) (γ := Dv)⟩
theorem arg2O {K : PySem.W.Frag} {mg : Str → Option Value} {fp : List Addr} {G H : Hp} {ρ : EnvD} {τ : Sto} {σ : L2.St} {fa fb : XD} {k : List Dv → Sto → Res Dv} {Q : VK} {Z : V → V → Hp → Prop}
    (b : Base K mg T fp G τ H) (e : EnvR K fp G ρ σ) (h : AfterO K mg T (E σ) fp G H ((aC fa (aC fb aN) ρ τ).bind k) Q)
    (w : ∀ v u fp1 G1 H1 τ1 d c, Base K mg T fp1 G1 τ1 H1 → EnvR K fp1 G1 ρ σ → RpL K fp1 G1 [v, u] [d, c] → AfterO K mg T (E σ) fp1 G1 H1 (k [d, c] τ1) Q → Z v u H1) :
    tD K mg T E fa σ H fun x H1 => tD K mg T E fb σ H1 fun y H2 => Z x y H2 := by
  refine tD_stepO (k := fun d τ1 => ((aC fb aN ρ τ1).bind fun ds τ2 => .ok (d :: ds) τ2).bind k) b e (by unfold aC at h ⊢; rw [bind_assoc] at h; exact h) fun v fp1 G1 H1 τ1 d b1 e1 g1 r1 h1 => ?_
  refine tD_stepO (k := fun c τ2 => k [d, c] τ2) b1 e1 (by unfold aC aN at h1; simp only [bind_assoc, ok_bind] at h1; exact h1) fun u fp2 G2 H2 τ2 c b2 e2 g2 r2 h2 => ?_
  exact w v u fp2 G2 H2 τ2 d c b2 e2 (.cons (r1.mono g2.same g2.pre) (.cons r2 .nil)) h2

theorem pd_op {op : Operator} {a c : Expr} {pos : Pos} {g : List Dv → Option Dv} {fa fc : XD} (ho : OpR X (binaryOp op) (fun x y => VSp X.K g [x, y])) (ha : PD X T E a fa) (hc : PD X T E c fc) : PD X T E (.BinOp a op c pos) (xP g (aC fa (aC fc aN))) := by
  refine PE_imp (pe_op ho ha hc) fun σ H Q h => ?_
  obtain ⟨fp, G, ρ, τ, b, e, h⟩ := h
  exact arg2 b e h fun v u fp1 G1 H1 τ1 d c b1 e1 r1 h1 => h1.plain b1 r1
theorem po_op {op : Operator} {a c : Expr} {pos : Pos} {g : List Dv → Option Dv} {fa fc : XD} (ho : OpR X (binaryOp op) (fun x y => VSo X.K g [x, y])) (ha : PD X T E a fa) (hc : PD X T E c fc) : PO X T E (.BinOp a op c pos) (xP g (aC fa (aC fc aN))) := by
  refine PE_imp (pe_op ho ha hc) fun σ H Q h => ?_
  obtain ⟨fp, G, ρ, τ, b, e, h⟩ := h
  exact arg2O b e h fun v u fp1 G1 H1 τ1 d c b1 e1 r1 h1 => h1.plain b1 r1
theorem pd_un {op : UnaryOp} {a : Expr} {pos : Pos} {g : List Dv → Option Dv} {fa : XD} (ho : UnR X (unaryOp op) (fun x => VSp X.K g [x])) (ha : PD X T E a fa) : PD X T E (.UnaryOp op a pos) (xP g (aC fa aN)) := by
  refine PE_imp (pe_un ho ha) fun σ H Q h => ?_
  obtain ⟨fp, G, ρ, τ, b, e, h⟩ := h
  exact arg1 b e h fun v fp1 G1 H1 τ1 d b1 e1 r1 h1 => h1.plain b1 r1
/-- a comparison, as a value and as a test -/
theorem pd_cmp {op : CmpOp} {a c : Expr} {pos : Pos} {g : List Dv → Option Bool} {fa fc : XD} (ho : OpR X (compareOp op) (fun x y => VSb X.K g [x, y])) (ha : PD X T E a fa) (hc : PD X T E c fc) (hm : behindInMarks op c = false) :
    PD X T E (.Compare a [op] [c] pos) (xB (bP g (aC fa (aC fc aN)))) := by
  refine PE_imp (pe_cmpR ho ha hc hm) fun σ H Q h => ?_
  obtain ⟨fp, G, ρ, τ, b, e, h⟩ := h
  unfold xB bP at h
  rw [bind_assoc] at h
  refine arg2 b e h fun v u fp1 G1 H1 τ1 d c b1 e1 r1 h1 => ?_
  cases q : g [d, c] with
  | none => rw [q] at h1; exact False.elim h1
  | some k =>
    rw [q] at h1
    exact ⟨fp1, G1, _, k, b1.sub, r1, q, h1 _ fp1 G1 H1 (Gro.refl _ _ _) b1 (.bl k)⟩
theorem pb_cmp {op : CmpOp} {a c : Expr} {pos : Pos} {g : List Dv → Option Bool} {fa fc : XD} (ho : OpR X (compareOp op) (fun x y => VSb X.K g [x, y])) (ha : PD X T E a fa) (hc : PD X T E c fc) (hm : behindInMarks op c = false) :
    PB X T E (.Compare a [op] [c] pos) (bP g (aC fa (aC fc aN))) := by
  refine PT_imp (pt_cmpR ho ha hc hm) fun σ H Q h => ?_
  obtain ⟨fp, G, ρ, τ, b, e, h⟩ := h
  refine arg2 b e h fun v u fp1 G1 H1 τ1 d c b1 e1 r1 h1 => ?_
  exact h1.truth b1 r1

/-! ### tests -/
theorem tru_rp {K : PySem.W.Frag} {fp : List Addr} {G H : Hp} (s : Same G H) {v : V} {d : Dv} {k : Bool} (r : Rp K fp G v d) (e : truD d = some k) : TruV K v H k := by
  cases r with
  | non => exact (Option.some.inj e).symm
  | bl b => exact (Option.some.inj e).symm
  | int i => exact (Option.some.inj e).symm
  | str x =>
    simp only [truD] at e
    split at e
    · rename_i h
      refine ⟨by rw [sizeLine_eq]; exact h, ?_⟩
      exact (Option.some.inj e).symm
    · cases e
  | @lst a xs ds h1 h2 =>
    refine .inl ⟨xs, .inl (.inl (s _ _ h1)), ?_⟩
    rw [← Option.some.inj e]
    cases h2 <;> rfl
  | @tup a its xs ds h1 h2 =>
    refine .inr (.inl ⟨xs, .inl (.inr ⟨_, s _ _ h1⟩), ?_⟩)
    rw [← Option.some.inj e]
    cases h2 <;> rfl
  | @dct a kvs vs h1 _ h2 =>
    refine .inr (.inr ⟨kvs, s _ _ h1, ?_⟩)
    rw [← Option.some.inj e]
    cases kvs <;> rfl
  | tok _ => cases e
  | fdct _ _ _ => cases e
  | @scr a ns h1 =>
    refine .inl ⟨_, s.seq h1, ?_⟩
    rw [← Option.some.inj e]
    cases ns <;> rfl
theorem pb_truth {e : Expr} {f : XD} (ha : PD X T E e f) (he : ∀ whole, isTrue e X.env whole = (do let v ← whole; standAt e.pos; holding [v] (truthy v)) := by exact fun _ => rfl) : PB X T E e (bT f) := by
  refine PT_imp (pt_truth ha he) fun σ H Q h => ?_
  obtain ⟨fp, G, ρ, τ, b, e, h⟩ := h
  refine tD_step b e h fun v fp1 G1 H1 τ1 d b1 e1 g1 r1 h1 => ?_
  cases q : truD d with
  | none => rw [q] at h1; exact False.elim h1
  | some k =>
    rw [q] at h1
    exact ⟨k, tru_rp b1.sub r1 q, h1 k fp1 G1 H1 (Gro.refl _ _ _) b1 rfl⟩
theorem pb_not {a : Expr} {pos : Pos} {c : XB} (h : PB X T E a c) : PB X T E (.UnaryOp .Not a pos) (bNot c) := by
  refine PT_imp (pt_not h) fun σ H Q h => ?_
  obtain ⟨fp, G, ρ, τ, b, e, h⟩ := h
  exact tT_step b e h fun v fp1 G1 H1 τ1 b1 e1 g1 h1 => h1 (!v) fp1 G1 H1 (Gro.refl _ _ _) b1 rfl
/-- and, or as tests -/
abbrev PBw (X : Cx) (T : List (Addr × Str)) (E : L2.St → XK) (e : Expr) (f : XB) : Prop := PW X e (tT X.K X.mg T E f)
theorem pw_a1 {a : Expr} {pos : Pos} {c : XB} (h : PB X T E a c) : PBw X T E (.BoolOp .And [a] pos) c := pw_and1 h
theorem pw_o1 {a : Expr} {pos : Pos} {c : XB} (h : PB X T E a c) : PBw X T E (.BoolOp .Or [a] pos) c := pw_or1 h
theorem PW_imp {e : Expr} {t t' : TT} (h : PW X e t) (w : ∀ σ H Q, t' σ H Q → t σ H Q) : PW X e t' := ⟨fun wh pins s σ H Q I q => h.run wh pins s σ H Q I (w σ H Q q)⟩
theorem pw_ac {a b : Expr} {rest : List Expr} {pos : Pos} {c d : XB} (h : PB X T E a c) (h' : PBw X T E (.BoolOp .And (b :: rest) pos) d) : PBw X T E (.BoolOp .And (a :: b :: rest) pos) (bAnd c d) := by
  refine PW_imp (pw_and h h') fun σ H Q h => ?_
  obtain ⟨fp, G, ρ, τ, b, e, h⟩ := h
  refine tT_step b e h fun v fp1 G1 H1 τ1 b1 e1 g1 h1 => ?_
  cases v with
  | true => exact ⟨fp1, G1, ρ, τ1, b1, e1, h1⟩
  | false => exact h1 false fp1 G1 H1 (Gro.refl _ _ _) b1 rfl
theorem pw_oc {a b : Expr} {rest : List Expr} {pos : Pos} {c d : XB} (h : PB X T E a c) (h' : PBw X T E (.BoolOp .Or (b :: rest) pos) d) : PBw X T E (.BoolOp .Or (a :: b :: rest) pos) (bOr c d) := by
  refine PW_imp (pw_or h h') fun σ H Q h => ?_
  obtain ⟨fp, G, ρ, τ, b, e, h⟩ := h
  refine tT_step b e h fun v fp1 G1 H1 τ1 b1 e1 g1 h1 => ?_
  cases v with
  | true => exact h1 true fp1 G1 H1 (Gro.refl _ _ _) b1 rfl
  | false => exact ⟨fp1, G1, ρ, τ1, b1, e1, h1⟩
theorem pb_w {e : Expr} {c : XB} (h : PBw X T E e c) : PB X T E e c := PW.pt h
theorem pd_if {c a b : Expr} {pos : Pos} {fc : XB} {fa fb : XD} (hc : PB X T E c fc) (ha : PD X T E a fa) (hb : PD X T E b fb) : PD X T E (.IfExp c a b pos) (xIf fc fa fb) := by
  refine PE_imp (pe_ifExp hc ha hb) fun σ H Q h => ?_
  obtain ⟨fp, G, ρ, τ, b, e, h⟩ := h
  refine tT_step b e h fun v fp1 G1 H1 τ1 b1 e1 g1 h1 => ?_
  cases v with
  | true => exact ⟨fp1, G1, ρ, τ1, b1, e1, h1⟩
  | false => exact ⟨fp1, G1, ρ, τ1, b1, e1, h1⟩
/-- and, or, not as values -/
theorem pd_one {op} {a : Expr} {pos : Pos} {f : XD} (h : PD X T E a f) : PD X T E (.BoolOp op [a] pos) f := pe_one h
theorem tru_step {γ δ : Type} {R2 : List Addr → Hp → γ → δ → Prop} {Ek : XK} {fp : List Addr} {G H : Hp} {τ : Sto} {d : Dv} {v : V} {k : Bool → Sto → Res γ} {Q : δ → Hp → Prop} {Z : Bool → Prop} (b : Base X.K X.mg T fp G τ H) (r : Rp X.K fp G v d)
    (h : AfterP X.K X.mg T R2 Ek fp G H ((lift (truD d) τ).bind k) Q) (w : ∀ c, AfterP X.K X.mg T R2 Ek fp G H (k c τ) Q → Z c) : ∃ c, TruV X.K v H c ∧ Z c := by
  cases q : truD d with
  | none => rw [q] at h; exact False.elim h
  | some c => rw [q] at h; exact ⟨c, tru_rp b.sub r q, w c h⟩
theorem pd_or {a b : Expr} {rest : List Expr} {pos : Pos} {f g : XD} (h : PD X T E a f) (h' : PD X T E (.BoolOp .Or (b :: rest) pos) g) : PD X T E (.BoolOp .Or (a :: b :: rest) pos) (xOr f g) := by
  refine PE_imp (pe_orT h h') fun σ H Q h => ?_
  obtain ⟨fp, G, ρ, τ, b, e, h⟩ := h
  refine tD_step b e h fun v fp1 G1 H1 τ1 d b1 e1 g1 r1 h1 => ?_
  refine tru_step b1 r1 h1 fun c h2 => ?_
  cases c with
  | true => exact h2 v fp1 G1 H1 (Gro.refl _ _ _) b1 r1
  | false => exact ⟨fp1, G1, ρ, τ1, b1, e1, h2⟩
theorem pd_and {a b : Expr} {rest : List Expr} {pos : Pos} {f g : XD} (h : PD X T E a f) (h' : PD X T E (.BoolOp .And (b :: rest) pos) g) : PD X T E (.BoolOp .And (a :: b :: rest) pos) (xAnd f g) := by
  refine PE_imp (pe_andT h h') fun σ H Q h => ?_
  obtain ⟨fp, G, ρ, τ, b, e, h⟩ := h
  refine tD_step b e h fun v fp1 G1 H1 τ1 d b1 e1 g1 r1 h1 => ?_
  refine tru_step b1 r1 h1 fun c h2 => ?_
  cases c with
  | true => exact ⟨fp1, G1, ρ, τ1, b1, e1, h2⟩
  | false => exact h2 v fp1 G1 H1 (Gro.refl _ _ _) b1 r1
theorem pd_not {a : Expr} {pos : Pos} {f : XD} (h : PD X T E a f) : PD X T E (.UnaryOp .Not a pos) (xNot f) := by
  refine PE_imp (pe_notT h) fun σ H Q h => ?_
  obtain ⟨fp, G, ρ, τ, b, e, h⟩ := h
  refine tD_step b e h fun v fp1 G1 H1 τ1 d b1 e1 g1 r1 h1 => ?_
  exact tru_step b1 r1 h1 fun c h2 => h2 _ fp1 G1 H1 (Gro.refl _ _ _) b1 (.bl _)
end
end Mv
end
section
set_option Elab.async false
set_option linter.all false
set_option maxRecDepth 100000
namespace Mv
open PySem PySem.Spec PyProof.Rows L2

/-! ### new tuples: what their object is stays known -/
abbrev tupH (its : List Value) (xs : List V) : HO := .frz (tupO its) (.tup xs)
section
variable {X : Cx} {pins : List (Addr × Obj)} {σ : L2.St} {H : Hp} {s : Shared}
/-- the object is laid behind the last one -/
theorem tupNew (I : Inv X pins σ H s) {xs : List V} {its : List Value} (rv : Vals xs its) (hz : xs.length ≤ sizeLine) :
    Inv X pins σ (L2.upd H s.heap.objs.size (tupH its xs)) { s with heap := s.heap.push (tupO its) } :=
  Inv.laid (t' := s.toks) I (fun _ _ z => Heap.get?_push_of_some _ z) (Nat.le_refl _) ⟨Heap.get?_push_size _ rfl, hz, its, rv, ⟨_, Heap.get?_push_size _ rfl, rfl, _, rfl⟩⟩
/-- a tuple that stands -/
theorem tupAt (I : Inv X pins σ H s) {a : Addr} {its : List Value} {xs : List V} (h : H a = some (tupH its xs)) : s.heap.get? a = some (tupO its) ∧ Vals xs its ∧ xs.length ≤ sizeLine := by
  obtain ⟨e, hz, us, rv, o, eo, _, n, ed⟩ := I.hok a _ h
  rw [e] at eo
  cases eo
  injection ed with e1 _
  have : its = us := by simpa using congrArg Array.toList e1
  subst this
  exact ⟨e, rv, hz⟩
end
theorem tup_is {h : Heap} {a : Addr} {its : List Value} (e : h.get? a = some (tupO its)) : IsTup h a its.toArray := ⟨_, e, rfl, _, rfl⟩
theorem rd_tup {K : PySem.W.Frag} {H : Hp} {a : Addr} {its : List Value} {xs : List V} (h : H a = some (tupH its xs)) : SqT K H a xs := .inl (.inr ⟨_, h⟩)

section
variable {X : Cx}
def zTup (t : TA) : TE := fun σ H Q => t σ H fun xs H1 => xs.length ≤ sizeLine ∧ ∀ p its, H1 p = none → Q (.ref p) (L2.upd H1 p (tupH its xs))
theorem pz_tup {es : List Expr} {t : TA} {k} {pos : Pos} (ha : PA X es t) : PE X (.Tuple es k pos) (zTup t) := ⟨fun pins s σ H Q I w => by
  refine wpAny_Tuple_spliced (thn (PA.run ha pos pins s σ H _ I w) fun vs s2 hv => ?_)
  obtain ⟨xs, H2, I2, rv, hz, q⟩ := hv
  exact ⟨rv.length ▸ hz, V.ref s2.heap.objs.size, _, tupNew I2 rv hz, rfl, q _ vs (I2.hok.fresh (Nat.le_refl _))⟩⟩
/-- tuple(x) of a list, of a tuple -/
theorem cz_tuple : CallR X (.type "tuple") (fun vs H Q => ∃ a, vs = [.ref a] ∧ ((∃ ys, H a = some (.lst ys) ∧ ∀ p its, H p = none → Q (.ref p) (L2.upd H p (tupH its ys))) ∨ (∃ its ys, H a = some (tupH its ys) ∧ Q (.ref a) H))) := by
  intro pins s σ H vs us Q I r h
  obtain ⟨a, rfl, h⟩ := h
  obtain ⟨u, rfl, ru⟩ := vals1 r
  obtain rfl : u = Value.ref a := ru
  rcases h with ⟨ys, ha, q⟩ | ⟨its, ys, ha, q⟩
  · obtain ⟨its, rv, hp, hz⟩ := I.list (xs := ys) (.inl (.inl ha))
    have hl := rv.length
    refine call_tuple_list hp.isList (fun h1 kp => ?_) (by rw [List.size_toArray, ← hl]; exact hz)
    have J : Inv X pins σ H { s with heap := h1 } := Inv.kept (t' := s.toks) I kp
    exact ⟨V.ref h1.objs.size, _, tupNew J rv hz, rfl, q _ its (J.hok.fresh (Nat.le_refl _))⟩
  · exact call_tuple_same (tup_is (tupAt I ha).1) ⟨V.ref a, H, I, rfl, q⟩
/-- t + u -/
theorem oz_cat : OpR X (binaryOp .Add) (fun x y H Q => ∃ a b ia xs ib ys, x = .ref a ∧ y = .ref b ∧ H a = some (tupH ia xs) ∧ H b = some (tupH ib ys) ∧ xs.length + ys.length ≤ sizeLine ∧
    (xs = [] → Q (.ref b) H) ∧ (xs ≠ [] → ys = [] → Q (.ref a) H) ∧ (xs ≠ [] → ys ≠ [] → ∀ p its, H p = none → Q (.ref p) (L2.upd H p (tupH its (xs ++ ys))))) := by
  intro pins s σ H x y v u Q I rx ry h
  obtain ⟨a, b, ia, xs, ib, ys, rfl, rfl, ha, hb, hz, q0, q1, q2⟩ := h
  obtain rfl : v = Value.ref a := rx
  obtain rfl : u = Value.ref b := ry
  obtain ⟨ea, ra, _⟩ := tupAt I ha
  obtain ⟨eb, rb, _⟩ := tupAt I hb
  have la := ra.length
  have lb := rb.length
  cases xs with
  | nil =>
    cases ra
    exact cat_tup0 (tup_is ea) (tup_is eb) ⟨V.ref b, H, I, rfl, q0 rfl⟩
  | cons z zs =>
    have hne : ia ≠ [] := fun z => by subst z; cases ra
    refine HT.cat_tup (tup_is ea) (tup_is eb) hne (fun e => ?_) (fun e => ?_) (by rw [← la, ← lb]; exact hz)
    · subst e
      cases rb
      exact ⟨V.ref a, H, I, rfl, q1 (List.cons_ne_nil _ _) rfl⟩
    · refine ⟨V.ref s.heap.objs.size, _, tupNew I (ra.append rb) (by rw [List.length_append]; exact hz), rfl, q2 (List.cons_ne_nil _ _) (fun z => ?_) _ _ (I.hok.fresh (Nat.le_refl _))⟩
      subst z
      cases rb
      exact e rfl
/-- t[lo:hi] -/
theorem sz_tup : SlR X (fun x lo hi H Q => ∃ a its xs, x = .ref a ∧ H a = some (tupH its xs) ∧ (cutV xs lo hi = xs → Q (.ref a) H) ∧ ∀ p us, H p = none → Q (.ref p) (L2.upd H p (tupH us (cutV xs lo hi)))) := by
  intro pins s σ H x v vl vu lo hi sl Q I rx hs pl pu h
  obtain ⟨a, its, xs, rfl, ha, q1, q2⟩ := h
  obtain rfl : v = Value.ref a := rx
  obtain ⟨ea, ra, hz⟩ := tupAt I ha
  have la : its.toArray.size = xs.length := by rw [List.size_toArray]; exact ra.length.symm
  refine ⟨"tuple", _, slot_tuple_getitem.lookup, (tup_is ea).typeIs, ?_⟩
  by_cases hw : HT.sIx xs.length 0 lo = 0 ∧ HT.sIx xs.length xs.length hi = xs.length
  · refine getItem_tuple_whole (tup_is ea) hs pl pu (by rw [la]; exact hw) ⟨V.ref a, H, I, rfl, q1 ?_⟩
    unfold cutV
    rw [hw.1, hw.2, List.drop_zero, Nat.sub_zero, List.take_length]
  · refine HT.getItem_tuple_cut (tup_is ea) hs pl pu (by rw [la]; exact hw) ?_ (by rw [la]; exact hz)
    rw [la]
    exact ⟨V.ref s.heap.objs.size, _, tupNew I ((ra.drop (HT.sIx xs.length 0 lo)).take _) (Nat.le_trans (cutV_length xs lo hi) hz), rfl, q2 _ _ (I.hok.fresh (Nat.le_refl _))⟩
end
end Mv
end
section
set_option Elab.async false
set_option linter.all false
set_option maxRecDepth 100000
set_option maxHeartbeats 2000000
namespace Mv
open PySem PySem.Spec PyProof.Rows L2

/-! ### tuple * int for a few -/
/-- once: the tuple itself -/
theorem mulOnce (t : Addr) (xs : Array Value) (n : Nat) (dd : Option Addr) (sl : Array (Option Value)) (u : Tok) :
    Meets (Builtin.«tuple.__mul__» ⟨[.ref t, .int 1 u], []⟩) (fun _ R s => s.heap.get? t = some { cls := .type "tuple", dict := dd, data := .seq xs n, slots := sl } ∧ R (.ok (.ret (Value.ref t))) s) :=
  .of_wp fun prog w A R s h => by
    obtain ⟨hp, g, d, tk, os⟩ := s
    obtain ⟨ht, h⟩ := h
    have f1 := AutoSeq1.idx_int
    wp_walk using wpAny_loadPart' ht
    exact ⟨_, rfl, h⟩
/-- not at all: an empty one -/
theorem mulNone (t : Addr) (xs : Array Value) (n : Nat) (dd : Option Addr) (sl : Array (Option Value)) (u : Tok) (hx : xs.isEmpty = false) :
    Meets (Builtin.«tuple.__mul__» ⟨[.ref t, .int 0 u], []⟩) (fun _ R s => s.heap.get? t = some { cls := .type "tuple", dict := dd, data := .seq xs n, slots := sl } ∧
      R (.ok (.ret (Value.ref s.heap.objs.size))) { s with heap := s.heap.push { cls := Value.type "tuple", data := Data.seq #[] } }) :=
  .of_wp fun prog w A R s h => by
    obtain ⟨hp, g, d, tk, os⟩ := s
    obtain ⟨ht, h⟩ := h
    have f1 := AutoSeq1.idx_int
    wp_walk using wpAny_loadPart' ht
    exact ⟨_, rfl, h⟩
section
variable {X : Cx}
theorem oz_rep : OpR X (binaryOp .Mult) (fun x y H Q => ∃ a its xs k, x = .ref a ∧ y = .int k ∧ H a = some (tupH its xs) ∧ xs ≠ [] ∧ 0 ≤ k ∧ k ≤ 1000 ∧ xs.length ≤ 1000 ∧ (k = 1 → Q (.ref a) H) ∧
    ∀ p us, H p = none → Q (.ref p) (L2.upd H p (tupH us (List.replicate k.toNat xs).flatten))) := by
  intro pins s σ H x y v u Q I rx ry h
  obtain ⟨a, its, xs, k, rfl, rfl, ha, hne, h0, h2, hz, q1, q⟩ := h
  obtain rfl : v = Value.ref a := rx
  obtain ⟨t, rfl⟩ := ry
  obtain ⟨ea, rv, _⟩ := tupAt I ha
  have hle : its.length = xs.length := rv.length.symm
  have hn : its.toArray.isEmpty = false := by
    cases its with
    | nil => cases rv; exact absurd rfl hne
    | cons _ _ => rfl
  refine wpAny_binaryOp_repeat_ref (T := "tuple") (U := "int") (by decide) ⟨_, ea, rfl⟩ (fun z => typeIs_int z k t) noFill_tuple_mul F.fills_int_mul F.slot_int_rmul repeat_tuple F.slot_int_index.lookup
    (call_meets F.slot_int_rmul (typeIs_int s k t) F.entry_int_rmul (F.args_int_rmul_2 _ _) (int_rmul_tuple k t a its.toArray 0 none #[])
      ⟨ea, rfl, ⟨_, ea, rfl⟩, ?_⟩)
  by_cases k1 : k = 1
  · subst k1
    exact call_meets F.slot_tuple_mul ⟨_, ea, rfl⟩ F.entry_tuple_mul (F.args_tuple_mul_2 _ _) (mulOnce a its.toArray 0 none #[] t) ⟨ea, ⟨V.ref a, H, I, rfl, q1 rfl⟩⟩
  by_cases k0 : k = 0
  · subst k0
    refine call_meets F.slot_tuple_mul ⟨_, ea, rfl⟩ F.entry_tuple_mul (F.args_tuple_mul_2 _ _) (mulNone a its.toArray 0 none #[] t hn) ⟨ea, ?_⟩
    exact ⟨V.ref s.heap.objs.size, _, tupNew I (xs := []) (its := []) .nil (Nat.zero_le _), rfl, q _ _ (I.hok.fresh (Nat.le_refl _))⟩
  have hs : its.toArray.size = xs.length := by rw [List.size_toArray, hle]
  have hm : ((its.toArray.size : Nat) : Int) * k ≤ 1000000 := by
    rw [hs]
    have m1 : ((xs.length : Nat) : Int) * k ≤ 1000 * k := Int.mul_le_mul_of_nonneg_right (by omega) h0
    omega
  have fl : (List.replicate k.toNat xs).flatten.length ≤ sizeLine := by
    rw [PyProof.Rows.lm_len_rep_flat, sizeLine_eq]
    have m1 : k.toNat * xs.length ≤ 1000 * 1000 := Nat.mul_le_mul (by omega) hz
    omega
  have rr := rv.rep k.toNat
  refine call_meets F.slot_tuple_mul ⟨_, ea, rfl⟩ F.entry_tuple_mul (F.args_tuple_mul_2 _ _) (tuple_mulW a its.toArray 0 none #[] k t ?_ ?_ ?_ (by omega) ?_ ?_) ⟨ea, ?_⟩
  · rw [decide_eq_false (by omega), decide_eq_false (by omega)]; rfl
  · rw [hn, Bool.false_or]; exact beq_eq_false_iff_ne.mpr k1
  · rw [hn, Bool.or_false]; exact decide_eq_false (by omega)
  · unfold Builtin.Tuple.tupleTooMany; rw [sizeLine_eq]; exact decide_eq_false (by omega)
  · rw [size_rep, List.size_toArray, ← rr.length]; exact fl
  · rw [size_rep]
    exact ⟨V.ref s.heap.objs.size, _, tupNew I rr fl, rfl, q _ _ (I.hok.fresh (Nat.le_refl _))⟩
end
end Mv
end
section
set_option Elab.async false
set_option linter.all false
set_option maxRecDepth 100000
namespace Mv
open PySem PySem.Spec PyProof.Rows L2

/-! ### operators on data -/
def big (n : Nat) : Bool := decide (n ≤ 16777216)
theorem big_le {n : Nat} (h : big n = true) : n ≤ sizeLine := by rw [sizeLine_eq]; exact of_decide_eq_true h
def gAdd : List Dv → Option Dv
  | [.int i, .int j] => some (.int (i + j))
  | [.str x, .str y] => if big (x.length + y.length) then some (.str (x ++ y)) else none
  | [.tup xs, .tup ys] => if big (xs.length + ys.length) then some (.tup (xs ++ ys)) else none
  | [.lst xs, .lst ys] => if big (xs.length + ys.length) then some (.lst (xs ++ ys)) else none
  | _ => none
def gCat : List Dv → Option Dv
  | [.lst xs, .lst ys] => if big (xs.length + ys.length) then some (.lst (xs ++ ys)) else none
  | _ => none
def gSub : List Dv → Option Dv
  | [.int i, .int j] => some (.int (i - j))
  | _ => none
def mulOk (i j : Int) : Bool := decide (-(2 ^ 64) < i ∧ i < 2 ^ 64) || decide (-(2 ^ 64) < j ∧ j < 2 ^ 64)
def gMul : List Dv → Option Dv
  | [.int i, .int j] => if mulOk i j then some (.int (i * j)) else none
  | [.tup xs, .int k] => if !xs.isEmpty && decide (0 ≤ k ∧ k ≤ 1000) && decide (xs.length ≤ 1000) then some (.tup (List.replicate k.toNat xs).flatten) else none
  | [.lst xs, .int k] => if decide (0 ≤ k ∧ k ≤ 1000) && decide (xs.length ≤ 1000) then some (.lst (List.replicate k.toNat xs).flatten) else none
  | _ => none
def gMod : List Dv → Option Dv
  | [.int i, .int j] => if decide (0 < j) then some (.int (i % j)) else none
  | _ => none
def gDiv : List Dv → Option Dv
  | [.int i, .int j] => if decide (0 < j ∧ j < 1073741824) then some (.int (i / j)) else none
  | _ => none
def gPow : List Dv → Option Dv
  | [.int i, .int j] => if decide (0 ≤ j ∧ j ≤ 1000000 ∧ i.natAbs < 2 ^ 64) then some (.int (i ^ j.toNat)) else none
  | _ => none
def gNeg : List Dv → Option Dv
  | [.int i] => some (.int (-i))
  | _ => none
/-! == on data: no dicts, nothing deeper than 60 -/
mutual
def Dv.dok : Nat → Dv → Bool
  | _, .non => true
  | _, .bl _ => true
  | _, .int _ => true
  | _, .str x => PyData.strOk x
  | 0, .lst _ => false
  | 0, .tup _ => false
  | n + 1, .lst xs => Dv.dokL n xs
  | n + 1, .tup xs => Dv.dokL n xs
  | _, .dct _ _ => false
  | _, .fdct _ _ => false
  | _, .tok _ => false
  | _, .scr _ => false
def Dv.dokL : Nat → List Dv → Bool
  | _, [] => true
  | n, x :: xs => Dv.dok n x && Dv.dokL n xs
end
theorem dokL_all (n : Nat) : ∀ xs : List Dv, Dv.dokL n xs = xs.all (Dv.dok n)
  | [] => by rw [Dv.dokL]; rfl
  | x :: xs => by rw [Dv.dokL, dokL_all n xs, List.all_cons]
mutual
theorem dok_py : ∀ (n : Nat) (d : Dv), Dv.dok n d = true → d.py.canLay0 = true ∧ d.py.depth ≤ n
  | _, .non, _ => ⟨rfl, Nat.zero_le _⟩
  | _, .bl _, _ => ⟨rfl, Nat.zero_le _⟩
  | _, .int _, _ => ⟨rfl, Nat.zero_le _⟩
  | _, .str x, h => by rw [Dv.dok] at h; exact ⟨by simp only [Dv.py, PyData.canLay0]; exact h, by simp only [Dv.py, PyData.depth]; exact Nat.zero_le _⟩
  | 0, .lst _, h => by simp [Dv.dok] at h
  | 0, .tup _, h => by simp [Dv.dok] at h
  | n + 1, .lst xs, h => by
    rw [Dv.dok] at h
    have := dokL_py n xs h
    simp only [Dv.py, PyData.canLay0, PyData.depth]
    exact ⟨this.1, Nat.succ_le_succ this.2⟩
  | n + 1, .tup xs, h => by
    rw [Dv.dok] at h
    have := dokL_py n xs h
    simp only [Dv.py, PyData.canLay0, PyData.depth]
    exact ⟨this.1, Nat.succ_le_succ this.2⟩
  | _, .dct _ _, h => by simp [Dv.dok] at h
  | _, .tok _, h => by simp [Dv.dok] at h
  | _, .scr _, h => by simp [Dv.dok] at h
theorem dokL_py : ∀ (n : Nat) (ds : List Dv), Dv.dokL n ds = true → PyData.canLayAll0 (Dv.pyL ds) = true ∧ PyData.depthAll (Dv.pyL ds) ≤ n
  | _, [], _ => ⟨rfl, Nat.zero_le _⟩
  | n, d :: ds, h => by
    rw [Dv.dokL, Bool.and_eq_true] at h
    have h1 := dok_py n d h.1
    have h2 := dokL_py n ds h.2
    simp only [Dv.pyL, PyData.canLayAll0, PyData.depthAll]
    exact ⟨by rw [h1.1, h2.1]; rfl, Nat.max_le.mpr ⟨h1.2, h2.2⟩⟩
end
def Dv.okq (d : Dv) : Bool := Dv.dok 60 d
theorem okq_shaped {d : Dv} (h : d.okq = true) : SeqAt.shaped d.py = true := by
  have := dok_py 60 d h
  unfold SeqAt.shaped
  rw [this.1, decide_eq_true (Nat.le_trans this.2 (by decide))]; rfl
mutual
def Dv.eqv : Dv → Dv → Bool
  | .non, .non => true
  | .bl a, .bl b => a == b
  | .bl a, .int j => (if a then 1 else 0) == j
  | .int i, .bl b => i == (if b then 1 else 0)
  | .int i, .int j => i == j
  | .str x, .str y => x == y
  | .lst xs, .lst ys => Dv.eqvL xs ys
  | .tup xs, .tup ys => Dv.eqvL xs ys
  | _, _ => false
def Dv.eqvL : List Dv → List Dv → Bool
  | [], [] => true
  | x :: xs, y :: ys => Dv.eqv x y && Dv.eqvL xs ys
  | _, _ => false
end
mutual
theorem eqv_py : ∀ d e : Dv, PyData.eqv d.py e.py = Dv.eqv d e
  | .lst xs, .lst ys => by simp only [Dv.py, PyData.eqv, Dv.eqv]; exact eqvL_py xs ys
  | .tup xs, .tup ys => by simp only [Dv.py, PyData.eqv, Dv.eqv]; exact eqvL_py xs ys
  | .non, e => by cases e <;> simp [Dv.py, PyData.eqv, Dv.eqv]
  | .bl _, e => by cases e <;> simp [Dv.py, PyData.eqv, Dv.eqv]
  | .int _, e => by cases e <;> simp [Dv.py, PyData.eqv, Dv.eqv]
  | .str _, e => by cases e <;> simp [Dv.py, PyData.eqv, Dv.eqv]
  | .dct _ _, e => by cases e <;> simp [Dv.py, PyData.eqv, Dv.eqv]
  | .fdct _ _, e => by cases e <;> simp [Dv.py, PyData.eqv, Dv.eqv]
  | .tok _, e => by cases e <;> simp [Dv.py, PyData.eqv, Dv.eqv]
  | .scr _, e => by cases e <;> simp [Dv.py, PyData.eqv, Dv.eqv]
  | .lst _, .non => by simp [Dv.py, PyData.eqv, Dv.eqv]
  | .lst _, .bl _ => by simp [Dv.py, PyData.eqv, Dv.eqv]
  | .lst _, .int _ => by simp [Dv.py, PyData.eqv, Dv.eqv]
  | .lst _, .str _ => by simp [Dv.py, PyData.eqv, Dv.eqv]
  | .lst _, .tup _ => by simp [Dv.py, PyData.eqv, Dv.eqv]
  | .lst _, .dct _ _ => by simp [Dv.py, PyData.eqv, Dv.eqv]
  | .lst _, .fdct _ _ => by simp [Dv.py, PyData.eqv, Dv.eqv]
  | .lst _, .tok _ => by simp [Dv.py, PyData.eqv, Dv.eqv]
  | .lst _, .scr _ => by simp [Dv.py, PyData.eqv, Dv.eqv]
  | .tup _, .non => by simp [Dv.py, PyData.eqv, Dv.eqv]
  | .tup _, .bl _ => by simp [Dv.py, PyData.eqv, Dv.eqv]
  | .tup _, .int _ => by simp [Dv.py, PyData.eqv, Dv.eqv]
  | .tup _, .str _ => by simp [Dv.py, PyData.eqv, Dv.eqv]
  | .tup _, .lst _ => by simp [Dv.py, PyData.eqv, Dv.eqv]
  | .tup _, .dct _ _ => by simp [Dv.py, PyData.eqv, Dv.eqv]
  | .tup _, .fdct _ _ => by simp [Dv.py, PyData.eqv, Dv.eqv]
  | .tup _, .tok _ => by simp [Dv.py, PyData.eqv, Dv.eqv]
  | .tup _, .scr _ => by simp [Dv.py, PyData.eqv, Dv.eqv]
theorem eqvL_py : ∀ ds es : List Dv, PyData.eqvAll (Dv.pyL ds) (Dv.pyL es) = Dv.eqvL ds es
  | [], [] => by simp [Dv.pyL, PyData.eqvAll, Dv.eqvL]
  | [], _ :: _ => by simp [Dv.pyL, PyData.eqvAll, Dv.eqvL]
  | _ :: _, [] => by simp [Dv.pyL, PyData.eqvAll, Dv.eqvL]
  | d :: ds, e :: es => by simp only [Dv.pyL, PyData.eqvAll, Dv.eqvL, eqv_py d e, eqvL_py ds es]
end
def gEq : List Dv → Option Bool
  | [d, e] => if d.okq && e.okq then some (d.eqv e) else none
  | _ => none
def gNe : List Dv → Option Bool
  | [d, e] => if d.okq && e.okq then some (!d.eqv e) else none
  | _ => none
/-- texts by their code points -/
def strLt (x y : Str) : Bool := decide (x.cps.toList < y.cps.toList)
def gLt : List Dv → Option Bool
  | [.int i, .int j] => some (decide (i < j))
  | [.str x, .str y] => some (strLt x y)
  | _ => none
def gLe : List Dv → Option Bool
  | [.int i, .int j] => some (decide (i ≤ j))
  | _ => none
def gGt : List Dv → Option Bool
  | [.int i, .int j] => some (decide (j < i))
  | _ => none
def gGe : List Dv → Option Bool
  | [.int i, .int j] => some (decide (j ≤ i))
  | _ => none
def gIsN : List Dv → Option Bool
  | [.non, .non] => some true
  | [_, .non] => some false
  | _ => none
def gNotN : List Dv → Option Bool
  | [.non, .non] => some false
  | [_, .non] => some true
  | _ => none
def memD (d : Dv) (ds : List Dv) : Bool := ds.any fun e => e.eqv d
/-- in: a list, a tuple of data; a text's sign; a dict by texts -/
def gIn : List Dv → Option Bool
  | [d, .lst es] => if d.okq && Dv.okq (.lst es) then some (memD d es) else none
  | [d, .tup es] => if d.okq && Dv.okq (.tup es) then some (memD d es) else none
  | [.str x, .str y] => match x.cps.toList with
    | [c] => some (decide (c ∈ y.cps.toList))
    | _ => none
  | [.int i, .dct ks _] => some (memD (.int i) ks)
  | [.str x, .dct ks _] => some (memD (.str x) ks)
  | [.int i, .fdct ks _] => some (memD (.int i) ks)
  | [.str x, .fdct ks _] => some (memD (.str x) ks)
  | _ => none
def gNotIn (l : List Dv) : Option Bool := (gIn l).map (!·)

section
variable {X : Cx}
theorem two_of {K : PySem.W.Frag} {fp : List Addr} {G : Hp} {x y : V} {ds : List Dv} (r : RpL K fp G [x, y] ds) : ∃ d e, ds = [d, e] ∧ Rp K fp G x d ∧ Rp K fp G y e := by
  cases r with
  | cons a r => cases r with | cons b r => cases r; exact ⟨_, _, rfl, a, b⟩
theorem one_of {K : PySem.W.Frag} {fp : List Addr} {G : Hp} {x : V} {ds : List Dv} (r : RpL K fp G [x] ds) : ∃ d, ds = [d] ∧ Rp K fp G x d := by
  cases r with
  | cons a r => cases r; exact ⟨_, rfl, a⟩
/-- a new tuple, list at p -/
theorem new_tup {K : PySem.W.Frag} {fp : List Addr} {G H : Hp} (s : Same G H) {p : Addr} (h : H p = none) {xs : List V} {ds : List Dv} (its : List Value) (r : RpL K fp G xs ds) : Grow G H (upd G p (tupH its xs)) (upd H p (tupH its xs)) ∧ Rp K fp (upd G p (tupH its xs)) (.ref p) (.tup ds) :=
  have g := Grow.upd s h (o := tupH its xs) (fun _ z => nomatch z)
  ⟨g, .tup upd_same (r.mono g.same (List.prefix_refl _))⟩
theorem new_lst {K : PySem.W.Frag} {fp : List Addr} {G H : Hp} (s : Same G H) {p : Addr} (h : H p = none) {xs : List V} {ds : List Dv} (r : RpL K fp G xs ds) : Grow G H (upd G p (.lst xs)) (upd H p (.lst xs)) ∧ Rp K fp (upd G p (.lst xs)) (.ref p) (.lst ds) :=
  have g := Grow.upd s h (o := .lst xs) (fun _ z => nomatch z)
  ⟨g, .lst upd_same (r.mono g.same (List.prefix_refl _))⟩
theorem new_own {K : PySem.W.Frag} {fp : List Addr} {G H : Hp} (s : Same G H) {p : Addr} (h : H p = none) {xs : List V} {ds : List Dv} (r : RpL K fp G xs ds) : Grow G H G (upd H p (.lst xs)) ∧ G p = none ∧ OwR K fp G (upd H p (.lst xs)) p (.lst ds) :=
  ⟨Grow.apart s h, s.free h, xs, upd_same, r⟩

theorem op_gAdd : OpR X (binaryOp .Add) (fun x y => VSp X.K gAdd [x, y]) := by
  intro pins s σ H x y v u Q I rx ry h
  obtain ⟨fp, G, ds, d, sub, r, e, q⟩ := h
  obtain ⟨d1, d2, rfl, r1, r2⟩ := two_of r
  cases r1 <;> cases r2 <;> simp only [gAdd, reduceCtorEq] at e
  · rename_i i j
    cases e
    exact op_add pins s σ H _ _ v u Q I rx ry ⟨i, j, rfl, rfl, q _ _ _ (Grow.refl sub) (.int _)⟩
  · rename_i i j
    split at e
    · rename_i hb
      cases e
      exact op_add_str pins s σ H _ _ v u Q I rx ry ⟨i, j, rfl, rfl, big_le hb, q _ _ _ (Grow.refl sub) (.str _)⟩
    · cases e
  · rename_i a xs ds1 h1 h2 b ys ds2 h3 h4
    split at e
    · rename_i hb
      cases e
      refine op_cat pins s σ H _ _ v u Q I rx ry ⟨a, b, xs, ys, rfl, rfl, sub _ _ h1, sub _ _ h3, by rw [h2.length, h4.length]; exact big_le hb, fun p hp => ?_⟩
      obtain ⟨g, r⟩ := new_lst sub hp (h2.append h4)
      exact q _ _ _ g r
    · cases e
  · rename_i a ia xs ds1 h1 h2 b ib ys ds2 h3 h4
    split at e
    · rename_i hb
      cases e
      refine oz_cat pins s σ H _ _ v u Q I rx ry ⟨a, b, ia, xs, ib, ys, rfl, rfl, sub _ _ h1, sub _ _ h3, by rw [h2.length, h4.length]; exact big_le hb, fun z => ?_, fun z z2 => ?_, fun _ _ p its hp => ?_⟩
      · subst z
        cases h2
        exact q _ _ _ (Grow.refl sub) (.tup h3 h4)
      · subst z2
        cases h4
        rw [List.append_nil] at q
        exact q _ _ _ (Grow.refl sub) (.tup h1 h2)
      · obtain ⟨g, r⟩ := new_tup sub hp its (h2.append h4)
        exact q _ _ _ g r
    · cases e
theorem op_gCat : OpR X (binaryOp .Add) (fun x y => VSo X.K gCat [x, y]) := by
  intro pins s σ H x y v u Q I rx ry h
  obtain ⟨fp, G, ds, d, sub, r, e, q⟩ := h
  obtain ⟨d1, d2, rfl, r1, r2⟩ := two_of r
  cases r1 <;> cases r2 <;> simp only [gCat, reduceCtorEq] at e
  rename_i a xs ds1 h1 h2 b ys ds2 h3 h4
  split at e
  · rename_i hb
    cases e
    refine op_cat pins s σ H _ _ v u Q I rx ry ⟨a, b, xs, ys, rfl, rfl, sub _ _ h1, sub _ _ h3, by rw [h2.length, h4.length]; exact big_le hb, fun p hp => ?_⟩
    obtain ⟨g, n, r⟩ := new_own sub hp (h2.append h4)
    exact q p _ _ g hp n r
  · cases e
theorem op_gSub : OpR X (binaryOp .Sub) (fun x y => VSp X.K gSub [x, y]) := by
  intro pins s σ H x y v u Q I rx ry h
  obtain ⟨fp, G, ds, d, sub, r, e, q⟩ := h
  obtain ⟨d1, d2, rfl, r1, r2⟩ := two_of r
  cases r1 <;> cases r2 <;> simp only [gSub, reduceCtorEq] at e
  rename_i i j
  cases e
  exact op_sub pins s σ H _ _ v u Q I rx ry ⟨i, j, rfl, rfl, q _ _ _ (Grow.refl sub) (.int _)⟩
theorem rpl_rep {K : PySem.W.Frag} {fp : List Addr} {G : Hp} {xs : List V} {ds : List Dv} (r : RpL K fp G xs ds) : ∀ k : Nat, RpL K fp G (List.replicate k xs).flatten (List.replicate k ds).flatten
  | 0 => .nil
  | k + 1 => by
    rw [List.replicate_succ, List.replicate_succ, List.flatten_cons, List.flatten_cons]
    exact r.append (rpl_rep r k)
theorem op_gMul : OpR X (binaryOp .Mult) (fun x y => VSp X.K gMul [x, y]) := by
  intro pins s σ H x y v u Q I rx ry h
  obtain ⟨fp, G, ds, d, sub, r, e, q⟩ := h
  obtain ⟨d1, d2, rfl, r1, r2⟩ := two_of r
  cases r1 <;> cases r2 <;> simp only [gMul, reduceCtorEq] at e
  · rename_i i j
    split at e
    · rename_i hb
      cases e
      unfold mulOk at hb
      rw [Bool.or_eq_true, decide_eq_true_eq, decide_eq_true_eq] at hb
      exact op_mul pins s σ H _ _ v u Q I rx ry ⟨i, j, rfl, rfl, hb, q _ _ _ (Grow.refl sub) (.int _)⟩
    · cases e
  · rename_i a xs ds1 h1 h2 k
    split at e
    · rename_i hb
      cases e
      rw [Bool.and_eq_true, decide_eq_true_eq, decide_eq_true_eq] at hb
      obtain ⟨⟨b1, b2⟩, b3⟩ := hb
      have hl := h2.length
      refine op_rep pins s σ H _ _ v u Q I rx ry ⟨a, k, xs, rfl, rfl, sub _ _ h1, by omega, by omega, ?_, fun p hp => ?_⟩
      · rw [sizeLine_eq, hl]
        have a1 : ds1.length * k.toNat ≤ 1000 * 1000 := Nat.mul_le_mul b3 (by omega)
        omega
      · obtain ⟨g, r⟩ := new_lst sub hp (rpl_rep h2 k.toNat)
        exact q _ _ _ g r
    · cases e
  · rename_i a its xs ds1 h1 h2 k
    split at e
    · rename_i hb
      cases e
      rw [Bool.and_eq_true, Bool.and_eq_true, decide_eq_true_eq, decide_eq_true_eq] at hb
      obtain ⟨⟨b1, b2, b3⟩, b4⟩ := hb
      have hl := h2.length
      refine oz_rep pins s σ H _ _ v u Q I rx ry ⟨a, its, xs, k, rfl, rfl, sub _ _ h1, fun z => ?_, b2, b3, by omega, fun z => ?_, fun p us hp => ?_⟩
      · subst z
        cases h2
        cases b1
      · subst z
        have : (List.replicate (Int.toNat 1) ds1).flatten = ds1 := by simp
        rw [this] at q
        exact q _ _ _ (Grow.refl sub) (.tup h1 h2)
      · obtain ⟨g, r⟩ := new_tup sub hp us (rpl_rep h2 k.toNat)
        exact q _ _ _ g r
    · cases e
theorem op_gMod : OpR X (binaryOp .Mod) (fun x y => VSp X.K gMod [x, y]) := by
  intro pins s σ H x y v u Q I rx ry h
  obtain ⟨fp, G, ds, d, sub, r, e, q⟩ := h
  obtain ⟨d1, d2, rfl, r1, r2⟩ := two_of r
  cases r1 <;> cases r2 <;> simp only [gMod, reduceCtorEq] at e
  rename_i i j
  split at e
  · rename_i hb
    cases e
    exact op_mod pins s σ H _ _ v u Q I rx ry ⟨i, j, rfl, rfl, of_decide_eq_true hb, q _ _ _ (Grow.refl sub) (.int _)⟩
  · cases e
theorem op_gDiv : OpR X (binaryOp .FloorDiv) (fun x y => VSp X.K gDiv [x, y]) := by
  intro pins s σ H x y v u Q I rx ry h
  obtain ⟨fp, G, ds, d, sub, r, e, q⟩ := h
  obtain ⟨d1, d2, rfl, r1, r2⟩ := two_of r
  cases r1 <;> cases r2 <;> simp only [gDiv, reduceCtorEq] at e
  rename_i i j
  split at e
  · rename_i hb
    cases e
    have hb' : 0 < j ∧ j < 1073741824 := of_decide_eq_true hb
    exact op_fdiv pins s σ H _ _ v u Q I rx ry ⟨i, j, rfl, rfl, hb', q _ _ _ (Grow.refl sub) (.int _)⟩
  · cases e
theorem op_gPow : OpR X (binaryOp .Pow) (fun x y => VSp X.K gPow [x, y]) := by
  intro pins s σ H x y v u Q I rx ry h
  obtain ⟨fp, G, ds, d, sub, r, e, q⟩ := h
  obtain ⟨d1, d2, rfl, r1, r2⟩ := two_of r
  cases r1 <;> cases r2 <;> simp only [gPow, reduceCtorEq] at e
  rename_i i j
  split at e
  · rename_i hb
    cases e
    have hb' : 0 ≤ j ∧ j ≤ 1000000 ∧ i.natAbs < 2 ^ 64 := of_decide_eq_true hb
    exact op_pow pins s σ H _ _ v u Q I rx ry ⟨i, j, rfl, rfl, hb', q _ _ _ (Grow.refl sub) (.int _)⟩
  · cases e
theorem un_gNeg : UnR X (unaryOp .USub) (fun x => VSp X.K gNeg [x]) := by
  intro pins s σ H x v Q I rx h
  obtain ⟨fp, G, ds, d, sub, r, e, q⟩ := h
  obtain ⟨d1, rfl, r1⟩ := one_of r
  cases r1 <;> simp only [gNeg, reduceCtorEq] at e
  rename_i i
  cases e
  exact un_neg pins s σ H _ v Q I rx ⟨i, rfl, q _ _ _ (Grow.refl sub) (.int _)⟩
/-! comparisons -/
theorem op_gEq (hu : X.A.units + 64 < cLine) : OpR X (compareOp .Eq) (fun x y => VSb X.K gEq [x, y]) := by
  intro pins s σ H x y v u Q I rx ry h
  obtain ⟨fp, G, ds, d, sub, r, e, q⟩ := h
  obtain ⟨d1, d2, rfl, r1, r2⟩ := two_of r
  simp only [gEq] at e
  split at e
  · rename_i hb
    cases e
    rw [Bool.and_eq_true] at hb
    refine op_eqD hu pins s σ H _ _ v u Q I rx ry ⟨d1.py, d2.py, r1.dp sub (dok_py _ _ hb.1).1, r2.dp sub (dok_py _ _ hb.2).1, okq_shaped hb.1, okq_shaped hb.2, ?_⟩
    rw [eqv_py]
    exact q
  · cases e
theorem op_gNe (hu : X.A.units + 64 < cLine) : OpR X (compareOp .NotEq) (fun x y => VSb X.K gNe [x, y]) := by
  intro pins s σ H x y v u Q I rx ry h
  obtain ⟨fp, G, ds, d, sub, r, e, q⟩ := h
  obtain ⟨d1, d2, rfl, r1, r2⟩ := two_of r
  simp only [gNe] at e
  split at e
  · rename_i hb
    cases e
    rw [Bool.and_eq_true] at hb
    refine op_neD hu pins s σ H _ _ v u Q I rx ry ⟨d1.py, d2.py, r1.dp sub (dok_py _ _ hb.1).1, r2.dp sub (dok_py _ _ hb.2).1, okq_shaped hb.1, okq_shaped hb.2, ?_⟩
    rw [eqv_py]
    exact q
  · cases e
theorem op_gLt : OpR X (compareOp .Lt) (fun x y => VSb X.K gLt [x, y]) := by
  intro pins s σ H x y v u Q I rx ry h
  obtain ⟨fp, G, ds, d, sub, r, e, q⟩ := h
  obtain ⟨d1, d2, rfl, r1, r2⟩ := two_of r
  cases r1 <;> cases r2 <;> simp only [gLt, reduceCtorEq] at e
  · rename_i i j
    cases e
    exact op_lt pins s σ H _ _ v u Q I rx ry ⟨i, j, rfl, rfl, q⟩
  · rename_i i j
    cases e
    exact op_lt_str pins s σ H _ _ v u Q I rx ry ⟨i, j, rfl, rfl, q⟩
theorem op_gLe : OpR X (compareOp .LtE) (fun x y => VSb X.K gLe [x, y]) := by
  intro pins s σ H x y v u Q I rx ry h
  obtain ⟨fp, G, ds, d, sub, r, e, q⟩ := h
  obtain ⟨d1, d2, rfl, r1, r2⟩ := two_of r
  cases r1 <;> cases r2 <;> simp only [gLe, reduceCtorEq] at e
  cases e
  exact op_le pins s σ H _ _ v u Q I rx ry ⟨_, _, rfl, rfl, q⟩
theorem op_gGt : OpR X (compareOp .Gt) (fun x y => VSb X.K gGt [x, y]) := by
  intro pins s σ H x y v u Q I rx ry h
  obtain ⟨fp, G, ds, d, sub, r, e, q⟩ := h
  obtain ⟨d1, d2, rfl, r1, r2⟩ := two_of r
  cases r1 <;> cases r2 <;> simp only [gGt, reduceCtorEq] at e
  cases e
  exact op_gt pins s σ H _ _ v u Q I rx ry ⟨_, _, rfl, rfl, q⟩
theorem op_gGe : OpR X (compareOp .GtE) (fun x y => VSb X.K gGe [x, y]) := by
  intro pins s σ H x y v u Q I rx ry h
  obtain ⟨fp, G, ds, d, sub, r, e, q⟩ := h
  obtain ⟨d1, d2, rfl, r1, r2⟩ := two_of r
  cases r1 <;> cases r2 <;> simp only [gGe, reduceCtorEq] at e
  cases e
  exact op_ge pins s σ H _ _ v u Q I rx ry ⟨_, _, rfl, rfl, q⟩
theorem op_gIsN : OpR X (compareOp .Is) (fun x y => VSb X.K gIsN [x, y]) := by
  intro pins s σ H x y v u Q I rx ry h
  obtain ⟨fp, G, ds, d, sub, r, e, q⟩ := h
  obtain ⟨d1, d2, rfl, r1, r2⟩ := two_of r
  refine op_isN pins s σ H _ _ v u Q I rx ry ?_
  cases r2 <;> cases r1 <;> simp only [gIsN, reduceCtorEq] at e <;> (cases e; exact ⟨rfl, q⟩)
theorem op_gNotN : OpR X (compareOp .IsNot) (fun x y => VSb X.K gNotN [x, y]) := by
  intro pins s σ H x y v u Q I rx ry h
  obtain ⟨fp, G, ds, d, sub, r, e, q⟩ := h
  obtain ⟨d1, d2, rfl, r1, r2⟩ := two_of r
  refine op_notN pins s σ H _ _ v u Q I rx ry ?_
  cases r2 <;> cases r1 <;> simp only [gNotN, reduceCtorEq] at e <;> (cases e; exact ⟨rfl, q⟩)
theorem room_in {A : Around} {d : PyData} {n : Nat} (h : d.depth ≤ 60) (hu : A.units + 65 < cLine) : A.units + 1 + min n d.depth < cLine := by
  have h1 : min n d.depth ≤ d.depth := Nat.min_le_right _ _
  omega
theorem mem_py (d : Dv) : ∀ ds : List Dv, ((Dv.pyL ds).any fun y => PyData.eqv y d.py) = memD d ds
  | [] => rfl
  | x :: xs => by
    unfold memD
    rw [Dv.pyL, List.any_cons, List.any_cons, eqv_py]
    exact congrArg _ (mem_py d xs)
theorem valV_mem {k : Key} : ∀ kvs : List (Key × V), (valV kvs k).isSome = memD (kD k) ((kvs.map (·.1)).map kD)
  | [] => rfl
  | p :: r => by
    have e : (kD p.1).eqv (kD k) = decide (p.1 = k) := by
      rcases p with ⟨p1 | p1, p2⟩ <;> rcases k with k | k <;> simp [kD, Dv.eqv, Bool.beq_eq_decide_eq]
    unfold memD
    rw [List.map_cons, List.map_cons, List.any_cons, e]
    by_cases h : p.1 = k
    · rw [valV_pos h, decide_eq_true h]; rfl
    · rw [valV_neg h, decide_eq_false h, valV_mem r]; rfl
theorem sign_str {x : Str} {c : Nat} (h : x.cps.toList = [c]) : x = ⟨#[c]⟩ := by
  obtain ⟨a⟩ := x
  congr 1
  rw [← Array.toList_inj, h]
theorem op_gIn (hu : X.A.units + 65 < cLine) : OpR X (compareOp .In) (fun x y => VSb X.K gIn [x, y]) := by
  intro pins s σ H x y v u Q I rx ry h
  obtain ⟨fp, G, ds, d, sub, r, e, q⟩ := h
  obtain ⟨d1, d2, rfl, r1, r2⟩ := two_of r
  cases r2 with
  | @lst a xs es h1 h2 =>
    simp only [gIn] at e
    split at e
    · rename_i hb
      cases e
      rw [Bool.and_eq_true] at hb
      have c1 := dok_py _ _ hb.1
      have c2 := dok_py _ _ hb.2
      obtain ⟨as, q1⟩ := Dp.reads I d1.py x v (r1.dp sub c1.1) rx
      obtain ⟨bs, q2⟩ := Dp.reads I (Dv.lst es).py _ u ((Rp.lst (fp := fp) h1 h2).dp sub c2.1) ry
      simp only [Dv.py] at q2
      exact SeqAt.in_list_reads q2 q1 (by simpa [Dv.py, PyData.canLay0] using c2.1) c1.1 (room_in c1.2 hu) ⟨.bl _, H, I, by rw [mem_py]; rfl, q⟩
    · cases e
  | @tup a its xs es h1 h2 =>
    simp only [gIn] at e
    split at e
    · rename_i hb
      cases e
      rw [Bool.and_eq_true] at hb
      have c1 := dok_py _ _ hb.1
      have c2 := dok_py _ _ hb.2
      obtain ⟨as, q1⟩ := Dp.reads I d1.py x v (r1.dp sub c1.1) rx
      obtain ⟨bs, q2⟩ := Dp.reads I (Dv.tup es).py _ u ((Rp.tup (fp := fp) h1 h2).dp sub c2.1) ry
      simp only [Dv.py] at q2
      exact SeqAt.in_tuple_reads q2 q1 (by simpa [Dv.py, PyData.canLay0] using c2.1) c1.1 (room_in c1.2 hu) ⟨.bl _, H, I, by rw [mem_py]; rfl, q⟩
    · cases e
  | str y =>
    cases r1 <;> simp only [gIn, reduceCtorEq] at e
    rename_i z
    split at e
    · rename_i c hc
      cases e
      have hz := sign_str hc
      subst hz
      exact op_in_sign pins s σ H _ _ v u Q I rx ry ⟨c, y, rfl, rfl, q⟩
    · cases e
  | @dct a kvs vs h1 _ h2 =>
    cases r1 <;> simp only [gIn, reduceCtorEq] at e
    · rename_i i
      cases e
      obtain rfl : u = Value.ref a := ry
      refine d_in (y := .int i) (by omega) I (DGet.k (k := Sum.inl i) (sub _ _ h1)) rx fun s' I' => ⟨.bl _, H, I', rfl, ?_⟩
      rw [valV_mem]
      exact q
    · rename_i z
      cases e
      obtain rfl : u = Value.ref a := ry
      refine d_in (y := .str z) (by omega) I (DGet.k (k := Sum.inr z) (sub _ _ h1)) rx fun s' I' => ⟨.bl _, H, I', rfl, ?_⟩
      rw [valV_mem]
      exact q
  | @fdct a o kvs vs h1 _ h2 =>
    cases r1 <;> simp only [gIn, reduceCtorEq] at e
    · rename_i i
      cases e
      obtain rfl : u = Value.ref a := ry
      refine d_in (y := .int i) (by omega) I (.inl ⟨kvs, Sum.inl i, .inr ⟨_, sub _ _ h1⟩, rfl, rfl⟩) rx fun s' I' => ⟨.bl _, H, I', rfl, ?_⟩
      rw [valV_mem]
      exact q
    · rename_i z
      cases e
      obtain rfl : u = Value.ref a := ry
      refine d_in (y := .str z) (by omega) I (.inl ⟨kvs, Sum.inr z, .inr ⟨_, sub _ _ h1⟩, rfl, rfl⟩) rx fun s' I' => ⟨.bl _, H, I', rfl, ?_⟩
      rw [valV_mem]
      exact q
  | _ => cases r1 <;> simp only [gIn, reduceCtorEq] at e
theorem op_gNotIn (hu : X.A.units + 65 < cLine) : OpR X (compareOp .NotIn) (fun x y => VSb X.K gNotIn [x, y]) := by
  intro pins s σ H x y v u Q I rx ry h
  obtain ⟨fp, G, ds, d, sub, r, e, q⟩ := h
  obtain ⟨d1, d2, rfl, r1, r2⟩ := two_of r
  cases r2 with
  | @lst a xs es h1 h2 =>
    simp only [gNotIn, gIn] at e
    split at e
    · rename_i hb
      cases e
      rw [Bool.and_eq_true] at hb
      have c1 := dok_py _ _ hb.1
      have c2 := dok_py _ _ hb.2
      obtain ⟨as, q1⟩ := Dp.reads I d1.py x v (r1.dp sub c1.1) rx
      obtain ⟨bs, q2⟩ := Dp.reads I (Dv.lst es).py _ u ((Rp.lst (fp := fp) h1 h2).dp sub c2.1) ry
      simp only [Dv.py] at q2
      exact SeqAt.notIn_list_reads q2 q1 (by simpa [Dv.py, PyData.canLay0] using c2.1) c1.1 (room_in c1.2 hu) ⟨.bl _, H, I, by rw [mem_py]; rfl, q⟩
    · cases e
  | @tup a its xs es h1 h2 =>
    simp only [gNotIn, gIn] at e
    split at e
    · rename_i hb
      cases e
      rw [Bool.and_eq_true] at hb
      have c1 := dok_py _ _ hb.1
      have c2 := dok_py _ _ hb.2
      obtain ⟨as, q1⟩ := Dp.reads I d1.py x v (r1.dp sub c1.1) rx
      obtain ⟨bs, q2⟩ := Dp.reads I (Dv.tup es).py _ u ((Rp.tup (fp := fp) h1 h2).dp sub c2.1) ry
      simp only [Dv.py] at q2
      exact SeqAt.notIn_tuple_reads q2 q1 (by simpa [Dv.py, PyData.canLay0] using c2.1) c1.1 (room_in c1.2 hu) ⟨.bl _, H, I, by rw [mem_py]; rfl, q⟩
    · cases e
  | str y =>
    cases r1 <;> simp only [gNotIn, gIn, Option.map_none, reduceCtorEq] at e
    rename_i z
    split at e
    · rename_i c hc
      cases e
      have hz := sign_str hc
      subst hz
      exact op_notIn_sign pins s σ H _ _ v u Q I rx ry ⟨c, y, rfl, rfl, q⟩
    · cases e
  | @dct a kvs vs h1 _ h2 =>
    cases r1 <;> simp only [gNotIn, gIn, Option.map_none, reduceCtorEq] at e
    · rename_i i
      cases e
      obtain rfl : u = Value.ref a := ry
      refine d_notIn (y := .int i) (by omega) I (DGet.k (k := Sum.inl i) (sub _ _ h1)) rx fun s' I' => ⟨.bl _, H, I', rfl, ?_⟩
      rw [valV_mem]
      exact q
    · rename_i z
      cases e
      obtain rfl : u = Value.ref a := ry
      refine d_notIn (y := .str z) (by omega) I (DGet.k (k := Sum.inr z) (sub _ _ h1)) rx fun s' I' => ⟨.bl _, H, I', rfl, ?_⟩
      rw [valV_mem]
      exact q
  | @fdct a o kvs vs h1 _ h2 =>
    cases r1 <;> simp only [gNotIn, gIn, Option.map_none, reduceCtorEq] at e
    · rename_i i
      cases e
      obtain rfl : u = Value.ref a := ry
      refine d_notIn (y := .int i) (by omega) I (.inl ⟨kvs, Sum.inl i, .inr ⟨_, sub _ _ h1⟩, rfl, rfl⟩) rx fun s' I' => ⟨.bl _, H, I', rfl, ?_⟩
      rw [valV_mem]
      exact q
    · rename_i z
      cases e
      obtain rfl : u = Value.ref a := ry
      refine d_notIn (y := .str z) (by omega) I (.inl ⟨kvs, Sum.inr z, .inr ⟨_, sub _ _ h1⟩, rfl, rfl⟩) rx fun s' I' => ⟨.bl _, H, I', rfl, ?_⟩
      rw [valV_mem]
      exact q
  | _ => cases r1 <;> simp only [gNotIn, gIn, Option.map_none, reduceCtorEq] at e
end
end Mv
end
section
set_option Elab.async false
set_option linter.all false
set_option maxRecDepth 100000
namespace Mv
open PySem PySem.Spec PyProof.Rows L2

/-! ### operations that read the store -/
def xPs (g : List Dv → Sto → Option Dv) (a : XL) : XD := fun ρ τ => (a ρ τ).bind fun ds τ1 => lift (g ds τ1) τ1
/-- told of values by a function of data and the store -/
def VSr (K : PySem.W.Frag) (mg : Str → Option Value) (g : List Dv → Sto → Option Dv) : List V → Hp → VK → Prop := fun vs H Q =>
  ∃ fp G τ ds d, Same G H ∧ StoR K mg fp G τ H ∧ RpL K fp G vs ds ∧ g ds τ = some d ∧ ∀ v G' H', Grow G H G' H' → Rp K fp G' v d → Q v H'
theorem AfterP.plainR {K : PySem.W.Frag} {mg : Str → Option Value} {T : List (Addr × Str)} {E : XK} {fp : List Addr} {G H : Hp} {τ : Sto} {vs : List V} {ds : List Dv} {g : List Dv → Sto → Option Dv} {Q : VK} (b : Base K mg T fp G τ H) (r : RpL K fp G vs ds)
    (h : AfterP K mg T (fun fp G d v => Rp K fp G v d) E fp G H (lift (g ds τ) τ) Q) : VSr K mg g vs H Q := by
  cases e : g ds τ with
  | none => rw [e] at h; exact False.elim h
  | some d =>
    rw [e] at h
    exact ⟨fp, G, τ, ds, d, b.sub, b.sto, r, e, fun v G' H' gr rv => h v fp G' H' gr.gro (b.grow gr) rv⟩

/-- the value at a key -/
def lookK (k : Dv) : List Dv → List Dv → Option Dv
  | a :: as, b :: bs => if a.eqv k then some b else lookK k as bs
  | _, _ => none
def isKey : Dv → Bool
  | .int _ => true
  | .str _ => true
  | _ => false
def gIx : List Dv → Sto → Option Dv
  | [.lst xs, .int i], _ => atI xs i
  | [.tup xs, .int i], _ => atI xs i
  | [.scr ns, .int i], _ => (atI ns i).map .int
  | [.str x, .int i], _ => if big x.length then (atI x.cps.toList i).map fun c => .str ⟨#[c]⟩ else none
  | [.dct ks vs, k], _ => if isKey k then lookK k ks vs else none
  | [.fdct ks vs, k], _ => if isKey k then lookK k ks vs else none
  | [.tok n, k], τ => match τ[n]? with
    | some (.dct ks vs) => if isKey k then lookK k ks vs else none
    | some (.lst xs) => match k with
      | .int i => atI xs i
      | _ => none
    | _ => none
  | _, _ => none

section
variable {X : Cx}
theorem atI_rp {K : PySem.W.Frag} {fp : List Addr} {G : Hp} {xs : List V} {ds : List Dv} {i : Int} {d : Dv} (r : RpL K fp G xs ds) (h : atI ds i = some d) : ∃ v, atI xs i = some v ∧ Rp K fp G v d := by
  unfold atI at h ⊢
  rw [r.length]
  cases e : ixN ds.length i with
  | none => rw [e] at h; cases h
  | some j => rw [e] at h; exact r.get h
theorem kD_eqv (k j : Key) : (kD j).eqv (kD k) = decide (j = k) := by
  rcases j with j | j <;> rcases k with k | k <;> simp [kD, Dv.eqv, Bool.beq_eq_decide_eq]
theorem lookK_val {K : PySem.W.Frag} {fp : List Addr} {G : Hp} {k : Key} : ∀ {kvs : List (Key × V)} {ds : List Dv} {d : Dv}, RpL K fp G (kvs.map (·.2)) ds → lookK (kD k) ((kvs.map (·.1)).map kD) ds = some d → ∃ v, valV kvs k = some v ∧ Rp K fp G v d
  | [], ds, d, r, h => by cases r; cases h
  | p :: kvs, ds, d, r, h => by
    rw [List.map_cons] at r
    cases r with
    | @cons v vs c ds r1 r2 =>
      rw [List.map_cons, List.map_cons, lookK, kD_eqv] at h
      by_cases e : p.1 = k
      · rw [decide_eq_true e, if_pos rfl] at h
        cases h
        exact ⟨_, valV_pos e, r1⟩
      · rw [decide_eq_false e, if_neg Bool.false_ne_true] at h
        obtain ⟨v, h1, h2⟩ := lookK_val r2 h
        exact ⟨v, by rw [valV_neg e]; exact h1, h2⟩
theorem lookK_none {K : PySem.W.Frag} {fp : List Addr} {G : Hp} {k : Key} : ∀ {kvs : List (Key × V)} {ds : List Dv}, RpL K fp G (kvs.map (·.2)) ds → lookK (kD k) ((kvs.map (·.1)).map kD) ds = none → valV kvs k = none
  | [], ds, r, h => rfl
  | p :: kvs, ds, r, h => by
    rw [List.map_cons] at r
    cases r with
    | @cons v vs c ds r1 r2 =>
      rw [List.map_cons, List.map_cons, lookK, kD_eqv] at h
      by_cases e : p.1 = k
      · rw [decide_eq_true e, if_pos rfl] at h
        cases h
      · rw [decide_eq_false e, if_neg Bool.false_ne_true] at h
        rw [valV_neg e]
        exact lookK_none r2 h
theorem isKey_of {K : PySem.W.Frag} {fp : List Addr} {G : Hp} {v : V} {d : Dv} (r : Rp K fp G v d) (h : isKey d = true) : ∃ k : Key, d = kD k ∧ v = kV k := by
  cases r <;> first | (cases h; done) | exact ⟨.inl _, rfl, rfl⟩ | exact ⟨.inr _, rfl, rfl⟩
theorem ix_dct (hu : X.A.units + 1 < cLine) : IxR X (fun x y H Q => ∃ a v, x = .ref a ∧ DGet H a y (some v) ∧ Q v H) := by
  intro value slice pins s σ H x y v u Q I rx ry h hs
  obtain ⟨a, z, rfl, g, q⟩ := h
  obtain rfl : v = Value.ref a := rx
  exact tail_any (dict_typeIs I g) PySem.F.slot_dict_getitem.lookup (d_getItem hu I g ry fun w' s3 I3 rw' => ⟨z, H, I3, rw', q⟩) hs
theorem ix_gIx (hu : X.A.units + 1 < cLine) : IxR X (fun x y => VSr X.K X.mg gIx [x, y]) := by
  intro value slice pins s σ H x y v u Q I rx ry h hs
  obtain ⟨fp, G, τ, ds, d, sub, st, r, e, q⟩ := h
  obtain ⟨d1, d2, rfl, r1, r2⟩ := two_of r
  have fin : ∀ v, Rp X.K fp G v d → Q v H := fun v r => q v G H (Grow.refl sub) r
  cases r1 with
  | @lst a xs es h1 h2 =>
    cases r2 <;> simp only [gIx, reduceCtorEq] at e
    obtain ⟨w, h3, h4⟩ := atI_rp h2 e
    exact ix_list value slice pins s σ H _ _ v u Q I rx ry ⟨a, xs, _, w, rfl, rfl, .inl (.inl (sub _ _ h1)), h3, fin w h4⟩ hs
  | @tup a its xs es h1 h2 =>
    cases r2 <;> simp only [gIx, reduceCtorEq] at e
    obtain ⟨w, h3, h4⟩ := atI_rp h2 e
    exact ix_tup value slice pins s σ H _ _ v u Q I rx ry ⟨a, xs, _, w, rfl, rfl, rd_tup (sub _ _ h1), h3, fin w h4⟩ hs
  | @scr a ns h1 =>
    cases r2 <;> simp only [gIx, reduceCtorEq] at e
    rename_i i
    cases e1 : atI ns i with
    | none => rw [e1] at e; cases e
    | some z =>
      rw [e1] at e
      cases e
      refine ix_list value slice pins s σ H _ _ v u Q I rx ry ⟨a, _, _, .int z, rfl, rfl, sub.seq h1, ?_, fin _ (.int z)⟩ hs
      unfold atI at e1 ⊢
      rw [List.length_map]
      cases e2 : ixN ns.length i with
      | none => rw [e2] at e1; cases e1
      | some j =>
        rw [e2] at e1
        show (ns.map V.int)[j]? = _
        rw [List.getElem?_map, show ns[j]? = some z from e1]; rfl
  | str z =>
    cases r2 <;> simp only [gIx, reduceCtorEq] at e
    rename_i i
    split at e
    · rename_i hb
      cases e1 : atI z.cps.toList i with
      | none => rw [e1] at e; cases e
      | some c =>
        rw [e1] at e
        cases e
        exact ix_str value slice pins s σ H _ _ v u Q I rx ry ⟨z, i, c, rfl, rfl, big_le hb, e1, fin _ (.str _)⟩ hs
    · cases e
  | @dct a kvs vs h1 _ h2 =>
    simp only [gIx] at e
    split at e
    · rename_i hb
      obtain ⟨k, rfl, rfl⟩ := isKey_of r2 hb
      obtain ⟨w, h3, h4⟩ := lookK_val h2 e
      exact ix_dct hu value slice pins s σ H _ _ v u Q I rx ry ⟨a, w, rfl, by rw [← h3]; exact DGet.k (sub _ _ h1), fin w h4⟩ hs
    · cases e
  | @fdct a o kvs vs h1 _ h2 =>
    simp only [gIx] at e
    split at e
    · rename_i hb
      obtain ⟨k, rfl, rfl⟩ := isKey_of r2 hb
      obtain ⟨w, h3, h4⟩ := lookK_val h2 e
      exact ix_dct hu value slice pins s σ H _ _ v u Q I rx ry ⟨a, w, rfl, by rw [← h3]; exact .inl ⟨kvs, _, .inr ⟨_, sub _ _ h1⟩, rfl, rfl⟩, fin w h4⟩ hs
    · cases e
  | @tok a n h1 =>
    simp only [gIx] at e
    split at e
    · rename_i ks vs hn
      split at e
      · rename_i hb
        obtain ⟨k, rfl, rfl⟩ := isKey_of r2 hb
        obtain ⟨kvs, h5, _, rfl, h6⟩ := st.at_ n _ a hn h1
        obtain ⟨w, h3, h4⟩ := lookK_val h6 e
        exact ix_dct hu value slice pins s σ H _ _ v u Q I rx ry ⟨a, w, rfl, by rw [← h3]; exact DGet.k h5, fin w h4⟩ hs
      · cases e
    · rename_i xs hn
      cases r2 <;> simp only [reduceCtorEq] at e
      obtain ⟨vs, h5, h6⟩ := st.at_ n _ a hn h1
      obtain ⟨w, h3, h4⟩ := atI_rp h6 e
      exact ix_list value slice pins s σ H _ _ v u Q I rx ry ⟨a, vs, _, w, rfl, rfl, .inl (.inl h5), h3, fin w h4⟩ hs
    · cases e
  | _ => cases r2 <;> simp only [gIx, reduceCtorEq] at e
variable {T : List (Addr × Str)} {E : L2.St → XK}
/-- a[b] -/
theorem pd_ix {a c : Expr} {pos : Pos} {fa fc : XD} (hu : X.A.units + 1 < cLine) (ha : PD X T E a fa) (hc : PD X T E c fc) (hs : PlainIx c := by exact fun _ _ => rfl) : PD X T E (.Subscript a c pos) (xPs gIx (aC fa (aC fc aN))) := by
  refine PE_imp (pe_ix (ix_gIx hu) ha hc hs) fun σ H Q h => ?_
  obtain ⟨fp, G, ρ, τ, b, e, h⟩ := h
  exact arg2 b e h fun v u fp1 G1 H1 τ1 d c b1 e1 r1 h1 => h1.plainR b1 r1

/-! ### slices -/
abbrev XO := EnvD → Sto → Res (Option Int)
def oN : XO := fun _ τ => .ok none τ
def toI : Dv → Option Int
  | .int i => some i
  | _ => none
def oS (f : XD) : XO := fun ρ τ => (f ρ τ).bind fun d τ1 => (lift (toI d) τ1).bind fun i τ2 => .ok (some i) τ2
def cutL {α : Type} (xs : List α) (lo hi : Option Int) : List α := (xs.drop (HT.sIx xs.length 0 lo)).take (HT.sIx xs.length xs.length hi - HT.sIx xs.length 0 lo)
def gSl (d : Dv) (lo hi : Option Int) : Option Dv := match d with
  | .lst xs => some (.lst (cutL xs lo hi))
  | .tup xs => some (.tup (cutL xs lo hi))
  | .str x => if big x.length then some (.str (cutS x lo hi)) else none
  | _ => none
def xSl (f : XD) (lo hi : XO) : XD := fun ρ τ => (f ρ τ).bind fun d τ1 => (lo ρ τ1).bind fun l τ2 => (hi ρ τ2).bind fun h τ3 => lift (gSl d l h) τ3
def tOD (K : PySem.W.Frag) (mg : Str → Option Value) (T : List (Addr × Str)) (E : L2.St → XK) (f : XO) : TO := fun σ H Q => ∃ fp G ρ τ, Base K mg T fp G τ H ∧ EnvR K fp G ρ σ ∧ AfterP K mg T (fun _ _ d v => v = d) (E σ) fp G H (f ρ τ) Q
abbrev POD (X : Cx) (T : List (Addr × Str)) (E : L2.St → XK) (e : Option Expr) (f : XO) : Prop := L2.PO X e (tOD X.K X.mg T E f)
theorem PO_imp {e : Option Expr} {t t' : TO} (h : L2.PO X e t) (w : ∀ σ H Q, t' σ H Q → t σ H Q) : L2.PO X e t' := ⟨fun pins s σ H Q I q => h.run pins s σ H Q I (w σ H Q q)⟩
theorem od_none : POD X T E none oN := by
  refine PO_imp po_none fun σ H Q h => ?_
  obtain ⟨fp, G, ρ, τ, b, e, h⟩ := h
  exact h none fp G H (Gro.refl _ _ _) b rfl
theorem od_some {e : Expr} {f : XD} (h : PD X T E e f) : POD X T E (some e) (oS f) := by
  refine PO_imp (po_some h) fun σ H Q h => ?_
  obtain ⟨fp, G, ρ, τ, b, e, h⟩ := h
  refine tD_step b e h fun v fp1 G1 H1 τ1 d b1 e1 g1 r1 h1 => ?_
  cases r1 <;> simp only [toI, lift, Res.bind] at h1
  all_goals first | exact ⟨_, rfl, h1 _ fp1 G1 H1 (Gro.refl _ _ _) b1 rfl⟩ | exact False.elim h1
theorem tOD_step {γ δ : Type} {K : PySem.W.Frag} {mg : Str → Option Value} {R2 : List Addr → Hp → γ → δ → Prop} {fp : List Addr} {G H : Hp} {ρ : EnvD} {τ : Sto} {σ : L2.St} {f : XO} {k : Option Int → Sto → Res γ} {Q : δ → Hp → Prop} {Z : Option Int → Hp → Prop}
    (b : Base K mg T fp G τ H) (e : EnvR K fp G ρ σ) (h : AfterP K mg T R2 (E σ) fp G H ((f ρ τ).bind k) Q)
    (w : ∀ v fp1 G1 H1 τ1, Base K mg T fp1 G1 τ1 H1 → EnvR K fp1 G1 ρ σ → Gro fp G H fp1 G1 H1 → AfterP K mg T R2 (E σ) fp1 G1 H1 (k v τ1) Q → Z v H1) :
    tOD K mg T E f σ H Z :=
  ⟨fp, G, ρ, τ, b, e, h.bind.bindE (fun v H1 ⟨fp1, G1, τ1, d, g, b1, r, q⟩ => w v fp1 G1 H1 τ1 b1 (e.mono g.same g.pre) g (by rw [r]; exact q)) (γ := γ)⟩
theorem cutV_rp {K : PySem.W.Frag} {fp : List Addr} {G : Hp} {xs : List V} {ds : List Dv} (r : RpL K fp G xs ds) (lo hi : Option Int) : RpL K fp G (cutV xs lo hi) (cutL ds lo hi) := by
  unfold cutV cutL
  rw [r.length]
  exact RpL.take _ (RpL.drop _ r)
theorem sl_gSl : SlR X (fun x lo hi H Q => ∃ fp G d0 d, Same G H ∧ Rp X.K fp G x d0 ∧ gSl d0 lo hi = some d ∧ ∀ v G' H', Grow G H G' H' → Rp X.K fp G' v d → Q v H') := by
  intro pins s σ H x v vl vu lo hi sl Q I rx hs pl pu h
  obtain ⟨fp, G, d0, d, sub, r, e, q⟩ := h
  cases r <;> simp only [gSl, reduceCtorEq] at e
  · rename_i x
    split at e
    · rename_i hb
      cases e
      exact sl_str pins s σ H _ v vl vu lo hi sl Q I rx hs pl pu ⟨x, rfl, big_le hb, q _ _ _ (Grow.refl sub) (.str _)⟩
    · cases e
  · rename_i a xs es h1 h2
    cases e
    refine sl_list pins s σ H _ v vl vu lo hi sl Q I rx hs pl pu ⟨a, xs, rfl, .inl (.inl (sub _ _ h1)), fun p hp => ?_⟩
    obtain ⟨g, r⟩ := new_lst sub hp (cutV_rp h2 lo hi)
    exact q _ _ _ g r
  · rename_i a its xs es h1 h2
    cases e
    refine sz_tup pins s σ H _ v vl vu lo hi sl Q I rx hs pl pu ⟨a, its, xs, rfl, sub _ _ h1, fun hw => ?_, fun p us hp => ?_⟩
    · have := cutV_rp h2 lo hi
      rw [hw] at this
      exact q _ _ _ (Grow.refl sub) (.tup h1 this)
    · obtain ⟨g, r⟩ := new_tup sub hp us (cutV_rp h2 lo hi)
      exact q _ _ _ g r
theorem pd_slice {e : Expr} {lo hi : Option Expr} {p2 pos : Pos} {f : XD} {fl fh : XO} (he : PD X T E e f) (hl : POD X T E lo fl) (hh : POD X T E hi fh) : PD X T E (.Subscript e (.Slice lo hi none p2) pos) (xSl f fl fh) := by
  refine PE_imp (pe_slice sl_gSl he hl hh) fun σ H Q h => ?_
  obtain ⟨fp, G, ρ, τ, b, e, h⟩ := h
  refine tD_step b e h fun v fp1 G1 H1 τ1 d b1 e1 g1 r1 h1 => ?_
  refine tOD_step b1 e1 h1 fun l fp2 G2 H2 τ2 b2 e2 g2 h2 => ?_
  refine tOD_step b2 e2 h2 fun u fp3 G3 H3 τ3 b3 e3 g3 h3 => ?_
  cases q : gSl d l u with
  | none => rw [q] at h3; exact False.elim h3
  | some z =>
    rw [q] at h3
    exact ⟨fp3, G3, d, z, b3.sub, (r1.mono g2.same g2.pre).mono g3.same g3.pre, q, fun v G' H' gr rv => h3 v fp3 G' H' gr.gro (b3.grow gr) rv⟩
end
end Mv
end
section
set_option Elab.async false
set_option linter.all false
set_option maxRecDepth 100000
namespace Mv
open PySem PySem.Spec PyProof.Rows L2

/-! ### displays -/
def xTup (a : XL) : XD := fun ρ τ => (a ρ τ).bind fun ds τ1 => if big ds.length = true then .ok (.tup ds) τ1 else .bad
def xLst (a : XL) : XD := fun ρ τ => (a ρ τ).bind fun ds τ1 => if big ds.length = true then .ok (.lst ds) τ1 else .bad
section
variable {X : Cx} {T : List (Addr × Str)} {E : L2.St → XK}
theorem pd_tup {es : List Expr} {k} {pos : Pos} {a : XL} (h : PL X T E es a) : PD X T E (.Tuple es k pos) (xTup a) := by
  refine PE_imp (pz_tup h) fun σ H Q w => ?_
  obtain ⟨fp, G, ρ, τ, b, e, w⟩ := w
  refine tA_step b e w fun v fp1 G1 H1 τ1 ds b1 e1 g1 r1 h1 => ?_
  by_cases hb : big ds.length = true
  · rw [if_pos hb] at h1
    refine ⟨r1.length ▸ big_le hb, fun p its hp => ?_⟩
    obtain ⟨g, r⟩ := new_tup b1.sub hp its r1
    exact h1 _ fp1 _ _ g.gro (b1.grow g) r
  · rw [if_neg hb] at h1
    exact h1.elim
theorem po_lst {es : List Expr} {pos : Pos} {a : XL} (h : PL X T E es a) : PO X T E (.List es pos) (xLst a) := by
  refine PE_imp (pe_lst h) fun σ H Q w => ?_
  obtain ⟨fp, G, ρ, τ, b, e, w⟩ := w
  refine tA_stepO b e w fun v fp1 G1 H1 τ1 ds b1 e1 g1 r1 h1 => ?_
  by_cases hb : big ds.length = true
  · rw [if_pos hb] at h1
    refine ⟨r1.length ▸ big_le hb, fun p hp => ?_⟩
    obtain ⟨g, n, r⟩ := new_own b1.sub hp r1
    exact h1 p fp1 G1 _ g.gro (b1.grow g) hp (fun z => b1.sto.there z hp) n r
  · rw [if_neg hb] at h1
    exact h1.elim
/-- a new object may be held by others -/
theorem OwR.share {K : PySem.W.Frag} {mg : Str → Option Value} {fp0 fp : List Addr} {G0 H0 G H : Hp} {τ : Sto} {p : Addr} {d : Dv} (b : Base K mg T fp G τ H) (g : Gro fp0 G0 H0 fp G H) (n0 : H0 p = none) (nf : p ∉ fp) (n : G p = none) (o : OwR K fp G H p d) :
    ∃ G', Gro fp0 G0 H0 fp G' H ∧ Base K mg T fp G' τ H ∧ Rp K fp G' (.ref p) d ∧ Same G G' := by
  have go : ∀ u, H p = some u → (∀ ps, u ≠ .tbl ps) → Gro fp0 G0 H0 fp (L2.upd G p u) H ∧ Base K mg T fp (L2.upd G p u) τ H ∧ Same G (L2.upd G p u) := fun u hu nt => by
    have s1 : Same G (L2.upd G p u) := fun c o e => by rw [upd_ne (ne_of_none e n)]; exact e
    have no : ∀ c, c ≠ p → L2.upd G p u c = G c := fun c e => upd_ne e
    refine ⟨⟨g.pre, g.same.trans s1, g.keep, g.ex, fun c h1 h2 => ?_, g.nfp⟩, ⟨fun c o e => ?_, fun c ps => ?_, ⟨b.sto.len, b.sto.nd, fun c hc => ?_, fun m o a h1 h2 => (b.sto.at_ m o a h1 h2).mono s1 (List.prefix_refl _) (fun _ _ _ z => z), b.sto.im⟩, b.tab⟩, s1⟩
    · rw [no c (fun z => h1 (by rw [z]; exact n0))]
      exact g.new c h1 h2
    · by_cases z : c = p
      · subst z; rw [upd_same] at e; rw [hu]; exact e
      · rw [no c z] at e; exact b.sub c o e
    · by_cases z : c = p
      · subst z; rw [upd_same]; exact fun w => nt ps (Option.some.inj w)
      · rw [no c z]; exact b.nt c ps
    · rw [no c (fun z => nf (z ▸ hc))]
      exact b.sto.out c hc
  cases d with
  | lst ds =>
    obtain ⟨vs, e, r⟩ := o
    obtain ⟨q1, q2, q3⟩ := go _ e (fun _ z => nomatch z)
    exact ⟨_, q1, q2, .lst upd_same (r.mono q3 (List.prefix_refl _)), q3⟩
  | dct ks vs =>
    obtain ⟨kvs, e, nd, rfl, r⟩ := o
    obtain ⟨q1, q2, q3⟩ := go _ e (fun _ z => nomatch z)
    exact ⟨_, q1, q2, .dct upd_same nd (r.mono q3 (List.prefix_refl _)), q3⟩
  | _ => exact False.elim o
theorem pd_po {e : Expr} {f : XD} (h : PO X T E e f) : PD X T E e f := by
  refine PE_imp h fun σ H Q w => ?_
  obtain ⟨fp, G, ρ, τ, b, e, w⟩ := w
  refine ⟨fp, G, ρ, τ, b, e, ?_⟩
  cases q : f ρ τ with
  | ok d τ1 =>
    rw [q] at w
    intro p fp1 G1 H1 g b1 n0 nf n o
    obtain ⟨G2, q1, q2, q3, _⟩ := o.share b1 g n0 nf n
    exact w _ fp1 G2 H1 q1 q2 q3
  | err er τ1 => rw [q] at w; exact w
  | bad => rw [q] at w; exact w
end

/-! ### built-in functions on data -/
def toB : Dv → Option Bool
  | .bl b => some b
  | _ => none
def boolsD : List Dv → Option (List Bool)
  | [] => some []
  | .bl b :: ds => (boolsD ds).map (b :: ·)
  | _ => none
def intsD : List Dv → Option (List Int)
  | [] => some []
  | .int i :: ds => (intsD ds).map (i :: ·)
  | _ => none
def gLen : List Dv → Option Dv
  | [.lst xs] => some (.int xs.length)
  | [.tup xs] => some (.int xs.length)
  | [.scr ns] => some (.int ns.length)
  | [.str x] => if big x.length then some (.int x.length) else none
  | [.dct ks _] => some (.int ks.length)
  | _ => none
def gTuple : List Dv → Option Dv
  | [.lst xs] => some (.tup xs)
  | [.tup xs] => some (.tup xs)
  | _ => none
def gList : List Dv → Option Dv
  | [.lst xs] => some (.lst xs)
  | [.tup xs] => some (.lst xs)
  | _ => none
def gAll : List Dv → Option Dv
  | [.lst xs] => (boolsD xs).map fun bs => .bl (bs.all id)
  | _ => none
def gAny : List Dv → Option Dv
  | [.lst xs] => (boolsD xs).map fun bs => .bl (bs.any id)
  | _ => none
def gSum : List Dv → Option Dv
  | [.lst xs] => (intsD xs).map fun is => .int is.sum
  | _ => none
def gMax2 : List Dv → Option Dv
  | [.int i, .int j] => some (.int (if j > i then j else i))
  | _ => none
def gMin2 : List Dv → Option Dv
  | [.int i, .int j] => some (.int (if j < i then j else i))
  | _ => none
def gIntB : List Dv → Option Dv
  | [.bl b] => some (.int (if b then 1 else 0))
  | [.int i] => some (.int i)
  | _ => none
section
variable {X : Cx}
theorem rpl_bools {K : PySem.W.Frag} {fp : List Addr} {G : Hp} : ∀ {ds : List Dv} {xs : List V} {bs : List Bool}, RpL K fp G xs ds → boolsD ds = some bs → xs = bs.map V.bl
  | [], _, _, r, e => by cases r; cases e; rfl
  | d :: ds, _, bs, r, e => by
    cases r with
    | cons r1 r2 =>
      cases r1 <;> simp only [boolsD, reduceCtorEq] at e
      rename_i b
      cases e1 : boolsD ds with
      | none => rw [e1] at e; cases e
      | some cs => rw [e1] at e; cases e; rw [List.map_cons, rpl_bools r2 e1]
theorem rpl_ints {K : PySem.W.Frag} {fp : List Addr} {G : Hp} : ∀ {ds : List Dv} {xs : List V} {bs : List Int}, RpL K fp G xs ds → intsD ds = some bs → xs = bs.map V.int
  | [], _, _, r, e => by cases r; cases e; rfl
  | d :: ds, _, bs, r, e => by
    cases r with
    | cons r1 r2 =>
      cases r1 <;> simp only [intsD, reduceCtorEq] at e
      rename_i b
      cases e1 : intsD ds with
      | none => rw [e1] at e; cases e
      | some cs => rw [e1] at e; cases e; rw [List.map_cons, rpl_ints r2 e1]
theorem cr_gLen : CallR X (.builtin "len") (VSp X.K gLen) := by
  intro pins s σ H xs us Q I rs h
  obtain ⟨fp, G, ds, d, sub, r, e, q⟩ := h
  have fin : ∀ i : Nat, d = .int i → Q (.int i) H := fun i e => by subst e; exact q _ _ _ (Grow.refl sub) (.int _)
  cases r with
  | nil => simp only [gLen, reduceCtorEq] at e
  | cons r1 r2 =>
    cases r2 with
    | cons _ _ => cases r1 <;> simp only [gLen, reduceCtorEq] at e
    | nil =>
      cases r1 <;> simp only [gLen, reduceCtorEq] at e
      · rename_i x
        split at e
        · rename_i hb
          cases e
          exact call_len_str pins s σ H _ us Q I rs ⟨x, rfl, big_le hb, fin _ rfl⟩
        · cases e
      · rename_i a xs ds1 h1 h2
        cases e
        exact call_len_seq pins s σ H _ us Q I rs ⟨a, xs, rfl, .inl (.inl (.inl (sub _ _ h1))), by rw [h2.length]; exact fin _ rfl⟩
      · rename_i a its xs ds1 h1 h2
        cases e
        exact call_len_seq pins s σ H _ us Q I rs ⟨a, xs, rfl, .inr (rd_tup (sub _ _ h1)), by rw [h2.length]; exact fin _ rfl⟩
      · rename_i a kvs vs h1 _ h2
        cases e
        refine call_lenD pins s σ H _ us Q I rs ⟨a, kvs, rfl, sub _ _ h1, ?_⟩
        have := fin _ rfl
        rwa [List.length_map, List.length_map] at this
      · rename_i a ns h1
        cases e
        exact call_len_seq pins s σ H _ us Q I rs ⟨a, _, rfl, .inl (sub.seq h1), by rw [List.length_map]; exact fin _ rfl⟩
theorem cr_gTuple : CallR X (.type "tuple") (VSp X.K gTuple) := by
  intro pins s σ H xs us Q I rs h
  obtain ⟨fp, G, ds, d, sub, r, e, q⟩ := h
  cases r with
  | nil => simp only [gTuple, reduceCtorEq] at e
  | cons r1 r2 =>
    cases r2 with
    | cons _ _ => cases r1 <;> simp only [gTuple, reduceCtorEq] at e
    | nil =>
      cases r1 <;> simp only [gTuple, reduceCtorEq] at e
      · rename_i a xs ds1 h1 h2
        cases e
        refine cz_tuple pins s σ H _ us Q I rs ⟨a, rfl, .inl ⟨xs, sub _ _ h1, fun p its hp => ?_⟩⟩
        obtain ⟨g, r⟩ := new_tup sub hp its h2
        exact q _ _ _ g r
      · rename_i a its xs ds1 h1 h2
        cases e
        exact cz_tuple pins s σ H _ us Q I rs ⟨a, rfl, .inr ⟨its, xs, sub _ _ h1, q _ _ _ (Grow.refl sub) (.tup h1 h2)⟩⟩
theorem cr_gList : CallR X (.type "list") (VSo X.K gList) := by
  intro pins s σ H xs us Q I rs h
  obtain ⟨fp, G, ds, d, sub, r, e, q⟩ := h
  cases r with
  | nil => simp only [gList, reduceCtorEq] at e
  | cons r1 r2 =>
    cases r2 with
    | cons _ _ => cases r1 <;> simp only [gList, reduceCtorEq] at e
    | nil =>
      cases r1 <;> simp only [gList, reduceCtorEq] at e
      · rename_i a xs ds1 h1 h2
        cases e
        refine call_list_of pins s σ H _ us Q I rs ⟨a, xs, rfl, .inl (.inl (.inl (sub _ _ h1))), fun p hp => ?_⟩
        obtain ⟨g, n, r⟩ := new_own sub hp h2
        exact q p _ _ g hp n r
      · rename_i a its xs ds1 h1 h2
        cases e
        refine call_list_of pins s σ H _ us Q I rs ⟨a, xs, rfl, .inr (rd_tup (sub _ _ h1)), fun p hp => ?_⟩
        obtain ⟨g, n, r⟩ := new_own sub hp h2
        exact q p _ _ g hp n r
theorem lst1 {K : PySem.W.Frag} {fp : List Addr} {G H : Hp} (sub : Same G H) {xs : List V} {es : List Dv} (r : RpL K fp G xs [.lst es]) : ∃ a ys, xs = [.ref a] ∧ SqL K H a ys ∧ RpL K fp G ys es := by
  cases r with
  | cons r1 r2 =>
    cases r2
    cases r1 with
    | lst h1 h2 => exact ⟨_, _, rfl, .inl (.inl (sub _ _ h1)), h2⟩
theorem cr_gAll (hc : X.calm = true) : CallR X (.builtin "all") (VSp X.K gAll) := by
  intro pins s σ H xs us Q I rs h
  obtain ⟨fp, G, ds, d, sub, r, e, q⟩ := h
  unfold gAll at e
  split at e
  · rename_i es
    obtain ⟨a, ys, rfl, h1, h2⟩ := lst1 sub r
    cases e1 : boolsD es with
    | none => rw [e1] at e; cases e
    | some bs =>
      rw [e1] at e
      cases e
      have hy := rpl_bools h2 e1
      subst hy
      exact cr_all hc pins s σ H _ us Q I rs ⟨a, bs, rfl, h1, q _ _ _ (Grow.refl sub) (.bl _)⟩
  · cases e
theorem cr_gAny (hc : X.calm = true) : CallR X (.builtin "any") (VSp X.K gAny) := by
  intro pins s σ H xs us Q I rs h
  obtain ⟨fp, G, ds, d, sub, r, e, q⟩ := h
  unfold gAny at e
  split at e
  · rename_i es
    obtain ⟨a, ys, rfl, h1, h2⟩ := lst1 sub r
    cases e1 : boolsD es with
    | none => rw [e1] at e; cases e
    | some bs =>
      rw [e1] at e
      cases e
      have hy := rpl_bools h2 e1
      subst hy
      exact cr_any hc pins s σ H _ us Q I rs ⟨a, bs, rfl, h1, q _ _ _ (Grow.refl sub) (.bl _)⟩
  · cases e
theorem cr_gSum (hc : X.calm = true) : CallR X (.builtin "sum") (VSp X.K gSum) := by
  intro pins s σ H xs us Q I rs h
  obtain ⟨fp, G, ds, d, sub, r, e, q⟩ := h
  unfold gSum at e
  split at e
  · rename_i es
    obtain ⟨a, ys, rfl, h1, h2⟩ := lst1 sub r
    cases e1 : intsD es with
    | none => rw [e1] at e; cases e
    | some bs =>
      rw [e1] at e
      cases e
      have hy := rpl_ints h2 e1
      subst hy
      exact cr_sum hc pins s σ H _ us Q I rs ⟨a, bs, rfl, h1, q _ _ _ (Grow.refl sub) (.int _)⟩
  · cases e
theorem cr_gMax2 (hc : X.calm = true) : CallR X (.builtin "max") (VSp X.K gMax2) := by
  intro pins s σ H xs us Q I rs h
  obtain ⟨fp, G, ds, d, sub, r, e, q⟩ := h
  unfold gMax2 at e
  split at e
  · rename_i i j
    cases e
    cases r with
    | cons r1 r => cases r with | cons r2 r => cases r; cases r1; cases r2; exact call_max2 hc pins s σ H _ us Q I rs ⟨i, j, rfl, q _ _ _ (Grow.refl sub) (.int _)⟩
  · cases e
theorem cr_gMin2 (hc : X.calm = true) : CallR X (.builtin "min") (VSp X.K gMin2) := by
  intro pins s σ H xs us Q I rs h
  obtain ⟨fp, G, ds, d, sub, r, e, q⟩ := h
  unfold gMin2 at e
  split at e
  · rename_i i j
    cases e
    cases r with
    | cons r1 r => cases r with | cons r2 r => cases r; cases r1; cases r2; exact call_min2 hc pins s σ H _ us Q I rs ⟨i, j, rfl, q _ _ _ (Grow.refl sub) (.int _)⟩
  · cases e
theorem cr_gIntB : CallR X (.type "int") (VSp X.K gIntB) := by
  intro pins s σ H xs us Q I rs h
  obtain ⟨fp, G, ds, d, sub, r, e, q⟩ := h
  unfold gIntB at e
  split at e
  · rename_i b
    cases e
    cases r with
    | cons r1 r => cases r; cases r1; exact call_int1 pins s σ H _ us Q I rs (.inr ⟨b, rfl, q _ _ _ (Grow.refl sub) (.int _)⟩)
  · rename_i i
    cases e
    cases r with
    | cons r1 r => cases r; cases r1; exact call_int1 pins s σ H _ us Q I rs (.inl ⟨i, rfl, q _ _ _ (Grow.refl sub) (.int _)⟩)
  · cases e
variable {T : List (Addr × Str)} {E : L2.St → XK}
/-- a built-in function, a built-in class called -/
theorem pd_callB {x : Str} {id : String} {g : List Dv → Option Dv} {e : Expr} {es : List Expr} {p pos : Pos} {a : XL} (hc : CallR X (.builtin id) (VSp X.K g)) (hg : Gl X x) (hm : X.mg x = none) (hv : bootBuiltins x = some (.builtin id)) (ha : PL X T E (e :: es) a)
    (hn : x ≠ "__name__" := by decide) (hdb : (x == ("__debug__" : Str)) = false := by decide) (he : starEach (e :: es) X.env = (false, eval e X.env) :: starEach es X.env := by rfl) (hpl : (backTo pos (starEach es X.env)).any (·.1) = false := by rfl) :
    PD X T E (.Call (.Name x p) (e :: es) [] pos) (xP g a) := by
  refine PE_imp (pe_callB hc hg hm hv ha hn hdb he hpl) fun σ H Q w => ?_
  obtain ⟨fp, G, ρ, τ, b, e, w⟩ := w
  exact tA_step b e w fun v fp1 G1 H1 τ1 ds b1 e1 g1 r1 h1 => h1.plain b1 r1
theorem pd_callTy {x : Str} {id : String} {g : List Dv → Option Dv} {e : Expr} {es : List Expr} {p pos : Pos} {a : XL} (hc : CallR X (.type id) (VSp X.K g)) (hg : Gl X x) (hm : X.mg x = none) (hv : bootBuiltins x = some (.type id)) (ha : PL X T E (e :: es) a)
    (hn : x ≠ "__name__" := by decide) (hdb : (x == ("__debug__" : Str)) = false := by decide) (he : starEach (e :: es) X.env = (false, eval e X.env) :: starEach es X.env := by rfl) (hpl : (backTo pos (starEach es X.env)).any (·.1) = false := by rfl) :
    PD X T E (.Call (.Name x p) (e :: es) [] pos) (xP g a) := by
  refine PE_imp (pe_callTy hc hg hm hv ha hn hdb he hpl) fun σ H Q w => ?_
  obtain ⟨fp, G, ρ, τ, b, e, w⟩ := w
  exact tA_step b e w fun v fp1 G1 H1 τ1 ds b1 e1 g1 r1 h1 => h1.plain b1 r1
theorem po_callTy {x : Str} {id : String} {g : List Dv → Option Dv} {e : Expr} {es : List Expr} {p pos : Pos} {a : XL} (hc : CallR X (.type id) (VSo X.K g)) (hg : Gl X x) (hm : X.mg x = none) (hv : bootBuiltins x = some (.type id)) (ha : PL X T E (e :: es) a)
    (hn : x ≠ "__name__" := by decide) (hdb : (x == ("__debug__" : Str)) = false := by decide) (he : starEach (e :: es) X.env = (false, eval e X.env) :: starEach es X.env := by rfl) (hpl : (backTo pos (starEach es X.env)).any (·.1) = false := by rfl) :
    PO X T E (.Call (.Name x p) (e :: es) [] pos) (xP g a) := by
  refine PE_imp (pe_callTy hc hg hm hv ha hn hdb he hpl) fun σ H Q w => ?_
  obtain ⟨fp, G, ρ, τ, b, e, w⟩ := w
  exact tA_stepO b e w fun v fp1 G1 H1 τ1 ds b1 e1 g1 r1 h1 => h1.plain b1 r1
theorem po_callB {x : Str} {id : String} {g : List Dv → Option Dv} {e : Expr} {es : List Expr} {p pos : Pos} {a : XL} (hc : CallR X (.builtin id) (VSo X.K g)) (hg : Gl X x) (hm : X.mg x = none) (hv : bootBuiltins x = some (.builtin id)) (ha : PL X T E (e :: es) a)
    (hn : x ≠ "__name__" := by decide) (hdb : (x == ("__debug__" : Str)) = false := by decide) (he : starEach (e :: es) X.env = (false, eval e X.env) :: starEach es X.env := by rfl) (hpl : (backTo pos (starEach es X.env)).any (·.1) = false := by rfl) :
    PO X T E (.Call (.Name x p) (e :: es) [] pos) (xP g a) := by
  refine PE_imp (pe_callB hc hg hm hv ha hn hdb he hpl) fun σ H Q w => ?_
  obtain ⟨fp, G, ρ, τ, b, e, w⟩ := w
  exact tA_stepO b e w fun v fp1 G1 H1 τ1 ds b1 e1 g1 r1 h1 => h1.plain b1 r1
end
end Mv
end
section
set_option Elab.async false
set_option linter.all false
set_option maxRecDepth 100000
namespace Mv
open PySem PySem.Spec PyProof.Rows L2

/-! ### calls of the text's own defs -/
def callF (n : Nat) (F : List Dv → Sto → Res Dv) (ds : List Dv) (τ : Sto) : Res Dv := if ds.length = n then F ds τ else .bad
section
variable {X : Cx} {T : List (Addr × Str)} {E : L2.St → XK} {k n : Nat} {f : Addr} {fd : FuncData} {ps : List Str} {F : List Dv → Sto → Res Dv}
theorem call_sp {E' : XK} {fp : List Addr} {G H : Hp} {τ : Sto} {vs : List V} {ds : List Dv} {K : PySem.W.Frag} {mg : Str → Option Value} {Q : VK} (b : Base K mg T fp G τ H) (r : RpL K fp G vs ds)
    (h : AfterP K mg T (fun fp G d v => Rp K fp G v d) E' fp G H (callF n F ds τ) Q) : spD K mg T n F vs H Q E' := by
  unfold callF at h
  by_cases hn : ds.length = n
  · rw [if_pos hn] at h
    exact ⟨fp, G, τ, ds, b, r, hn, h⟩
  · rw [if_neg hn] at h
    exact h.elim
theorem pd_call {x : Str} {e : Expr} {es : List Expr} {p pos : Pos} {a : XL} (FO : FnOk X.prog X.w X.K X.mg X.base (L2.CX X.prog X.w) k f fd ps (spD X.K X.mg T n F)) (hr : Room k X.A) (hg : Gl X x) (hm : X.mg x = some (.ref f)) (hk : PySem.W.keepIn X.K (.ref f) = true)
    (hb : Binds X.K fd ps []) (hx : ∀ σ, PassesAt (L2.CX X.prog X.w) X σ (E σ)) (ha : PL X T E (e :: es) a) (hdb : (x == ("__debug__" : Str)) = false := by decide)
    (he : starEach (e :: es) X.env = (false, eval e X.env) :: starEach es X.env := by rfl) (hpl : (backTo pos (starEach es X.env)).any (·.1) = false := by rfl) : PD X T E (.Call (.Name x p) (e :: es) [] pos) (xF (callF n F) a) := by
  refine PE_imp (pe_callS (E := E) FO hr hg hm hk hb hx ha hdb he hpl) fun σ H Q w => ?_
  obtain ⟨fp, G, ρ, τ, b, e, w⟩ := w
  exact tA_step (k := callF n F) b e w fun v fp1 G1 H1 τ1 ds b1 e1 g1 r1 h1 => call_sp b1 r1 h1
/-- f() -/
theorem pd_call0 {x : Str} {p pos : Pos} (FO : FnOk X.prog X.w X.K X.mg X.base (L2.CX X.prog X.w) k f fd ps (spD X.K X.mg T n F)) (hr : Room k X.A) (hg : Gl X x) (hm : X.mg x = some (.ref f)) (hk : PySem.W.keepIn X.K (.ref f) = true)
    (hb : Binds X.K fd ps []) (hx : ∀ σ, PassesAt (L2.CX X.prog X.w) X σ (E σ)) (hdb : (x == ("__debug__" : Str)) = false := by decide) : PD X T E (.Call (.Name x p) [] [] pos) (xF (callF n F) aN) := by
  refine ⟨fun pins s σ H Q I w => ?_⟩
  obtain ⟨fp, G, ρ, τ, b, e, w⟩ := w
  refine wpAny_Call_Name_kw (ld_glob I hg hm ?_ hdb)
  exact PySem.W.callWith_K0 I.kIn hk (run_fnS (us := []) (vs := []) FO hr hb (hx σ) I .nil (call_sp b .nil w))
/-- how keywords bind: the parameters in their order -/
def KwB (K : PySem.W.Frag) (fd : FuncData) (ps ks : List Str) (n : Nat) : Prop := ∀ (s : Shared) (us ws : List Value), K.In s.heap → us.length = n → ws.length = ks.length → BindsTo s fd ⟨us, ks.zip ws⟩ (ps.zip (us ++ ws))
abbrev PKD (X : Cx) (T : List (Addr × Str)) (E : L2.St → XK) (kws : List Keyword) (f : XL) : Prop := PK X kws (tA X.K X.mg T E f)
theorem PK_imp {e : List Keyword} {t t' : TA} (h : PK X e t) (w : ∀ σ H Q, t' σ H Q → t σ H Q) : PK X e t' := ⟨fun pos pins s σ H Q I q => h.run pos pins s σ H Q I (w σ H Q q)⟩
theorem kd_nil : PKD X T E [] aN := by
  refine PK_imp pk_nil fun σ H Q h => ?_
  obtain ⟨fp, G, ρ, τ, b, e, h⟩ := h
  exact h [] fp G H (Gro.refl _ _ _) b .nil
theorem kd_cons {nm : Option Str} {kpos : Pos} {e : Expr} {kws : List Keyword} {f : XD} {g : XL} (ha : PD X T E e f) (hr : PKD X T E kws g) : PKD X T E (⟨nm, e, kpos⟩ :: kws) (aC f g) := by
  refine PK_imp (pk_cons ha hr) fun σ H Q h => ?_
  obtain ⟨fp, G, ρ, τ, b, e, h⟩ := h
  refine tD_step (k := fun d τ1 => (g ρ τ1).bind fun ds τ2 => .ok (d :: ds) τ2) b e h fun v fp1 G1 H1 τ1 d b1 e1 g1 r1 h1 => ?_
  refine tA_step (k := fun ds τ2 => .ok (d :: ds) τ2) b1 e1 h1 fun vs fp2 G2 H2 τ2 ds b2 e2 g2 r2 h2 => ?_
  exact h2 (v :: vs) fp2 G2 H2 (Gro.refl _ _ _) b2 (.cons (r1.mono g2.same g2.pre) r2)
/-- the positional ones, then the keywords' -/
def aK (np nk : Nat) (a c : XL) : XL := fun ρ τ => (a ρ τ).bind fun ds τ1 => (c ρ τ1).bind fun es τ2 => if ds.length = np ∧ es.length = nk then .ok (ds ++ es) τ2 else .bad
theorem pd_callK {x : Str} {e : Expr} {es : List Expr} {kws : List Keyword} {ks : List Str} {np : Nat} {p pos : Pos} {a c : XL} (FO : FnOk X.prog X.w X.K X.mg X.base (L2.CX X.prog X.w) k f fd ps (spD X.K X.mg T n F)) (hr : Room k X.A) (hg : Gl X x) (hm : X.mg x = some (.ref f)) (hk : PySem.W.keepIn X.K (.ref f) = true)
    (hb : KwB X.K fd ps ks np) (hx : ∀ σ, PassesAt (L2.CX X.prog X.w) X σ (E σ)) (ha : PL X T E (e :: es) a) (hkw : PKD X T E kws c)
    (hall : (backToKw pos (keywordEach kws X.env)).all (·.1.isSome) = true := by rfl) (hks : (backToKw pos (keywordEach kws X.env)).filterMap (·.1) = ks := by rfl)
    (hdb : (x == ("__debug__" : Str)) = false := by decide) (he : starEach (e :: es) X.env = (false, eval e X.env) :: starEach es X.env := by rfl)
    (hpl : ((backTo pos (starEach (e :: es) X.env)).any (·.1) || (backToKw pos (keywordEach kws X.env)).any (·.1.isNone)) = false := by rfl) :
    PD X T E (.Call (.Name x p) (e :: es) kws pos) (xF (callF n F) (aK np ks.length a c)) := by
  refine ⟨fun pins s σ H Q I w => ?_⟩
  obtain ⟨fp, G, ρ, τ, b, e, w⟩ := w
  refine wpAny_Call_Name_kw (ld_glob I hg hm ?_ hdb)
  unfold xF aK at w
  rw [bind_assoc] at w
  refine PySem.W.callWith_KW (h₀ := X.base) I.ok.mod.kin hk hall (thn (ha.run pos pins s σ H _ I (tA_step (Z := fun vs H1 => ∃ fp1 G1 τ1 ds, Base X.K X.mg T fp1 G1 τ1 H1 ∧ EnvR X.K fp1 G1 ρ σ ∧ RpL X.K fp1 G1 vs ds ∧ AfterP X.K X.mg T (fun fp G d v => Rp X.K fp G v d) (E σ) fp1 G1 H1 (((c ρ τ1).bind fun es τ2 => if ds.length = np ∧ es.length = ks.length then Res.ok (ds ++ es) τ2 else .bad).bind (callF n F)) Q)
    b e w fun v fp1 G1 H1 τ1 ds b1 e1 g1 r1 h1 => ⟨fp1, G1, τ1, ds, b1, e1, r1, h1⟩)) fun us s1 ⟨vs, H1, I1, rv, fp1, G1, τ1, ds, b1, e1, r1, h1⟩ => ?_) hpl he
  rw [bind_assoc] at h1
  refine thn (hkw.run pos pins s1 σ H1 _ I1 (tA_step (Z := fun zs H2 => ∃ fp2 G2 τ2 cs, Base X.K X.mg T fp2 G2 τ2 H2 ∧ RpL X.K fp2 G2 (vs ++ zs) (ds ++ cs) ∧ ds.length = np ∧ cs.length = ks.length ∧ RpL X.K fp2 G2 zs cs ∧ AfterP X.K X.mg T (fun fp G d v => Rp X.K fp G v d) (E σ) fp2 G2 H2 (callF n F (ds ++ cs) τ2) Q)
    b1 e1 h1 fun v fp2 G2 H2 τ2 cs b2 e2 g2 r2 h2 => ?_)) fun ws s2 ⟨zs, H2, I2, rz, fp2, G2, τ2, cs, b2, r2, l1, l2, r3, h2⟩ => ⟨I2.kIn, ?_⟩
  · by_cases hl : ds.length = np ∧ cs.length = ks.length
    · rw [if_pos hl] at h2
      exact ⟨fp2, G2, τ2, cs, b2, (r1.mono g2.same g2.pre).append r2, hl.1, hl.2, r2, h2⟩
    · rw [if_neg hl] at h2
      exact h2.elim
  · rw [hks]
    have lu : us.length = np := by rw [← rv.length, r1.length, l1]
    have lw : ws.length = ks.length := by rw [← rz.length, r3.length, l2]
    have sp := call_sp b2 r2 h2
    refine wpAny_call (codeAny_mono (FO.run X.A X.stack s2 H2 ⟨us, ks.zip ws⟩ (us ++ ws) (vs ++ zs) Q (E σ) hr I2.env0 (hb s2 us ws I2.kIn lu lw) (rv.append rz) sp) fun r s' hq => ?_)
    cases r with
    | error e => exact hx σ pins H2 s2 e s' I2 hq
    | ok fl =>
      cases fl with
      | ret u => exact I2.after hq
      | next => exact False.elim hq
      | brk => exact False.elim hq
      | cont => exact False.elim hq
/-- keywords alone -/
theorem pd_callK0 {x : Str} {kws : List Keyword} {ks : List Str} {p pos : Pos} {c : XL} (FO : FnOk X.prog X.w X.K X.mg X.base (L2.CX X.prog X.w) k f fd ps (spD X.K X.mg T n F)) (hr : Room k X.A) (hg : Gl X x) (hm : X.mg x = some (.ref f)) (hk : PySem.W.keepIn X.K (.ref f) = true)
    (hb : KwB X.K fd ps ks 0) (hx : ∀ σ, PassesAt (L2.CX X.prog X.w) X σ (E σ)) (hkw : PKD X T E kws c)
    (hall : (backToKw pos (keywordEach kws X.env)).all (·.1.isSome) = true := by rfl) (hks : (backToKw pos (keywordEach kws X.env)).filterMap (·.1) = ks := by rfl)
    (hdb : (x == ("__debug__" : Str)) = false := by decide) (hpl : ((backTo pos (starEach [] X.env)).any (·.1) || (backToKw pos (keywordEach kws X.env)).any (·.1.isNone)) = false := by rfl) :
    PD X T E (.Call (.Name x p) [] kws pos) (xF (callF n F) (aK 0 ks.length aN c)) := by
  refine ⟨fun pins s σ H Q I w => ?_⟩
  obtain ⟨fp, G, ρ, τ, b, e, w⟩ := w
  refine wpAny_Call_Name_kw (ld_glob I hg hm ?_ hdb)
  unfold xF aK aN at w
  rw [ok_bind, bind_assoc] at w
  refine PySem.W.callWith_KW0 (h₀ := X.base) I.ok.mod.kin hk hall (thn (hkw.run pos pins s σ H _ I (tA_step (Z := fun zs H2 => ∃ fp2 G2 τ2 cs, Base X.K X.mg T fp2 G2 τ2 H2 ∧ RpL X.K fp2 G2 zs cs ∧ cs.length = ks.length ∧ AfterP X.K X.mg T (fun fp G d v => Rp X.K fp G v d) (E σ) fp2 G2 H2 (callF n F cs τ2) Q)
    b e w fun v fp2 G2 H2 τ2 cs b2 e2 g2 r2 h2 => ?_)) fun ws s2 ⟨zs, H2, I2, rz, fp2, G2, τ2, cs, b2, r2, l2, h2⟩ => ⟨I2.kIn, ?_⟩) hpl
  · by_cases hl : ([] : List Dv).length = 0 ∧ cs.length = ks.length
    · rw [if_pos hl] at h2
      exact ⟨fp2, G2, τ2, cs, b2, r2, hl.2, h2⟩
    · rw [if_neg hl] at h2
      exact h2.elim
  · rw [hks]
    have lw : ws.length = ks.length := by rw [← rz.length, r2.length, l2]
    have sp := call_sp b2 r2 h2
    refine wpAny_call (codeAny_mono (FO.run X.A X.stack s2 H2 ⟨[], ks.zip ws⟩ ([] ++ ws) zs Q (E σ) hr I2.env0 (hb s2 [] ws I2.kIn rfl lw) rz sp) fun r s' hq => ?_)
    cases r with
    | error e => exact hx σ pins H2 s2 e s' I2 hq
    | ok fl =>
      cases fl with
      | ret u => exact I2.after hq
      | next => exact False.elim hq
      | brk => exact False.elim hq
      | cont => exact False.elim hq
end
end Mv
end
section
set_option Elab.async false
set_option linter.all false
set_option maxRecDepth 100000
namespace Mv
open PySem PySem.Spec PyProof.Rows L2

/-! ### targets -/
inductive Tgt where
  | nm (i : Nat)
  | tp (ts : List Tgt)
mutual
def tset : Tgt → Dv → Option (List (Nat × Dv))
  | .nm i, d => some [(i, d)]
  | .tp ts, .tup ds => tsets ts ds
  | .tp _, _ => none
def tsets : List Tgt → List Dv → Option (List (Nat × Dv))
  | [], [] => some []
  | t :: ts, d :: ds => match tset t d, tsets ts ds with
    | some a, some b => some (a ++ b)
    | _, _ => none
  | _, _ => none
end
def putsD (ρ : EnvD) (l : List (Nat × Dv)) : EnvD := l.foldl (fun r p => r.set p.1 (some p.2)) ρ
def wipeD (ρ : EnvD) : List Nat → EnvD
  | [] => ρ
  | v :: vs => (wipeD ρ vs).set v none
/-- the slots are stored, one by one -/
def UpdR (K : PySem.W.Frag) (fp : List Addr) (G : Hp) : List (Nat × Dv) → L2.St → L2.St → Prop
  | [], σ, σ' => σ' = σ
  | p :: r, σ, σ' => ∃ v, Rp K fp G v p.2 ∧ UpdR K fp G r (σ.set p.1 (some v)) σ'
/-- a tuple that is unpacked at once -/
def RpT (K : PySem.W.Frag) (fp : List Addr) (G : Hp) (v : V) (d : Dv) : Prop := ∃ a xs ds, v = .ref a ∧ SqT K G a xs ∧ RpL K fp G xs ds ∧ d = .tup ds
def RpG (K : PySem.W.Frag) (fp : List Addr) (G : Hp) : Tgt → V → Dv → Prop
  | .nm _, v, d => Rp K fp G v d
  | .tp _, v, d => RpT K fp G v d
/-- what a store to a target asks -/
def gT (K : PySem.W.Frag) (t : Tgt) : TG := fun v σ H Q => ∃ fp G d l, Same G H ∧ RpG K fp G t v d ∧ tset t d = some l ∧ ∀ σ', UpdR K fp G l σ σ' → Q σ' H
def gTs (K : PySem.W.Frag) (ts : List Tgt) : TGs := fun vs σ H Q => ∃ fp G ds l, Same G H ∧ RpL K fp G vs ds ∧ tsets ts ds = some l ∧ ∀ σ', UpdR K fp G l σ σ' → Q σ' H
section
variable {K : PySem.W.Frag} {fp : List Addr} {G : Hp}
theorem UpdR.app : ∀ {a b : List (Nat × Dv)} {σ σ1 σ2 : L2.St}, UpdR K fp G a σ σ1 → UpdR K fp G b σ1 σ2 → UpdR K fp G (a ++ b) σ σ2
  | [], _, _, _, _, h, h' => by cases h; exact h'
  | p :: a, b, σ, σ1, σ2, h, h' => by
    obtain ⟨v, r, h⟩ := h
    exact ⟨v, r, UpdR.app h h'⟩
theorem UpdR.envR : ∀ {l : List (Nat × Dv)} {ρ : EnvD} {σ σ' : L2.St}, EnvR K fp G ρ σ → UpdR K fp G l σ σ' → EnvR K fp G (putsD ρ l) σ'
  | [], _, _, _, e, h => by cases h; exact e
  | p :: l, ρ, σ, σ', e, h => by
    obtain ⟨v, r, h⟩ := h
    refine UpdR.envR (l := l) (ρ := ρ.set p.1 (some p.2)) ⟨by simpa using e.len, fun i d hi => ?_⟩ h
    by_cases z : p.1 = i
    · subst z
      by_cases hl : p.1 < ρ.length
      · rw [List.getElem?_set_self hl] at hi
        cases hi
        exact ⟨v, by rw [List.getElem?_set_self (by rw [← e.len]; exact hl)], r⟩
      · rw [List.getElem?_eq_none (by simpa using hl)] at hi
        cases hi
    · rw [List.getElem?_set_ne z] at hi
      obtain ⟨w, h1, h2⟩ := e.at_ i d hi
      exact ⟨w, by rw [List.getElem?_set_ne z]; exact h1, h2⟩
theorem UpdR.length : ∀ {l : List (Nat × Dv)} {σ σ' : L2.St}, UpdR K fp G l σ σ' → σ'.length = σ.length
  | [], _, _, h => by cases h; rfl
  | p :: l, σ, σ', h => by
    obtain ⟨v, r, h⟩ := h
    rw [UpdR.length h, List.length_set]
theorem UpdR.else_ : ∀ {l : List (Nat × Dv)} {σ σ' : L2.St} {j : Nat}, UpdR K fp G l σ σ' → j ∉ l.map (·.1) → σ'[j]? = σ[j]?
  | [], _, _, _, h, _ => by cases h; rfl
  | p :: l, σ, σ', j, h, n => by
    obtain ⟨v, r, h⟩ := h
    rw [List.map_cons, List.mem_cons, not_or] at n
    rw [UpdR.else_ h n.2, List.getElem?_set_ne (fun z => n.1 z.symm)]
theorem wipeD_length (ρ : EnvD) : ∀ vs : List Nat, (wipeD ρ vs).length = ρ.length
  | [] => rfl
  | v :: vs => by rw [wipeD, List.length_set, wipeD_length ρ vs]
theorem wipe_env {ρ : EnvD} {σ : L2.St} (e : EnvR K fp G ρ σ) : ∀ vs : List Nat, EnvR K fp G (wipeD ρ vs) (wipe σ vs)
  | [] => e
  | v :: vs => by
    have ih := wipe_env e vs
    refine ⟨by rw [wipeD_length, wipe_length]; exact e.len, fun i d h => ?_⟩
    unfold wipeD at h
    unfold wipe
    by_cases z : v = i
    · subst z
      by_cases hl : v < (wipeD ρ vs).length
      · rw [List.getElem?_set_self hl] at h; cases h
      · rw [List.getElem?_eq_none (by simpa using hl)] at h; cases h
    · rw [List.getElem?_set_ne z] at h ⊢
      exact ih.at_ i d h
theorem wipe_get {σ : L2.St} : ∀ {vs : List Nat} {j : Nat}, (wipe σ vs)[j]? = if j ∈ vs ∧ j < σ.length then some none else σ[j]?
  | [], j => by rw [if_neg (by simp)]; rfl
  | v :: vs, j => by
    unfold wipe
    by_cases z : v = j
    · subst z
      by_cases hl : v < σ.length
      · rw [if_pos ⟨by simp, hl⟩, List.getElem?_set_self (by rw [wipe_length]; exact hl)]
      · rw [if_neg (fun w => hl w.2), List.getElem?_eq_none (by rw [List.length_set, wipe_length]; omega), List.getElem?_eq_none (by omega)]
    · rw [List.getElem?_set_ne z, wipe_get]
      by_cases h1 : j ∈ vs ∧ j < σ.length
      · rw [if_pos h1, if_pos ⟨List.mem_cons_of_mem _ h1.1, h1.2⟩]
      · rw [if_neg h1, if_neg (fun w => h1 ⟨(List.mem_cons.mp w.1).resolve_left (fun e => z e.symm), w.2⟩)]
theorem wipe_upd {l : List (Nat × Dv)} {σ σ' : L2.St} {vs : List Nat} (h : UpdR K fp G l σ σ') (sub : ∀ i ∈ l.map (·.1), i ∈ vs) : wipe σ' vs = wipe σ vs := by
  refine List.ext_getElem? fun j => ?_
  rw [wipe_get, wipe_get, h.length]
  by_cases h1 : j ∈ vs ∧ j < σ.length
  · rw [if_pos h1, if_pos h1]
  · rw [if_neg h1, if_neg h1]
    by_cases hj : j ∈ l.map (·.1)
    · have : ¬ j < σ.length := fun z => h1 ⟨sub j hj, z⟩
      have hl := h.length
      rw [List.getElem?_eq_none (by omega), List.getElem?_eq_none (by omega)]
    · exact h.else_ hj
theorem wipe_wipe {σ : L2.St} {vs : List Nat} : wipe (wipe σ vs) vs = wipe σ vs := by
  refine List.ext_getElem? fun j => ?_
  rw [wipe_get, wipe_length, wipe_get]
  split <;> rfl
end
mutual
/-- the slots that a target stores -/
def Tgt.slots : Tgt → List Nat
  | .nm i => [i]
  | .tp ts => Tgt.slotsL ts
def Tgt.slotsL : List Tgt → List Nat
  | [] => []
  | t :: ts => t.slots ++ Tgt.slotsL ts
end
mutual
theorem tset_slots : ∀ {t : Tgt} {d : Dv} {l : List (Nat × Dv)}, tset t d = some l → l.map (·.1) = t.slots
  | .nm i, _, _, h => by cases h; rfl
  | .tp ts, d, l, h => by
    cases d <;> simp only [tset, reduceCtorEq] at h
    exact tsets_slots h
theorem tsets_slots : ∀ {ts : List Tgt} {ds : List Dv} {l : List (Nat × Dv)}, tsets ts ds = some l → l.map (·.1) = Tgt.slotsL ts
  | [], ds, _, h => by
    cases ds with
    | nil => cases h; rfl
    | cons _ _ => simp only [tsets, reduceCtorEq] at h
  | t :: ts, ds, l, h => by
    cases ds with
    | nil => simp only [tsets, reduceCtorEq] at h
    | cons d ds =>
      rw [tsets] at h
      split at h
      · rename_i a b h1 h2
        cases h
        rw [List.map_append, tset_slots h1, tsets_slots h2]
        rfl
      · cases h
end
section
variable {X : Cx}
theorem PG_imp {e : Expr} {t t' : TG} (h : PG X e t) (w : ∀ v σ H Q, t' v σ H Q → t v σ H Q) : PG X e t' := ⟨fun pins s σ H v u Q I r q => h.run pins s σ H v u Q I r (w v σ H Q q)⟩
theorem PGs_imp {e : List Expr} {t t' : TGs} (h : PGs X e t) (w : ∀ v σ H Q, t' v σ H Q → t v σ H Q) : PGs X e t' := ⟨fun pins s σ H v u Q I r q => h.run pins s σ H v u Q I r (w v σ H Q q)⟩
theorem pg_nm {i : Nat} {x : Str} {pos : Pos} (hN : X.N.Nodup) (hi : X.N[i]? = some x) (hx : Loc X.env.scope x) (hf : X.fn x = true ∨ X.env.scope.names.lookup x = some .local := by first | exact .inl rfl | exact .inr rfl | assumption) : PG X (.Name x pos) (gT X.K (.nm i)) := by
  refine PG_imp (pg_name hN hi hx hf) fun v σ H Q h => ?_
  obtain ⟨fp, G, d, l, sub, r, e, q⟩ := h
  cases e
  exact q _ ⟨v, r, rfl⟩
theorem pgs_n : PGs X [] (gTs X.K []) := by
  refine PGs_imp pgs_nil fun v σ H Q h => ?_
  obtain ⟨fp, G, d, l, sub, r, e, q⟩ := h
  cases r with
  | nil => cases e; exact ⟨rfl, q _ rfl⟩
  | cons _ _ => simp only [tsets, reduceCtorEq] at e
theorem pgs_c {e : Expr} {es : List Expr} {t : Tgt} {ts : List Tgt} (h1 : PG X e (gT X.K t)) (h2 : PGs X es (gTs X.K ts))
    (hs : (assignEach (e :: es) X.env).map (·.2) = assign e X.env :: (assignEach es X.env).map (·.2) := by rfl) : PGs X (e :: es) (gTs X.K (t :: ts)) := by
  refine PGs_imp (pgs_cons h1 h2 hs) fun v σ H Q h => ?_
  obtain ⟨fp, G, d, l, sub, r, e, q⟩ := h
  cases r with
  | nil => simp only [tsets, reduceCtorEq] at e
  | @cons v vs d ds r1 r2 =>
    rw [tsets] at e
    split at e
    · rename_i a b e1 e2
      cases e
      refine ⟨v, vs, rfl, fp, G, d, a, sub, ?_, e1, fun σ1 u1 => ⟨fp, G, ds, b, sub, r2, e2, fun σ2 u2 => q σ2 (u1.app u2)⟩⟩
      cases t with
      | nm i => exact r1
      | tp ts =>
        cases d <;> simp only [tset, reduceCtorEq] at e1
        cases r1 with
        | tup h3 h4 => exact ⟨_, _, _, rfl, rd_tup h3, h4, rfl⟩
    · cases e
theorem tsets_len : ∀ {ts : List Tgt} {ds : List Dv} {l : List (Nat × Dv)}, tsets ts ds = some l → ds.length = ts.length
  | [], ds, _, h => by
    cases ds with
    | nil => rfl
    | cons _ _ => simp only [tsets, reduceCtorEq] at h
  | t :: ts, ds, l, h => by
    cases ds with
    | nil => simp only [tsets, reduceCtorEq] at h
    | cons d ds =>
      rw [tsets] at h
      split at h
      · rename_i a b h1 h2
        rw [List.length_cons, List.length_cons, tsets_len h2]
      · cases h
theorem pg_tp {es : List Expr} {k} {pos : Pos} {ts : List Tgt} (hc : X.calm = true) (h : PGs X es (gTs X.K ts)) (hn : (assignEach es X.env).length = ts.length := by rfl) (hst : (assignEach es X.env).findIdx? (·.1) = none := by rfl) :
    PG X (.Tuple es k pos) (gT X.K (.tp ts)) := by
  refine PG_imp (pg_tup hc h hn hst) fun v σ H Q h => ?_
  obtain ⟨fp, G, d, l, sub, r, e, q⟩ := h
  obtain ⟨a, xs, ds, rfl, h1, h2, rfl⟩ := r
  exact ⟨a, xs, rfl, Same.seqT sub h1, by rw [h2.length]; exact tsets_len e, fp, G, ds, l, sub, h2, e, q⟩
end
end Mv
end
section
set_option Elab.async false
set_option linter.all false
set_option maxRecDepth 100000
namespace Mv
open PySem PySem.Spec PyProof.Rows L2

/-! ### what is walked -/
abbrev XI := EnvD → Sto → Res (List Dv)
/-- it yields these, while what stands in G stands; t: the target's form -/
def WalkD (K : PySem.W.Frag) (t : Tgt) (fp : List Addr) (G : Hp) (J : It) (ds : List Dv) : Prop :=
  ∃ Y : Nat → Hp → V → Hp → Prop, Walk J ds.length (fun H => Same G H) Y ∧ ∀ (i : Nat) (F H : Hp) (x : V) (H' : Hp), i < ds.length → Same G F → Same F H → Y i H x H' → ∃ F' d, Grow F H F' H' ∧ ds[i]? = some d ∧ RpG K fp F' t x d
def tI (K : PySem.W.Frag) (mg : Str → Option Value) (T : List (Addr × Str)) (E : L2.St → XK) (t : Tgt) (f : XI) : TI := fun σ H R => ∃ fp G ρ τ, Base K mg T fp G τ H ∧ EnvR K fp G ρ σ ∧
  AfterP K mg T (fun fp G ds J => WalkD K t fp G J ds) (E σ) fp G H (f ρ τ) R
abbrev PID (X : Cx) (T : List (Addr × Str)) (E : L2.St → XK) (t : Tgt) (tg iter : Expr) (f : XI) : Prop := PI X tg iter (tI X.K X.mg T E t f)
/-- the items of a list, of a tuple -/
def seqD : Dv → Option (List Dv)
  | .lst xs => some xs
  | .tup xs => some xs
  | _ => none
def iSeq (f : XD) : XI := fun ρ τ => (f ρ τ).bind fun d τ1 => lift (seqD d) τ1
/-- all items are tuples, where the target asks it -/
def tupsOk (t : Tgt) (ds : List Dv) : Prop := match t with
  | .nm _ => True
  | .tp _ => ∀ d ∈ ds, ∃ es, d = Dv.tup es
def isTup : Dv → Bool
  | .tup _ => true
  | _ => false
def iSeqT (f : XD) : XI := fun ρ τ => (iSeq f ρ τ).bind fun ds τ1 => if ds.all isTup = true then .ok ds τ1 else .bad
def rngD : Dv → Option (List Dv)
  | .int j => if decide (-(2 ^ 62) ≤ j ∧ j < 2 ^ 62) then some ((List.range j.toNat).map fun i => .int (i : Nat)) else none
  | _ => none
def iRng (f : XD) : XI := fun ρ τ => (f ρ τ).bind fun d τ1 => lift (rngD d) τ1
section
variable {X : Cx} {T : List (Addr × Str)} {E : L2.St → XK}
theorem PI_or {tg e : Expr} {t t' : TI} (h : PI X tg e t) (h' : PI X tg e t') : PI X tg e (fun σ H R => t σ H R ∨ t' σ H R) := ⟨fun pins s σ H R I q => by
  rcases q with q | q
  · exact h.run pins s σ H R I q
  · exact h'.run pins s σ H R I q⟩
theorem walkd_list {K : PySem.W.Frag} {fp : List Addr} {G : Hp} {a : Addr} {xs : List V} {ds : List Dv} {t : Tgt} (h : G a = some (.lst xs)) (r : RpL K fp G xs ds) (ht : tupsOk t ds) : WalkD K t fp G (Itl K a) ds := by
  have w := (walk_list (K := K) (a := a) (xs := xs)).mono (G' := fun H => Same G H) (Y' := YAt xs) (fun H s => .inl (.inl (s _ _ h))) (fun i H x H' _ _ y => y)
  rw [r.length] at w
  refine ⟨_, w, fun i F H x H' hi s1 s2 y => ?_⟩
  obtain ⟨rfl, hx⟩ := y
  obtain ⟨d, hd, rd⟩ := r.get' hx
  refine ⟨F, d, Grow.refl s2, hd, ?_⟩
  have rd' := rd.mono s1 (List.prefix_refl fp)
  cases t with
  | nm j => exact rd'
  | tp ts =>
    obtain ⟨es, rfl⟩ := ht d (List.mem_of_getElem? hd)
    cases rd' with
    | tup h1 h2 => exact ⟨_, _, _, rfl, rd_tup h1, h2, rfl⟩
theorem walkd_tup {K : PySem.W.Frag} {fp : List Addr} {G : Hp} {a : Addr} {its : List Value} {xs : List V} {ds : List Dv} {t : Tgt} (h : G a = some (tupH its xs)) (r : RpL K fp G xs ds) (ht : tupsOk t ds) : WalkD K t fp G (Itt K a) ds := by
  have w := (walk_tup (K := K) (a := a) (xs := xs)).mono (G' := fun H => Same G H) (Y' := YAt xs) (fun H s => rd_tup (s _ _ h)) (fun i H x H' _ _ y => y)
  rw [r.length] at w
  refine ⟨_, w, fun i F H x H' hi s1 s2 y => ?_⟩
  obtain ⟨rfl, hx⟩ := y
  obtain ⟨d, hd, rd⟩ := r.get' hx
  refine ⟨F, d, Grow.refl s2, hd, ?_⟩
  have rd' := rd.mono s1 (List.prefix_refl fp)
  cases t with
  | nm j => exact rd'
  | tp ts =>
    obtain ⟨es, rfl⟩ := ht d (List.mem_of_getElem? hd)
    cases rd' with
    | tup h1 h2 => exact ⟨_, _, _, rfl, rd_tup h1, h2, rfl⟩
theorem id_seqG {t : Tgt} {tg e : Expr} {f : XD} {k : List Dv → Sto → Res (List Dv)} (h : PD X T E e f) (hk : ∀ ds τ es τ', k ds τ = .ok es τ' → es = ds ∧ τ' = τ ∧ tupsOk t ds) (he : ∀ ds τ er τ', k ds τ ≠ .err er τ') :
    PID X T E t tg e (fun ρ τ => (iSeq f ρ τ).bind k) := by
  refine PI_imp (PI_or (pi_list (tg := tg) h) (pi_tup (tg := tg) h)) fun σ H Q w => ?_
  obtain ⟨fp, G, ρ, τ, b, e, w⟩ := w
  have w' : AfterP X.K X.mg T (fun fp G ds J => WalkD X.K t fp G J ds) (E σ) fp G H ((f ρ τ).bind fun d τ1 => (lift (seqD d) τ1).bind k) Q := by
    have e2 : ((f ρ τ).bind fun d τ1 => lift (seqD d) τ1).bind k = (f ρ τ).bind fun d τ1 => (lift (seqD d) τ1).bind k := bind_assoc _ _ _
    rw [← e2]
    exact w
  have main : ∀ (P : V → Hp → Prop), (∀ d τ1, f ρ τ = .ok d τ1 → ∀ v fp1 G1 H1, Gro fp G H fp1 G1 H1 → Base X.K X.mg T fp1 G1 τ1 H1 → EnvR X.K fp1 G1 ρ σ → Rp X.K fp1 G1 v d → AfterP X.K X.mg T (fun fp G ds J => WalkD X.K t fp G J ds) (E σ) fp1 G1 H1 ((lift (seqD d) τ1).bind k) Q → P v H1) → tD X.K X.mg T E f σ H P := fun P hP => by
    refine ⟨fp, G, ρ, τ, b, e, ?_⟩
    have w2 := w'.bind (R := fun fp G d v => Rp X.K fp G v d)
    cases q : f ρ τ with
    | ok d τ1 =>
      rw [q] at w2
      intro v fp1 G1 H1 g b1 r
      obtain ⟨fp2, G2, τ2, d2, g2, b2, r2, q2⟩ := w2 v fp1 G1 H1 g b1 r
      rw [q] at w'
      have w3 : AfterP X.K X.mg T (fun fp G ds J => WalkD X.K t fp G J ds) (E σ) fp1 G1 H1 ((lift (seqD d) τ1).bind k) Q := by
        change AfterP X.K X.mg T (fun fp G ds J => WalkD X.K t fp G J ds) (E σ) fp G H ((lift (seqD d) τ1).bind k) Q at w'
        cases z : (lift (seqD d) τ1).bind k with
        | ok c τ3 => rw [z] at w'; exact fun v2 fp3 G3 H3 g3 b3 q3 => w' v2 fp3 G3 H3 (g.trans g3) b3 q3
        | err er τ3 => rw [z] at w'; exact fun cls dx fp3 G3 H3 g3 b3 q3 => w' cls dx fp3 G3 H3 (g.trans g3) b3 q3
        | bad => rw [z] at w'; exact w'
      exact hP d τ1 q v fp1 G1 H1 g b1 (e.mono g.same g.pre) r w3
    | err er τ1 => rw [q] at w2; exact w2
    | bad => rw [q] at w2; exact w2
  -- which of both
  have pick : ∀ d τ1 (v : V) fp1 G1 H1, Base X.K X.mg T fp1 G1 τ1 H1 → Rp X.K fp1 G1 v d → AfterP X.K X.mg T (fun fp G ds J => WalkD X.K t fp G J ds) (E σ) fp1 G1 H1 ((lift (seqD d) τ1).bind k) Q →
      (∃ a xs ds, v = .ref a ∧ d = .lst ds ∧ G1 a = some (.lst xs) ∧ Q (Itl X.K a) H1) ∨ (∃ a its xs ds, v = .ref a ∧ d = .tup ds ∧ G1 a = some (tupH its xs) ∧ Q (Itt X.K a) H1) := fun d τ1 v fp1 G1 H1 b1 r w3 => by
    cases r with
    | @lst a xs ds h1 h2 =>
      refine .inl ⟨a, xs, ds, rfl, rfl, h1, ?_⟩
      change AfterP X.K X.mg T (fun fp G ds J => WalkD X.K t fp G J ds) (E σ) fp1 G1 H1 (k ds τ1) Q at w3
      cases z : k ds τ1 with
      | ok es τ3 =>
        rw [z] at w3
        obtain ⟨rfl, rfl, ht⟩ := hk _ _ _ _ z
        exact w3 _ fp1 G1 H1 (Gro.refl _ _ _) b1 (walkd_list h1 h2 ht)
      | err er τ3 => exact absurd z (he _ _ _ _)
      | bad => rw [z] at w3; exact w3.elim
    | @tup a its xs ds h1 h2 =>
      refine .inr ⟨a, its, xs, ds, rfl, rfl, h1, ?_⟩
      change AfterP X.K X.mg T (fun fp G ds J => WalkD X.K t fp G J ds) (E σ) fp1 G1 H1 (k ds τ1) Q at w3
      cases z : k ds τ1 with
      | ok es τ3 =>
        rw [z] at w3
        obtain ⟨rfl, rfl, ht⟩ := hk _ _ _ _ z
        exact w3 _ fp1 G1 H1 (Gro.refl _ _ _) b1 (walkd_tup h1 h2 ht)
      | err er τ3 => exact absurd z (he _ _ _ _)
      | bad => rw [z] at w3; exact w3.elim
    | _ => exact w3.elim
  cases q : f ρ τ with
  | ok d τ1 =>
    by_cases hd : ∃ ds, d = .lst ds
    · refine .inl (main _ fun d' τ2 e' v fp1 G1 H1 g b1 e1 r w3 => ?_)
      rw [q] at e'
      cases e'
      obtain ⟨ds, rfl⟩ := hd
      rcases pick _ _ _ _ _ _ b1 r w3 with ⟨a, xs, _, rfl, _, h1, hQ⟩ | ⟨_, _, _, _, _, e5, _⟩
      · exact ⟨a, rfl, ⟨xs, .inl (.inl (b1.sub _ _ h1))⟩, hQ⟩
      · cases e5
    · refine .inr (main _ fun d' τ2 e' v fp1 G1 H1 g b1 e1 r w3 => ?_)
      rw [q] at e'
      cases e'
      rcases pick _ _ _ _ _ _ b1 r w3 with ⟨_, _, ds, _, e5, _⟩ | ⟨a, its, xs, _, rfl, _, h1, hQ⟩
      · exact absurd ⟨ds, e5⟩ hd
      · exact ⟨a, rfl, ⟨xs, rd_tup (b1.sub _ _ h1)⟩, hQ⟩
  | err er τ1 => exact .inl (main _ fun d' τ2 e' => by rw [q] at e'; cases e')
  | bad => exact .inl (main _ fun d' τ2 e' => by rw [q] at e'; cases e')
/-- over a list or a tuple, to a name -/
theorem id_seq {i : Nat} {tg e : Expr} {f : XD} (h : PD X T E e f) : PID X T E (.nm i) tg e (iSeq f) := by
  have := id_seqG (t := .nm i) (tg := tg) (k := fun ds τ => .ok ds τ) h (fun ds τ es τ' z => by cases z; exact ⟨rfl, rfl, trivial⟩) (fun _ _ _ _ z => nomatch z)
  have e2 : (fun ρ τ => (iSeq f ρ τ).bind fun ds τ => .ok ds τ) = iSeq f := by
    funext ρ τ
    exact bind_ok _
  rwa [e2] at this
/-- .. of tuples, to several names -/
theorem id_seqT {ts : List Tgt} {tg e : Expr} {f : XD} (h : PD X T E e f) : PID X T E (.tp ts) tg e (iSeqT f) := by
  refine id_seqG (t := .tp ts) h (fun ds τ es τ' z => ?_) (fun ds τ er τ' z => ?_)
  · split at z
    · rename_i hh
      cases z
      refine ⟨rfl, rfl, fun d hd => ?_⟩
      have := List.all_eq_true.mp hh d hd
      cases d <;> first | exact ⟨_, rfl⟩ | cases this
    · cases z
  · split at z <;> cases z
/-- range(n) -/
theorem id_range {i : Nat} {tg e : Expr} {f : XD} {p pos : Pos} (hg : Gl X "range") (hm : X.mg "range" = none) (h : PD X T E e f) (hs : starEach [e] X.env = [(false, eval e X.env)] := by rfl) : PID X T E (.nm i) tg (.Call (.Name "range" p) [e] [] pos) (iRng f) := by
  refine PI_imp (pi_range1 hg hm (pl_cons h pl_nil hs) hs) fun σ H Q w => ?_
  obtain ⟨fp, G, ρ, τ, b, e, w⟩ := w
  refine tA_step (f := aC f aN) (k := fun ds τ1 => match ds with
    | [d] => lift (rngD d) τ1
    | _ => .bad) b e (by unfold aC aN; simp only [bind_assoc, ok_bind]; exact w) fun vs fp1 G1 H1 τ1 ds b1 e1 g1 r1 h1 => ?_
  split at h1
  · rename_i d
    cases r1 with
    | cons r1 r2 =>
      cases r2
      cases q : rngD d with
      | none => rw [q] at h1; exact h1.elim
      | some es =>
        rw [q] at h1
        cases r1 <;> simp only [rngD, reduceCtorEq] at q
        rename_i j
        split at q
        · rename_i hj
          have hj := of_decide_eq_true hj
          cases q
          refine ⟨j, rfl, hj.1, hj.2, h1 _ fp1 G1 H1 (Gro.refl _ _ _) b1 ⟨YFn fun i => .int (0 + i), ?_, fun i F H x H' hi s1 s2 y => ?_⟩⟩
          · rw [List.length_map, List.length_range]
            exact (walk_range (lo := 0) (n := j.toNat)).mono (fun _ _ => trivial) fun _ _ _ _ _ _ y => y
          · obtain ⟨rfl, rfl⟩ := y
            rw [List.length_map, List.length_range] at hi
            refine ⟨F, .int (i : Nat), Grow.refl s2, by simp [hi], ?_⟩
            show Rp X.K fp1 F (.int (0 + (i : Int))) (.int (i : Int))
            rw [Int.zero_add]
            exact .int _
        · cases q
  · exact h1.elim
end

/-! ### comprehensions -/
def noErr {α : Type} : Res α → Res α
  | .ok a τ => .ok a τ
  | .err _ _ => .bad
  | .bad => .bad
def compL (own : List Nat) (t : Tgt) (c : XB) (e : XD) (ρ : EnvD) : List Dv → Sto → Res (List Dv)
  | [], τ => .ok [] τ
  | d :: ds, τ => match tset t d with
    | none => .bad
    | some l => (noErr (c (putsD (wipeD ρ own) l) τ)).bind fun b τ1 => if b = true then (noErr (e (putsD (wipeD ρ own) l) τ1)).bind fun v τ2 => (compL own t c e ρ ds τ2).bind fun vs τ3 => .ok (v :: vs) τ3
        else compL own t c e ρ ds τ1
def xComp (own : List Nat) (t : Tgt) (f : XI) (c : XB) (e : XD) : XD := fun ρ τ => (f ρ τ).bind fun ds τ1 => if big ds.length = true then (compL own t c e ρ ds τ1).bind fun vs τ2 => .ok (.lst vs) τ2 else .bad
def bYes : XB := fun _ τ => .ok true τ
abbrev E0' : L2.St → XK := fun _ => L2.E0
abbrev PBs (X : Cx) (T : List (Addr × Str)) (E : L2.St → XK) (ifs : List Expr) (c : XB) : Prop := PTs X ifs (tT X.K X.mg T E c)
section
variable {K : PySem.W.Frag} {mg : Str → Option Value} {T : List (Addr × Str)}
theorem PTs_imp {X : Cx} {e : List Expr} {t t' : TT} (h : PTs X e t) (w : ∀ σ H Q, t' σ H Q → t σ H Q) : PTs X e t' := ⟨fun pins s σ H Q I q => h.run pins s σ H Q I (w σ H Q q)⟩
theorem bs_nil {X : Cx} {E : L2.St → XK} : PBs X T E [] bYes := PTs_imp pts_nil fun σ H Q h => by
  obtain ⟨fp, G, ρ, τ, b, e, h⟩ := h
  exact h true fp G H (Gro.refl _ _ _) b rfl
theorem bs_one {X : Cx} {E : L2.St → XK} {e : Expr} {c : XB} (h : PB X T E e c) : PBs X T E [e] c := pts_one h
/-- an object of ours is written: nothing else holds it -/
theorem tabs_write {H : Hp} {p : Addr} {o o' : HO} (t : LamX.Tabs T H) (e : H p = some o) (n1 : ∀ ps, o ≠ .tbl ps) (n2 : ∀ φ, o ≠ .ext φ) : LamX.Tabs T (L2.upd H p o') := fun q hq => by
  obtain ⟨ps, h1, h2, h3⟩ := t q hq
  have ne : q.1 ≠ p := fun z => by rw [z, e] at h1; exact n1 ps (Option.some.inj h1)
  refine ⟨ps, by rw [upd_ne ne]; exact h1, h2, fun pos cv hc => ?_⟩
  obtain ⟨c, e1, e2⟩ := h3 pos cv hc
  have ne2 : c ≠ p := fun z => by rw [z, e] at e2; exact n2 _ (Option.some.inj e2)
  exact ⟨c, e1, by rw [upd_ne ne2]; exact e2⟩
theorem Base.write {fp : List Addr} {G H : Hp} {τ : Sto} {p : Addr} {o o' : HO} (b : Base K mg T fp G τ H) (e : H p = some o) (n : G p = none) (nf : p ∉ fp) (n1 : ∀ ps, o ≠ .tbl ps) (n2 : ∀ φ, o ≠ .ext φ) (n3 : ∀ fs, o ≠ .xd fs) : Base K mg T fp G τ (L2.upd H p o') :=
  ⟨fun c u z => by rw [upd_ne (ne_of_none z n)]; exact b.sub c u z, b.nt,
    ⟨b.sto.len, b.sto.nd, b.sto.out, fun m u a h1 h2 => (b.sto.at_ m u a h1 h2).mono (Same.refl _) (List.prefix_refl _) fun c w k z => by
      rw [upd_ne (fun y => by
        rcases k with k | ⟨fs, k⟩
        · exact nf (by rw [← y, k]; exact List.mem_of_getElem? h2)
        · rw [y, e, k] at z; exact n3 fs (Option.some.inj z))]; exact z, b.sto.im⟩, tabs_write b.tab e n1 n2⟩
theorem Gro.write {fp fp1 : List Addr} {G H G1 H1 : Hp} {p : Addr} {o' : HO} (g : Gro fp G H fp1 G1 H1) (n0 : H p = none) : Gro fp G H fp1 G1 (L2.upd H1 p o') :=
  ⟨g.pre, g.same, fun b o h1 h2 h3 => by rw [upd_ne (ne_of_none h2 n0)]; exact g.keep b o h1 h2 h3, fun b h => by
    by_cases z : b = p
    · subst z; rw [upd_same]; exact fun w => nomatch w
    · rw [upd_ne z]; exact g.ex b h, g.new, g.nfp⟩
end
section
variable {X : Cx} {T : List (Addr × Str)} {E : L2.St → XK}
theorem noErr_ok {α : Type} {r : Res α} {a : α} {τ : Sto} (h : noErr r = .ok a τ) : r = .ok a τ := by
  cases r <;> first | exact h | cases h
/-- a comprehension's reading -/
theorem comp_reads {t : Tgt} {f : XI} {c : XB} {e : XD} {own : List (Str × Nat)} (hsl : ∀ i ∈ t.slots, i ∈ own.map (·.2)) (σ : L2.St) (H0 : Hp) (Q : VK) (w : tO X.K X.mg T E (xComp (own.map (·.2)) t f c e) σ H0 Q) :
    tLc (tI X.K X.mg T E t f) (gT X.K t) (tT X.K X.mg T E0' c) (tD X.K X.mg T E0' e) (own.map (·.2)) σ H0 Q := by
  obtain ⟨fp0, G0, ρ, τ0, b0, e0, w⟩ := w
  refine ⟨fp0, G0, ρ, τ0, b0, e0, ?_⟩
  have w2 := AfterO.bind (R := fun fp G ds J => WalkD X.K t fp G J ds) (β := It) w
  refine w2.bindE (γ := Dv) fun J H1 w3 => ?_
  clear w w2
  obtain ⟨fp1, G1, τ1, ds, g1, b1, wk, w3⟩ := w3
  intro D hD
  by_cases hb : big ds.length = true
  · rw [if_pos hb] at w3
    generalize htot : (compL (own.map (·.2)) t c e ρ ds τ1).bind (fun vs τ2 => Res.ok (Dv.lst vs) τ2) = tot at w3
    obtain ⟨Y, W, hY⟩ := wk
    have eρ := e0.mono g1.same g1.pre
    let Pv : Nat → Hp → Prop := fun i H => ∃ fp G τ acc accV, Base X.K X.mg T fp G τ H ∧ Gro fp1 G1 H1 fp G H ∧ EnvR X.K fp G (wipeD ρ (own.map (·.2))) (wipe σ (own.map (·.2))) ∧ H D = some (.lst accV) ∧ RpL X.K fp G accV acc ∧ D ∉ fp ∧ G D = none ∧ acc.length ≤ i ∧
      tot = (compL (own.map (·.2)) t c e ρ (ds.drop i) τ).bind fun out τ' => .ok (.lst (acc ++ out)) τ'
    have nD : G1 D = none := b1.sub.free hD
    have fD : D ∉ fp1 := fun z => b1.sto.there z hD
    refine lc_it W Pv ?_ (fun i H hi p => ?_) (fun i x H H' hi p y => ?_) (fun H p => ?_)
    · have gr := Grow.apart b1.sub hD (o := .lst [])
      exact ⟨fp1, G1, τ1, [], [], b1.grow gr, gr.gro, (wipe_env eρ _), upd_same, .nil, fD, nD, Nat.zero_le _, by rw [List.drop_zero, ← htot]; rfl⟩
    · obtain ⟨fp, G, τ, acc, accV, b, g, _⟩ := p
      exact g.same.trans b.sub
    · obtain ⟨fp, G, τ, acc, accV, b, g, er, hDl, ra, fD', nD', hl, etot⟩ := p
      obtain ⟨F', d, gr, hd, rg⟩ := hY i G H x H' hi g.same b.sub y
      have hdrop : ds.drop i = d :: ds.drop (i + 1) := by
        obtain ⟨h1, h2⟩ := List.getElem?_eq_some_iff.mp hd
        rw [← h2, List.getElem_cons_drop]
      rw [hdrop, compL] at etot
      cases hts : tset t d with
      | none =>
        rw [hts] at etot
        rw [etot] at w3
        exact w3.elim
      | some l =>
        rw [hts] at etot
        simp only at etot
        have b' := b.grow gr
        have g' := g.trans gr.gro
        have rg' : RpG X.K fp F' t x d := by
          cases t with
          | nm j => exact (show Rp X.K fp1 F' x d from rg).mono (Same.refl _) g.pre
          | tp ts =>
            obtain ⟨a, xs, es, h1, h2, h3, h4⟩ := rg
            exact ⟨a, xs, es, h1, h2, h3.mono (Same.refl _) g.pre, h4⟩
        refine ⟨fp, F', d, l, b'.sub, rg', hts, fun σ2 u2 => ⟨?_, ?_⟩⟩
        · rw [wipe_upd u2 (fun j hj => hsl j (by rw [← tset_slots hts]; exact hj)), wipe_wipe]
        · have er2 := (er.mono gr.same (List.prefix_refl _)).mono (Same.refl F') (List.prefix_refl fp)
          have eu := u2.envR er2
          refine ⟨fp, F', putsD (wipeD ρ (own.map (·.2))) l, τ, b', eu, ?_⟩
          cases qc : c (putsD (wipeD ρ (own.map (·.2))) l) τ with
          | bad => rw [qc] at etot; rw [etot] at w3; exact w3.elim
          | err er τ' => rw [qc] at etot; rw [etot] at w3; exact w3.elim
          | ok bb τ2 =>
            rw [qc] at etot
            intro bb' fp2 G2 H2 g2 b2 ebb
            subst ebb
            have keepD : ∀ {fpx Gx Hx fpy Gy Hy}, Gro fpx Gx Hx fpy Gy Hy → D ∉ fpx → Hx D = some (.lst accV) → Hy D = some (.lst accV) := fun g n h => g.keep D _ n h (fun _ z => nomatch z)
            have D' : H' D = some (.lst accV) := gr.sameH _ _ hDl
            have D2 := keepD g2 fD' D'
            have f2 : D ∉ fp2 := fun z => by
              have := g2.nfp D z fD'
              rw [D'] at this; cases this
            have n2 : G2 D = none := g2.new D (by rw [D']; exact fun z => nomatch z) (gr.new D (by rw [hDl]; exact fun z => nomatch z) nD')
            cases bb' with
            | false =>
              rw [if_neg Bool.false_ne_true]
              simp only [noErr, ok_bind, Bool.false_eq_true, if_false] at etot
              exact ⟨fp2, G2, τ2, acc, accV, b2, g'.trans g2, (er2.mono g2.same g2.pre), D2, (ra.mono gr.same (List.prefix_refl _)).mono g2.same g2.pre, f2, n2, Nat.le_succ_of_le hl, etot⟩
            | true =>
              rw [if_pos rfl]
              simp only [noErr, ok_bind, if_true] at etot
              refine ⟨fp2, G2, putsD (wipeD ρ (own.map (·.2))) l, τ2, b2, eu.mono g2.same g2.pre, ?_⟩
              cases qe : e (putsD (wipeD ρ (own.map (·.2))) l) τ2 with
              | bad => rw [qe] at etot; rw [etot] at w3; exact w3.elim
              | err er τ' => rw [qe] at etot; rw [etot] at w3; exact w3.elim
              | ok v τ3 =>
                rw [qe] at etot
                intro y fp3 G3 H3 g3 b3 ry
                have D3 := keepD g3 f2 D2
                have f3 : D ∉ fp3 := fun z => by
                  have := g3.nfp D z f2
                  rw [D2] at this; cases this
                have n3 : G3 D = none := g3.new D (by rw [D2]; exact fun z => nomatch z) n2
                have ra3 := ((ra.mono gr.same (List.prefix_refl _)).mono g2.same g2.pre).mono g3.same g3.pre
                refine ⟨accV, D3, ?_, fp3, G3, τ3, acc ++ [v], accV ++ [y], b3.write D3 n3 f3 (fun _ z => nomatch z) (fun _ z => nomatch z) (fun _ z => nomatch z), ((g'.trans g2).trans g3).write hD, (er2.mono g2.same g2.pre).mono g3.same g3.pre, upd_same, ra3.append (.cons ry .nil), f3, n3, ?_, ?_⟩
                · rw [ra.length]
                  have := big_le hb
                  omega
                · rw [List.length_append, List.length_singleton]
                  omega
                · rw [etot]
                  simp only [noErr, ok_bind, bind_assoc, List.append_assoc, List.singleton_append]
    · obtain ⟨fp, G, τ, acc, accV, b, g, er, hDl, ra, fD', nD', hl, etot⟩ := p
      rw [List.drop_length, compL, ok_bind, List.append_nil] at etot
      rw [etot] at w3
      exact w3 D fp G H g b hD fD' nD' ⟨accV, hDl, ra⟩
  · rw [if_neg hb] at w3
    exact w3.elim
theorem po_comp {elt tg iter : Expr} {ifs : List Expr} {scope : Scope} {own : List (Str × Nat)} {pos : Pos} {t : Tgt} {f : XI} {c : XB} {e : XD} (hc : X.calm = true) (hN : X.N.Nodup) (hi : PID X T E t tg iter f) (ok : BlkOk X.N X.env.scope scope own)
    (hg : ∀ (s : Shared) (H : Hp) (C : Addr) (cl : List (Str × Addr)) (fp : List Addr), PG (X.blk s H scope (compEnvC scope cl C X.env) fp) tg (gT X.K t))
    (ht : ∀ (s : Shared) (H : Hp) (C : Addr) (cl : List (Str × Addr)) (fp : List Addr), PBs (X.blk s H scope (compEnvC scope cl C X.env) fp) T E0' ifs c)
    (he : ∀ (s : Shared) (H : Hp) (C : Addr) (cl : List (Str × Addr)) (fp : List Addr), PD (X.blk s H scope (compEnvC scope cl C X.env) fp) T E0' elt e)
    (hsl : ∀ i ∈ t.slots, i ∈ own.map (·.2)) (hs : ∀ x, foldedSetIterable iter X.env x = pure x := by intro _; rfl) :
    PO X T E (.ListComp elt [⟨tg, iter, ifs, 0⟩] scope pos) (xComp (own.map (·.2)) t f c e) :=
  PE_imp (pe_lc (tt := tT X.K X.mg T E0' c) (te := tD X.K X.mg T E0' e) hc hN hi ok hg ht he hs) (comp_reads hsl)
end
end Mv
end
section
set_option Elab.async false
set_option linter.all false
set_option maxRecDepth 100000
namespace Mv
open PySem PySem.Spec PyProof.Rows L2

/-! ### statements: names hold what is shared, or a list or dict of their own -/
inductive Sl where
  | im (d : Dv)
  | own (d : Dv)
abbrev EnvS := List (Option Sl)
def hide1 : Option Sl → Option Dv
  | some (.im d) => some d
  | _ => none
def show1 : Option Sl → Option Dv
  | some (.im d) => some d
  | some (.own d) => some d
  | none => none
def hideS (ρ : EnvS) : EnvD := ρ.map hide1
def showS (ρ : EnvS) : EnvD := ρ.map show1
inductive SR where
  | nx (ρ : EnvS) (τ : Sto)
  | rt (d : Dv) (τ : Sto)
  | bk (ρ : EnvS) (τ : Sto)
  | ct (ρ : EnvS) (τ : Sto)
  | er (e : Er) (ρ : EnvS) (τ : Sto)
  | bad
abbrev XS := EnvS → Sto → SR
def OwnA (ρ : EnvS) (σ : L2.St) (a : Addr) : Prop := ∃ (i : Nat) (d : Dv), ρ[i]? = some (some (.own d)) ∧ σ[i]? = some (some (.ref a))
structure SS (K : PySem.W.Frag) (mg : Str → Option Value) (T : List (Addr × Str)) (fp0 : List Addr) (G0 H0 : Hp) (fp : List Addr) (F : Hp) (ρ : EnvS) (τ : Sto) (σ : L2.St) (H : Hp) : Prop where
  gro : Gro fp0 G0 H0 fp F H
  base : Base K mg T fp F τ H
  env : EnvR K fp F (hideS ρ) σ
  own : ∀ (i : Nat) (d : Dv), ρ[i]? = some (some (.own d)) → ∃ p, σ[i]? = some (some (.ref p)) ∧ p ∉ fp ∧ F p = none ∧ H0 p = none ∧ OwR K fp F H p d
  dist : ∀ (i j : Nat) (d e : Dv) (p : Addr), ρ[i]? = some (some (.own d)) → ρ[j]? = some (some (.own e)) → σ[i]? = some (some (.ref p)) → σ[j]? = some (some (.ref p)) → i = j
section
variable {K : PySem.W.Frag} {mg : Str → Option Value} {T : List (Addr × Str)} {fp0 fp : List Addr} {G0 H0 F H : Hp} {ρ : EnvS} {τ : Sto} {σ : L2.St}
theorem hide_get (i : Nat) : (hideS ρ)[i]? = (ρ[i]?).map hide1 := by unfold hideS; rw [List.getElem?_map]
theorem show_get (i : Nat) : (showS ρ)[i]? = (ρ[i]?).map show1 := by unfold showS; rw [List.getElem?_map]
theorem OwR.there {K : PySem.W.Frag} {fp : List Addr} {G H : Hp} {p : Addr} {d : Dv} (o : OwR K fp G H p d) : ∃ u, H p = some u ∧ (∀ ps, u ≠ .tbl ps) ∧ (∀ φ, u ≠ .ext φ) ∧ ∀ ob w, u ≠ .frz ob w := by
  cases d with
  | lst ds => obtain ⟨vs, e, _⟩ := o; exact ⟨_, e, fun _ z => (nomatch z), fun _ z => (nomatch z), fun _ _ z => (nomatch z)⟩
  | dct ks vs => obtain ⟨kvs, e, _⟩ := o; exact ⟨_, e, fun _ z => (nomatch z), fun _ z => (nomatch z), fun _ _ z => (nomatch z)⟩
  | _ => exact False.elim o
theorem OwR.noXd {K : PySem.W.Frag} {fp : List Addr} {G H : Hp} {p : Addr} {d : Dv} (o : OwR K fp G H p d) {u : HO} (hu : H p = some u) : ∀ fs, u ≠ .xd fs := by
  cases d with
  | lst ds => obtain ⟨vs, e, _⟩ := o; rw [e] at hu; cases hu; exact fun _ z => (nomatch z)
  | dct ks vs => obtain ⟨kvs, e, _⟩ := o; rw [e] at hu; cases hu; exact fun _ z => (nomatch z)
  | _ => exact False.elim o
theorem OwR.mono {K : PySem.W.Frag} {fp fp' : List Addr} {G G' H H' : Hp} {p : Addr} {d : Dv} (o : OwR K fp G H p d) (s : Same G G') (pr : fp <+: fp') (e : ∀ u, H p = some u → (∀ ps, u ≠ .tbl ps) → H' p = some u) : OwR K fp' G' H' p d := by
  cases d with
  | lst ds => obtain ⟨vs, e1, r⟩ := o; exact ⟨vs, e _ e1 (fun _ z => (nomatch z)), r.mono s pr⟩
  | dct ks vs => obtain ⟨kvs, e1, n, e2, r⟩ := o; exact ⟨kvs, e _ e1 (fun _ z => (nomatch z)), n, e2, r.mono s pr⟩
  | _ => exact False.elim o
theorem OwR.rp {K : PySem.W.Frag} {fp : List Addr} {G G' H : Hp} {p : Addr} {d : Dv} (o : OwR K fp G H p d) (s : Same G G') (e : ∀ u, H p = some u → G' p = some u) : Rp K fp G' (.ref p) d := by
  cases d with
  | lst ds => obtain ⟨vs, e1, r⟩ := o; exact .lst (e _ e1) (r.mono s (List.prefix_refl _))
  | dct ks vs => obtain ⟨kvs, e1, n, rfl, r⟩ := o; exact .dct (e _ e1) n (r.mono s (List.prefix_refl _))
  | _ => exact False.elim o
open Classical in
/-- all names as data: what they own counts as held -/
theorem SS.shown (S : SS K mg T fp0 G0 H0 fp F ρ τ σ H) : ∃ G, Base K mg T fp G τ H ∧ EnvR K fp G (showS ρ) σ ∧ Same F G ∧ Gro fp0 G0 H0 fp G H ∧ ∀ a, G a = if OwnA ρ σ a then H a else F a := by
  have ow : ∀ a, OwnA ρ σ a → a ∉ fp ∧ F a = none ∧ H0 a = none ∧ ∃ u, H a = some u ∧ (∀ ps, u ≠ .tbl ps) := fun a ⟨i, d, h1, h2⟩ => by
    obtain ⟨p, e1, e2, e3, e4, e5⟩ := S.own i d h1
    rw [h2] at e1
    cases e1
    obtain ⟨u, q1, q2, _⟩ := e5.there
    exact ⟨e2, e3, e4, u, q1, q2⟩
  have sG : Same F (fun a => if OwnA ρ σ a then H a else F a) := fun a o e => by
    by_cases z : OwnA ρ σ a
    · rw [(ow a z).2.1] at e; cases e
    · show (if OwnA ρ σ a then H a else F a) = _; rw [if_neg z]; exact e
  refine ⟨fun a => if OwnA ρ σ a then H a else F a, ⟨fun a o e => ?_, fun a ps e => ?_, ⟨S.base.sto.len, S.base.sto.nd, fun b hb => ?_, fun n o a h1 h2 => (S.base.sto.at_ n o a h1 h2).mono sG (List.prefix_refl _) (fun _ _ _ z => z), S.base.sto.im⟩, S.base.tab⟩, ⟨by rw [← S.env.len]; simp [showS, hideS], fun i d h => ?_⟩, sG, ⟨S.gro.pre, S.gro.same.trans sG, S.gro.keep, S.gro.ex, fun b h1 h2 => ?_, S.gro.nfp⟩, fun _ => rfl⟩
  · by_cases z : OwnA ρ σ a
    · have e : (if OwnA ρ σ a then H a else F a) = some o := e
      rw [if_pos z] at e; exact e
    · have e : (if OwnA ρ σ a then H a else F a) = some o := e
      rw [if_neg z] at e; exact S.base.sub _ _ e
  · have e : (if OwnA ρ σ a then H a else F a) = some (.tbl ps) := e
    by_cases z : OwnA ρ σ a
    · rw [if_pos z] at e
      obtain ⟨_, _, _, u, q1, q2⟩ := ow a z
      rw [q1] at e
      exact q2 ps (Option.some.inj e)
    · rw [if_neg z] at e; exact S.base.nt _ _ e
  · show (if OwnA ρ σ b then H b else F b) = none
    by_cases z : OwnA ρ σ b
    · exact absurd hb (ow b z).1
    · rw [if_neg z]; exact S.base.sto.out b hb
  · rw [show_get] at h
    cases q : ρ[i]? with
    | none => rw [q] at h; cases h
    | some o =>
      rw [q] at h
      cases o with
      | none => cases h
      | some s =>
        cases s with
        | im d' =>
          cases h
          obtain ⟨v, e1, r⟩ := S.env.at_ i d (by rw [hide_get, q]; rfl)
          exact ⟨v, e1, r.mono sG (List.prefix_refl _)⟩
        | own d' =>
          cases h
          obtain ⟨p, e1, e2, e3, e4, e5⟩ := S.own i d q
          refine ⟨.ref p, e1, e5.rp sG fun u hu => ?_⟩
          show (if OwnA ρ σ p then H p else F p) = _
          rw [if_pos ⟨i, d, q, e1⟩]; exact hu
  · show (if OwnA ρ σ b then H b else F b) = none
    by_cases z : OwnA ρ σ b
    · exact absurd (ow b z).2.2.1 h1
    · rw [if_neg z]; exact S.gro.new b h1 h2
theorem So.imm_tups {G G' H : Hp} {a : Addr} {o : So} (h : SoR K mg fp G H a o) (im : o.imm = true) (t : Tups G G') : SoR K mg fp G' H a o := by
  cases o with
  | lst ds => obtain ⟨vs, e, r⟩ := h; exact ⟨vs, e, r.imm t (List.prefix_refl _) im⟩
  | dct ks vs => obtain ⟨kvs, e, n, e2, r⟩ := h; exact ⟨kvs, e, n, e2, r.imm t (List.prefix_refl _) im⟩
  | ins C fs => obtain ⟨c, dx, gs, e1, e2, e3, r⟩ := h; exact ⟨c, dx, gs, e1, e2, e3, r.imm t (List.prefix_refl _) im⟩
  | exc n x =>
    cases x with
    | none => exact h
    | some x => obtain ⟨C, dx, v, e1, e2, e3, r⟩ := h; exact ⟨C, dx, v, e1, e2, e3, r.imm t (List.prefix_refl _) im⟩
open Classical in
/-- behind an expression over all names -/
theorem SS.back {G G' H' : Hp} {fp' : List Addr} {τ' : Sto} (S : SS K mg T fp0 G0 H0 fp F ρ τ σ H) (sF : Same F G) (gG : Gro fp0 G0 H0 fp G H) (g : Gro fp G H fp' G' H') (b : Base K mg T fp' G' τ' H') :
    ∃ F', SS K mg T fp0 G0 H0 fp' F' ρ τ' σ H' ∧ Tups G' F' ∧ Same F F' ∧ (∀ a, G' a = none → F' a = none) ∧ ∀ a, OwnA ρ σ a → F' a = none := by
  have ow : ∀ a, OwnA ρ σ a → a ∉ fp ∧ F a = none ∧ H0 a = none ∧ ∃ u, H a = some u ∧ (∀ ps, u ≠ .tbl ps) ∧ (∀ φ, u ≠ .ext φ) ∧ ∀ ob w, u ≠ .frz ob w := fun a ⟨i, d, h1, h2⟩ => by
    obtain ⟨p, e1, e2, e3, e4, e5⟩ := S.own i d h1
    rw [h2] at e1
    cases e1
    exact ⟨e2, e3, e4, e5.there⟩
  have tp : Tups G' (fun a => if OwnA ρ σ a then none else G' a) := fun a o xs e => by
    show (if OwnA ρ σ a then none else G' a) = _
    by_cases z : OwnA ρ σ a
    · obtain ⟨nf, _, _, u, q1, q2, _, q3⟩ := ow a z
      have := g.keep a u nf q1 q2
      rw [b.sub _ _ e] at this
      exact absurd (Option.some.inj this).symm (q3 o _)
    · rw [if_neg z]; exact e
  have sFF : Same F (fun a => if OwnA ρ σ a then none else G' a) := fun a o e => by
    show (if OwnA ρ σ a then none else G' a) = _
    by_cases z : OwnA ρ σ a
    · rw [(ow a z).2.1] at e; cases e
    · rw [if_neg z]; exact g.same _ _ (sF _ _ e)
  have gg := gG.trans g
  have low : ∀ a o, (if OwnA ρ σ a then none else G' a) = some o → G' a = some o := fun a o e => by
    by_cases z : OwnA ρ σ a
    · rw [if_pos z] at e; cases e
    · rw [if_neg z] at e; exact e
  refine ⟨fun a => if OwnA ρ σ a then none else G' a, ⟨⟨gg.pre, S.gro.same.trans sFF, gg.keep, gg.ex, fun c h1 h2 => ?_, gg.nfp⟩, ⟨fun a o e => b.sub _ _ (low a o e), fun a ps e => b.nt a ps (low a _ e), ⟨b.sto.len, b.sto.nd, fun c hc => ?_, fun n o a h1 h2 => So.imm_tups (b.sto.at_ n o a h1 h2) (b.sto.im o (List.mem_of_getElem? h1)) tp, b.sto.im⟩, b.tab⟩, S.env.mono sFF g.pre, fun i d h => ?_, S.dist⟩, tp, sFF, fun a e => ?_, fun a z => ?_⟩
  · show (if OwnA ρ σ c then none else G' c) = none
    split
    · rfl
    · exact gg.new c h1 h2
  · show (if OwnA ρ σ c then none else G' c) = none
    split
    · rfl
    · exact b.sto.out c hc
  · obtain ⟨p, e1, e2, e3, e4, e5⟩ := S.own i d h
    obtain ⟨u, q1, q2, _⟩ := e5.there
    refine ⟨p, e1, fun z => ?_, ?_, e4, e5.mono sFF g.pre fun u hu nt => g.keep p u e2 hu nt⟩
    · rw [g.nfp p z e2] at q1; cases q1
    · show (if OwnA ρ σ p then none else G' p) = none
      rw [if_pos ⟨i, d, h, e1⟩]
  · show (if OwnA ρ σ a then none else G' a) = none
    split
    · rfl
    · exact e
  · show (if OwnA ρ σ a then none else G' a) = none
    rw [if_pos z]
/-- behind an expression that doesn't look at what names own -/
theorem SS.backH {G' H' : Hp} {fp' : List Addr} {τ' : Sto} (S : SS K mg T fp0 G0 H0 fp F ρ τ σ H) (g : Gro fp F H fp' G' H') (b : Base K mg T fp' G' τ' H') : SS K mg T fp0 G0 H0 fp' G' ρ τ' σ H' :=
  ⟨S.gro.trans g, b, S.env.mono g.same g.pre, (fun i d h => by
    obtain ⟨p, e1, e2, e3, e4, e5⟩ := S.own i d h
    obtain ⟨u, q1, q2, _⟩ := e5.there
    refine ⟨p, e1, fun z => ?_, g.new p (by rw [q1]; exact fun z => nomatch z) e3, e4, e5.mono g.same g.pre fun u hu nt => g.keep p u e2 hu nt⟩
    rw [g.nfp p z e2] at q1
    cases q1), S.dist⟩
/-- a name is stored: what is shared -/
theorem SS.set (S : SS K mg T fp0 G0 H0 fp F ρ τ σ H) {i : Nat} {v : V} {d : Dv} (r : Rp K fp F v d) : SS K mg T fp0 G0 H0 fp F (ρ.set i (some (.im d))) τ (σ.set i (some v)) H := by
  have old : ∀ {j : Nat} {x : Sl}, j ≠ i → (ρ.set i (some (.im d)))[j]? = some (some x) → ρ[j]? = some (some x) := fun {j x} hj h => by
    rw [List.getElem?_set_ne (Ne.symm hj)] at h; exact h
  have noI : ∀ {e : Dv}, (ρ.set i (some (.im d)))[i]? ≠ some (some (.own e)) := fun {e} h => by
    by_cases hl : i < ρ.length
    · rw [List.getElem?_set_self hl] at h; cases h
    · rw [List.getElem?_eq_none (by simpa using hl)] at h; cases h
  refine ⟨S.gro, S.base, ⟨by simpa [hideS] using S.env.len, fun j e h => ?_⟩, fun j e h => ?_, fun j k e1 e2 p h1 h2 h3 h4 => ?_⟩
  · rw [hide_get] at h
    have len := S.env.len
    rw [show (hideS ρ).length = ρ.length by simp [hideS]] at len
    by_cases hj : j = i
    · subst hj
      by_cases hl : j < ρ.length
      · rw [List.getElem?_set_self hl] at h
        cases h
        exact ⟨v, by rw [List.getElem?_set_self (by omega)], r⟩
      · rw [List.getElem?_eq_none (by simpa using hl)] at h; cases h
    · rw [List.getElem?_set_ne (Ne.symm hj)] at h ⊢
      exact S.env.at_ j e (by rw [hide_get]; exact h)
  · have hj : j ≠ i := fun z => by subst z; exact noI h
    obtain ⟨p, q1, q2⟩ := S.own j e (old hj h)
    exact ⟨p, by rw [List.getElem?_set_ne (Ne.symm hj)]; exact q1, q2⟩
  · have hj : j ≠ i := fun z => by subst z; exact noI h1
    have hk : k ≠ i := fun z => by subst z; exact noI h2
    rw [List.getElem?_set_ne (Ne.symm hj)] at h3
    rw [List.getElem?_set_ne (Ne.symm hk)] at h4
    exact S.dist j k e1 e2 p (old hj h1) (old hk h2) h3 h4
/-- .. a list or a dict of its own -/
theorem SS.setO (S : SS K mg T fp0 G0 H0 fp F ρ τ σ H) {i : Nat} {p : Addr} {d : Dv} (nf : p ∉ fp) (n : F p = none) (n0 : H0 p = none) (no : ¬ ∃ j, j ≠ i ∧ ∃ d, ρ[j]? = some (some (.own d)) ∧ σ[j]? = some (some (.ref p))) (o : OwR K fp F H p d) : SS K mg T fp0 G0 H0 fp F (ρ.set i (some (.own d))) τ (σ.set i (some (.ref p))) H := by
  have old : ∀ {j : Nat} {x : Sl}, j ≠ i → (ρ.set i (some (.own d)))[j]? = some (some x) → ρ[j]? = some (some x) := fun {j x} hj h => by
    rw [List.getElem?_set_ne (Ne.symm hj)] at h; exact h
  have len := S.env.len
  rw [show (hideS ρ).length = ρ.length by simp [hideS]] at len
  have atI : ∀ {x : Sl}, (ρ.set i (some (.own d)))[i]? = some (some x) → x = .own d ∧ i < σ.length := fun {x} h => by
    by_cases hl : i < ρ.length
    · rw [List.getElem?_set_self hl] at h; cases h; exact ⟨rfl, by omega⟩
    · rw [List.getElem?_eq_none (by simpa using hl)] at h; cases h
  refine ⟨S.gro, S.base, ⟨by simpa [hideS] using S.env.len, fun j e h => ?_⟩, fun j e h => ?_, fun j k e1 e2 q h1 h2 h3 h4 => ?_⟩
  · rw [hide_get] at h
    by_cases hj : j = i
    · subst hj
      cases q : (ρ.set j (some (.own d)))[j]? with
      | none => rw [q] at h; cases h
      | some x =>
        rw [q] at h
        cases x with
        | none => cases h
        | some x =>
          obtain ⟨rfl, _⟩ := atI q
          cases h
    · rw [List.getElem?_set_ne (Ne.symm hj)] at h ⊢
      exact S.env.at_ j e (by rw [hide_get]; exact h)
  · by_cases hj : j = i
    · subst hj
      obtain ⟨z, hl⟩ := atI h
      cases z
      exact ⟨p, by rw [List.getElem?_set_self hl], nf, n, n0, o⟩
    · obtain ⟨p', q1, q2⟩ := S.own j e (old hj h)
      exact ⟨p', by rw [List.getElem?_set_ne (Ne.symm hj)]; exact q1, q2⟩
  · by_cases hj : j = i
    · by_cases hk : k = i
      · rw [hj, hk]
      · subst hj
        obtain ⟨_, hl⟩ := atI h1
        rw [List.getElem?_set_self hl] at h3
        cases h3
        rw [List.getElem?_set_ne (Ne.symm hk)] at h4
        exact absurd ⟨k, hk, e2, old hk h2, h4⟩ no
    · by_cases hk : k = i
      · subst hk
        obtain ⟨_, hl⟩ := atI h2
        rw [List.getElem?_set_self hl] at h4
        cases h4
        rw [List.getElem?_set_ne (Ne.symm hj)] at h3
        exact absurd ⟨j, hj, e1, old hj h1, h3⟩ no
      · rw [List.getElem?_set_ne (Ne.symm hj)] at h3
        rw [List.getElem?_set_ne (Ne.symm hk)] at h4
        exact S.dist j k e1 e2 q (old hj h1) (old hk h2) h3 h4
/-- what a name owns is changed -/
theorem SS.mut (S : SS K mg T fp0 G0 H0 fp F ρ τ σ H) {i : Nat} {p : Addr} {d d' : Dv} {o' : HO} (hi : ρ[i]? = some (some (.own d))) (hp : σ[i]? = some (some (.ref p))) (o : OwR K fp F (L2.upd H p o') p d') : SS K mg T fp0 G0 H0 fp F (ρ.set i (some (.own d'))) τ σ (L2.upd H p o') := by
  obtain ⟨p1, e1, e2, e3, e4, e5⟩ := S.own i d hi
  rw [hp] at e1
  cases e1
  obtain ⟨u, q1, q2, q3, _⟩ := e5.there
  have hil : i < ρ.length := (List.getElem?_eq_some_iff.mp hi).1
  have S2 : SS K mg T fp0 G0 H0 fp F (ρ.set i none) τ σ (L2.upd H p o') := by
    have old : ∀ {j : Nat} {x : Sl}, (ρ.set i none)[j]? = some (some x) → j ≠ i ∧ ρ[j]? = some (some x) := fun {j x} h => by
      by_cases hj : j = i
      · subst hj; rw [List.getElem?_set_self hil] at h; cases h
      · rw [List.getElem?_set_ne (Ne.symm hj)] at h; exact ⟨hj, h⟩
    refine ⟨S.gro.write e4, S.base.write q1 e3 e2 q2 q3 (e5.noXd q1), ⟨by simpa [hideS] using S.env.len, fun j e h => ?_⟩, fun j e h => ?_, fun j k a b q h1 h2 h3 h4 => S.dist j k a b q (old h1).2 (old h2).2 h3 h4⟩
    · rw [hide_get] at h
      cases q : (ρ.set i none)[j]? with
      | none => rw [q] at h; cases h
      | some x =>
        rw [q] at h
        cases x with
        | none => cases h
        | some x => exact S.env.at_ j e (by rw [hide_get, (old q).2]; exact h)
    · obtain ⟨hj, h⟩ := old h
      obtain ⟨p', w1, w2, w3, w4, w5⟩ := S.own j e h
      refine ⟨p', w1, w2, w3, w4, w5.mono (Same.refl _) (List.prefix_refl _) fun u hu _ => ?_⟩
      rw [upd_ne (fun z => hj (S.dist j i e d p h hi (by rw [w1, z]) hp))]; exact hu
  have hσ : σ.set i (some (.ref p)) = σ := by
    refine List.ext_getElem? fun j => ?_
    by_cases hj : j = i
    · subst hj
      rw [List.getElem?_set_self (List.getElem?_eq_some_iff.mp hp).1, hp]
    · rw [List.getElem?_set_ne (Ne.symm hj)]
  have := S2.setO (i := i) (p := p) (d := d') e2 e3 e4 (fun ⟨j, hj, e, h1, h2⟩ => by
    rw [List.getElem?_set_ne (Ne.symm hj)] at h1
    exact hj (S.dist j i e d p h1 hi h2 hp)) o
  rw [hσ, List.set_set] at this
  exact this
/-- what a name owns is shared from now on -/
def frzS (i : Nat) (ρ : EnvS) : EnvS := match ρ[i]? with
  | some (some (.own d)) => ρ.set i (some (.im d))
  | _ => ρ
theorem SS.frz (S : SS K mg T fp0 G0 H0 fp F ρ τ σ H) (i : Nat) : ∃ F', SS K mg T fp0 G0 H0 fp F' (frzS i ρ) τ σ H ∧ Same F F' := by
  unfold frzS
  split
  · rename_i d hi
    obtain ⟨p, e1, e2, e3, e4, e5⟩ := S.own i d hi
    obtain ⟨u, q1, q2, q3, _⟩ := e5.there
    have s1 : Same F (L2.upd F p u) := fun c o e => by rw [upd_ne (ne_of_none e e3)]; exact e
    have hil : i < ρ.length := (List.getElem?_eq_some_iff.mp hi).1
    refine ⟨L2.upd F p u, ⟨⟨S.gro.pre, S.gro.same.trans s1, S.gro.keep, S.gro.ex, fun c h1 h2 => ?_, S.gro.nfp⟩, ⟨fun c o e => ?_, fun c ps e => ?_, ⟨S.base.sto.len, S.base.sto.nd, fun c hc => ?_, fun n o a h1 h2 => (S.base.sto.at_ n o a h1 h2).mono s1 (List.prefix_refl _) fun _ _ _ z => z, S.base.sto.im⟩, S.base.tab⟩, ⟨by simpa [hideS] using S.env.len, fun j e h => ?_⟩, fun j e h => ?_, fun j k a b q h1 h2 h3 h4 => ?_⟩, s1⟩
    · rw [upd_ne (fun z => h1 (by rw [z]; exact e4))]; exact S.gro.new c h1 h2
    · by_cases z : c = p
      · subst z; rw [upd_same] at e; cases e; exact q1
      · rw [upd_ne z] at e; exact S.base.sub _ _ e
    · by_cases z : c = p
      · subst z; rw [upd_same] at e; exact q2 ps (Option.some.inj e)
      · rw [upd_ne z] at e; exact S.base.nt _ _ e
    · rw [upd_ne (fun z => e2 (by rw [← z]; exact hc))]; exact S.base.sto.out c hc
    · rw [hide_get] at h
      by_cases hj : j = i
      · subst hj
        rw [List.getElem?_set_self hil] at h
        cases h
        exact ⟨.ref p, e1, e5.rp s1 fun w hw => by rw [upd_same, ← q1]; exact hw⟩
      · rw [List.getElem?_set_ne (Ne.symm hj)] at h
        obtain ⟨v, w1, w2⟩ := S.env.at_ j e (by rw [hide_get]; exact h)
        exact ⟨v, w1, w2.mono s1 (List.prefix_refl _)⟩
    · by_cases hj : j = i
      · subst hj; rw [List.getElem?_set_self hil] at h; cases h
      · rw [List.getElem?_set_ne (Ne.symm hj)] at h
        obtain ⟨p', w1, w2, w3, w4, w5⟩ := S.own j e h
        exact ⟨p', w1, w2, by rw [upd_ne (fun z => hj (S.dist j i e d p h hi (by rw [w1, z]) e1))]; exact w3, w4, w5.mono s1 (List.prefix_refl _) fun _ z _ => z⟩
    · have g : ∀ {j : Nat} {x : Dv}, (ρ.set i (some (.im d)))[j]? = some (some (.own x)) → ρ[j]? = some (some (.own x)) := fun {j x} h => by
        by_cases hj : j = i
        · subst hj; rw [List.getElem?_set_self hil] at h; cases h
        · rw [List.getElem?_set_ne (Ne.symm hj)] at h; exact h
      exact S.dist j k a b q (g h1) (g h2) h3 h4
  · exact ⟨F, S, Same.refl _⟩
end
end Mv
end
section
set_option Elab.async false
set_option linter.all false
set_option maxRecDepth 100000
namespace Mv
open PySem PySem.Spec PyProof.Rows L2

/-! ### statements by what they tell of data -/
section
variable (K : PySem.W.Frag) (mg : Str → Option Value) (T : List (Addr × Str)) (fp0 : List Addr) (G0 H0 : Hp)
def AfterS (E : L2.St → XK) (fp : List Addr) (F : Hp) (r : SR) (D : Ends) : Prop := match r with
  | .nx ρ τ => ∀ σ H fp' F', fp <+: fp' → Same F F' → SS K mg T fp0 G0 H0 fp' F' ρ τ σ H → D.nx σ H
  | .bk ρ τ => ∀ σ H fp' F', fp <+: fp' → Same F F' → SS K mg T fp0 G0 H0 fp' F' ρ τ σ H → D.bk σ H
  | .ct ρ τ => ∀ σ H fp' F', fp <+: fp' → Same F F' → SS K mg T fp0 G0 H0 fp' F' ρ τ σ H → D.ct σ H
  | .rt d τ => ∀ v H fp' G', Gro fp0 G0 H0 fp' G' H → Base K mg T fp' G' τ H → Rp K fp' G' v d → D.rt v H
  | .er e ρ τ => ∀ cls dx σ H fp' F', fp <+: fp' → Same F F' → SS K mg T fp0 G0 H0 fp' F' ρ τ σ H → ErrD K mg fp' F' H e cls dx → E σ cls dx H
  | .bad => False
def tS (E : L2.St → XK) (f : XS) : TS := fun D σ H => ∃ fp F ρ τ, SS K mg T fp0 G0 H0 fp F ρ τ σ H ∧ AfterS K mg T fp0 G0 H0 E fp F (f ρ τ) D
end
abbrev PSd (X : Cx) (T : List (Addr × Str)) (fp0 : List Addr) (G0 H0 : Hp) (E : L2.St → XK) (st : Stmt) (f : XS) : Prop := PS X st (tS X.K X.mg T fp0 G0 H0 E f)
abbrev PBd (X : Cx) (T : List (Addr × Str)) (fp0 : List Addr) (G0 H0 : Hp) (E : L2.St → XK) (st : List Stmt) (f : XS) : Prop := PSs X st (tS X.K X.mg T fp0 G0 H0 E f)
def immEr (e : Er) : Bool := match e.arg with
  | none => true
  | some d => d.imm
/-- an expression's error is the statement's -/
def erS (e : Er) (ρ : EnvS) (τ : Sto) : SR := if immEr e = true then .er e ρ τ else .bad
def bindS {α : Type} (r : Res α) (ρ : EnvS) (k : α → Sto → SR) : SR := match r with
  | .ok a τ => k a τ
  | .err e τ => erS e ρ τ
  | .bad => .bad
def sNil : XS := fun ρ τ => .nx ρ τ
def sCons (f g : XS) : XS := fun ρ τ => match f ρ τ with
  | .nx ρ1 τ1 => g ρ1 τ1
  | r => r
def sIf (c : XB) (f g : XS) : XS := fun ρ τ => bindS (c (showS ρ) τ) ρ fun b τ1 => if b = true then f ρ τ1 else g ρ τ1
def sRet (f : XD) : XS := fun ρ τ => bindS (f (showS ρ) τ) ρ fun d τ1 => .rt d τ1
def sRetN : XS := fun _ τ => .rt .non τ
def sExp (f : XD) : XS := fun ρ τ => bindS (f (showS ρ) τ) ρ fun _ τ1 => .nx ρ τ1
/-- name = e: e doesn't look at what names own; e's value can't be changed -/
def sSetH (i : Nat) (f : XD) : XS := fun ρ τ => bindS (f (hideS ρ) τ) ρ fun d τ1 => .nx (ρ.set i (some (.im d))) τ1
def sSet (i : Nat) (f : XD) : XS := fun ρ τ => bindS (f (showS ρ) τ) ρ fun d τ1 => if d.imm = true then .nx (ρ.set i (some (.im d))) τ1 else .bad
def ownOk : Dv → Bool
  | .lst ds => Dv.immL ds
  | .dct _ vs => Dv.immL vs
  | _ => false
/-- name = a new list or dict -/
def sSetO (i : Nat) (f : XD) : XS := fun ρ τ => bindS (f (showS ρ) τ) ρ fun d τ1 => if ownOk d = true then .nx (ρ.set i (some (.own d))) τ1 else .bad
def sSetOH (i : Nat) (f : XD) : XS := fun ρ τ => bindS (f (hideS ρ) τ) ρ fun d τ1 => .nx (ρ.set i (some (.own d))) τ1
def sFrz (i : Nat) (f : XS) : XS := fun ρ τ => f (frzS i ρ) τ
/-- x.append(e) -/
def appS (i : Nat) (d : Dv) (ρ : EnvS) (τ : Sto) : SR := match ρ[i]? with
  | some (some (.own (.lst ds))) => if big (ds.length + 1) = true then .nx (ρ.set i (some (.own (.lst (ds ++ [d]))))) τ else .bad
  | _ => .bad
def ownL (i : Nat) (ρ : EnvS) : Bool := match ρ[i]? with
  | some (some (.own (.lst _))) => true
  | _ => false
def sApp (i : Nat) (f : XD) : XS := fun ρ τ => if ownL i ρ = false then .bad else bindS (f (showS ρ) τ) ρ fun d τ1 => if d.imm = true then appS i d ρ τ1 else .bad
def sAppH (i : Nat) (f : XD) : XS := fun ρ τ => if ownL i ρ = false then .bad else bindS (f (hideS ρ) τ) ρ fun d τ1 => appS i d ρ τ1
/-- x.extend(a list) -/
def extS (i : Nat) (d : Dv) (ρ : EnvS) (τ : Sto) : SR := match ρ[i]?, d with
  | some (some (.own (.lst ds))), .lst es => if big (ds.length + es.length) = true then .nx (ρ.set i (some (.own (.lst (ds ++ es))))) τ else .bad
  | _, _ => .bad
def sExt (i : Nat) (f : XD) : XS := fun ρ τ => if ownL i ρ = false then .bad else bindS (f (showS ρ) τ) ρ fun d τ1 => match d with
  | .lst es => if Dv.immL es = true then extS i d ρ τ1 else .bad
  | _ => .bad
def sRaise (n : Str) : XS := fun ρ τ => .er ⟨n, none⟩ ρ τ
def putsS (ρ : EnvS) (l : List (Nat × Dv)) : EnvS := l.foldl (fun r p => r.set p.1 (some (.im p.2))) ρ
/-- a, b = e -/
def sUnpH (t : Tgt) (f : XD) : XS := fun ρ τ => bindS (f (hideS ρ) τ) ρ fun d τ1 => match tset t d with
  | some l => .nx (putsS ρ l) τ1
  | none => .bad
def sUnp (t : Tgt) (f : XD) : XS := fun ρ τ => bindS (f (showS ρ) τ) ρ fun d τ1 => if d.imm = true then match tset t d with
  | some l => .nx (putsS ρ l) τ1
  | none => .bad
  else .bad
def loopS (t : Tgt) (body : XS) : List Dv → EnvS → Sto → SR
  | [], ρ, τ => .nx ρ τ
  | d :: ds, ρ, τ => match tset t d with
    | none => .bad
    | some l => match body (putsS ρ l) τ with
      | .nx ρ1 τ1 => loopS t body ds ρ1 τ1
      | .ct ρ1 τ1 => loopS t body ds ρ1 τ1
      | .bk ρ1 τ1 => .nx ρ1 τ1
      | r => r
def sFor (t : Tgt) (it : XI) (body : XS) : XS := fun ρ τ => bindS (it (hideS ρ) τ) ρ fun ds τ1 => loopS t body ds ρ τ1
def whileS (c : XB) (body : XS) : Nat → EnvS → Sto → SR
  | 0, _, _ => .bad
  | n + 1, ρ, τ => bindS (c (showS ρ) τ) ρ fun b τ1 => if b = true then match body ρ τ1 with
      | .nx ρ1 τ2 => whileS c body n ρ1 τ2
      | .ct ρ1 τ2 => whileS c body n ρ1 τ2
      | .bk ρ1 τ2 => .nx ρ1 τ2
      | r => r
    else .nx ρ τ1
def sWhile (n : Nat) (c : XB) (body : XS) : XS := fun ρ τ => whileS c body n ρ τ
/-- a, b = e1, e2 -/
def sPar (i j : Nat) (f g : XD) : XS := fun ρ τ => bindS (f (showS ρ) τ) ρ fun d τ1 => bindS (g (showS ρ) τ1) ρ fun e τ2 => if d.imm && e.imm then .nx ((ρ.set i (some (.im d))).set j (some (.im e))) τ2 else .bad

section
variable {K : PySem.W.Frag} {mg : Str → Option Value} {T : List (Addr × Str)} {fp0 : List Addr} {G0 H0 : Hp} {E : L2.St → XK}
theorem AfterS.later {fp fp1 : List Addr} {F F1 : Hp} {r : SR} {D : Ends} (h : AfterS K mg T fp0 G0 H0 E fp F r D) (p : fp <+: fp1) (s : Same F F1) : AfterS K mg T fp0 G0 H0 E fp1 F1 r D := by
  cases r with
  | nx ρ τ => exact fun σ H fp' F' p' s' S => h σ H fp' F' (p.trans p') (s.trans s') S
  | bk ρ τ => exact fun σ H fp' F' p' s' S => h σ H fp' F' (p.trans p') (s.trans s') S
  | ct ρ τ => exact fun σ H fp' F' p' s' S => h σ H fp' F' (p.trans p') (s.trans s') S
  | rt d τ => exact h
  | er e ρ τ => exact fun cls dx σ H fp' F' p' s' S => h cls dx σ H fp' F' (p.trans p') (s.trans s') S
  | bad => exact h
/-- an error comes out of an expression over all names -/
theorem errD_tups {fp : List Addr} {G G' H : Hp} {e : Er} {cls : Value} {dx : Option Addr} (h : ErrD K mg fp G H e cls dx) (im : immEr e = true) (t : Tups G G') : ErrD K mg fp G' H e cls dx := by
  obtain ⟨n, a⟩ := e
  obtain ⟨h1, h2⟩ := h
  refine ⟨h1, ?_⟩
  cases a with
  | none => exact h2
  | some d =>
    obtain ⟨p, v, e1, e2, r⟩ := h2
    exact ⟨p, v, e1, e2, r.imm t (List.prefix_refl _) im⟩
/-- an expression over all names, then the rest -/
theorem SS.evalS {fp : List Addr} {F H : Hp} {ρ : EnvS} {τ : Sto} {σ : L2.St} {α β : Type} {R : List Addr → Hp → α → β → Prop} {r : Res α} {k : α → Sto → SR} {D : Ends} {Q : β → Hp → Prop} (S : SS K mg T fp0 G0 H0 fp F ρ τ σ H) (h : AfterS K mg T fp0 G0 H0 E fp F (bindS r ρ k) D)
    {G : Hp} (b : Base K mg T fp G τ H) (sF : Same F G) (gG : Gro fp0 G0 H0 fp G H)
    (w : ∀ d τ1 v fp1 F1 G1 H1, SS K mg T fp0 G0 H0 fp1 F1 ρ τ1 σ H1 → R fp1 G1 d v → Base K mg T fp1 G1 τ1 H1 → Gro fp0 G0 H0 fp1 G1 H1 → Tups G1 F1 → (∀ a, G1 a = none → F1 a = none) → Gro fp G H fp1 G1 H1 → fp <+: fp1 → Same F F1 → r = .ok d τ1 → AfterS K mg T fp0 G0 H0 E fp1 F1 (k d τ1) D → Q v H1) :
    AfterP K mg T R (E σ) fp G H r Q := by
  cases r with
  | ok d τ1 =>
    intro v fp1 G1 H1 g b1 q
    obtain ⟨F1, S1, tp, s1, low, _⟩ := S.back sF gG g b1
    exact w d τ1 v fp1 F1 G1 H1 S1 q b1 (gG.trans g) tp low g g.pre s1 rfl (AfterS.later (show AfterS K mg T fp0 G0 H0 E fp F (k d τ1) D from h) g.pre s1)
  | err e τ1 =>
    intro cls dx fp1 G1 H1 g b1 q
    obtain ⟨F1, S1, tp, s1, low, _⟩ := S.back sF gG g b1
    unfold bindS erS at h
    by_cases im : immEr e = true
    · simp only [if_pos im] at h
      exact h cls dx σ H1 fp1 F1 g.pre s1 S1 (errD_tups q im tp)
    · simp only [if_neg im] at h
      exact h.elim
  | bad => exact h
theorem SS.evalH {fp : List Addr} {F H : Hp} {ρ : EnvS} {τ : Sto} {σ : L2.St} {α β : Type} {R : List Addr → Hp → α → β → Prop} {r : Res α} {k : α → Sto → SR} {D : Ends} {Q : β → Hp → Prop} (S : SS K mg T fp0 G0 H0 fp F ρ τ σ H) (h : AfterS K mg T fp0 G0 H0 E fp F (bindS r ρ k) D)
    (w : ∀ d τ1 v fp1 F1 H1, SS K mg T fp0 G0 H0 fp1 F1 ρ τ1 σ H1 → R fp1 F1 d v → Gro fp F H fp1 F1 H1 → r = .ok d τ1 → AfterS K mg T fp0 G0 H0 E fp1 F1 (k d τ1) D → Q v H1) :
    AfterP K mg T R (E σ) fp F H r Q := by
  cases r with
  | ok d τ1 =>
    intro v fp1 G1 H1 g b1 q
    exact w d τ1 v fp1 G1 H1 (S.backH g b1) q g rfl (AfterS.later (show AfterS K mg T fp0 G0 H0 E fp F (k d τ1) D from h) g.pre g.same)
  | err e τ1 =>
    intro cls dx fp1 G1 H1 g b1 q
    unfold bindS erS at h
    by_cases im : immEr e = true
    · simp only [if_pos im] at h
      exact h cls dx σ H1 fp1 G1 g.pre g.same (S.backH g b1) q
    · simp only [if_neg im] at h
      exact h.elim
  | bad => exact h
theorem AfterP.toO {fp : List Addr} {G H : Hp} {E : XK} {r : Res Dv} {Q : VK} (h : AfterP K mg T (fun _ _ (_ : Dv) (_ : V) => True) E fp G H r (fun _ _ => True)) (w : ∀ d τ, r = .ok d τ → AfterO K mg T E fp G H (.ok d τ) Q) : AfterO K mg T E fp G H r Q := by
  cases r with
  | ok d τ => exact w d τ rfl
  | err e τ => exact h
  | bad => exact h
end
section
variable {X : Cx} {T : List (Addr × Str)} {fp0 : List Addr} {G0 H0 : Hp} {E : L2.St → XK}
theorem sd_nil : PBd X T fp0 G0 H0 E [] sNil := by
  refine PSs_imp pss_nil fun D σ H h => ?_
  obtain ⟨fp, F, ρ, τ, S, h⟩ := h
  exact h σ H fp F (List.prefix_refl _) (Same.refl _) S
theorem sd_cons {st : Stmt} {rest : List Stmt} {f g : XS} (h1 : PSd X T fp0 G0 H0 E st f) (h2 : PBd X T fp0 G0 H0 E rest g) : PBd X T fp0 G0 H0 E (st :: rest) (sCons f g) := by
  refine PSs_imp (pss_cons h1 h2) fun D σ H h => ?_
  obtain ⟨fp, F, ρ, τ, S, h⟩ := h
  refine ⟨fp, F, ρ, τ, S, ?_⟩
  unfold sCons at h
  cases q : f ρ τ with
  | nx ρ1 τ1 =>
    rw [q] at h
    exact fun σ1 H1 fp1 F1 p1 s1 S1 => ⟨fp1, F1, ρ1, τ1, S1, AfterS.later (show AfterS X.K X.mg T fp0 G0 H0 E fp F (g ρ1 τ1) D from h) p1 s1⟩
  | bk ρ1 τ1 => rw [q] at h; exact h
  | ct ρ1 τ1 => rw [q] at h; exact h
  | rt d τ1 => rw [q] at h; exact h
  | er e ρ1 τ1 => rw [q] at h; exact h
  | bad => rw [q] at h; exact h
theorem sd_pass {pos : Pos} : PSd X T fp0 G0 H0 E (.Pass pos) sNil := by
  refine PS_imp ps_pass fun D σ H h => ?_
  obtain ⟨fp, F, ρ, τ, S, h⟩ := h
  exact h σ H fp F (List.prefix_refl _) (Same.refl _) S
def sBk : XS := fun ρ τ => .bk ρ τ
theorem sd_break {pos : Pos} : PSd X T fp0 G0 H0 E (.Break pos) sBk := by
  refine PS_imp ps_break fun D σ H h => ?_
  obtain ⟨fp, F, ρ, τ, S, h⟩ := h
  exact h σ H fp F (List.prefix_refl _) (Same.refl _) S
/-- a name's things are shared from here on -/
theorem sd_frz {st : Stmt} {f : XS} (i : Nat) (h : PSd X T fp0 G0 H0 E st f) : PSd X T fp0 G0 H0 E st (sFrz i f) := by
  refine PS_imp h fun D σ H h => ?_
  obtain ⟨fp, F, ρ, τ, S, h⟩ := h
  obtain ⟨F1, S1, s1⟩ := S.frz i
  exact ⟨fp, F1, frzS i ρ, τ, S1, AfterS.later h (List.prefix_refl _) s1⟩
theorem sd_if {c : Expr} {a b : List Stmt} {pos : Pos} {fc : XB} {fa fb : XS} (hc : PB X T E c fc) (ha : PBd X T fp0 G0 H0 E a fa) (hb : PBd X T fp0 G0 H0 E b fb) : PSd X T fp0 G0 H0 E (.If c a b pos) (sIf fc fa fb) := by
  refine PS_imp (ps_if hc ha hb) fun D σ H h => ?_
  obtain ⟨fp, F, ρ, τ, S, h⟩ := h
  obtain ⟨G, bG, eG, sG, gG, _⟩ := S.shown
  refine ⟨fp, G, showS ρ, τ, bG, eG, S.evalS h bG sG gG fun d τ1 v fp1 F1 G1 H1 S1 rv b1 g1 tp low gr p1 s1 _ h1 => ?_⟩
  subst rv
  cases v with
  | true => exact ⟨fp1, F1, ρ, τ1, S1, h1⟩
  | false => exact ⟨fp1, F1, ρ, τ1, S1, h1⟩
theorem sd_ret {e : Expr} {pos : Pos} {f : XD} (he : PD X T E e f) : PSd X T fp0 G0 H0 E (.Return (some e) pos) (sRet f) := by
  refine PS_imp (ps_ret he) fun D σ H h => ?_
  obtain ⟨fp, F, ρ, τ, S, h⟩ := h
  obtain ⟨G, bG, eG, sG, gG, _⟩ := S.shown
  exact ⟨fp, G, showS ρ, τ, bG, eG, S.evalS h bG sG gG fun d τ1 v fp1 F1 G1 H1 S1 rv b1 g1 tp low gr p1 s1 _ h1 => h1 v H1 fp1 G1 g1 b1 rv⟩
theorem sd_retN {pos : Pos} : PSd X T fp0 G0 H0 E (.Return none pos) sRetN := by
  refine PS_imp ps_retN fun D σ H h => ?_
  obtain ⟨fp, F, ρ, τ, S, h⟩ := h
  exact h .non H fp F S.gro S.base .non
theorem sd_expr {e : Expr} {pos : Pos} {f : XD} (he : PD X T E e f) (hs : swapsWith e none pos.line X.env = pure false := by rfl) : PSd X T fp0 G0 H0 E (.Expr e pos) (sExp f) := by
  refine PS_imp (ps_expr he hs) fun D σ H h => ?_
  obtain ⟨fp, F, ρ, τ, S, h⟩ := h
  obtain ⟨G, bG, eG, sG, gG, _⟩ := S.shown
  exact ⟨fp, G, showS ρ, τ, bG, eG, S.evalS h bG sG gG fun d τ1 v fp1 F1 G1 H1 S1 rv b1 g1 tp low gr p1 s1 _ h1 => h1 σ H1 fp1 F1 (List.prefix_refl _) (Same.refl _) S1⟩
section
variable {i : Nat} {x : Str} {e : Expr} {pos pos' : Pos} {f : XD} (hN : X.N.Nodup) (hi : X.N[i]? = some x) (hx : Loc X.env.scope x)
include hN hi hx
theorem sd_setH (he : PD X T E e f) (hs : swapsWith e (some (.Name x pos')) pos.line X.env = pure false := by rfl) (hf : X.fn x = true ∨ X.env.scope.names.lookup x = some .local := by first | exact .inl rfl | exact .inr rfl | assumption) : PSd X T fp0 G0 H0 E (.Assign [.Name x pos'] e pos) (sSetH i f) := by
  refine PS_imp (ps_set hN hi hx he hs hf) fun D σ H h => ?_
  obtain ⟨fp, F, ρ, τ, S, h⟩ := h
  exact ⟨fp, F, hideS ρ, τ, S.base, S.env, S.evalH h fun d τ1 v fp1 F1 H1 S1 rv gr _ h1 => h1 _ H1 fp1 F1 (List.prefix_refl _) (Same.refl _) (S1.set rv)⟩
theorem sd_set (he : PD X T E e f) (hs : swapsWith e (some (.Name x pos')) pos.line X.env = pure false := by rfl) (hf : X.fn x = true ∨ X.env.scope.names.lookup x = some .local := by first | exact .inl rfl | exact .inr rfl | assumption) : PSd X T fp0 G0 H0 E (.Assign [.Name x pos'] e pos) (sSet i f) := by
  refine PS_imp (ps_set hN hi hx he hs hf) fun D σ H h => ?_
  obtain ⟨fp, F, ρ, τ, S, h⟩ := h
  obtain ⟨G, bG, eG, sG, gG, _⟩ := S.shown
  refine ⟨fp, G, showS ρ, τ, bG, eG, S.evalS h bG sG gG fun d τ1 v fp1 F1 G1 H1 S1 rv b1 g1 tp low gr p1 s1 _ h1 => ?_⟩
  by_cases im : d.imm = true
  · rw [if_pos im] at h1
    exact h1 _ H1 fp1 F1 (List.prefix_refl _) (Same.refl _) (S1.set (rv.imm tp (List.prefix_refl _) im))
  · rw [if_neg im] at h1
    exact h1.elim
theorem OwR.tups {K : PySem.W.Frag} {fp : List Addr} {G G' H : Hp} {p : Addr} {d : Dv} (o : OwR K fp G H p d) (im : ownOk d = true) (t : Tups G G') : OwR K fp G' H p d := by
  cases d with
  | lst ds => obtain ⟨vs, e1, r⟩ := o; exact ⟨vs, e1, r.imm t (List.prefix_refl _) im⟩
  | dct ks vs => obtain ⟨kvs, e1, n, e2, r⟩ := o; exact ⟨kvs, e1, n, e2, r.imm t (List.prefix_refl _) im⟩
  | _ => exact False.elim o
omit hN hi hx in
theorem SS.noOther {K : PySem.W.Frag} {mg : Str → Option Value} {fp : List Addr} {F H : Hp} {ρ : EnvS} {τ : Sto} {σ : L2.St} (S : SS K mg T fp0 G0 H0 fp F ρ τ σ H) {p : Addr} (n : H p = none) {i : Nat} : ¬ ∃ j, j ≠ i ∧ ∃ d, ρ[j]? = some (some (.own d)) ∧ σ[j]? = some (some (.ref p)) := fun ⟨j, _, d, h1, h2⟩ => by
  obtain ⟨q, e1, _, _, _, o⟩ := S.own j d h1
  rw [h2] at e1
  cases e1
  obtain ⟨u, hu, _⟩ := o.there
  rw [n] at hu
  cases hu
theorem sd_setO (he : PO X T E e f) (hs : swapsWith e (some (.Name x pos')) pos.line X.env = pure false := by rfl) (hf : X.fn x = true ∨ X.env.scope.names.lookup x = some .local := by first | exact .inl rfl | exact .inr rfl | assumption) : PSd X T fp0 G0 H0 E (.Assign [.Name x pos'] e pos) (sSetO i f) := by
  refine PS_imp (ps_set hN hi hx he hs hf) fun D σ H h => ?_
  obtain ⟨fp, F, ρ, τ, S, h⟩ := h
  obtain ⟨G, bG, eG, sG, gG, _⟩ := S.shown
  refine ⟨fp, G, showS ρ, τ, bG, eG, AfterP.toO (S.evalS h bG sG gG fun _ _ _ _ _ _ _ _ _ _ _ _ _ _ _ _ _ _ => trivial) fun d τ1 e1 p fp1 G1 H1 gr b1 n0 nf nG o => ?_⟩
  obtain ⟨F1, S1, tp, s1, low, _⟩ := S.back sG gG gr b1
  rw [show sSetO i f ρ τ = bindS (f (showS ρ) τ) ρ fun d τ1 => if ownOk d = true then .nx (ρ.set i (some (.own d))) τ1 else .bad from rfl, e1] at h
  by_cases im : ownOk d = true
  · simp only [bindS, if_pos im] at h
    have hn : H0 p = none := by
      cases z : H0 p with
      | none => rfl
      | some u => exact absurd n0 (S.gro.ex p (by rw [z]; exact fun z => nomatch z))
    refine h _ H1 fp1 F1 gr.pre s1 (S1.setO nf (low p nG) hn (fun ⟨j, hj, e, h1, h2⟩ => S.noOther n0 (i := i) ⟨j, hj, e, h1, h2⟩) (OwR.tups hN hi hx o im tp))
  · simp only [bindS, if_neg im] at h
    exact h.elim
theorem sd_setOH (he : PO X T E e f) (hs : swapsWith e (some (.Name x pos')) pos.line X.env = pure false := by rfl) (hf : X.fn x = true ∨ X.env.scope.names.lookup x = some .local := by first | exact .inl rfl | exact .inr rfl | assumption) : PSd X T fp0 G0 H0 E (.Assign [.Name x pos'] e pos) (sSetOH i f) := by
  refine PS_imp (ps_set hN hi hx he hs hf) fun D σ H h => ?_
  obtain ⟨fp, F, ρ, τ, S, h⟩ := h
  refine ⟨fp, F, hideS ρ, τ, S.base, S.env, AfterP.toO (S.evalH h fun _ _ _ _ _ _ _ _ _ _ _ => trivial) fun d τ1 e1 p fp1 G1 H1 gr b1 n0 nf nG o => ?_⟩
  have S1 := S.backH gr b1
  rw [show sSetOH i f ρ τ = bindS (f (hideS ρ) τ) ρ fun d τ1 => .nx (ρ.set i (some (.own d))) τ1 from rfl, e1] at h
  have hn : H0 p = none := by
    cases z : H0 p with
    | none => rfl
    | some u => exact absurd n0 (S.gro.ex p (by rw [z]; exact fun z => nomatch z))
  exact h _ H1 fp1 G1 gr.pre gr.same (S1.setO nf nG hn (fun ⟨j, hj, e, h1, h2⟩ => S.noOther n0 (i := i) ⟨j, hj, e, h1, h2⟩) o)
end
end
end Mv
end
section
set_option Elab.async false
set_option linter.all false
set_option maxRecDepth 100000
namespace Mv
open PySem PySem.Spec PyProof.Rows L2

section
variable {X : Cx} {T : List (Addr × Str)} {fp0 : List Addr} {G0 H0 : Hp} {E : L2.St → XK}

/-! ### names set to comprehensions, on one line -/
section
variable {i : Nat} {y : Str} {py : Pos} {elt tg iter : Expr} {ifs : List Expr} {scope : Scope} {own : List (Str × Nat)} {pos spos : Pos} {t : Tgt} {f : XI} {c : XB} {e : XD}
/-- what a store behind a reading is -/
theorem setO_reads {te : TE} {f : XD} (w : ∀ σ H Q, tO X.K X.mg T E f σ H Q → te σ H Q) (D : Ends) (σ : L2.St) (H : Hp) (h : tS X.K X.mg T fp0 G0 H0 E (sSetO i f) D σ H) : tAsg te (gName i) D σ H := by
  refine w σ H _ ?_
  obtain ⟨fp, F, ρ, τ, S, h⟩ := h
  obtain ⟨G, bG, eG, sG, gG, _⟩ := S.shown
  refine ⟨fp, G, showS ρ, τ, bG, eG, AfterP.toO (S.evalS h bG sG gG fun _ _ _ _ _ _ _ _ _ _ _ _ _ _ _ _ _ _ => trivial) fun d τ1 e1 p fp1 G1 H1 gr b1 n0 nf nG o => ?_⟩
  obtain ⟨F1, S1, tp, s1, low, _⟩ := S.back sG gG gr b1
  rw [show sSetO i f ρ τ = bindS (f (showS ρ) τ) ρ fun d τ1 => if ownOk d = true then .nx (ρ.set i (some (.own d))) τ1 else .bad from rfl, e1] at h
  by_cases im : ownOk d = true
  · simp only [bindS, if_pos im] at h
    have hn : H0 p = none := by
      cases z : H0 p with
      | none => rfl
      | some u => exact absurd n0 (S.gro.ex p (by rw [z]; exact fun z => nomatch z))
    have o' : OwR X.K fp1 F1 H1 p d := by
      cases d with
      | lst ds => obtain ⟨vs, e1, r⟩ := o; exact ⟨vs, e1, r.imm tp (List.prefix_refl _) im⟩
      | dct ks vs => obtain ⟨kvs, e1, n, e2, r⟩ := o; exact ⟨kvs, e1, n, e2, r.imm tp (List.prefix_refl _) im⟩
      | _ => exact False.elim o
    exact h _ H1 fp1 F1 gr.pre s1 (S1.setO nf (low p nG) hn (fun ⟨j, hj, e, h1, h2⟩ => S.noOther n0 (i := i) ⟨j, hj, e, h1, h2⟩) o')
  · simp only [bindS, if_neg im] at h
    exact h.elim
theorem setOH_reads {te : TE} {f : XD} (w : ∀ σ H Q, tO X.K X.mg T E f σ H Q → te σ H Q) (D : Ends) (σ : L2.St) (H : Hp) (h : tS X.K X.mg T fp0 G0 H0 E (sSetOH i f) D σ H) : tAsg te (gName i) D σ H := by
  refine w σ H _ ?_
  obtain ⟨fp, F, ρ, τ, S, h⟩ := h
  refine ⟨fp, F, hideS ρ, τ, S.base, S.env, AfterP.toO (S.evalH h fun _ _ _ _ _ _ _ _ _ _ _ => trivial) fun d τ1 e1 p fp1 G1 H1 gr b1 n0 nf nG o => ?_⟩
  have S1 := S.backH gr b1
  rw [show sSetOH i f ρ τ = bindS (f (hideS ρ) τ) ρ fun d τ1 => .nx (ρ.set i (some (.own d))) τ1 from rfl, e1] at h
  have hn : H0 p = none := by
    cases z : H0 p with
    | none => rfl
    | some u => exact absurd n0 (S.gro.ex p (by rw [z]; exact fun z => nomatch z))
  exact h _ H1 fp1 G1 gr.pre gr.same (S1.setO nf nG hn (fun ⟨j, hj, e, h1, h2⟩ => S.noOther n0 (i := i) ⟨j, hj, e, h1, h2⟩) o)
/-- as tD of the same, where the new thing is shared at once -/
theorem tO_tD {f : XD} (σ : L2.St) (H : Hp) (Q : VK) (w : tD X.K X.mg T E f σ H Q) : tO X.K X.mg T E f σ H Q := by
  obtain ⟨fp, G, ρ, τ, b, e, w⟩ := w
  refine ⟨fp, G, ρ, τ, b, e, ?_⟩
  cases q : f ρ τ with
  | ok d τ1 =>
    rw [q] at w
    intro p fp1 G1 H1 g b1 n0 nf n o
    obtain ⟨G2, q1, q2, q3, _⟩ := o.share b1 g n0 nf n
    exact w _ fp1 G2 H1 q1 q2 q3
  | err er τ1 => rw [q] at w; exact w
  | bad => rw [q] at w; exact w
theorem setH_reads {te : TE} {f : XD} (w : ∀ σ H Q, tD X.K X.mg T E f σ H Q → te σ H Q) (D : Ends) (σ : L2.St) (H : Hp) (h : tS X.K X.mg T fp0 G0 H0 E (sSetH i f) D σ H) : tAsg te (gName i) D σ H := by
  refine w σ H _ ?_
  obtain ⟨fp, F, ρ, τ, S, h⟩ := h
  exact ⟨fp, F, hideS ρ, τ, S.base, S.env, S.evalH h fun d τ1 v fp1 F1 H1 S1 rv gr _ h1 => h1 _ H1 fp1 F1 (List.prefix_refl _) (Same.refl _) (S1.set rv)⟩
/-- .. where names own things that it looks at: the list may not hold them -/
def sSetS (i : Nat) (f : XD) : XS := fun ρ τ => bindS (f (showS ρ) τ) ρ fun d τ1 => if ownOk d = true then .nx (ρ.set i (some (.im d))) τ1 else .bad
variable (hc : X.calm = true) (hN : X.N.Nodup) (hy : X.N[i]? = some y) (hyl : X.env.scope.names.lookup y = some .local) (hsw : swapsWith (.ListComp elt [⟨tg, iter, ifs, 0⟩] scope pos) (some (.Name y py)) spos.line X.env = pure true)
    (hi : PID X T E t tg iter f) (ok : BlkOk X.N X.env.scope scope own)
    (hg : ∀ (s : Shared) (H : Hp) (C : Addr) (cl : List (Str × Addr)) (fp : List Addr), PG (X.blk s H scope (compEnvC scope cl C X.env) fp) tg (gT X.K t))
    (ht : ∀ (s : Shared) (H : Hp) (C : Addr) (cl : List (Str × Addr)) (fp : List Addr), PBs (X.blk s H scope (compEnvC scope cl C X.env) fp) T E0' ifs c)
    (he : ∀ (s : Shared) (H : Hp) (C : Addr) (cl : List (Str × Addr)) (fp : List Addr), PD (X.blk s H scope (compEnvC scope cl C X.env) fp) T E0' elt e)
    (hsl : ∀ i ∈ t.slots, i ∈ own.map (·.2))
include hc hN hy hyl hsw hi ok hg ht he hsl
theorem sd_lcO (hs : ∀ x, foldedSetIterable iter X.env x = pure x := by intro _; rfl) : PSd X T fp0 G0 H0 E (.Assign [.Name y py] (.ListComp elt [⟨tg, iter, ifs, 0⟩] scope pos) spos) (sSetO i (xComp (own.map (·.2)) t f c e)) :=
  PS_imp (ps_setLc (tt := tT X.K X.mg T E0' c) (te := tD X.K X.mg T E0' e) hc hN hy hyl hsw hi ok hg ht he hs) (setO_reads (comp_reads hsl))
theorem sd_lcOH (hs : ∀ x, foldedSetIterable iter X.env x = pure x := by intro _; rfl) : PSd X T fp0 G0 H0 E (.Assign [.Name y py] (.ListComp elt [⟨tg, iter, ifs, 0⟩] scope pos) spos) (sSetOH i (xComp (own.map (·.2)) t f c e)) :=
  PS_imp (ps_setLc (tt := tT X.K X.mg T E0' c) (te := tD X.K X.mg T E0' e) hc hN hy hyl hsw hi ok hg ht he hs) (setOH_reads (comp_reads hsl))
theorem sd_lcH (hs : ∀ x, foldedSetIterable iter X.env x = pure x := by intro _; rfl) : PSd X T fp0 G0 H0 E (.Assign [.Name y py] (.ListComp elt [⟨tg, iter, ifs, 0⟩] scope pos) spos) (sSetH i (xComp (own.map (·.2)) t f c e)) :=
  PS_imp (ps_setLc (tt := tT X.K X.mg T E0' c) (te := tD X.K X.mg T E0' e) hc hN hy hyl hsw hi ok hg ht he hs) (setH_reads fun σ H Q w => comp_reads hsl σ H Q (tO_tD σ H Q w))
end

/-! ### x.append(e), x.extend(e) -/
theorem own_at {K : PySem.W.Frag} {mg : Str → Option Value} {fp : List Addr} {F H : Hp} {ρ : EnvS} {τ : Sto} {σ : L2.St} {i : Nat} {d : Dv} (S : SS K mg T fp0 G0 H0 fp F ρ τ σ H) (h : ρ[i]? = some (some (.own d))) : ∃ p, σ[i]? = some (some (.ref p)) ∧ OwR K fp F H p d := by
  obtain ⟨p, e1, _, _, _, o⟩ := S.own i d h
  exact ⟨p, e1, o⟩
section
variable {x : Str} {i : Nat} {e : Expr} {np apos cpos pos : Pos} {f : XD}
theorem app_reads {σ : L2.St} {H : Hp} {ρ : EnvS} {τ : Sto} {fp : List Addr} {F : Hp} {K : PySem.W.Frag} {mg : Str → Option Value} {v : V} {d : Dv} {D : Ends} {Q : Hp → Prop} (S : SS K mg T fp0 G0 H0 fp F ρ τ σ H) (r : Rp K fp F v d)
    (h : AfterS K mg T fp0 G0 H0 E fp F (appS i d ρ τ) D) (w : ∀ H', D.nx σ H' → Q H') : ∀ p, σ[i]? = some (some (.ref p)) → ∃ xs, H p = some (.lst xs) ∧ xs.length < sizeLine ∧ Q (L2.upd H p (.lst (xs ++ [v]))) := by
  unfold appS at h
  split at h
  · rename_i ds hi
    split at h
    · rename_i hb
      intro p hp
      obtain ⟨p', e1, vs, e2, rv⟩ := own_at S hi
      rw [hp] at e1
      cases e1
      refine ⟨vs, e2, ?_, w _ ?_⟩
      · rw [rv.length]
        have := big_le hb
        omega
      · exact h σ _ fp F (List.prefix_refl _) (Same.refl _) (S.mut hi hp ⟨_, upd_same, rv.append (.cons r .nil)⟩)
    · exact h.elim
  · exact h.elim
theorem ownL_at {K : PySem.W.Frag} {mg : Str → Option Value} {fp : List Addr} {F H : Hp} {ρ : EnvS} {τ : Sto} {σ : L2.St} (S : SS K mg T fp0 G0 H0 fp F ρ τ σ H) (h : ownL i ρ ≠ false) : ∃ p vs, σ[i]? = some (some (.ref p)) ∧ H p = some (.lst vs) := by
  unfold ownL at h
  split at h
  · rename_i ds hi
    obtain ⟨p, e1, vs, e2, _⟩ := own_at S hi
    exact ⟨p, vs, e1, e2⟩
  · exact absurd rfl h
theorem ext_reads {σ : L2.St} {H : Hp} {ρ : EnvS} {τ : Sto} {fp : List Addr} {F : Hp} {K : PySem.W.Frag} {mg : Str → Option Value} {ws : List V} {es : List Dv} {D : Ends} (S : SS K mg T fp0 G0 H0 fp F ρ τ σ H) (r : RpL K fp F ws es)
    (h : AfterS K mg T fp0 G0 H0 E fp F (extS i (.lst es) ρ τ) D) : ∀ p, σ[i]? = some (some (.ref p)) → ∃ xs, H p = some (.lst xs) ∧ xs.length + ws.length ≤ sizeLine ∧ D.nx σ (L2.upd H p (.lst (xs ++ ws))) := by
  unfold extS at h
  split at h
  · rename_i ds es' hi e
    cases e
    split at h
    · rename_i hb
      intro p hp
      obtain ⟨p', e1, vs, e2, rv⟩ := own_at S hi
      rw [hp] at e1
      cases e1
      refine ⟨vs, e2, ?_, h σ _ fp F (List.prefix_refl _) (Same.refl _) (S.mut hi hp ⟨_, upd_same, rv.append r⟩)⟩
      rw [rv.length, r.length]
      exact big_le hb
    · exact h.elim
  · exact h.elim
theorem sd_app (hN : X.N[i]? = some x) (hv : Vis X.env.scope x) (he : PD X T E e f) (hd : (x == ("__debug__" : Str)) = false := by decide) (hcd : (x == ("__classdict__" : Str)) = false := by decide)
    (hs : swapsWith (.Call (.Attribute (.Name x np) "append" apos) [e] [] cpos) none pos.line X.env = pure false := by rfl) (h1 : starEach [e] X.env = (false, eval e X.env) :: starEach [] X.env := by rfl)
    (hbase : attributeBase (.Name x np) "append" X.env (eval (.Name x np) X.env) = eval (.Name x np) X.env := by rfl)
    (hfew : ((backTo cpos (starEach [e] X.env)).all (fun x => !x.1) && (backToKw cpos (keywordEach [] X.env)).all (fun x => x.1.isSome) && decide ([e].length + ([] : List Keyword).length + (if ([] : List Keyword).isEmpty then 0 else 1) < 30)) = true := by rfl)
    (hline : (apos.endLine == cpos.line) = true := by rfl) (hplain : (backTo cpos (starEach [] X.env)).any (·.1) = false := by rfl) :
    PSd X T fp0 G0 H0 E (.Expr (.Call (.Attribute (.Name x np) "append" apos) [e] [] cpos) pos) (sApp i f) := by
  refine PS_imp (ps_expr (pe_bm PySem.F.plainAttrs_list PySem.F.slot_list_append PySem.F.type_list_append mt_append (pe_var (i := i) hN hv hd hcd) (pa_cons he pa_nil h1) hbase hfew hline h1 hplain) hs) fun D σ H h => ?_
  obtain ⟨fp, F, ρ, τ, S, h⟩ := h
  obtain ⟨G, bG, eG, sG, gG, _⟩ := S.shown
  have ho : ownL i ρ ≠ false := fun z => by
    unfold sApp at h
    rw [if_pos z] at h
    exact h
  unfold sApp at h
  rw [if_neg ho] at h
  obtain ⟨p, vs, hp, hvs⟩ := ownL_at S ho
  refine ⟨.ref p, hp, .inl ⟨rfl, _, .inl (.inl hvs)⟩, ?_⟩
  refine ⟨fp, G, showS ρ, τ, bG, eG, S.evalS h bG sG gG fun d τ1 v fp1 F1 G1 H1 S1 rv b1 g1 tp low gr p1 s1 _ h2 => ?_⟩
  by_cases im : d.imm = true
  · rw [if_pos im] at h2
    obtain ⟨xs, q1, q2, q3⟩ := app_reads S1 (rv.imm tp (List.prefix_refl _) im) h2 (Q := fun H' => D.nx σ H') (fun _ z => z) p hp
    exact ⟨p, xs, v, rfl, rfl, q1, q2, q3⟩
  · rw [if_neg im] at h2
    exact h2.elim
theorem sd_appH (hN : X.N[i]? = some x) (hv : Vis X.env.scope x) (he : PD X T E e f) (hd : (x == ("__debug__" : Str)) = false := by decide) (hcd : (x == ("__classdict__" : Str)) = false := by decide)
    (hs : swapsWith (.Call (.Attribute (.Name x np) "append" apos) [e] [] cpos) none pos.line X.env = pure false := by rfl) (h1 : starEach [e] X.env = (false, eval e X.env) :: starEach [] X.env := by rfl)
    (hbase : attributeBase (.Name x np) "append" X.env (eval (.Name x np) X.env) = eval (.Name x np) X.env := by rfl)
    (hfew : ((backTo cpos (starEach [e] X.env)).all (fun x => !x.1) && (backToKw cpos (keywordEach [] X.env)).all (fun x => x.1.isSome) && decide ([e].length + ([] : List Keyword).length + (if ([] : List Keyword).isEmpty then 0 else 1) < 30)) = true := by rfl)
    (hline : (apos.endLine == cpos.line) = true := by rfl) (hplain : (backTo cpos (starEach [] X.env)).any (·.1) = false := by rfl) :
    PSd X T fp0 G0 H0 E (.Expr (.Call (.Attribute (.Name x np) "append" apos) [e] [] cpos) pos) (sAppH i f) := by
  refine PS_imp (ps_expr (pe_bm PySem.F.plainAttrs_list PySem.F.slot_list_append PySem.F.type_list_append mt_append (pe_var (i := i) hN hv hd hcd) (pa_cons he pa_nil h1) hbase hfew hline h1 hplain) hs) fun D σ H h => ?_
  obtain ⟨fp, F, ρ, τ, S, h⟩ := h
  have ho : ownL i ρ ≠ false := fun z => by
    unfold sAppH at h
    rw [if_pos z] at h
    exact h
  unfold sAppH at h
  rw [if_neg ho] at h
  obtain ⟨p, vs, hp, hvs⟩ := ownL_at S ho
  refine ⟨.ref p, hp, .inl ⟨rfl, _, .inl (.inl hvs)⟩, ?_⟩
  refine ⟨fp, F, hideS ρ, τ, S.base, S.env, S.evalH h fun d τ1 v fp1 F1 H1 S1 rv gr _ h2 => ?_⟩
  obtain ⟨xs, q1, q2, q3⟩ := app_reads S1 rv h2 (Q := fun H' => D.nx σ H') (fun _ z => z) p hp
  exact ⟨p, xs, v, rfl, rfl, q1, q2, q3⟩
theorem sd_ext (hN : X.N[i]? = some x) (hv : Vis X.env.scope x) (he : PD X T E e f) (hd : (x == ("__debug__" : Str)) = false := by decide) (hcd : (x == ("__classdict__" : Str)) = false := by decide)
    (hs : swapsWith (.Call (.Attribute (.Name x np) "extend" apos) [e] [] cpos) none pos.line X.env = pure false := by rfl) (h1 : starEach [e] X.env = (false, eval e X.env) :: starEach [] X.env := by rfl)
    (hbase : attributeBase (.Name x np) "extend" X.env (eval (.Name x np) X.env) = eval (.Name x np) X.env := by rfl)
    (hfew : ((backTo cpos (starEach [e] X.env)).all (fun x => !x.1) && (backToKw cpos (keywordEach [] X.env)).all (fun x => x.1.isSome) && decide ([e].length + ([] : List Keyword).length + (if ([] : List Keyword).isEmpty then 0 else 1) < 30)) = true := by rfl)
    (hline : (apos.endLine == cpos.line) = true := by rfl) (hplain : (backTo cpos (starEach [] X.env)).any (·.1) = false := by rfl) :
    PSd X T fp0 G0 H0 E (.Expr (.Call (.Attribute (.Name x np) "extend" apos) [e] [] cpos) pos) (sExt i f) := by
  refine PS_imp (ps_expr (pe_bm PySem.F.plainAttrs_list PySem.F.slot_list_extend PySem.F.type_list_extend mt_extend (pe_var (i := i) hN hv hd hcd) (pa_cons he pa_nil h1) hbase hfew hline h1 hplain) hs) fun D σ H h => ?_
  obtain ⟨fp, F, ρ, τ, S, h⟩ := h
  obtain ⟨G, bG, eG, sG, gG, _⟩ := S.shown
  have ho : ownL i ρ ≠ false := fun z => by
    unfold sExt at h
    rw [if_pos z] at h
    exact h
  unfold sExt at h
  rw [if_neg ho] at h
  obtain ⟨p, vs, hp, hvs⟩ := ownL_at S ho
  refine ⟨.ref p, hp, .inl ⟨rfl, _, .inl (.inl hvs)⟩, ?_⟩
  refine ⟨fp, G, showS ρ, τ, bG, eG, S.evalS h bG sG gG fun d τ1 v fp1 F1 G1 H1 S1 rv b1 g1 tp low gr p1 s1 _ h2 => ?_⟩
  cases d with
  | lst es =>
    simp only at h2
    by_cases im : Dv.immL es = true
    · rw [if_pos im] at h2
      cases rv with
      | lst q1 q2 =>
        obtain ⟨xs, q3, q4, q5⟩ := ext_reads S1 (q2.imm tp (List.prefix_refl _) im) h2 p hp
        exact ⟨p, _, xs, _, rfl, rfl, q3, b1.sub _ _ q1, q4, q5⟩
    · rw [if_neg im] at h2
      exact h2.elim
  | _ => exact h2.elim
end

/-! ### raise X('..') -/
theorem sd_raise {e : Expr} {n : Str} {C : Addr} {pos : Pos} (hc : X.calm = true) (tk : Takes X fun cls d σ H => E σ cls d H) (hm : X.mg n = some (.ref C)) (he : PMk X e fun _ H Q => Q (.ref C) none H) : PSd X T fp0 G0 H0 E (.Raise (some e) none pos) (sRaise n) := by
  refine PS_imp (ps_raise hc tk he) fun D σ H h => ?_
  obtain ⟨fp, F, ρ, τ, S, h⟩ := h
  exact h (.ref C) none σ H fp F (List.prefix_refl _) (Same.refl _) S ⟨hm, rfl⟩

/-! ### several names from one tuple -/
theorem SS.puts {K : PySem.W.Frag} {mg : Str → Option Value} {fp : List Addr} {F H : Hp} {τ : Sto} : ∀ {l : List (Nat × Dv)} {ρ : EnvS} {σ σ' : L2.St}, SS K mg T fp0 G0 H0 fp F ρ τ σ H → UpdR K fp F l σ σ' → SS K mg T fp0 G0 H0 fp F (putsS ρ l) τ σ' H
  | [], _, _, _, S, u => by cases u; exact S
  | p :: l, ρ, σ, σ', S, u => by
    obtain ⟨v, r, u⟩ := u
    exact SS.puts (l := l) (S.set r) u
section
variable {tg e : Expr} {pos : Pos} {t : Tgt} {ts : List Tgt} {f : XD}
theorem sd_unpH (he : PD X T E e f) (hg : PG X tg (gT X.K (.tp ts))) (hs : swapsWithSole [tg] e pos.line X.env = pure false := by rfl) (hw : swappedStores [tg] e X.env = pure none := by rfl)
    (h1 : (assignEach [tg] X.env).map (·.2) = [assign tg X.env] := by rfl) : PSd X T fp0 G0 H0 E (.Assign [tg] e pos) (sUnpH (.tp ts) f) := by
  refine PS_imp (ps_asg he hg hs hw h1) fun D σ H h => ?_
  obtain ⟨fp, F, ρ, τ, S, h⟩ := h
  refine ⟨fp, F, hideS ρ, τ, S.base, S.env, S.evalH h fun d τ1 v fp1 F1 H1 S1 rv gr _ h1 => ?_⟩
  cases ql : tset (.tp ts) d with
  | none => rw [ql] at h1; exact h1.elim
  | some l =>
    rw [ql] at h1
    cases d <;> simp only [tset, reduceCtorEq] at ql
    cases rv with
    | tup q1 q2 => exact ⟨fp1, F1, _, l, S1.base.sub, ⟨_, _, _, rfl, rd_tup q1, q2, rfl⟩, ql, fun σ' u => h1 σ' H1 fp1 F1 (List.prefix_refl _) (Same.refl _) (S1.puts u)⟩
theorem sd_unp (he : PD X T E e f) (hg : PG X tg (gT X.K (.tp ts))) (hs : swapsWithSole [tg] e pos.line X.env = pure false := by rfl) (hw : swappedStores [tg] e X.env = pure none := by rfl)
    (h1 : (assignEach [tg] X.env).map (·.2) = [assign tg X.env] := by rfl) : PSd X T fp0 G0 H0 E (.Assign [tg] e pos) (sUnp (.tp ts) f) := by
  refine PS_imp (ps_asg he hg hs hw h1) fun D σ H h => ?_
  obtain ⟨fp, F, ρ, τ, S, h⟩ := h
  obtain ⟨G, bG, eG, sG, gG, _⟩ := S.shown
  refine ⟨fp, G, showS ρ, τ, bG, eG, S.evalS h bG sG gG fun d τ1 v fp1 F1 G1 H1 S1 rv b1 g1 tp low gr p1 s1 _ h2 => ?_⟩
  by_cases im : d.imm = true
  · rw [if_pos im] at h2
    have rv := rv.imm tp (List.prefix_refl _) im
    cases ql : tset (.tp ts) d with
    | none => rw [ql] at h2; exact h2.elim
    | some l =>
      rw [ql] at h2
      cases d <;> simp only [tset, reduceCtorEq] at ql
      cases rv with
      | tup q1 q2 => exact ⟨fp1, F1, _, l, S1.base.sub, ⟨_, _, _, rfl, rd_tup q1, q2, rfl⟩, ql, fun σ' u => h2 σ' H1 fp1 F1 (List.prefix_refl _) (Same.refl _) (S1.puts u)⟩
  · rw [if_neg im] at h2
    exact h2.elim
end

/-! ### for -/
theorem sd_for {tg iter : Expr} {body : List Stmt} {t : Tgt} {f : XI} {b : XS} {pos : Pos} (hp : PassesOwn (model X.prog X.w) X.A X.env X.xe) (hc : X.calm = true) (hi : PID X T E t tg iter f) (hg : PG X tg (gT X.K t)) (hb : PBd X T fp0 G0 H0 E body b)
    (hs : ∀ x, foldedSetIterable iter X.env x = pure x := by intro _; rfl) : PSd X T fp0 G0 H0 E (.For tg iter body [] pos) (sFor t f b) := by
  refine PS_imp (ps_for hp hc hi hg hb hs) fun D σ H h => ?_
  obtain ⟨fp, F, ρ, τ, S, h⟩ := h
  refine ⟨fp, F, hideS ρ, τ, S.base, S.env, S.evalH h fun ds τ1 J fp1 F1 H1 S1 wk gr _ h1 => ?_⟩
  obtain ⟨Y, W, hY⟩ := wk
  let Pv : Nat → L2.St → Hp → Prop := fun i σ H => ∃ fp F ρ τ, SS X.K X.mg T fp0 G0 H0 fp F ρ τ σ H ∧ fp1 <+: fp ∧ Same F1 F ∧ AfterS X.K X.mg T fp0 G0 H0 E fp F (loopS t b (ds.drop i) ρ τ) D
  let Pw : Nat → L2.St → Hp → Prop := fun i σ H => i ≤ ds.length ∧ Pv i σ H
  refine ⟨fun i m σ H => m = ds.length - i ∧ Pw i σ H, ⟨ds.length, by simp, Nat.zero_le _, fp1, F1, ρ, τ1, S1, List.prefix_refl _, Same.refl _, h1⟩, ?_⟩
  rintro i m σ H ⟨rfl, hi, fp2, F2, ρ2, τ2, S2, p2, s2, h2⟩
  have gH : Same F1 H := s2.trans S2.base.sub
  by_cases hlt : i < ds.length
  · refine .inr ⟨W.goes i H hlt gH, Pw (i + 1), fun σ' H' p' => ⟨ds.length - (i + 1), by omega, rfl, p'⟩, fun x H' y => ?_⟩
    obtain ⟨F', d, g3, hd, rg⟩ := hY i F2 H x H' hlt s2 S2.base.sub (W.yields i H x H' hlt gH y)
    have hdrop : ds.drop i = d :: ds.drop (i + 1) := by
      obtain ⟨h1, h2⟩ := List.getElem?_eq_some_iff.mp hd
      rw [← h2, List.getElem_cons_drop]
    rw [hdrop, loopS] at h2
    cases ql : tset t d with
    | none => rw [ql] at h2; exact h2.elim
    | some l =>
      rw [ql] at h2
      simp only at h2
      have S3 := S2.backH g3.gro (S2.base.grow g3)
      have rg' : RpG X.K fp2 F' t x d := by
        cases t with
        | nm j => exact (show Rp X.K fp1 F' x d from rg).mono (Same.refl _) p2
        | tp ts =>
          obtain ⟨a, xs, es, q1, q2, q3, q4⟩ := rg
          exact ⟨a, xs, es, q1, q2, q3.mono (Same.refl _) p2, q4⟩
      refine ⟨fp2, F', d, l, S3.base.sub, rg', ql, fun σ3 u3 => ⟨fp2, F', putsS ρ2 l, τ2, S3.puts u3, ?_⟩⟩
      have h3 := AfterS.later h2 (List.prefix_refl _) g3.same
      cases qb : b (putsS ρ2 l) τ2 with
      | nx ρ4 τ4 =>
        rw [qb] at h3
        exact fun σ4 H4 fp4 F4 p4 s4 S4 => ⟨hlt, fp4, F4, ρ4, τ4, S4, p2.trans p4, (s2.trans g3.same).trans s4, AfterS.later h3 p4 s4⟩
      | ct ρ4 τ4 =>
        rw [qb] at h3
        exact fun σ4 H4 fp4 F4 p4 s4 S4 => ⟨hlt, fp4, F4, ρ4, τ4, S4, p2.trans p4, (s2.trans g3.same).trans s4, AfterS.later h3 p4 s4⟩
      | bk ρ4 τ4 => rw [qb] at h3; exact h3
      | rt d4 τ4 => rw [qb] at h3; exact h3
      | er e4 ρ4 τ4 => rw [qb] at h3; exact h3
      | bad => rw [qb] at h3; exact h3
  · have e : i = ds.length := by omega
    subst e
    rw [List.drop_length, loopS] at h2
    exact .inl ⟨W.stops H gH, h2 σ H fp2 F2 (List.prefix_refl _) (Same.refl _) S2⟩

/-! ### while -/
theorem sd_while {c : Expr} {body : List Stmt} {fc : XB} {b : XS} {pos : Pos} (n : Nat) (hp : PassesOwn (model X.prog X.w) X.A X.env X.xe) (hc : PB X T E c fc) (hb : PBd X T fp0 G0 H0 E body b) : PSd X T fp0 G0 H0 E (.While c body [] pos) (sWhile n fc b) := by
  refine PS_imp (ps_while hp hc hb) fun D σ H h => ?_
  refine ⟨fun m σ H => ∃ fp F ρ τ, SS X.K X.mg T fp0 G0 H0 fp F ρ τ σ H ∧ AfterS X.K X.mg T fp0 G0 H0 E fp F (whileS fc b m ρ τ) D, ⟨n, h⟩, ?_⟩
  rintro m σ H ⟨fp, F, ρ, τ, S, h⟩
  cases m with
  | zero => exact h.elim
  | succ m =>
    rw [whileS] at h
    obtain ⟨G, bG, eG, sG, gG, _⟩ := S.shown
    refine ⟨fp, G, showS ρ, τ, bG, eG, S.evalS h bG sG gG fun d τ1 v fp1 F1 G1 H1 S1 rv b1 g1 tp low gr p1 s1 _ h1 => ?_⟩
    subst rv
    cases v with
    | false => exact h1 σ H1 fp1 F1 (List.prefix_refl _) (Same.refl _) S1
    | true =>
      rw [if_pos rfl] at h1 ⊢
      refine ⟨fun σ' H' => ∃ fp F ρ τ, SS X.K X.mg T fp0 G0 H0 fp F ρ τ σ' H' ∧ AfterS X.K X.mg T fp0 G0 H0 E fp F (whileS fc b m ρ τ) D, fun σ' H' p => ⟨m, Nat.lt_succ_self m, p⟩, fp1, F1, ρ, τ1, S1, ?_⟩
      cases qb : b ρ τ1 with
      | nx ρ4 τ4 =>
        rw [qb] at h1
        exact fun σ4 H4 fp4 F4 p4 s4 S4 => ⟨fp4, F4, ρ4, τ4, S4, AfterS.later h1 p4 s4⟩
      | ct ρ4 τ4 =>
        rw [qb] at h1
        exact fun σ4 H4 fp4 F4 p4 s4 S4 => ⟨fp4, F4, ρ4, τ4, S4, AfterS.later h1 p4 s4⟩
      | bk ρ4 τ4 => rw [qb] at h1; exact h1
      | rt d4 τ4 => rw [qb] at h1; exact h1
      | er e4 ρ4 τ4 => rw [qb] at h1; exact h1
      | bad => rw [qb] at h1; exact h1
end
end Mv
end
section
set_option Elab.async false
set_option linter.all false
set_option maxRecDepth 100000
namespace Mv
open PySem PySem.Spec PyProof.Rows L2

/-! ### what a body's context gives -/
structure Bd (X : Cx) (k : Nat) (E : L2.St → XK) : Prop where
  calm : X.calm = true
  nd : X.N.Nodup
  room : Room k X.A
  hx : ∀ σ, PassesAt (L2.CX X.prog X.w) X σ (E σ)
structure Bs (X : Cx) (k : Nat) (E : L2.St → XK) : Prop extends Bd X k E where
  tk : Takes X fun cls d σ H => E σ cls d H
  po : PassesOwn (model X.prog X.w) X.A X.env X.xe
theorem Bd.blk {X : Cx} {k : Nat} {E : L2.St → XK} (B : Bd X k E) {s : Shared} {H : Hp} {scope : Scope} {cenv : Env} {fp : List Addr} : Bd (X.blk s H scope cenv fp) k E0' :=
  ⟨B.calm, B.nd, B.room, fun σ pins H s e s' I h => passL pins σ H s e s' I h⟩
theorem Bd.hu {X : Cx} {k : Nat} {E : L2.St → XK} (B : Bd X k E) : X.A.units + 65 < cLine := by
  have := B.room.un
  omega
theorem Bd.hu1 {X : Cx} {k : Nat} {E : L2.St → XK} (B : Bd X k E) : X.A.units + 1 < cLine := by
  have := B.room.un
  omega
theorem Bd.hu64 {X : Cx} {k : Nat} {E : L2.St → XK} (B : Bd X k E) : X.A.units + 64 < cLine := by
  have := B.room.un
  omega

/-! ### a def by its body -/
def startD (n : Nat) (ds : List Dv) : EnvS := (ds.map fun d => some (Sl.im d)) ++ List.replicate (n - ds.length) none
def runF (n : Nat) (body : XS) (ds : List Dv) (τ : Sto) : Res Dv := match body (startD n ds) τ with
  | .nx _ τ1 => .ok .non τ1
  | .rt d τ1 => .ok d τ1
  | .er e _ τ1 => .err e τ1
  | _ => .bad
section
variable {P : Program} {w : World} {K : PySem.W.Frag} {mg : Str → Option Value} {base : Heap} {T : List (Addr × Str)}
theorem start_env {fp : List Addr} {G : Hp} {N : List Str} {vs : List V} {ds : List Dv} (r : RpL K fp G vs ds) : EnvR K fp G (hideS (startD N.length ds)) (L2.start N vs) := by
  have hl := r.length
  refine ⟨?_, fun i d h => ?_⟩
  · unfold hideS startD L2.start
    simp only [List.length_map, List.length_append, List.length_replicate]
    omega
  · rw [hide_get] at h
    unfold startD at h
    unfold L2.start
    by_cases hi : i < ds.length
    · rw [List.getElem?_append_left (by simpa using hi), List.getElem?_map] at h
      rw [List.getElem?_append_left (by rw [List.length_map]; omega), List.getElem?_map]
      cases q : ds[i]? with
      | none => rw [q] at h; cases h
      | some e =>
        rw [q] at h
        cases h
        obtain ⟨v, e1, rv⟩ := r.get q
        exact ⟨v, by rw [e1]; rfl, rv⟩
    · rw [List.getElem?_append_right (by simpa using hi), List.getElem?_replicate] at h
      split at h <;> cases h
theorem start_ss {fp : List Addr} {G H : Hp} {τ : Sto} {N : List Str} {vs : List V} {ds : List Dv} (b : Base K mg T fp G τ H) (r : RpL K fp G vs ds) : SS K mg T fp G H fp G (startD N.length ds) τ (L2.start N vs) H := by
  have no : ∀ (i : Nat) (d : Dv), (startD N.length ds)[i]? ≠ some (some (.own d)) := fun i d h => by
    unfold startD at h
    by_cases hi : i < ds.length
    · rw [List.getElem?_append_left (by simpa using hi), List.getElem?_map] at h
      cases q : ds[i]? with
      | none => rw [q] at h; cases h
      | some e => rw [q] at h; cases h
    · rw [List.getElem?_append_right (by simpa using hi), List.getElem?_replicate] at h
      split at h <;> cases h
  exact ⟨Gro.refl _ _ _, b, start_env r, fun i d h => absurd h (no i d), fun i _ d _ _ h => absurd h (no i d)⟩
theorem fn_data {x qual : Str} {st : Stmt} {f : Addr} {fd : FuncData} {N ps : List Str} {k : Nat} {body : XS} (Fn : Fun K x qual st f fd) (S : FnScope N ps (defScope st))
    (h : ∀ (cdv : Value) (A : Around) (outer : List Env) (s : Shared) (H : Hp) (E : XK) (fp0 : List Addr) (G0 : Hp), Bs (cxOf (L2.CX P w) P w K mg base N qual (defScope st) f cdv A outer s H E) k (fun _ => E) →
      PBd (cxOf (L2.CX P w) P w K mg base N qual (defScope st) f cdv A outer s H E) T fp0 G0 H (fun _ => E) (defBody st) body) :
    FnOk P w K mg base (L2.CX P w) (k + 1) f fd ps (spD K mg T ps.length (runF N.length body)) := by
  refine Fn.okX S (fun vs H Q E hs => ?_) (fun cdv A outer s H vs Q E hr hs => ?_)
  · obtain ⟨fp, G, τ, ds, b, r, hl, _⟩ := hs
    rw [r.length, hl]
  · obtain ⟨fp, G, τ, ds, b, r, hl, q⟩ := hs
    have tk : Takes (cxOf (L2.CX P w) P w K mg base N qual (defScope st) f cdv A outer s H E) (fun cls d _ H => E cls d H) := takes_of rfl rfl rfl rfl
    refine ⟨_, h cdv A outer s H E fp G ⟨⟨rfl, S.nd, hr, fun σ => passAt tk σ⟩, tk, passes_of rfl⟩, ?_⟩
    refine ⟨fp, G, startD N.length ds, τ, start_ss b r, ?_⟩
    unfold runF at q
    cases e : body (startD N.length ds) τ with
    | nx ρ1 τ1 =>
      rw [e] at q
      exact fun σ1 H1 fp1 F1 p1 s1 S1 => q .non fp1 F1 H1 S1.gro S1.base .non
    | rt d τ1 =>
      rw [e] at q
      exact fun v H1 fp1 G1 g1 b1 r1 => q v fp1 G1 H1 g1 b1 r1
    | er er ρ1 τ1 =>
      rw [e] at q
      exact fun cls dx σ1 H1 fp1 F1 p1 s1 S1 ed => q cls dx fp1 F1 H1 S1.gro S1.base ed
    | bk ρ1 τ1 => rw [e] at q; exact q.elim
    | ct ρ1 τ1 => rw [e] at q; exact q.elim
    | bad => rw [e] at q; exact q.elim
end
/-- a call, short -/
theorem pd_fn {X : Cx} {T : List (Addr × Str)} {E : L2.St → XK} {j k n : Nat} {f : Addr} {fd : FuncData} {ps : List Str} {F : List Dv → Sto → Res Dv} {x : Str} {e : Expr} {es : List Expr} {p pos : Pos} {a : XL} (B : Bd X k E) (FO : FnOk X.prog X.w X.K X.mg X.base (L2.CX X.prog X.w) j f fd ps (spD X.K X.mg T n F)) (hj : j ≤ k)
    (hm : X.mg x = some (.ref f)) (hk : PySem.W.keepIn X.K (.ref f) = true) (hb : Binds X.K fd ps []) (ha : PL X T E (e :: es) a) (hg : Gl X x := by rfl) (hdb : (x == ("__debug__" : Str)) = false := by decide)
    (he : starEach (e :: es) X.env = (false, eval e X.env) :: starEach es X.env := by rfl) (hpl : (backTo pos (starEach es X.env)).any (·.1) = false := by rfl) : PD X T E (.Call (.Name x p) (e :: es) [] pos) (xF (callF n F) a) :=
  pd_call (FO.mono hj) B.room hg hm hk hb B.hx ha hdb he hpl
theorem pd_fn0 {X : Cx} {T : List (Addr × Str)} {E : L2.St → XK} {j k n : Nat} {f : Addr} {fd : FuncData} {ps : List Str} {F : List Dv → Sto → Res Dv} {x : Str} {p pos : Pos} (B : Bd X k E) (FO : FnOk X.prog X.w X.K X.mg X.base (L2.CX X.prog X.w) j f fd ps (spD X.K X.mg T n F)) (hj : j ≤ k)
    (hm : X.mg x = some (.ref f)) (hk : PySem.W.keepIn X.K (.ref f) = true) (hb : Binds X.K fd ps []) (hg : Gl X x := by rfl) (hdb : (x == ("__debug__" : Str)) = false := by decide) : PD X T E (.Call (.Name x p) [] [] pos) (xF (callF n F) aN) :=
  pd_call0 (FO.mono hj) B.room hg hm hk hb B.hx hdb
end Mv
end
section
set_option Elab.async false
set_option linter.all false
set_option maxRecDepth 100000
namespace Mv
open PySem PySem.Spec PyProof.Rows L2

/-! ### isinstance -/
def Dv.ty : Dv → Option String
  | .non => some "NoneType"
  | .bl _ => some "bool"
  | .int _ => some "int"
  | .str _ => some "str"
  | .lst _ => some "list"
  | .tup _ => some "tuple"
  | .dct _ _ => some "dict"
  | .fdct _ _ => some "dict"
  | _ => none
def isiT (a b : String) : Option Bool := if a = b then some true else if a = "bool" ∧ b = "int" then some true else if b ∈ ["str", "bool", "int", "tuple"] then some false else none
def gIsi (t : String) : List Dv → Option Bool
  | [d] => d.ty.bind fun a => isiT a t
  | _ => none
theorem isi_kit : (["NoneType", "bool", "int", "str", "list", "tuple", "dict"].all fun a => ["str", "bool", "int", "tuple"].all fun b => decide (kitB a b = isiT a b)) = true := by decide +kernel
theorem isi_ok {a b : String} {r : Bool} (ha : a ∈ ["NoneType", "bool", "int", "str", "list", "tuple", "dict"]) (hb : b ∈ ["str", "bool", "int", "tuple"]) (h : isiT a b = some r) : kitB a b = some r := by
  have z := List.all_eq_true.mp isi_kit a ha
  have z2 := of_decide_eq_true (List.all_eq_true.mp z b hb)
  rw [z2, h]
theorem ty_of {K : PySem.W.Frag} {fp : List Addr} {G H : Hp} (s : Same G H) {v : V} {d : Dv} {a : String} (r : Rp K fp G v d) (e : d.ty = some a) : TyX K H v (.type a) ∧ a ∈ ["NoneType", "bool", "int", "str", "list", "tuple", "dict"] := by
  cases r with
  | non => cases e; exact ⟨.base .non, by simp⟩
  | bl b => cases e; exact ⟨.base (.bl b), by simp⟩
  | int i => cases e; exact ⟨.base (.int i), by simp⟩
  | str x => cases e; exact ⟨.base (.str x), by simp⟩
  | lst h1 h2 => cases e; exact ⟨.base (.lst (s _ _ h1)), by simp⟩
  | tup h1 h2 => cases e; exact ⟨.fTuple (s _ _ h1), by simp⟩
  | dct h1 _ h2 => cases e; exact ⟨.base (.dK (s _ _ h1)), by simp⟩
  | fdct h1 _ h2 => cases e; exact ⟨.fDict (s _ _ h1), by simp⟩
  | tok _ => cases e
  | scr _ => cases e
section
variable {X : Cx} {T : List (Addr × Str)} {E : L2.St → XK}
theorem pd_isi {e : Expr} {x : Str} {t : String} {p p2 pos : Pos} {f : XD} (he : PD X T E e f) (hg : Gl X "isinstance") (hm : X.mg "isinstance" = none) (hgx : Gl X x) (hmx : X.mg x = none) (hv : bootBuiltins x = some (.type t)) (ht : t ∈ ["str", "bool", "int", "tuple"] := by decide)
    (hn : x ≠ "__name__" := by decide) (hd : (x == ("__debug__" : Str)) = false := by decide)
    (h1 : starEach [e, .Name x p2] X.env = (false, eval e X.env) :: starEach [.Name x p2] X.env := by rfl) (h2 : starEach [.Name x p2] X.env = (false, eval (.Name x p2) X.env) :: starEach [] X.env := by rfl)
    (hpl : (backTo pos (starEach [.Name x p2] X.env)).any (·.1) = false := by rfl) :
    PD X T E (.Call (.Name "isinstance" p) [e, .Name x p2] [] pos) (xB (bP (gIsi t) (aC f aN))) := by
  refine PE_imp (pe_callB call_isi hg hm (by decide +kernel) (pa_cons he (pa_cons (pe_bltn (v := .ty t) hgx hmx hv rfl hn hd) pa_nil h2) h1) (by decide) (by decide) h1 hpl) fun σ H Q h => ?_
  obtain ⟨fp, G, ρ, τ, b, e, h⟩ := h
  unfold xB bP at h
  rw [bind_assoc] at h
  refine arg1 b e h fun v fp1 G1 H1 τ1 d b1 e1 r1 h1 => ?_
  obtain ⟨d', q, rd⟩ := one_of r1
  cases q
  simp only [gIsi] at h1
  cases qa : d.ty with
  | none => rw [qa] at h1; exact False.elim h1
  | some a =>
    rw [qa] at h1
    simp only [Option.bind_some] at h1
    cases qk : isiT a t with
    | none => rw [qk] at h1; exact False.elim h1
    | some k =>
      rw [qk] at h1
      obtain ⟨tx, ha⟩ := ty_of b1.sub rd qa
      exact ⟨v, .ty t, .type a, .type t, k, rfl, .ty t, tx, kit_ty (isi_ok ha ht qk), h1 _ fp1 G1 H1 (Gro.refl _ _ _) b1 (.bl k)⟩
end

/-! ### calls of a built-in object's method -/
/-- the value is of that built-in type -/
def tyW (K : PySem.W.Frag) (t : String) (x : V) (H : Hp) : Prop := tyV K t x H ∨ t = "tuple" ∧ ∃ p its xs, x = .ref p ∧ H p = some (tupH its xs)
structure Mth (X : Cx) (name : Str) (t id : String) (r : V → List V → Hp → VK → Prop) : Prop where
  pa : PlainAttrs t
  slot : Slot t name id
  ty : typeOf (.builtin id) = pure (.type "method_descriptor")
  ok : MtR X id r
def tMth (X : Cx) (name : Str) (to : TE) (t : TA) : TE := fun σ H Q => to σ H fun x H1 => ∃ ty id r, Mth X name ty id r ∧ tyW X.K ty x H1 ∧ t σ H1 fun xs H2 => r x xs H2 Q
section
variable {X : Cx} {T : List (Addr × Str)} {E : L2.St → XK}
theorem tyW_is {pins : List (Addr × Obj)} {σ : L2.St} {H : Hp} {s : Shared} {t : String} {x : V} {v : Value} (I : Inv X pins σ H s) (r : RelV x v) (ty : tyW X.K t x H) :
    s.TypeIs v t ∧ ∀ a, v = .ref a → ∃ ob, s.heap.get? a = some ob ∧ ob.dict = none := by
  rcases ty with h | ⟨rfl, p, its, xs, rfl, h⟩
  · exact tyV_is I r h
  · obtain rfl : v = Value.ref p := r
    obtain ⟨e, _, _⟩ := tupAt I h
    refine ⟨(tup_is e).typeIs, fun a q => ?_⟩
    cases q
    exact ⟨_, e, rfl⟩
theorem pe_mth {o e : Expr} {es : List Expr} {name : Str} {apos cpos : Pos} {to : TE} {t : TA} (ho : PE X o to) (ha : PA X (e :: es) t)
    (hbase : attributeBase o name X.env (eval o X.env) = eval o X.env := by rfl)
    (hfew : ((backTo cpos (starEach (e :: es) X.env)).all (fun x => !x.1) && (backToKw cpos (keywordEach [] X.env)).all (fun x => x.1.isSome) && decide ((e :: es).length + ([] : List Keyword).length + (if ([] : List Keyword).isEmpty then 0 else 1) < 30)) = true := by rfl)
    (hline : (apos.endLine == cpos.line) = true := by rfl) (hs : starEach (e :: es) X.env = (false, eval e X.env) :: starEach es X.env := by rfl) (hp : (backTo cpos (starEach es X.env)).any (·.1) = false := by rfl) :
    PE X (.Call (.Attribute o name apos) (e :: es) [] cpos) (tMth X name to t) := by
  refine ⟨fun pins s σ H Q I w => ?_⟩
  refine wpAny_Call_method_late hbase hfew hline rfl (thn (ho.run pins s σ H _ I w) fun v s1 ⟨x, H1, I1, r1, ty, id, r, M, tw, q1⟩ => ?_)
  obtain ⟨h1, h2⟩ := tyW_is I1 r1 tw
  refine ⟨ty, id, M.pa, M.slot, M.ty, h1, h2, ?_⟩
  have hA := thn (ha.run cpos pins s1 σ H1 _ I1 q1) fun us s2 ⟨vs, H2, I2, r2, q2⟩ => M.ok pins s2 σ H2 x vs v us Q I2 r1 r2 q2
  rw [hs] at hA ⊢
  exact Calls.callWith_builtin (by show (false || (backTo cpos (starEach es X.env)).any (·.1)) = false; rw [hp] <;> rfl) (Calls.evalArgs_plain hA)
def tMth0 (X : Cx) (name : Str) (to : TE) : TE := fun σ H Q => to σ H fun x H1 => ∃ ty id r, Mth X name ty id r ∧ tyW X.K ty x H1 ∧ r x [] H1 Q
theorem pe_mth0 {o : Expr} {name : Str} {apos cpos : Pos} {to : TE} (ho : PE X o to) (hbase : attributeBase o name X.env (eval o X.env) = eval o X.env := by rfl) (hline : (apos.endLine == cpos.line) = true := by rfl) :
    PE X (.Call (.Attribute o name apos) [] [] cpos) (tMth0 X name to) := by
  refine ⟨fun pins s σ H Q I w => ?_⟩
  refine wpAny_Call_method0_late hbase hline (thn (ho.run pins s σ H _ I w) fun v s1 ⟨x, H1, I1, r1, ty, id, r, M, tw, q1⟩ => ?_)
  obtain ⟨h1, h2⟩ := tyW_is I1 r1 tw
  exact ⟨ty, id, M.pa, M.slot, M.ty, h1, h2, Calls.callWith_builtin rfl (PySem.evalArgs_none (M.ok pins s1 σ H1 x [] v [] Q I1 r1 .nil q1))⟩

/-- a method told of data: ok of the receiver, g of receiver and arguments -/
def xM (ok : Dv → Sto → Bool) (g : List Dv → Sto → Option Dv) (f : XD) (a : XL) : XD := fun ρ τ => (f ρ τ).bind fun d τ1 => if ok d τ1 = true then (a ρ τ1).bind fun ds τ2 => lift (g (d :: ds) τ2) τ2 else .bad
def MD (X : Cx) (name : Str) (ok : Dv → Sto → Bool) (g : List Dv → Sto → Option Dv) : Prop := ∀ fp G τ H v d, Same G H → StoR X.K X.mg fp G τ H → Rp X.K fp G v d → ok d τ = true → ∃ ty id r, Mth X name ty id r ∧ tyW X.K ty v H ∧
  ∀ fp2 G2 τ2 H2 vs ds c Q, Same G2 H2 → StoR X.K X.mg fp2 G2 τ2 H2 → RpL X.K fp2 G2 (v :: vs) (d :: ds) → g (d :: ds) τ2 = some c → (∀ u G' H', Grow G2 H2 G' H' → Rp X.K fp2 G' u c → Q u H') → r v vs H2 Q
def MO (X : Cx) (name : Str) (ok : Dv → Sto → Bool) (g : List Dv → Sto → Option Dv) : Prop := ∀ fp G τ H v d, Same G H → StoR X.K X.mg fp G τ H → Rp X.K fp G v d → ok d τ = true → ∃ ty id r, Mth X name ty id r ∧ tyW X.K ty v H ∧
  ∀ fp2 G2 τ2 H2 vs ds c Q, Same G2 H2 → StoR X.K X.mg fp2 G2 τ2 H2 → RpL X.K fp2 G2 (v :: vs) (d :: ds) → g (d :: ds) τ2 = some c → (∀ p G' H', Grow G2 H2 G' H' → H2 p = none → G' p = none → OwR X.K fp2 G' H' p c → Q (.ref p) H') → r v vs H2 Q
section
variable {o e : Expr} {es : List Expr} {name : Str} {apos cpos : Pos} {f : XD} {a : XL} {ok : Dv → Sto → Bool} {g : List Dv → Sto → Option Dv}
theorem pd_mth (M : MD X name ok g) (ho : PD X T E o f) (ha : PL X T E (e :: es) a)
    (hbase : attributeBase o name X.env (eval o X.env) = eval o X.env := by rfl)
    (hfew : ((backTo cpos (starEach (e :: es) X.env)).all (fun x => !x.1) && (backToKw cpos (keywordEach [] X.env)).all (fun x => x.1.isSome) && decide ((e :: es).length + ([] : List Keyword).length + (if ([] : List Keyword).isEmpty then 0 else 1) < 30)) = true := by rfl)
    (hline : (apos.endLine == cpos.line) = true := by rfl) (hs : starEach (e :: es) X.env = (false, eval e X.env) :: starEach es X.env := by rfl) (hp : (backTo cpos (starEach es X.env)).any (·.1) = false := by rfl) :
    PD X T E (.Call (.Attribute o name apos) (e :: es) [] cpos) (xM ok g f a) := by
  refine PE_imp (pe_mth ho ha hbase hfew hline hs hp) fun σ H Q h => ?_
  obtain ⟨fp, G, ρ, τ, b, e, h⟩ := h
  refine tD_step (k := fun d τ1 => if ok d τ1 = true then (a ρ τ1).bind fun ds τ2 => lift (g (d :: ds) τ2) τ2 else .bad) b e h fun v fp1 G1 H1 τ1 d b1 e1 g1 r1 h1 => ?_
  by_cases hk : ok d τ1 = true
  · rw [if_pos hk] at h1
    obtain ⟨ty, id, r, m, tw, fin⟩ := M fp1 G1 τ1 H1 v d b1.sub b1.sto r1 hk
    refine ⟨ty, id, r, m, tw, tA_step (k := fun ds τ2 => lift (g (d :: ds) τ2) τ2) b1 e1 h1 fun vs fp2 G2 H2 τ2 ds b2 e2 g2 r2 h2 => ?_⟩
    cases q : g (d :: ds) τ2 with
    | none => rw [q] at h2; exact False.elim h2
    | some c =>
      rw [q] at h2
      exact fin fp2 G2 τ2 H2 vs ds c Q b2.sub b2.sto (.cons (r1.mono g2.same g2.pre) r2) q fun u G' H' gr ru => h2 u fp2 G' H' gr.gro (b2.grow gr) ru
  · rw [if_neg hk] at h1
    exact False.elim h1
theorem po_mth (M : MO X name ok g) (ho : PD X T E o f) (ha : PL X T E (e :: es) a)
    (hbase : attributeBase o name X.env (eval o X.env) = eval o X.env := by rfl)
    (hfew : ((backTo cpos (starEach (e :: es) X.env)).all (fun x => !x.1) && (backToKw cpos (keywordEach [] X.env)).all (fun x => x.1.isSome) && decide ((e :: es).length + ([] : List Keyword).length + (if ([] : List Keyword).isEmpty then 0 else 1) < 30)) = true := by rfl)
    (hline : (apos.endLine == cpos.line) = true := by rfl) (hs : starEach (e :: es) X.env = (false, eval e X.env) :: starEach es X.env := by rfl) (hp : (backTo cpos (starEach es X.env)).any (·.1) = false := by rfl) :
    PO X T E (.Call (.Attribute o name apos) (e :: es) [] cpos) (xM ok g f a) := by
  refine PE_imp (pe_mth ho ha hbase hfew hline hs hp) fun σ H Q h => ?_
  obtain ⟨fp, G, ρ, τ, b, e, h⟩ := h
  refine tD_stepO (k := fun d τ1 => if ok d τ1 = true then (a ρ τ1).bind fun ds τ2 => lift (g (d :: ds) τ2) τ2 else .bad) b e h fun v fp1 G1 H1 τ1 d b1 e1 g1 r1 h1 => ?_
  by_cases hk : ok d τ1 = true
  · rw [if_pos hk] at h1
    obtain ⟨ty, id, r, m, tw, fin⟩ := M fp1 G1 τ1 H1 v d b1.sub b1.sto r1 hk
    refine ⟨ty, id, r, m, tw, tA_stepO (k := fun ds τ2 => lift (g (d :: ds) τ2) τ2) b1 e1 h1 fun vs fp2 G2 H2 τ2 ds b2 e2 g2 r2 h2 => ?_⟩
    cases q : g (d :: ds) τ2 with
    | none => rw [q] at h2; exact False.elim h2
    | some c =>
      rw [q] at h2
      exact fin fp2 G2 τ2 H2 vs ds c Q b2.sub b2.sto (.cons (r1.mono g2.same g2.pre) r2) q fun p G' H' gr n1 n2 ro => h2 p fp2 G' H' gr.gro (b2.grow gr) n1 (fun z => b2.sto.there z n1) n2 ro
  · rw [if_neg hk] at h1
    exact False.elim h1
/-- .. without arguments -/
theorem pd_mth0 (M : MD X name ok g) (ho : PD X T E o f) (hbase : attributeBase o name X.env (eval o X.env) = eval o X.env := by rfl) (hline : (apos.endLine == cpos.line) = true := by rfl) :
    PD X T E (.Call (.Attribute o name apos) [] [] cpos) (xM ok g f aN) := by
  refine PE_imp (pe_mth0 ho hbase hline) fun σ H Q h => ?_
  obtain ⟨fp, G, ρ, τ, b, e, h⟩ := h
  refine tD_step (k := fun d τ1 => if ok d τ1 = true then (aN ρ τ1).bind fun ds τ2 => lift (g (d :: ds) τ2) τ2 else .bad) b e h fun v fp1 G1 H1 τ1 d b1 e1 g1 r1 h1 => ?_
  by_cases hk : ok d τ1 = true
  · rw [if_pos hk] at h1
    obtain ⟨ty, id, r, m, tw, fin⟩ := M fp1 G1 τ1 H1 v d b1.sub b1.sto r1 hk
    refine ⟨ty, id, r, m, tw, ?_⟩
    unfold aN at h1
    rw [ok_bind] at h1
    cases q : g [d] τ1 with
    | none => rw [q] at h1; exact False.elim h1
    | some c =>
      rw [q] at h1
      exact fin fp1 G1 τ1 H1 [] [] c Q b1.sub b1.sto (.cons r1 .nil) q fun u G' H' gr ru => h1 u fp1 G' H' gr.gro (b1.grow gr) ru
  · rw [if_neg hk] at h1
    exact False.elim h1
theorem po_mth0 (M : MO X name ok g) (ho : PD X T E o f) (hbase : attributeBase o name X.env (eval o X.env) = eval o X.env := by rfl) (hline : (apos.endLine == cpos.line) = true := by rfl) :
    PO X T E (.Call (.Attribute o name apos) [] [] cpos) (xM ok g f aN) := by
  refine PE_imp (pe_mth0 ho hbase hline) fun σ H Q h => ?_
  obtain ⟨fp, G, ρ, τ, b, e, h⟩ := h
  refine tD_stepO (k := fun d τ1 => if ok d τ1 = true then (aN ρ τ1).bind fun ds τ2 => lift (g (d :: ds) τ2) τ2 else .bad) b e h fun v fp1 G1 H1 τ1 d b1 e1 g1 r1 h1 => ?_
  by_cases hk : ok d τ1 = true
  · rw [if_pos hk] at h1
    obtain ⟨ty, id, r, m, tw, fin⟩ := M fp1 G1 τ1 H1 v d b1.sub b1.sto r1 hk
    refine ⟨ty, id, r, m, tw, ?_⟩
    unfold aN at h1
    rw [ok_bind] at h1
    cases q : g [d] τ1 with
    | none => rw [q] at h1; exact False.elim h1
    | some c =>
      rw [q] at h1
      exact fin fp1 G1 τ1 H1 [] [] c Q b1.sub b1.sto (.cons r1 .nil) q fun p G' H' gr n1 n2 ro => h1 p fp1 G' H' gr.gro (b1.grow gr) n1 (fun z => b1.sto.there z n1) n2 ro
  · rw [if_neg hk] at h1
    exact False.elim h1
end

/-! ### index -/
def idxD (d : Dv) : List Dv → Option Nat
  | [] => none
  | x :: xs => if x.eqv d then some 0 else (idxD d xs).map (· + 1)
def okSeq : Dv → Sto → Bool
  | .lst _, _ => true
  | .tup _, _ => true
  | _, _ => false
def gIndex : List Dv → Sto → Option Dv
  | [.lst xs, d], _ => if (Dv.lst xs).okq && d.okq then (idxD d xs).map fun i => .int i else none
  | [.tup xs, d], _ => if (Dv.tup xs).okq && d.okq then (idxD d xs).map fun i => .int i else none
  | _, _ => none
theorem idxD_some {d : Dv} : ∀ {xs : List Dv} {i : Nat}, idxD d xs = some i → (∃ z, xs[i]? = some z ∧ z.eqv d = true) ∧ ∀ m z, m < i → xs[m]? = some z → z.eqv d = false
  | [], _, h => by cases h
  | x :: xs, i, h => by
    unfold idxD at h
    by_cases hx : x.eqv d = true
    · rw [if_pos hx] at h
      cases h
      exact ⟨⟨x, rfl, hx⟩, fun m z hm => absurd hm (Nat.not_lt_zero _)⟩
    · rw [if_neg hx] at h
      cases q : idxD d xs with
      | none => rw [q] at h; cases h
      | some j =>
        rw [q] at h
        cases h
        obtain ⟨⟨z, h1, h2⟩, h3⟩ := idxD_some q
        refine ⟨⟨z, by simpa using h1, h2⟩, fun m y hm hy => ?_⟩
        cases m with
        | zero =>
          have : x = y := by simpa using hy
          subst this
          exact Bool.eq_false_iff.mpr hx
        | succ m => exact h3 m y (Nat.lt_of_succ_lt_succ hm) (by simpa using hy)
theorem pyL_get : ∀ (xs : List Dv) (i : Nat), (Dv.pyL xs)[i]? = (xs[i]?).map Dv.py
  | [], _ => rfl
  | x :: xs, 0 => rfl
  | x :: xs, i + 1 => by simpa [Dv.pyL] using pyL_get xs i
theorem mt_tupIndexD (hu : X.A.units + 65 < cLine) : MtR X "tuple.index" (fun x xs H Q => ∃ p its ys y d ds j z, x = .ref p ∧ xs = [y] ∧ H p = some (tupH its ys) ∧ DpAll X.K H ys ds ∧ Dp X.K H y d ∧ SeqAt.shaped (.tuple ds) = true ∧ SeqAt.shaped d = true ∧
    ds[j]? = some z ∧ PyData.eqv z d = true ∧ (∀ (m : Nat) (z' : PyData), m < j → ds[m]? = some z' → PyData.eqv z' d = false) ∧ Q (.int (j : Nat)) H) := by
  intro pins s σ H x xs v us Q I rx rxs h
  obtain ⟨p, its, ys, y, d, ds, j, z, rfl, rfl, hp, hl, hy, sl, sd, hz, hzj, hno, q⟩ := h
  cases rx
  cases rxs with
  | cons ry rt =>
    rename_i uy ut
    cases rt
    obtain ⟨bs, r1⟩ := Dp.reads I d y uy hy ry
    have hxs : PyData.canLayAll0 ds = true := SeqAt.canLay_of_shaped sl
    obtain ⟨ho, rv, hlen⟩ := tupAt I hp
    obtain ⟨as, h4⟩ := Dp.readsAll I ds _ its hl rv
    have hn : its.length = ds.length := SeqAt.ReadsAll.length ds its as h4
    have hmap : its.map (SeqAt.readOf s.heap) = ds := SeqAt.readsAll_map ds its as hxs h4
    obtain ⟨hjd, _⟩ := List.getElem?_eq_some_iff.mp hz
    have hj : j < its.toArray.size := by rw [List.size_toArray]; omega
    have at_ : ∀ (m : Nat) (hm : m < its.toArray.size) (z' : PyData), ds[m]? = some z' → SeqAt.readOf s.heap its.toArray[m] = z' := by
      intro m hm z' hz'
      rw [← hmap] at hz'
      have hm' : m < its.length := by simpa using hm
      simpa [hm'] using hz'
    refine call_meets PySem.F.slot_tuple_index ⟨_, ho, rfl⟩ PySem.F.entry_tuple_index (PySem.F.args_tuple_index_2 _ _)
      (TI.tuple_indexAt p its.toArray 0 none #[] uy (fun u => PyData.eqv (SeqAt.readOf s.heap u) d) j hj ?_ ?_) ⟨ho, SeqAt.items_eqAt (vs := its.toArray) (by simpa using h4) r1 hxs (SeqAt.canLay_of_shaped sd) (PyProof.Rows.room_in_shaped sd hu), ?_⟩
    · show PyData.eqv (SeqAt.readOf s.heap its.toArray[j]) d = true
      rw [at_ j hj z hz]
      exact hzj
    · intro m hm hmj
      obtain ⟨z', hz'⟩ : ∃ z', ds[m]? = some z' := ⟨ds[m]'(by omega), List.getElem?_eq_getElem _⟩
      show PyData.eqv (SeqAt.readOf s.heap its.toArray[m]) d = false
      rw [at_ m hm _ hz']
      exact hno m _ hmj hz'
    · exact ⟨.int (j : Nat), H, I.tok _, ⟨_, rfl⟩, q⟩
theorem md_index (hu : X.A.units + 65 < cLine) : MD X "index" okSeq gIndex := by
  intro fp G τ H v d sub sto r hk
  cases r with
  | @lst a xs ds h1 h2 =>
    refine ⟨"list", "list.index", _, ⟨PySem.F.plainAttrs_list, PySem.F.slot_list_index, PySem.F.type_list_index, mt_indexD hu⟩, .inl (.inl ⟨rfl, xs, .inl (.inl (sub _ _ h1))⟩), ?_⟩
    intro fp2 G2 τ2 H2 vs es c Q sub2 _ r2 e q
    cases r2 with
    | cons ra rb =>
      cases rb with
      | nil => simp only [gIndex, reduceCtorEq] at e
      | cons ry rn =>
        rename_i y vs' yd es'
        cases rn with
        | cons _ _ => simp only [gIndex, reduceCtorEq] at e
        | nil =>
          simp only [gIndex] at e
          split at e
          · rename_i hok
            obtain ⟨ho1, ho2⟩ := Bool.and_eq_true_iff.mp hok
            cases qi : idxD yd ds with
            | none => rw [qi] at e; cases e
            | some i =>
              rw [qi] at e
              cases e
              obtain ⟨⟨z, hz, hzd⟩, hno⟩ := idxD_some qi
              have hsl := okq_shaped ho1
              have d1 : (Dv.lst ds).py.canLay0 = true := SeqAt.canLay_of_shaped hsl
              refine ⟨a, y, yd.py, Dv.pyL ds, i, z.py, rfl, rfl, Rp.dp sub2 ra d1, Rp.dp sub2 ry (SeqAt.canLay_of_shaped (okq_shaped ho2)), hsl, okq_shaped ho2, by rw [pyL_get, hz]; rfl, by rw [eqv_py]; exact hzd, fun m z' hm hz' => ?_, q _ _ _ (Grow.refl sub2) (.int _)⟩
              rw [pyL_get] at hz'
              cases qm : ds[m]? with
              | none => rw [qm] at hz'; cases hz'
              | some w => rw [qm] at hz'; cases hz'; rw [eqv_py]; exact hno m w hm qm
          · cases e
  | @tup a its xs ds h1 h2 =>
    refine ⟨"tuple", "tuple.index", _, ⟨PySem.F.plainAttrs_tuple, PySem.F.slot_tuple_index, PySem.F.type_tuple_index, mt_tupIndexD hu⟩, .inr ⟨rfl, a, its, xs, rfl, sub _ _ h1⟩, ?_⟩
    intro fp2 G2 τ2 H2 vs es c Q sub2 _ r2 e q
    cases r2 with
    | cons ra rb =>
      cases rb with
      | nil => simp only [gIndex, reduceCtorEq] at e
      | cons ry rn =>
        rename_i y vs' yd es'
        cases rn with
        | cons _ _ => simp only [gIndex, reduceCtorEq] at e
        | nil =>
          simp only [gIndex] at e
          split at e
          · rename_i hok
            obtain ⟨ho1, ho2⟩ := Bool.and_eq_true_iff.mp hok
            cases qi : idxD yd ds with
            | none => rw [qi] at e; cases e
            | some i =>
              rw [qi] at e
              cases e
              obtain ⟨⟨z, hz, hzd⟩, hno⟩ := idxD_some qi
              have hsl := okq_shaped ho1
              have d1 : (Dv.tup ds).py.canLay0 = true := SeqAt.canLay_of_shaped hsl
              cases ra with
              | tup g1 g2 =>
                refine ⟨a, _, _, y, yd.py, Dv.pyL ds, i, z.py, rfl, rfl, sub2 _ _ g1, RpL.dp sub2 g2 (by simpa [Dv.py, PyData.canLay0] using d1), Rp.dp sub2 ry (SeqAt.canLay_of_shaped (okq_shaped ho2)), hsl, okq_shaped ho2, by rw [pyL_get, hz]; rfl, by rw [eqv_py]; exact hzd, fun m z' hm hz' => ?_, q _ _ _ (Grow.refl sub2) (.int _)⟩
                rw [pyL_get] at hz'
                cases qm : ds[m]? with
                | none => rw [qm] at hz'; cases hz'
                | some w => rw [qm] at hz'; cases hz'; rw [eqv_py]; exact hno m w hm qm
          · cases e
  | _ => cases hk
end
end Mv
end
section
set_option Elab.async false
set_option linter.all false
set_option maxRecDepth 100000
namespace Mv
open PySem PySem.Spec PyProof.Rows L2

/-! ### several names at once -/
/-- values of which some are new objects, which nothing else holds -/
inductive RpM (K : PySem.W.Frag) (fp : List Addr) (G H H0 : Hp) : List Bool → List V → List Dv → List Addr → Prop
  | nil : RpM K fp G H H0 [] [] [] []
  | im {fl : List Bool} {v : V} {vs : List V} {d : Dv} {ds : List Dv} {ps : List Addr} : Rp K fp G v d → RpM K fp G H H0 fl vs ds ps → RpM K fp G H H0 (false :: fl) (v :: vs) (d :: ds) ps
  | ow {fl : List Bool} {p : Addr} {vs : List V} {d : Dv} {ds : List Dv} {ps : List Addr} : H0 p = none → p ∉ fp → G p = none → OwR K fp G H p d → p ∉ ps → RpM K fp G H H0 fl vs ds ps → RpM K fp G H H0 (true :: fl) (.ref p :: vs) (d :: ds) (p :: ps)
def AfterM (K : PySem.W.Frag) (mg : Str → Option Value) (T : List (Addr × Str)) (E : XK) (fp : List Addr) (G H : Hp) (fl : List Bool) (r : Res (List Dv)) (Q : List V → Hp → Prop) : Prop := match r with
  | .ok ds τ' => ∀ vs ps fp' G' H', Gro fp G H fp' G' H' → Base K mg T fp' G' τ' H' → RpM K fp' G' H' H fl vs ds ps → Q vs H'
  | .err e τ' => ∀ cls dx fp' G' H', Gro fp G H fp' G' H' → Base K mg T fp' G' τ' H' → ErrD K mg fp' G' H' e cls dx → E cls dx H'
  | .bad => False
def tM (K : PySem.W.Frag) (mg : Str → Option Value) (T : List (Addr × Str)) (E : L2.St → XK) (fl : List Bool) (f : XL) : TA := fun σ H Q => ∃ fp G ρ τ, Base K mg T fp G τ H ∧ EnvR K fp G ρ σ ∧ AfterM K mg T (E σ) fp G H fl (f ρ τ) Q
abbrev PM (X : Cx) (T : List (Addr × Str)) (E : L2.St → XK) (es : List Expr) (fl : List Bool) (f : XL) : Prop := PA X es (tM X.K X.mg T E fl f)
theorem none_of {H H1 : Hp} (ex : ∀ b, H b ≠ none → H1 b ≠ none) {p : Addr} (h : H1 p = none) : H p = none := by
  cases z : H p with
  | none => rfl
  | some u => exact absurd h (ex p (by rw [z]; exact fun z => nomatch z))
theorem RpM.weak {K : PySem.W.Frag} {fp : List Addr} {G H H0 H1 : Hp} (w : ∀ p, H1 p = none → H0 p = none) : ∀ {fl : List Bool} {vs : List V} {ds : List Dv} {ps : List Addr}, RpM K fp G H H1 fl vs ds ps → RpM K fp G H H0 fl vs ds ps
  | _, _, _, _, .nil => .nil
  | _, _, _, _, .im r m => .im r (m.weak w)
  | _, _, _, _, .ow a b c d e m => .ow (w _ a) b c d e (m.weak w)
theorem RpM.new {K : PySem.W.Frag} {fp : List Addr} {G H H0 : Hp} : ∀ {fl : List Bool} {vs : List V} {ds : List Dv} {ps : List Addr}, RpM K fp G H H0 fl vs ds ps → ∀ p ∈ ps, H0 p = none
  | _, _, _, _, .nil, p, h => by cases h
  | _, _, _, _, .im r m, p, h => m.new p h
  | _, _, _, _, .ow a b c d e m, p, h => by
    rcases List.mem_cons.mp h with z | z
    · rw [z]; exact a
    · exact m.new p z
section
variable {X : Cx} {T : List (Addr × Str)} {E : L2.St → XK}
theorem pm_nil : PM X T E [] [] aN := by
  refine PA_imp pa_nil fun σ H Q h => ?_
  obtain ⟨fp, G, ρ, τ, b, e, h⟩ := h
  exact h [] [] fp G H (Gro.refl _ _ _) b .nil
/-- what follows a first part -/
theorem AfterM.tail {K : PySem.W.Frag} {mg : Str → Option Value} {Ek : XK} {fp fp1 : List Addr} {G H G1 H1 : Hp} {fl fl' : List Bool} {d : Dv} {r : Res (List Dv)} {Q : List V → Hp → Prop} {v : V} (g : Gro fp G H fp1 G1 H1)
    (w : ∀ vs ds ps fp2 G2 H2, Gro fp1 G1 H1 fp2 G2 H2 → RpM K fp2 G2 H2 H1 fl vs ds ps → ∃ ps', RpM K fp2 G2 H2 H fl' (v :: vs) (d :: ds) ps')
    (h : AfterM K mg T Ek fp G H fl' (r.bind fun ds τ2 => .ok (d :: ds) τ2) Q) : AfterM K mg T Ek fp1 G1 H1 fl r fun vs H2 => Q (v :: vs) H2 := by
  cases r with
  | ok ds τ =>
    intro vs ps fp2 G2 H2 g2 b2 m
    obtain ⟨ps', m'⟩ := w vs ds ps fp2 G2 H2 g2 m
    exact h (v :: vs) ps' fp2 G2 H2 (g.trans g2) b2 m'
  | err e τ => exact fun cls dx fp2 G2 H2 g2 b2 q => h cls dx fp2 G2 H2 (g.trans g2) b2 q
  | bad => exact h
theorem AfterM.first {α : Type} {K : PySem.W.Frag} {mg : Str → Option Value} {Ek : XK} {fp : List Addr} {G H : Hp} {fl : List Bool} {r : Res Dv} {k : Dv → Sto → Res (List Dv)} {Q : List V → Hp → Prop} {Z : V → Hp → Prop}
    (h : AfterM K mg T Ek fp G H fl (r.bind k) Q) (w : ∀ d τ1, r = .ok d τ1 → AfterM K mg T Ek fp G H fl (k d τ1) Q → AfterP K mg T (fun fp G d v => Rp K fp G v d) Ek fp G H (.ok d τ1) Z) : AfterP K mg T (fun fp G d v => Rp K fp G v d) Ek fp G H r Z := by
  cases r with
  | ok d τ => exact w d τ rfl h
  | err e τ => exact h
  | bad => exact h
theorem pm_cons {e : Expr} {es : List Expr} {fl : List Bool} {f : XD} {g : XL} (ha : PD X T E e f) (hr : PM X T E es fl g) (hs : starEach (e :: es) X.env = (false, eval e X.env) :: starEach es X.env := by rfl) : PM X T E (e :: es) (false :: fl) (aC f g) := by
  refine PA_imp (pa_cons ha hr hs) fun σ H Q h => ?_
  obtain ⟨fp, G, ρ, τ, b, e, h⟩ := h
  refine ⟨fp, G, ρ, τ, b, e, ?_⟩
  unfold aC at h
  cases q : f ρ τ with
  | ok d τ1 =>
    rw [q] at h
    intro v fp1 G1 H1 g1 b1 r1
    refine ⟨fp1, G1, ρ, τ1, b1, e.mono g1.same g1.pre, AfterM.tail g1 (fun vs ds ps fp2 G2 H2 g2 m => ⟨ps, .im (r1.mono g2.same g2.pre) (m.weak fun p hp => none_of g1.ex hp)⟩) ?_⟩
    change AfterM X.K X.mg T (E σ) fp G H _ ((g ρ τ1).bind _) Q at h
    exact h
  | err er τ1 => rw [q] at h; exact h
  | bad => rw [q] at h; exact h
theorem pm_own {e : Expr} {es : List Expr} {fl : List Bool} {f : XD} {g : XL} (ha : PO X T E e f) (hr : PM X T E es fl g) (hs : starEach (e :: es) X.env = (false, eval e X.env) :: starEach es X.env := by rfl) : PM X T E (e :: es) (true :: fl) (aC f g) := by
  refine PA_imp (pa_cons ha hr hs) fun σ H Q h => ?_
  obtain ⟨fp, G, ρ, τ, b, e, h⟩ := h
  refine ⟨fp, G, ρ, τ, b, e, ?_⟩
  unfold aC at h
  cases q : f ρ τ with
  | ok d τ1 =>
    rw [q] at h
    intro p fp1 G1 H1 g1 b1 n0 nf n o
    refine ⟨fp1, G1, ρ, τ1, b1, e.mono g1.same g1.pre, AfterM.tail (d := d) (fl' := true :: fl) g1 (fun vs ds ps fp2 G2 H2 g2 m => ?_) ?_⟩
    · obtain ⟨u, hu, nt, _⟩ := o.there
      have hne : H1 p ≠ none := by rw [hu]; exact fun z => nomatch z
      exact ⟨p :: ps, .ow n0 (fun z => hne (g2.nfp p z nf)) (g2.new p hne n) (o.mono g2.same g2.pre fun u hu nt => g2.keep p u nf hu nt) (fun z => hne (m.new p z)) (m.weak fun p hp => none_of g1.ex hp)⟩
    · change AfterM X.K X.mg T (E σ) fp G H _ ((g ρ τ1).bind _) Q at h
      exact h
  | err er τ1 => rw [q] at h; exact h
  | bad => rw [q] at h; exact h
end

/-! ### the names are set -/
def slotM (b : Bool) (d : Dv) : Sl := if b = true then .own d else .im d
def putsM : EnvS → List Nat → List Bool → List Dv → EnvS
  | ρ, i :: is, b :: fl, d :: ds => putsM (ρ.set i (some (slotM b d))) is fl ds
  | ρ, _, _, _ => ρ
def setsV : L2.St → List Nat → List V → L2.St
  | σ, i :: is, v :: vs => setsV (σ.set i (some v)) is vs
  | σ, _, _ => σ
def okM : List Bool → List Dv → Bool
  | b :: fl, d :: ds => (if b = true then ownOk d else d.imm) && okM fl ds
  | [], [] => true
  | _, _ => false
def NotOwn (ρ : EnvS) (σ : L2.St) (p : Addr) : Prop := ∀ (j : Nat) (d : Dv), ρ[j]? = some (some (.own d)) → σ[j]? ≠ some (some (.ref p))
section
variable {K : PySem.W.Frag} {mg : Str → Option Value} {T : List (Addr × Str)} {fp0 fp : List Addr} {G0 H0 F H Hs : Hp} {τ : Sto}
theorem NotOwn.set {ρ : EnvS} {σ : L2.St} {p : Addr} (h : NotOwn ρ σ p) (i : Nat) (x : Sl) (v : V) (hx : ∀ d, x = .own d → v ≠ .ref p) : NotOwn (ρ.set i (some x)) (σ.set i (some v)) p := fun j d h1 h2 => by
  by_cases hj : j = i
  · subst hj
    by_cases hl : j < ρ.length
    · rw [List.getElem?_set_self hl] at h1
      cases h1
      by_cases hs : j < σ.length
      · rw [List.getElem?_set_self hs] at h2
        cases h2
        exact hx d rfl rfl
      · rw [List.getElem?_eq_none (by simpa using hs)] at h2
        cases h2
    · rw [List.getElem?_eq_none (by simpa using hl)] at h1
      cases h1
  · rw [List.getElem?_set_ne (Ne.symm hj)] at h1 h2
    exact h j d h1 h2
theorem SS.putsM (w : ∀ p, Hs p = none → H0 p = none) : ∀ {fl : List Bool} {vs : List V} {ds : List Dv} {ps : List Addr} (is : List Nat) {ρ : EnvS} {σ : L2.St}, RpM K fp F H Hs fl vs ds ps → SS K mg T fp0 G0 H0 fp F ρ τ σ H → (∀ p ∈ ps, NotOwn ρ σ p) →
    SS K mg T fp0 G0 H0 fp F (putsM ρ is fl ds) τ (setsV σ is vs) H
  | fl, vs, ds, _, [], ρ, σ, m, S, _ => by
    have e1 : Mv.putsM ρ [] fl ds = ρ := by cases fl <;> cases ds <;> rfl
    have e2 : setsV σ [] vs = σ := by cases vs <;> rfl
    rw [e1, e2]
    exact S
  | _, _, _, _, i :: is, ρ, σ, .nil, S, _ => S
  | _, _, _, _, i :: is, ρ, σ, .im r m, S, h => SS.putsM w is m (S.set r) fun p hp => (h p hp).set i _ _ fun d z => by cases z
  | _, _, _, _, i :: is, ρ, σ, .ow (p := p) a b c d e m, S, h => SS.putsM w is m (S.setO b c (w _ a) (fun ⟨j, _, x, h1, h2⟩ => h p List.mem_cons_self j x h1 h2) d) fun p' hp' => (h p' (List.mem_cons_of_mem _ hp')).set i _ _ fun _ _ z => e (by cases z; exact hp')
theorem RpM.tups {G G' : Hp} (t : Tups G G') (low : ∀ a, G a = none → G' a = none) {fl : List Bool} {vs : List V} {ds : List Dv} {ps : List Addr} (k : okM fl ds = true) (m : RpM K fp G H Hs fl vs ds ps) : RpM K fp G' H Hs fl vs ds ps := by
  induction m with
  | nil => exact .nil
  | im r m ih =>
    obtain ⟨k1, k2⟩ := Bool.and_eq_true_iff.mp (show (_ && _) = true from k)
    exact .im (r.imm t (List.prefix_refl _) (by simpa using k1)) (ih k2)
  | @ow fl p vs d ds ps a b c o e m ih =>
    obtain ⟨k1, k2⟩ := Bool.and_eq_true_iff.mp (show (_ && _) = true from k)
    have k1 : ownOk d = true := by simpa using k1
    refine .ow a b (low _ c) ?_ e (ih k2)
    cases d with
    | lst ds => obtain ⟨vs, e1, r⟩ := o; exact ⟨vs, e1, r.imm t (List.prefix_refl _) k1⟩
    | dct ks vs => obtain ⟨kvs, e1, n, e2, r⟩ := o; exact ⟨kvs, e1, n, e2, r.imm t (List.prefix_refl _) k1⟩
    | _ => exact False.elim o
theorem RpM.lens {G : Hp} : ∀ {fl : List Bool} {vs : List V} {ds : List Dv} {ps : List Addr}, RpM K fp G H Hs fl vs ds ps → vs.length = fl.length ∧ ds.length = fl.length
  | _, _, _, _, .nil => ⟨rfl, rfl⟩
  | _, _, _, _, .im _ m => ⟨by rw [List.length_cons, List.length_cons, m.lens.1], by rw [List.length_cons, List.length_cons, m.lens.2]⟩
  | _, _, _, _, .ow _ _ _ _ _ m => ⟨by rw [List.length_cons, List.length_cons, m.lens.1], by rw [List.length_cons, List.length_cons, m.lens.2]⟩
theorem RpM.grow {G G' H' : Hp} (s : Same G G') (e : ∀ p u, G p = none → H p = some u → G' p = none ∧ H' p = some u) : ∀ {fl : List Bool} {vs : List V} {ds : List Dv} {ps : List Addr}, RpM K fp G H Hs fl vs ds ps → RpM K fp G' H' Hs fl vs ds ps
  | _, _, _, _, .nil => .nil
  | _, _, _, _, .im r m => .im (r.mono s (List.prefix_refl _)) (m.grow s e)
  | _, _, _, _, .ow a b c o z m => by
    obtain ⟨u, hu, _⟩ := o.there
    exact .ow a b (e _ u c hu).1 (o.mono s (List.prefix_refl _) fun w hw _ => (e _ w c hw).2) z (m.grow s e)
end
/-- a, b, .. = e1, e2, ..: what names own is not looked at -/
def sParH (is : List Nat) (fl : List Bool) (f : XL) : XS := fun ρ τ => bindS (f (hideS ρ) τ) ρ fun ds τ1 => .nx (putsM ρ is fl ds) τ1
def sParS (is : List Nat) (fl : List Bool) (f : XL) : XS := fun ρ τ => bindS (f (showS ρ) τ) ρ fun ds τ1 => if okM fl ds = true then .nx (putsM ρ is fl ds) τ1 else .bad
section
variable {X : Cx} {T : List (Addr × Str)} {fp0 : List Addr} {G0 H0 : Hp} {E : L2.St → XK}
/-- behind the values the names are set, perhaps with the tuple beside -/
def WishM (is : List Nat) (D : Ends) (σ : L2.St) : List V → Hp → Prop := fun vs H1 => vs.length = is.length ∧ D.nx (setsV σ is vs) H1 ∧ ∀ a its, H1 a = none → D.nx (setsV σ is vs) (L2.upd H1 a (tupH its vs))
theorem SS.apart {K : PySem.W.Frag} {mg : Str → Option Value} {fp : List Addr} {F H : Hp} {ρ : EnvS} {τ : Sto} {σ : L2.St} (S : SS K mg T fp0 G0 H0 fp F ρ τ σ H) {a : Addr} {o : HO} (h : H a = none) : SS K mg T fp0 G0 H0 fp F ρ τ σ (L2.upd H a o) :=
  S.backH (Grow.apart S.base.sub h).gro (S.base.grow (Grow.apart S.base.sub h))
theorem putsM_wish {fp : List Addr} {F H : Hp} {ρ : EnvS} {τ : Sto} {σ : L2.St} {Hs : Hp} {is : List Nat} {fl : List Bool} {vs : List V} {ds : List Dv} {ps : List Addr} {D : Ends} (hl : is.length = fl.length) (w : ∀ p, Hs p = none → H0 p = none) (m : RpM X.K fp F H Hs fl vs ds ps) (S : SS X.K X.mg T fp0 G0 H0 fp F ρ τ σ H)
    (no : ∀ p ∈ ps, NotOwn ρ σ p) (h : ∀ σ1 H1 fp' F', fp <+: fp' → Same F F' → SS X.K X.mg T fp0 G0 H0 fp' F' (putsM ρ is fl ds) τ σ1 H1 → D.nx σ1 H1) : WishM is D σ vs H := by
  have S2 := SS.putsM w is m S no
  exact ⟨by rw [m.lens.1, hl], h _ _ fp F (List.prefix_refl _) (Same.refl _) S2, fun a its ha => h _ _ fp F (List.prefix_refl _) (Same.refl _) (S2.apart ha)⟩
theorem parH {st : Stmt} {is : List Nat} {fl : List Bool} {f : XL} (hl : is.length = fl.length)
    (ht : PS X st fun D σ H => tM X.K X.mg T E fl f σ H (WishM is D σ)) : PSd X T fp0 G0 H0 E st (sParH is fl f) := by
  refine PS_imp ht fun D σ H h => ?_
  obtain ⟨fp, F, ρ, τ, S, h⟩ := h
  refine ⟨fp, F, hideS ρ, τ, S.base, S.env, ?_⟩
  unfold sParH at h
  cases q : f (hideS ρ) τ with
  | ok ds τ1 =>
    rw [q] at h
    intro vs ps fp1 G1 H1 g1 b1 m
    exact putsM_wish hl (fun p hp => none_of S.gro.ex hp) m (S.backH g1 b1) (fun p hp j d h1 h2 => S.noOther (m.new p hp) (i := ρ.length) ⟨j, fun z => by
      have := (List.getElem?_eq_some_iff.mp h1).1
      omega, d, h1, h2⟩) fun σ1 H1 fp' F' p' s' S' => h σ1 H1 fp' F' (g1.pre.trans p') (g1.same.trans s') S'
  | err er τ1 =>
    rw [q] at h
    intro cls dx fp1 G1 H1 g1 b1 ed
    simp only [bindS, erS] at h
    by_cases im : immEr er = true
    · rw [if_pos im] at h
      exact h cls dx σ H1 fp1 G1 g1.pre g1.same (S.backH g1 b1) ed
    · rw [if_neg im] at h
      exact h.elim
  | bad => rw [q] at h; exact h
theorem parS {st : Stmt} {is : List Nat} {fl : List Bool} {f : XL} (hl : is.length = fl.length)
    (ht : PS X st fun D σ H => tM X.K X.mg T E fl f σ H (WishM is D σ)) : PSd X T fp0 G0 H0 E st (sParS is fl f) := by
  refine PS_imp ht fun D σ H h => ?_
  obtain ⟨fp, F, ρ, τ, S, h⟩ := h
  obtain ⟨G, bG, eG, sG, gG, _⟩ := S.shown
  refine ⟨fp, G, showS ρ, τ, bG, eG, ?_⟩
  unfold sParS at h
  cases q : f (showS ρ) τ with
  | ok ds τ1 =>
    rw [q] at h
    intro vs ps fp1 G1 H1 g1 b1 m
    obtain ⟨F1, S1, tp, s1, low, _⟩ := S.back sG gG g1 b1
    simp only [bindS] at h
    by_cases ok : okM fl ds = true
    · rw [if_pos ok] at h
      exact putsM_wish hl (fun p hp => none_of S.gro.ex hp) (m.tups tp low ok) S1 (fun p hp j d h1 h2 => S.noOther (m.new p hp) (i := ρ.length) ⟨j, fun z => by
        have := (List.getElem?_eq_some_iff.mp h1).1
        omega, d, h1, h2⟩) fun σ1 H1 fp' F' p' s' S' => h σ1 H1 fp' F' (g1.pre.trans p') (s1.trans s') S'
    · rw [if_neg ok] at h
      exact h.elim
  | err er τ1 =>
    rw [q] at h
    intro cls dx fp1 G1 H1 g1 b1 ed
    obtain ⟨F1, S1, tp, s1, low, _⟩ := S.back sG gG g1 b1
    simp only [bindS, erS] at h
    by_cases im : immEr er = true
    · rw [if_pos im] at h
      exact h cls dx σ H1 fp1 F1 g1.pre s1 S1 (errD_tups ed im tp)
    · rw [if_neg im] at h
      exact h.elim
  | bad => rw [q] at h; exact h
theorem tM_mono {fl : List Bool} {f : XL} {K : PySem.W.Frag} {mg : Str → Option Value} {σ : L2.St} {H : Hp} {Q Q' : List V → Hp → Prop} (h : tM K mg T E fl f σ H Q) (w : ∀ vs H1, Q vs H1 → Q' vs H1) : tM K mg T E fl f σ H Q' := by
  obtain ⟨fp, G, ρ, τ, b, e, h⟩ := h
  refine ⟨fp, G, ρ, τ, b, e, ?_⟩
  cases q : f ρ τ with
  | ok ds τ1 => rw [q] at h; exact fun vs ps fp' G' H' g b m => w _ _ (h vs ps fp' G' H' g b m)
  | err er τ1 => rw [q] at h; exact h
  | bad => rw [q] at h; exact h
theorem par2 {x y : Str} {a b : Expr} {i j : Nat} {px py pt pos : Pos} {kt k2 pt2} {fl : List Bool} {f : XL} (hc : X.calm = true) (hN : X.N.Nodup) (hi : X.N[i]? = some x) (hj : X.N[j]? = some y) (hij : i ≠ j) (hx : X.env.scope.names.lookup x = some .local) (hy : X.env.scope.names.lookup y = some .local)
    (ha : PM X T E [a, b] fl f) (hw : swappedStores [.Tuple [.Name x px, .Name y py] kt pt] (.Tuple [a, b] k2 pt2) X.env = pure (some [x, y]) := by rfl)
    (hs : swapsWithSole [.Tuple [.Name x px, .Name y py] kt pt] (.Tuple [a, b] k2 pt2) pos.line X.env = pure false := by rfl) :
    PS X (.Assign [.Tuple [.Name x px, .Name y py] kt pt] (.Tuple [a, b] k2 pt2) pos) fun D σ H => tM X.K X.mg T E fl f σ H (WishM [i, j] D σ) := by
  refine PS_imp (ps_par hc hN hi hj hij hx hy ha hw hs) fun D σ H h => tM_mono h fun vs H1 ⟨h1, h2, _⟩ => ?_
  match vs, h1 with
  | [v, w], _ => exact ⟨v, w, rfl, h2⟩
theorem par3 {x y z : Str} {a b c : Expr} {i j l : Nat} {px py pz pt pos : Pos} {kt k2 pt2} {fl : List Bool} {f : XL} (hc : X.calm = true) (hN : X.N.Nodup) (hi : X.N[i]? = some x) (hj : X.N[j]? = some y) (hl : X.N[l]? = some z) (hij : i ≠ j) (hil : i ≠ l) (hjl : j ≠ l)
    (hx : X.env.scope.names.lookup x = some .local) (hy : X.env.scope.names.lookup y = some .local) (hz : X.env.scope.names.lookup z = some .local)
    (ha : PM X T E [a, b, c] fl f) (hw : swappedStores [.Tuple [.Name x px, .Name y py, .Name z pz] kt pt] (.Tuple [a, b, c] k2 pt2) X.env = pure (some [x, y, z]) := by rfl)
    (hs : swapsWithSole [.Tuple [.Name x px, .Name y py, .Name z pz] kt pt] (.Tuple [a, b, c] k2 pt2) pos.line X.env = pure false := by rfl) :
    PS X (.Assign [.Tuple [.Name x px, .Name y py, .Name z pz] kt pt] (.Tuple [a, b, c] k2 pt2) pos) fun D σ H => tM X.K X.mg T E fl f σ H (WishM [i, j, l] D σ) := by
  refine PS_imp (ps_par3 hc hN hi hj hl hij hil hjl hx hy hz ha hw hs) fun D σ H h => tM_mono h fun vs H1 ⟨h1, h2, _⟩ => ?_
  match vs, h1 with
  | [u, v, w], _ => exact ⟨u, v, w, rfl, h2⟩
/-- .. by the tuple that was laid -/
theorem parT {es : List Expr} {tg : Expr} {is : List Nat} {pos : Pos} {k2 pt2} {fl : List Bool} {f : XL} {t : TGs} (hlen : is.length ≤ 3) (ha : PM X T E es fl f) (hg : PG X tg (gTup X.K is.length t)) (ht : ∀ vs σ H Q, vs.length = is.length → Q (setsV σ is vs) H → t vs σ H Q)
    (hs : swapsWithSole [tg] (.Tuple es k2 pt2) pos.line X.env = pure false := by rfl) (hw : swappedStores [tg] (.Tuple es k2 pt2) X.env = pure none := by rfl) (h1 : (assignEach [tg] X.env).map (·.2) = [assign tg X.env] := by rfl) :
    PS X (.Assign [tg] (.Tuple es k2 pt2) pos) fun D σ H => tM X.K X.mg T E fl f σ H (WishM is D σ) := by
  refine PS_imp (ps_asg (pz_tup ha) hg hs hw h1) fun D σ H h => tM_mono h fun vs H1 ⟨h1, _, h2⟩ => ?_
  refine ⟨by rw [h1, sizeLine_eq]; omega, fun p its hp => ⟨p, vs, rfl, rd_tup upd_same, h1, ht _ _ _ _ h1 (h2 p its hp)⟩⟩
theorem gset2 {i j : Nat} (vs : List V) (σ : L2.St) (H : Hp) (Q : L2.St → Hp → Prop) (h : vs.length = [i, j].length) (q : Q (setsV σ [i, j] vs) H) : gCons (gName i) (gCons (gName j) gNil) vs σ H Q := by
  match vs, h with
  | [v, w], _ => exact ⟨v, [w], rfl, w, [], rfl, rfl, q⟩
theorem gset3 {i j l : Nat} (vs : List V) (σ : L2.St) (H : Hp) (Q : L2.St → Hp → Prop) (h : vs.length = [i, j, l].length) (q : Q (setsV σ [i, j, l] vs) H) : gCons (gName i) (gCons (gName j) (gCons (gName l) gNil)) vs σ H Q := by
  match vs, h with
  | [u, v, w], _ => exact ⟨u, [v, w], rfl, v, [w], rfl, w, [], rfl, rfl, q⟩
end
end Mv
end
section
set_option Elab.async false
set_option linter.all false
set_option maxRecDepth 100000
namespace Mv
open PySem PySem.Spec PyProof.Rows L2

/-! ### dict(pairs) -/
def pairsD : List Dv → Option (List (Dv × Dv))
  | [] => some []
  | .tup [k, v] :: ds => if isKey k then (pairsD ds).map ((k, v) :: ·) else none
  | _ => none
def distD : List Dv → Bool
  | [] => true
  | d :: ds => !memD d ds && distD ds
def mkD (ds : List Dv) : Option Dv := (pairsD ds).bind fun ps => if distD (ps.map (·.1)) = true ∧ big ds.length = true then some (.dct (ps.map (·.1)) (ps.map (·.2))) else none
def gDict : List Dv → Option Dv
  | [.lst ds] => mkD ds
  | [.tup ds] => mkD ds
  | _ => none
theorem memD_key {k : Key} {ks : List Key} : memD (kD k) (ks.map kD) = true ↔ k ∈ ks := by
  unfold memD
  induction ks with
  | nil => simp
  | cons j ks ih =>
    rw [List.map_cons, List.any_cons, Bool.or_eq_true, ih, kD_eqv, List.mem_cons]
    constructor
    · rintro (h | h)
      · exact .inl (of_decide_eq_true h).symm
      · exact .inr h
    · rintro (h | h)
      · exact .inl (decide_eq_true h.symm)
      · exact .inr h
theorem distD_key : ∀ {ks : List Key}, distD (ks.map kD) = true → ks.Nodup
  | [], _ => List.nodup_nil
  | k :: ks, h => by
    rw [List.map_cons, distD, Bool.and_eq_true] at h
    refine List.nodup_cons.mpr ⟨?_, distD_key h.2⟩
    intro z
    rw [memD_key.mpr z] at h
    exact absurd h.1 (by decide)
theorem merge_nodup : ∀ (kvs acc : List (Key × V)), (kvs.map (·.1)).Nodup → (∀ k ∈ kvs.map (·.1), k ∉ acc.map (·.1)) → mergeK acc kvs = acc ++ kvs
  | [], acc, _, _ => (List.append_nil acc).symm
  | p :: kvs, acc, n, d => by
    rw [List.map_cons, List.nodup_cons] at n
    have hp : (acc.any fun kv => decide (kv.1 = p.1)) = false := by
      have h0 := d p.1 (by simp)
      rw [List.any_eq_false]
      intro x hx
      have : x.1 ≠ p.1 := fun z => h0 (by rw [← z]; exact List.mem_map_of_mem hx)
      simpa using this
    have e : putK acc p.1 p.2 = acc ++ [p] := by
      unfold putK
      rw [hp]
      rfl
    show mergeK (putK acc p.1 p.2) kvs = _
    rw [e, merge_nodup kvs (acc ++ [p]) n.2 (fun k hk => ?_), List.append_assoc]
    · rfl
    · rw [List.map_append, List.mem_append]
      rintro (z | z)
      · exact d k (by rw [List.map_cons]; exact List.mem_cons_of_mem _ hk) z
      · have : k = p.1 := by simpa using z
        subst this
        exact n.1 hk
section
variable {K : PySem.W.Frag} {fp : List Addr} {G : Hp}
/-- the pairs by their addresses -/
theorem pairs_rp : ∀ {ds : List Dv} {xs : List V} {ps : List (Dv × Dv)}, RpL K fp G xs ds → pairsD ds = some ps →
    ∃ (as : List Addr) (kvs : List (Key × V)), xs = as.map V.ref ∧ Paired (fun a (kv : Key × V) => ∃ its, G a = some (tupH its [kV kv.1, kv.2])) as kvs ∧ ps.map (·.1) = (kvs.map (·.1)).map kD ∧ RpL K fp G (kvs.map (·.2)) (ps.map (·.2)) ∧ ps.length = ds.length
  | [], _, _, r, e => by cases r; cases e; exact ⟨[], [], rfl, .nil, rfl, .nil, rfl⟩
  | d :: ds, _, ps, r, e => by
    cases r with
    | cons r1 r2 =>
      cases r1 with
      | @tup a its ys es h1 h2 =>
        unfold pairsD at e
        split at e
        · cases ‹Dv.tup es :: ds = []›
        · rename_i k v ds' heq
          cases heq
          split at e
          · rename_i hk
            cases e1 : pairsD ds with
            | none => rw [e1] at e; cases e
            | some qs =>
              rw [e1] at e
              cases e
              cases h2 with
              | cons rk h2 =>
                cases h2 with
                | cons rv h2 =>
                  cases h2
                  obtain ⟨key, rfl, rfl⟩ := isKey_of rk hk
                  obtain ⟨as, kvs, rfl, pr, hks, hvs, hl⟩ := pairs_rp r2 e1
                  exact ⟨a :: as, (key, _) :: kvs, rfl, .cons ⟨its, h1⟩ pr, by simp [hks], .cons rv hvs, by simp [hl]⟩
          · cases e
        · cases e
      | _ => simp [pairsD] at e
end
section
variable {X : Cx}
theorem prs_at {pins : List (Addr × Obj)} {σ : L2.St} {G H : Hp} {s : Shared} (I : Inv X pins σ H s) (sub : Same G H) : ∀ {as : List Addr} {kvs : List (Key × V)}, Paired (fun a (kv : Key × V) => ∃ its, G a = some (tupH its [kV kv.1, kv.2])) as kvs →
    ∃ prs : List (Value × Value), prs.length = as.length ∧ (∀ (j : Nat) (k v : Value), prs[j]? = some (k, v) → ∃ a : Addr, as[j]? = some a ∧ PairAt s.heap a k v) ∧ Paired (fun (kv : Key × V) (q : Value × Value) => (mixKind X.prog X.w).is kv.1 q.1 = true ∧ RelV kv.2 q.2) kvs prs
  | _, _, .nil => ⟨[], rfl, fun j k v h => by simp at h, .nil⟩
  | _, _, .cons (a := a) (b := kv) ⟨its, h⟩ t => by
    obtain ⟨prs, hl, hp, pr⟩ := prs_at I sub t
    obtain ⟨ho, rv, _⟩ := tupAt I (sub _ _ h)
    obtain ⟨u, y, ei, ru, ry⟩ := vals2 rv
    subst ei
    refine ⟨(u, y) :: prs, by simp [hl], fun j k v e => ?_, .cons ⟨kV_is ru, ry⟩ pr⟩
    cases j with
    | zero => cases e; exact ⟨a, rfl, .inl (tup_is ho)⟩
    | succ j =>
      obtain ⟨b, h1, h2⟩ := hp j k v (by simpa using e)
      exact ⟨b, by simpa using h1, h2⟩
theorem paired_at {α β : Type} {R : α → β → Prop} : ∀ {as : List α} {bs : List β} {j : Nat} {b : β}, Paired R as bs → bs[j]? = some b → ∃ a, as[j]? = some a ∧ R a b
  | _, _, j, b, .nil, e => by simp at e
  | _, _, 0, b, .cons h _, e => by cases e; exact ⟨_, rfl, h⟩
  | _, _, j + 1, b, .cons _ t, e => by
    obtain ⟨a, h1, h2⟩ := paired_at t (by simpa using e)
    exact ⟨a, by simpa using h1, h2⟩
theorem paired_len {α β : Type} {R : α → β → Prop} : ∀ {as : List α} {bs : List β}, Paired R as bs → as.length = bs.length
  | _, _, .nil => rfl
  | _, _, .cons _ t => by simp [paired_len t]
theorem kv_of {P : Program} {w : World} : ∀ {kvs : List (Key × V)} {prs : List (Value × Value)}, Paired (fun (kv : Key × V) (q : Value × Value) => (mixKind P w).is kv.1 q.1 = true ∧ RelV kv.2 q.2) kvs prs →
    L2.KV kvs ((kvs.map (·.1)).zip (prs.map (·.2))) ∧ ∀ (j : Nat) (k v : Value), prs[j]? = some (k, v) → ∃ key, ((kvs.map (·.1)).zip (prs.map (·.2)))[j]? = some (key, v) ∧ (mixKind P w).is key k = true
  | _, _, .nil => ⟨.nil, fun j k v e => by simp at e⟩
  | _, _, .cons (a := kv) (b := q) ⟨h1, h2⟩ t => by
    obtain ⟨r, f⟩ := kv_of t
    refine ⟨.cons ⟨rfl, h2⟩ r, fun j k v e => ?_⟩
    cases j with
    | zero => cases e; exact ⟨kv.1, rfl, h1⟩
    | succ j =>
      obtain ⟨key, h3, h4⟩ := f j k v (by simpa using e)
      exact ⟨key, by simpa using h3, h4⟩
theorem new_dct {K : PySem.W.Frag} {G H : Hp} (s : Same G H) {p : Addr} (h : H p = none) {kvs : List (Key × V)} {vs : List Dv} {fp : List Addr} (nd : (kvs.map (·.1)).Nodup) (r : RpL K fp G (kvs.map (·.2)) vs) : Grow G H G (L2.upd H p (.dK kvs)) ∧ G p = none ∧ OwR K fp G (L2.upd H p (.dK kvs)) p (.dct ((kvs.map (·.1)).map kD) vs) := by
  have n : G p = none := by
    cases z : G p with
    | none => rfl
    | some o => have := s _ _ z; rw [h] at this; cases this
  exact ⟨Grow.apart s h, n, kvs, upd_same, nd, rfl, r⟩
theorem cr_gDict (hcalm : X.calm = true) : CallR X (.type "dict") (VSo X.K gDict) := by
  intro pins s σ H xs us Q I rs h
  obtain ⟨fp, G, ds, d, sub, r, e, q⟩ := h
  have go : ∀ {T : String} {a : Addr} {ys : List V} {es : List Dv} {its : List Value} (P : ∀ (Ts : Nat → Addr) (ps : List (Value × Value)), PairArg X.prog X.w T a (a :: (List.range ps.length).map Ts) [] ps.length (PairRel ps) (fun h => PlainSeq T h a its.toArray ∧ PairItems h its.toArray Ts ps)),
      PlainSeq T s.heap a its.toArray → Vals ys its → RpL X.K fp G ys es → mkD es = some d → wpAny (model X.prog X.w) X.A (call (.type "dict") [.ref a]) (EP X pins σ Q) X.xe s := by
    intro T a ys es its P pl rv re hd
    unfold mkD at hd
    cases qp : pairsD es with
    | none => rw [qp] at hd; cases hd
    | some ps =>
      rw [qp] at hd
      simp only [Option.bind_some] at hd
      split at hd
      · rename_i hk
        cases hd
        obtain ⟨as, kvs, rfl, pr, hks, hvs, hl⟩ := pairs_rp re qp
        obtain ⟨prs, hpl, hpa, prk⟩ := prs_at I sub pr
        have ei := refs_at rv
        subst ei
        have hn : (kvs.map (·.1)).Nodup := distD_key (by rw [← hks]; exact hk.1)
        obtain ⟨kv1, kv2⟩ := kv_of prk
        have hlen : prs.length = es.length := by rw [hpl, paired_len pr, ← hl, ← List.length_map (f := fun p : Dv × Dv => p.1) (as := ps), hks, List.length_map, List.length_map]
        let Ts : Nat → Addr := fun j => as.getD j 0
        have items : PairItems s.heap (as.map Value.ref).toArray Ts prs := ⟨by simp [hpl], fun j k v e => by
          obtain ⟨b, h1, h2⟩ := hpa j k v e
          have : as.getD j 0 = b := by rw [List.getD_eq_getElem?_getD, h1]; rfl
          refine ⟨?_, ?_⟩
          · show (as.map Value.ref).toArray[j]? = some (.ref (as.getD j 0))
            rw [this]; simp [h1]
          · show PairAt s.heap (as.getD j 0) k v
            rw [this]; exact h2⟩
        have hz : prs.length ≤ sizeLine := by rw [hlen]; exact big_le hk.2
        refine PySem.call_dict_pairs (knd := mixKind X.prog X.w) (kvs := (kvs.map (·.1)).zip (prs.map (·.2))) (P Ts prs) (I.ok.hd hcalm) ⟨pl, items⟩ ⟨by rw [← paired_len kv1, paired_len prk], fun j k v e => ?_⟩ hz fun h' tk hd' k => ?_
        · obtain ⟨key, h1, h2⟩ := kv2 j k v e
          exact ⟨key, h1, h2⟩
        · have k' : ∀ b o, s.heap.get? b = some o → h'.get? b = some o := fun b o => k b o (by simp)
          have hm : (s.heap.objs.size == sysModules) = false := beq_eq_false_iff_ne.mpr (Nat.ne_of_gt I.big)
          have em : mergeK [] kvs = kvs := by rw [merge_nodup kvs [] hn (by simp)]; rfl
          have kvm := KV.merge kv1 (.nil : L2.KV ([] : List (Key × V)) [])
          rw [em] at kvm
          have hfr := I.hok.fresh (Nat.le_refl s.heap.objs.size)
          obtain ⟨g, n, ro⟩ := new_dct sub hfr hn hvs
          refine ⟨.ref s.heap.objs.size, _, I.laid (t' := tk) k' (Nat.le_refl _) (show ObjOk X.prog X.w _ _ _ (.dK kvs) from ⟨by rw [paired_len prk]; exact hz, hm, _, kvm, hd'⟩), rfl, q _ _ _ g hfr n ?_⟩
          rw [hks]
          exact ro
      · cases hd
  unfold gDict at e
  split at e
  · rename_i es
    cases r with
    | cons r1 r2 =>
      cases r2
      cases r1 with
      | lst h1 h2 =>
        obtain ⟨u, rfl, ru⟩ := vals1 rs
        cases ru
        obtain ⟨its, rv, ⟨o, n, ho, hc, hd, hdat⟩, _⟩ := I.list (.inl (.inl (sub _ _ h1)))
        exact go (fun Ts ps => PairArg.list _ _ Ts ps) ⟨o, n, ho, hc, hd, hdat⟩ rv h2 e
  · rename_i es
    cases r with
    | cons r1 r2 =>
      cases r2
      cases r1 with
      | tup h1 h2 =>
        obtain ⟨u, rfl, ru⟩ := vals1 rs
        cases ru
        obtain ⟨ho, rv, _⟩ := tupAt I (sub _ _ h1)
        exact go (fun Ts ps => PairArg.tuple _ _ Ts ps) ⟨_, 0, ho, rfl, rfl, rfl⟩ rv h2 e
  · cases e
end
end Mv
end
section
set_option Elab.async false
set_option linter.all false
set_option maxRecDepth 100000
namespace Mv
open PySem PySem.Spec PyProof.Rows L2

/-! ### d[k] = v -/
def putKs (k : Dv) (ks : List Dv) : List Dv := if memD k ks = true then ks else ks ++ [k]
def replD (k v : Dv) : List Dv → List Dv → List Dv
  | a :: as, b :: bs => (if a.eqv k = true then v else b) :: replD k v as bs
  | _, bs => bs
def putVs (k v : Dv) (ks vs : List Dv) : List Dv := if memD k ks = true then replD k v ks vs else vs ++ [v]
section
variable {K : PySem.W.Frag} {fp : List Addr} {G : Hp}
theorem any_mem {kvs : List (Key × V)} {k : Key} : (kvs.any fun kv => decide (kv.1 = k)) = memD (kD k) ((kvs.map (·.1)).map kD) := by
  unfold memD
  induction kvs with
  | nil => rfl
  | cons p kvs ih => rw [List.map_cons, List.map_cons, List.any_cons, List.any_cons, ih, kD_eqv]
theorem put_rp {kvs : List (Key × V)} {vs : List Dv} {k : Key} {v : V} {d : Dv} (n : (kvs.map (·.1)).Nodup) (r : RpL K fp G (kvs.map (·.2)) vs) (rv : Rp K fp G v d) :
    ((putK kvs k v).map (·.1)).Nodup ∧ ((putK kvs k v).map (·.1)).map kD = putKs (kD k) ((kvs.map (·.1)).map kD) ∧ RpL K fp G ((putK kvs k v).map (·.2)) (putVs (kD k) d ((kvs.map (·.1)).map kD) vs) := by
  unfold putK putKs putVs
  rw [any_mem]
  by_cases h : memD (kD k) ((kvs.map (·.1)).map kD) = true
  · rw [if_pos h, if_pos h, if_pos h]
    have e1 : (kvs.map fun kv => if kv.1 = k then (kv.1, v) else kv).map (·.1) = kvs.map (·.1) := by
      rw [List.map_map]
      refine List.map_congr_left fun p _ => ?_
      show (if p.1 = k then (p.1, v) else p).1 = p.1
      split <;> rfl
    refine ⟨by rw [e1]; exact n, by rw [e1], ?_⟩
    clear h n e1
    induction kvs generalizing vs with
    | nil => cases r; exact .nil
    | cons p kvs ih =>
      cases r with
      | cons r1 r2 =>
        rw [List.map_cons, List.map_cons, List.map_cons, List.map_cons, replD]
        refine .cons ?_ (ih r2)
        rw [kD_eqv]
        by_cases hp : p.1 = k
        · rw [if_pos hp, if_pos (decide_eq_true hp)]; exact rv
        · rw [if_neg hp, if_neg (by simpa using hp)]; exact r1
  · have hn : k ∉ kvs.map (·.1) := fun z => h (memD_key.mpr z)
    rw [if_neg h, if_neg h, if_neg h]
    refine ⟨?_, by simp, ?_⟩
    · rw [List.map_append, List.nodup_append]
      refine ⟨n, by simp, ?_⟩
      intro a ha b hb z
      have : b = k := by simpa using hb
      exact hn (by rw [← this, ← z]; exact ha)
    · rw [List.map_append]
      exact r.append (.cons rv .nil)
theorem len_rp {kvs : List (Key × V)} {vs : List Dv} (r : RpL K fp G (kvs.map (·.2)) vs) : kvs.length = vs.length := by
  have := r.length
  rw [List.length_map] at this
  exact this
end
def putS (i : Nat) (k v : Dv) (ρ : EnvS) (τ : Sto) : SR := match ρ[i]? with
  | some (some (.own (.dct ks vs))) => if isKey k = true ∧ big (vs.length + 1) = true then .nx (ρ.set i (some (.own (.dct (putKs k ks) (putVs k v ks vs))))) τ else .bad
  | _ => .bad
def ownDc (i : Nat) (ρ : EnvS) : Bool := match ρ[i]? with
  | some (some (.own (.dct _ _))) => true
  | _ => false
theorem ownDc_at {i : Nat} {ρ : EnvS} (h : ownDc i ρ ≠ false) : ∃ ks vs, ρ[i]? = some (some (.own (.dct ks vs))) := by
  unfold ownDc at h
  split at h
  · exact ⟨_, _, ‹_›⟩
  · exact absurd rfl h
/-- x[k] = v, x a dict that the name owns -/
def sPut (i : Nat) (fk fv : XD) : XS := fun ρ τ => if ownDc i ρ = false then .bad else bindS (fv (showS ρ) τ) ρ fun v τ1 => if v.imm = true then bindS (fk (showS ρ) τ1) ρ fun k τ2 => putS i k v ρ τ2 else .bad
section
variable {X : Cx} {T : List (Addr × Str)} {fp0 : List Addr} {G0 H0 : Hp} {E : L2.St → XK}
theorem own_dct {K : PySem.W.Frag} {mg : Str → Option Value} {fp : List Addr} {F H : Hp} {ρ : EnvS} {τ : Sto} {σ : L2.St} {i : Nat} (S : SS K mg T fp0 G0 H0 fp F ρ τ σ H) {ks vs : List Dv} (h : ρ[i]? = some (some (.own (.dct ks vs)))) :
    ∃ p kvs, σ[i]? = some (some (.ref p)) ∧ H p = some (.dK kvs) ∧ (kvs.map (·.1)).Nodup ∧ ks = (kvs.map (·.1)).map kD ∧ RpL K fp F (kvs.map (·.2)) vs := by
  obtain ⟨p, e1, kvs, e2, n, e3, r⟩ := own_at S h
  exact ⟨p, kvs, e1, e2, n, e3, r⟩
theorem sd_put {x : Str} {i : Nat} {k v : Expr} {np pos' pos : Pos} {fk fv : XD} (hu : X.A.units + 1 < cLine) (hN : X.N[i]? = some x) (hv : Vis X.env.scope x) (hk : PD X T E k fk) (he : PD X T E v fv) (hd : (x == ("__debug__" : Str)) = false := by decide) (hcd : (x == ("__classdict__" : Str)) = false := by decide)
    (hs : swapsWith v (some (.Subscript (.Name x np) k pos')) pos.line X.env = pure false := by rfl) : PSd X T fp0 G0 H0 E (.Assign [.Subscript (.Name x np) k pos'] v pos) (sPut i fk fv) := by
  refine PS_imp (ps_dput hu (pe_var (i := i) hN hv hd hcd) hk he hs) fun D σ H h => ?_
  obtain ⟨fp, F, ρ, τ, S, h⟩ := h
  have hw : ownDc i ρ ≠ false := fun z => by
    unfold sPut at h
    rw [if_pos z] at h
    exact h
  unfold sPut at h
  rw [if_neg hw] at h
  obtain ⟨ks, vs, ho⟩ := ownDc_at hw
  obtain ⟨G, bG, eG, sG, gG, _⟩ := S.shown
  refine ⟨fp, G, showS ρ, τ, bG, eG, S.evalS h bG sG gG fun d τ1 v fp1 F1 G1 H1 S1 rv b1 g1 tp low gr p1 s1 _ h1 => ?_⟩
  by_cases im : d.imm = true
  · rw [if_pos im] at h1
    have rv1 := rv.imm tp (List.prefix_refl _) im
    obtain ⟨p, kvs, hp, hH, nd, e3, rk⟩ := own_dct S1 ho
    refine ⟨.ref p, hp, ?_⟩
    obtain ⟨G2, bG2, eG2, sG2, gG2, _⟩ := S1.shown
    refine ⟨fp1, G2, showS ρ, τ1, bG2, eG2, S1.evalS h1 bG2 sG2 gG2 fun k τ2 y fp2 F2 G3 H2 S2 ry b2 g2 tp2 low2 gr2 p2 s2 _ h2 => ?_⟩
    unfold putS at h2
    rw [ho] at h2
    simp only at h2
    by_cases hk2 : isKey k = true ∧ big (vs.length + 1) = true
    · rw [if_pos hk2] at h2
      obtain ⟨key, rfl, rfl⟩ := isKey_of ry hk2.1
      obtain ⟨p', kvs2, hp', hH2, nd2, e32, rk2⟩ := own_dct S2 ho
      rw [hp] at hp'
      cases hp'
      obtain ⟨q1, q2, q3⟩ := put_rp (k := key) nd2 rk2 (rv1.mono s2 p2)
      refine ⟨p, _, rfl, DPut.k hH2 ?_, h2 σ _ fp2 F2 (List.prefix_refl _) (Same.refl _) (S2.mut ho hp ⟨_, upd_same, q1, by rw [e32]; exact q2.symm, ?_⟩)⟩
      · have := big_le hk2.2
        rw [len_rp rk2]
        omega
      · rw [e32]
        exact q3
    · rw [if_neg hk2] at h2
      exact h2.elim
  · rw [if_neg im] at h1
    exact h1.elim

/-! ### the store's dicts -/
theorem Base.put {K : PySem.W.Frag} {mg : Str → Option Value} {fp : List Addr} {G H : Hp} {τ : Sto} {n : Nat} {a : Addr} {o : So} {u u' : HO} (b : Base K mg T fp G τ H) (ha : fp[n]? = some a) (hu : H a = some u) (n1 : ∀ ps, u ≠ .tbl ps) (n2 : ∀ φ, u ≠ .ext φ) (n3 : ∀ fs, u ≠ .xd fs)
    (r : SoR K mg fp G (L2.upd H a u') a o) (im : o.imm = true) : Base K mg T fp G (τ.set n o) (L2.upd H a u') ∧ Gro fp G H fp G (L2.upd H a u') := by
  have hm : a ∈ fp := List.mem_of_getElem? ha
  have hG := b.sto.out a hm
  have ne : ∀ c, c ∉ fp → c ≠ a := fun c hc z => hc (by rw [z]; exact hm)
  refine ⟨⟨fun c w e => ?_, b.nt, ⟨by rw [List.length_set]; exact b.sto.len, b.sto.nd, b.sto.out, fun m w c h1 h2 => ?_, fun w hw => ?_⟩, tabs_write b.tab hu n1 n2⟩, ⟨List.prefix_refl _, Same.refl _, fun c w h e _ => ?_, fun c h => ?_, fun _ _ h => h, fun _ h h' => absurd h h'⟩⟩
  · rw [upd_ne (fun z => by rw [z, hG] at e; cases e)]
    exact b.sub _ _ e
  · by_cases hc : m = n
    · subst hc
      rw [ha] at h2
      cases h2
      by_cases hl : m < τ.length
      · rw [List.getElem?_set_self hl] at h1
        cases h1
        exact r
      · rw [List.getElem?_eq_none (by simpa using hl)] at h1
        cases h1
    · rw [List.getElem?_set_ne (Ne.symm hc)] at h1
      refine (b.sto.at_ m w c h1 h2).mono (Same.refl _) (List.prefix_refl _) fun c1 v k hv => ?_
      rcases k with k | ⟨fs, k⟩
      · subst k
        rw [upd_ne (fun z => hc ?_)]
        exact hv
        subst z
        obtain ⟨hm1, e1⟩ := List.getElem?_eq_some_iff.mp h2
        obtain ⟨hn1, e2⟩ := List.getElem?_eq_some_iff.mp ha
        exact (List.getElem_inj b.sto.nd).mp (e1.trans e2.symm)
      · rw [upd_ne (fun z => by rw [z, hu, k] at hv; exact n3 fs (Option.some.inj hv))]
        exact hv
  · rcases List.mem_or_eq_of_mem_set hw with z | z
    · exact b.sto.im w z
    · rw [z]; exact im
  · rw [upd_ne (ne c h)]; exact e
  · by_cases z : c = a
    · subst z; rw [upd_same]; exact fun z => nomatch z
    · rw [upd_ne z]; exact h
def putT (d k v : Dv) (ρ : EnvS) (τ : Sto) : SR := match d with
  | .tok n => match τ[n]? with
    | some (.dct ks vs) => if isKey k = true ∧ big (vs.length + 1) = true then .nx ρ (τ.set n (.dct (putKs k ks) (putVs k v ks vs))) else .bad
    | _ => .bad
  | _ => .bad
theorem immL_repl {k v : Dv} (hv : v.imm = true) : ∀ {ks vs : List Dv}, Dv.immL vs = true → Dv.immL (replD k v ks vs) = true
  | [], vs, h => h
  | _ :: _, [], h => rfl
  | a :: as, b :: bs, h => by
    have h' := Bool.and_eq_true_iff.mp (show (_ && _) = true from h)
    rw [replD]
    show (Dv.imm _ && Dv.immL _) = true
    rw [immL_repl hv h'.2, Bool.and_true]
    split
    · exact hv
    · exact h'.1
theorem immL_put {k v : Dv} {ks vs : List Dv} (hv : v.imm = true) (h : Dv.immL vs = true) : Dv.immL (putVs k v ks vs) = true := by
  unfold putVs
  split
  · exact immL_repl hv h
  · rw [immL_all, List.all_append, ← immL_all, h]
    simp [hv]
/-- e[k] = v, e a dict of the store -/
def sPutT (fo fk fv : XD) : XS := fun ρ τ => bindS (fv (showS ρ) τ) ρ fun v τ1 => if v.imm = true then bindS (fo (showS ρ) τ1) ρ fun d τ2 => if d.imm = true then bindS (fk (showS ρ) τ2) ρ fun k τ3 => putT d k v ρ τ3 else .bad else .bad
theorem sd_putT {o k v : Expr} {pos' pos : Pos} {fo fk fv : XD} (hu : X.A.units + 1 < cLine) (ho : PD X T E o fo) (hk : PD X T E k fk) (he : PD X T E v fv)
    (hs : swapsWith v (some (.Subscript o k pos')) pos.line X.env = pure false := by rfl) : PSd X T fp0 G0 H0 E (.Assign [.Subscript o k pos'] v pos) (sPutT fo fk fv) := by
  refine PS_imp (ps_dput hu ho hk he hs) fun D σ H h => ?_
  obtain ⟨fp, F, ρ, τ, S, h⟩ := h
  obtain ⟨G, bG, eG, sG, gG, _⟩ := S.shown
  refine ⟨fp, G, showS ρ, τ, bG, eG, S.evalS h bG sG gG fun d τ1 v fp1 F1 G1 H1 S1 rv b1 g1 tp low gr p1 s1 _ h1 => ?_⟩
  by_cases im : d.imm = true
  · rw [if_pos im] at h1
    have rv1 := rv.imm tp (List.prefix_refl _) im
    obtain ⟨G2, bG2, eG2, sG2, gG2, _⟩ := S1.shown
    refine ⟨fp1, G2, showS ρ, τ1, bG2, eG2, S1.evalS h1 bG2 sG2 gG2 fun t τ2 x fp2 F2 G3 H2 S2 rx b2 g2 tp2 low2 gr2 p2 s2 _ h2 => ?_⟩
    by_cases it : t.imm = true
    · rw [if_pos it] at h2
      have rx1 := rx.imm tp2 (List.prefix_refl _) it
      obtain ⟨G4, bG4, eG4, sG4, gG4, _⟩ := S2.shown
      refine ⟨fp2, G4, showS ρ, τ2, bG4, eG4, S2.evalS h2 bG4 sG4 gG4 fun k τ3 y fp3 F3 G5 H3 S3 ry b3 g3 tp3 low3 gr3 p3 s3 _ h3 => ?_⟩
      unfold putT at h3
      split at h3
      · rename_i n _
        split at h3
        · rename_i ks vs hn
          split at h3
          · rename_i hk2
            obtain ⟨key, rfl, rfl⟩ := isKey_of ry hk2.1
            have rx2 := rx1.mono s3 p3
            cases rx2 with
            | tok ha =>
              rename_i a
              obtain ⟨kvs, hH, nd, e3, rk⟩ := S3.base.sto.at_ n _ _ hn ha
              have rv2 := (rv1.mono s2 p2).mono s3 p3
              obtain ⟨q1, q2, q3⟩ := put_rp (k := key) nd rk rv2
              have imv : Dv.immL vs = true := S3.base.sto.im _ (List.mem_of_getElem? hn)
              obtain ⟨b4, g4⟩ := S3.base.put (o := .dct (putKs (kD key) ks) (putVs (kD key) d ks vs)) (u' := .dK (putK kvs key v)) ha hH (fun _ z => nomatch z) (fun _ z => nomatch z) (fun _ z => nomatch z) ⟨_, upd_same, q1, by rw [e3]; exact q2.symm, by rw [e3]; exact q3⟩ (immL_put im imv)
              refine ⟨a, _, rfl, DPut.k hH ?_, h3 σ _ fp3 F3 (List.prefix_refl _) (Same.refl _) (S3.backH g4 b4)⟩
              have := big_le hk2.2
              rw [len_rp rk]
              omega
          · exact h3.elim
        · exact h3.elim
      · exact h3.elim
    · rw [if_neg it] at h2
      exact h2.elim
  · rw [if_neg im] at h1
    exact h1.elim

/-! ### d.get(k), d.get(k, x) -/
def okGet : Dv → Sto → Bool
  | .dct _ _, _ => true
  | .tok n, τ => match τ[n]? with
    | some (.dct _ _) => true
    | _ => false
  | _, _ => false
def dctOf : Dv → Sto → Option (List Dv × List Dv)
  | .dct ks vs, _ => some (ks, vs)
  | .tok n, τ => match τ[n]? with
    | some (.dct ks vs) => some (ks, vs)
    | _ => none
  | _, _ => none
def gGet : List Dv → Sto → Option Dv
  | [d, k], τ => (dctOf d τ).bind fun p => if isKey k = true then some ((lookK k p.1 p.2).getD .non) else none
  | [d, k, x], τ => (dctOf d τ).bind fun p => if isKey k = true then some ((lookK k p.1 p.2).getD x) else none
  | _, _ => none
/-- what such a value is in the heap -/
theorem dct_at {K : PySem.W.Frag} {mg : Str → Option Value} {fp : List Addr} {G H : Hp} {τ : Sto} {v : V} {d : Dv} {p : List Dv × List Dv} (sub : Same G H) (sto : StoR K mg fp G τ H) (r : Rp K fp G v d) (e : dctOf d τ = some p) :
    ∃ a kvs, v = .ref a ∧ H a = some (.dK kvs) ∧ p.1 = (kvs.map (·.1)).map kD ∧ RpL K fp G (kvs.map (·.2)) p.2 := by
  cases r with
  | dct h1 n h2 => cases e; exact ⟨_, _, rfl, sub _ _ h1, rfl, h2⟩
  | @tok a n ha =>
    simp only [dctOf] at e
    split at e
    · rename_i ks vs hn
      cases e
      obtain ⟨kvs, hH, nd, e3, rk⟩ := sto.at_ n _ a hn ha
      exact ⟨a, kvs, rfl, hH, e3, rk⟩
    · cases e
  | _ => cases e
theorem look_get {K : PySem.W.Frag} {fp : List Addr} {G : Hp} {kvs : List (Key × V)} {vs : List Dv} {k : Key} {x : V} {dx : Dv} (r : RpL K fp G (kvs.map (·.2)) vs) (rx : Rp K fp G x dx) : Rp K fp G ((valV kvs k).getD x) ((lookK (kD k) ((kvs.map (·.1)).map kD) vs).getD dx) := by
  cases q : lookK (kD k) ((kvs.map (·.1)).map kD) vs with
  | none => rw [lookK_none r q]; exact rx
  | some d =>
    obtain ⟨v, e, rv⟩ := lookK_val r q
    rw [e]
    exact rv
theorem mt_get (hu : X.A.units + 1 < cLine) : MtR X "dict.get" (fun x xs H Q => ∃ a kvs k, x = .ref a ∧ H a = some (.dK kvs) ∧ (xs = [kV k] ∧ Q ((valV kvs k).getD .non) H ∨ ∃ d, xs = [kV k, d] ∧ Q ((valV kvs k).getD d) H)) := by
  intro pins s σ H x xs v us Q I rx rxs h
  obtain ⟨a, kvs, k, rfl, ha, h⟩ := h
  obtain rfl : v = Value.ref a := rx
  rcases h with ⟨rfl, q⟩ | ⟨d, rfl, q⟩
  · obtain ⟨u, rfl, ru⟩ := vals1 rxs
    exact d_get1 hu I (DGet.k ha) ru fun w' s' I' rw' => ⟨_, H, I', rw', q⟩
  · obtain ⟨u, w, rfl, ru, rw'⟩ := vals2 rxs
    exact d_get2 hu I (DGet.k ha) ru rw' fun w' s' I' rw' => ⟨_, H, I', rw', q⟩
theorem md_get (hu : X.A.units + 1 < cLine) : MD X "get" okGet gGet := by
  intro fp G τ H v d sub sto r hk
  have hd : ∃ p, dctOf d τ = some p := by
    cases d <;> simp only [okGet, Bool.false_eq_true] at hk
    · exact ⟨_, rfl⟩
    · split at hk
      · rename_i h; exact ⟨_, by simp only [dctOf, h]; rfl⟩
      · cases hk
  obtain ⟨p, hp⟩ := hd
  obtain ⟨a, kvs, rfl, ha, _, _⟩ := dct_at sub sto r hp
  refine ⟨"dict", "dict.get", _, ⟨PySem.F.plainAttrs_dict, PySem.F.slot_dict_get, PySem.F.type_dict_get, mt_get hu⟩, .inl (.inr (.inr (.inl ⟨rfl, .inl ⟨kvs, ha⟩⟩))), ?_⟩
  intro fp2 G2 τ2 H2 vs es c Q sub2 sto2 r2 e q
  cases r2 with
  | cons ra rb =>
    cases rb with
    | nil => simp [gGet] at e
    | cons ry rn =>
      cases rn with
      | nil =>
        simp only [gGet] at e
        cases q2 : dctOf d τ2 with
        | none => rw [q2] at e; cases e
        | some p2 =>
          rw [q2] at e
          simp only [Option.bind_some] at e
          split at e
          · rename_i hkey
            cases e
            obtain ⟨a2, kvs2, e1, ha2, e2, rk⟩ := dct_at sub2 sto2 ra q2
            cases e1
            obtain ⟨key, rfl, rfl⟩ := isKey_of ry hkey
            refine ⟨_, kvs2, key, rfl, ha2, .inl ⟨rfl, q _ _ _ (Grow.refl sub2) ?_⟩⟩
            rw [e2]
            exact look_get rk .non
          · cases e
      | cons rd rn =>
        cases rn with
        | cons _ _ => simp [gGet] at e
        | nil =>
          simp only [gGet] at e
          cases q2 : dctOf d τ2 with
          | none => rw [q2] at e; cases e
          | some p2 =>
            rw [q2] at e
            simp only [Option.bind_some] at e
            split at e
            · rename_i hkey
              cases e
              obtain ⟨a2, kvs2, e1, ha2, e2, rk⟩ := dct_at sub2 sto2 ra q2
              cases e1
              obtain ⟨key, rfl, rfl⟩ := isKey_of ry hkey
              refine ⟨_, kvs2, key, rfl, ha2, .inr ⟨_, rfl, q _ _ _ (Grow.refl sub2) ?_⟩⟩
              rw [e2]
              exact look_get rk rd
            · cases e
end
end Mv
end
section
set_option Elab.async false
set_option linter.all false
set_option maxRecDepth 100000
namespace Mv
open PySem PySem.Spec PyProof.Rows L2

/-! ### a new object goes into the store -/
theorem Base.adopt {K : PySem.W.Frag} {mg : Str → Option Value} {T : List (Addr × Str)} {fp0 fp : List Addr} {G0 H0 G H : Hp} {τ : Sto} {p : Addr} {o : So} (b : Base K mg T fp G τ H) (g : Gro fp0 G0 H0 fp G H) (n0 : H0 p = none) (nf : p ∉ fp) (n : G p = none)
    (r : SoR K mg fp G H p o) (im : o.imm = true) : Base K mg T (fp ++ [p]) G (τ ++ [o]) H ∧ Gro fp0 G0 H0 (fp ++ [p]) G H := by
  have pre : fp <+: fp ++ [p] := ⟨[p], rfl⟩
  refine ⟨⟨b.sub, b.nt, ⟨by simp [b.sto.len], ?_, fun c hc => ?_, fun m w c h1 h2 => ?_, fun w hw => ?_⟩, b.tab⟩, ⟨g.pre.trans pre, g.same, g.keep, g.ex, g.new, fun c hc h => ?_⟩⟩
  · rw [List.nodup_append]
    refine ⟨b.sto.nd, by simp, fun a ha c hc z => ?_⟩
    have : c = p := by simpa using hc
    exact nf (by rw [← this, ← z]; exact ha)
  · rcases List.mem_append.mp hc with z | z
    · exact b.sto.out c z
    · have : c = p := by simpa using z
      rw [this]; exact n
  · by_cases hm : m < τ.length
    · rw [List.getElem?_append_left hm] at h1
      rw [List.getElem?_append_left (by rw [b.sto.len]; exact hm)] at h2
      exact (b.sto.at_ m w c h1 h2).mono (Same.refl _) pre fun _ _ _ z => z
    · rw [List.getElem?_append_right (by omega)] at h1
      rw [List.getElem?_append_right (by rw [b.sto.len]; omega)] at h2
      rw [b.sto.len] at h2
      cases q : m - τ.length with
      | zero =>
        rw [q] at h1 h2
        cases h1
        cases h2
        exact SoR.mono r (Same.refl _) pre fun _ _ _ z => z
      | succ j => rw [q] at h1; simp at h1
  · rcases List.mem_append.mp hw with z | z
    · exact b.sto.im w z
    · have : w = o := by simpa using z
      rw [this]; exact im
  · rcases List.mem_append.mp hc with z | z
    · exact g.nfp c z h
    · have : c = p := by simpa using z
      rw [this]; exact n0
def newD (d : Dv) (τ : Sto) : Res Dv := match d with
  | .lst ds => if Dv.immL ds = true then .ok (.tok τ.length) (τ ++ [.lst ds]) else .bad
  | .dct ks vs => if Dv.immL vs = true then .ok (.tok τ.length) (τ ++ [.dct ks vs]) else .bad
  | _ => .bad
/-- a new list or dict that may be changed wherever it is held -/
def xNew (f : XD) : XD := fun ρ τ => (f ρ τ).bind newD
section
variable {X : Cx} {T : List (Addr × Str)} {E : L2.St → XK}
theorem pd_new {e : Expr} {f : XD} (h : PO X T E e f) : PD X T E e (xNew f) := by
  refine PE_imp h fun σ H Q w => ?_
  obtain ⟨fp, G, ρ, τ, b, e, w⟩ := w
  refine ⟨fp, G, ρ, τ, b, e, ?_⟩
  unfold xNew at w
  cases q : f ρ τ with
  | ok d τ1 =>
    rw [q] at w
    intro p fp1 G1 H1 g b1 n0 nf n o
    change AfterP X.K X.mg T (fun fp G d v => Rp X.K fp G v d) (E σ) fp G H (newD d τ1) Q at w
    have fin : ∀ o : So, SoR X.K X.mg fp1 G1 H1 p o → o.imm = true → newD d τ1 = .ok (.tok τ1.length) (τ1 ++ [o]) → Q (.ref p) H1 := fun o r im e => by
      rw [e] at w
      obtain ⟨b2, g2⟩ := b1.adopt g n0 nf n r im
      refine w _ _ G1 H1 g2 b2 (.tok ?_)
      rw [← b1.sto.len, List.getElem?_append_right (Nat.le_refl _), Nat.sub_self]
      rfl
    cases d with
    | lst ds =>
      by_cases im : Dv.immL ds = true
      · exact fin (.lst ds) o im (by simp only [newD, if_pos im])
      · simp only [newD, if_neg im] at w; exact w.elim
    | dct ks vs =>
      by_cases im : Dv.immL vs = true
      · exact fin (.dct ks vs) o im (by simp only [newD, if_pos im])
      · simp only [newD, if_neg im] at w; exact w.elim
    | _ => exact False.elim o
  | err er τ1 => rw [q] at w; exact w
  | bad => rw [q] at w; exact w

/-! ### {'a': e, ..} -/
structure PKV (X : Cx) (T : List (Addr × Str)) (E : L2.St → XK) (pos : Pos) (keys : List (Option Expr)) (values : List Expr) (ks : List Str) (a : XL) : Prop where
  ok : ∃ trs, PPs X pos keys values trs ∧ ∀ σ H Q, tA X.K X.mg T E a σ H (fun vs H1 => Q ((ks.map V.str).zip vs) H1) → tPairs trs σ H Q
  len : keys.length = values.length
  all : keys.all (·.isSome) = true
  ksl : ks.length = keys.length
theorem pkv_nil {pos : Pos} : PKV X T E pos [] [] [] aN := ⟨⟨[], pps_nil, fun σ H Q h => by
  obtain ⟨fp, G, ρ, τ, b, e, h⟩ := h
  exact h [] fp G H (Gro.refl _ _ _) b .nil⟩, rfl, rfl, rfl⟩
theorem pkv_cons {pos p2 : Pos} {x : Str} {j : Nat} {v : Expr} {keys : List (Option Expr)} {values : List Expr} {ks : List Str} {f : XD} {a : XL} (hv : PD X T E v f) (hr : PKV X T E pos keys values ks a) :
    PKV X T E pos (some (.Constant (.str x) j p2) :: keys) (v :: values) (x :: ks) (aC f a) := by
  obtain ⟨trs, h1, h2⟩ := hr.ok
  refine ⟨⟨_, pps_cons (pe_str (x := x)) hv h1, fun σ H Q h => ?_⟩, by simp [hr.len], by simp [hr.all], by simp [hr.ksl]⟩
  obtain ⟨fp, G, ρ, τ, b, e, h⟩ := h
  refine tD_step (k := fun d τ1 => (a ρ τ1).bind fun ds τ2 => .ok (d :: ds) τ2) b e h fun u fp1 G1 H1 τ1 d b1 e1 g1 r1 h1 => h2 σ H1 _ ?_
  refine tA_step (k := fun ds τ2 => .ok (d :: ds) τ2) b1 e1 h1 fun vs fp2 G2 H2 τ2 ds b2 e2 g2 r2 h2 => ?_
  exact h2 (u :: vs) fp2 G2 H2 (Gro.refl _ _ _) b2 (.cons (r1.mono g2.same g2.pre) r2)
def xDct (ks : List Str) (a : XL) : XD := fun ρ τ => (a ρ τ).bind fun vs τ1 => if distD (ks.map Dv.str) = true ∧ vs.length = ks.length then .ok (.dct (ks.map Dv.str) vs) τ1 else .bad
theorem po_dct {pos : Pos} {keys : List (Option Expr)} {values : List Expr} {ks : List Str} {a : XL} (h : PKV X T E pos keys values ks a) (h0 : keys ≠ [] := by simp) (h15 : keys.length ≤ 15 := by decide) : PO X T E (.Dict keys values pos) (xDct ks a) := by
  obtain ⟨trs, h1, h2⟩ := h.ok
  refine PE_imp (pe_disp h1 h.all h.len h0 h15) fun σ H Q w => ?_
  obtain ⟨fp, G, ρ, τ, b, e, w⟩ := w
  intro p hp
  have gA := Grow.apart (o := .dK []) b.sub hp
  have nG : G p = none := by
    cases z : G p with
    | none => rfl
    | some o => have := b.sub _ _ z; rw [hp] at this; cases this
  have nf : p ∉ fp := fun z => b.sto.there z hp
  refine h2 σ _ _ ⟨fp, G, ρ, τ, b.grow gA, e, ?_⟩
  unfold xDct at w
  cases q : a ρ τ with
  | ok vs τ1 =>
    rw [q] at w
    intro us fp1 G1 H1 g1 b1 r1
    change AfterO X.K X.mg T (E σ) fp G H (if _ then _ else _) Q at w
    by_cases hk : distD (ks.map Dv.str) = true ∧ vs.length = ks.length
    · rw [if_pos hk] at w
      have e1 : H1 p = some (.dK []) := g1.keep p _ nf upd_same (fun _ z => nomatch z)
      have n1 : G1 p = none := g1.new p (by rw [upd_same]; exact fun z => nomatch z) nG
      have nf1 : p ∉ fp1 := fun z => by
        have := g1.nfp p z nf
        rw [upd_same] at this; cases this
      let kvs : List (Key × V) := (ks.map Sum.inr).zip us
      have hl : us.length = ks.length := by rw [r1.length, hk.2]
      have m1 : kvs.map (·.1) = ks.map Sum.inr := by
        show ((ks.map Sum.inr).zip us).map Prod.fst = _
        rw [List.map_fst_zip]
        simp [hl]
      have m2 : kvs.map (·.2) = us := by
        show ((ks.map Sum.inr).zip us).map Prod.snd = _
        rw [List.map_snd_zip]
        simp [hl]
      have mk : (ks.map Sum.inr).map kD = ks.map Dv.str := by rw [List.map_map]; rfl
      have nd : (kvs.map (·.1)).Nodup := distD_key (by rw [m1, mk]; exact hk.1)
      have em : mergeK [] kvs = kvs := by rw [merge_nodup kvs [] nd (by simp)]; rfl
      refine ⟨e1, kvs, ?_, ?_, ?_⟩
      · show (ks.map V.str).zip us = ((ks.map Sum.inr).zip us).map fun kv => (kV kv.1, kv.2)
        rw [← List.map_id us, List.zip_map, List.map_id, List.zip_map_left, List.map_map]
        congr 1
      · have hkl := h.ksl
        show ((ks.map Sum.inr).zip us).length ≤ 15
        rw [List.length_zip, List.length_map]
        omega
      · rw [em]
        have b2 : Base X.K X.mg T fp1 G1 τ1 (L2.upd H1 p (.dK kvs)) := b1.write e1 n1 nf1 (fun _ z => nomatch z) (fun _ z => nomatch z) (fun _ z => nomatch z)
        have g0 : Gro fp G H fp1 G1 H1 := gA.gro.trans g1
        refine w p fp1 G1 _ (g0.write hp) b2 hp nf1 n1 ⟨kvs, upd_same, nd, by rw [m1, mk], by rw [m2]; exact r1⟩
    · rw [if_neg hk] at w
      exact w.elim
  | err er τ1 =>
    rw [q] at w
    exact fun cls dx fp1 G1 H1 g1 b1 ed => w cls dx fp1 G1 H1 (gA.gro.trans g1) b1 ed
  | bad => rw [q] at w; exact w
def xDct0 : XD := fun _ τ => .ok (.dct [] []) τ
theorem po_dct0 {pos : Pos} : PO X T E (.Dict [] [] pos) xDct0 := by
  refine PE_imp pe_dnewK fun σ H Q w => ?_
  obtain ⟨fp, G, ρ, τ, b, e, w⟩ := w
  intro p hp
  have gA := Grow.apart (o := .dK []) b.sub hp
  have nG : G p = none := by
    cases z : G p with
    | none => rfl
    | some o => have := b.sub _ _ z; rw [hp] at this; cases this
  exact w p fp G _ gA.gro (b.grow gA) hp (fun z => b.sto.there z hp) nG ⟨[], upd_same, List.nodup_nil, rfl, .nil⟩
end

/-! ### x.append(y.pop(e)) -/
def popAt (k : Dv) (ds : List Dv) : Option (Dv × List Dv) := match k with
  | .int i => if -(2 ^ 63) ≤ i ∧ i < 2 ^ 63 then (seqIndex? i ds.length).bind fun m => (ds[m]?).map fun y => (y, ds.eraseIdx m) else none
  | _ => none
def appPopS (i j : Nat) (k : Dv) (ρ : EnvS) (τ : Sto) : SR := match ρ[j]? with
  | some (some (.own (.lst ds))) => match popAt k ds with
    | some p => appS i p.1 (ρ.set j (some (.own (.lst p.2)))) τ
    | none => .bad
  | _ => .bad
def sAppPop (i j : Nat) (f : XD) : XS := fun ρ τ => if ownL i ρ = false ∨ ownL j ρ = false then .bad else bindS (f (showS ρ) τ) ρ fun k τ1 => appPopS i j k ρ τ1
section
variable {X : Cx} {T : List (Addr × Str)} {fp0 : List Addr} {G0 H0 : Hp} {E : L2.St → XK}
theorem sd_appPop {x y : Str} {i j : Nat} {e : Expr} {np apos cpos np2 apos2 cpos2 pos : Pos} {f : XD} (hij : i ≠ j) (hN : X.N[i]? = some x) (hv : Vis X.env.scope x) (hN2 : X.N[j]? = some y) (hv2 : Vis X.env.scope y) (he : PD X T E e f) (hd : (x == ("__debug__" : Str)) = false := by decide) (hcd : (x == ("__classdict__" : Str)) = false := by decide)
    (hd2 : (y == ("__debug__" : Str)) = false := by decide) (hcd2 : (y == ("__classdict__" : Str)) = false := by decide)
    (hs : swapsWith (.Call (.Attribute (.Name x np) "append" apos) [.Call (.Attribute (.Name y np2) "pop" apos2) [e] [] cpos2] [] cpos) none pos.line X.env = pure false := by rfl) (h1 : starEach [e] X.env = (false, eval e X.env) :: starEach [] X.env := by rfl)
    (hbase : attributeBase (.Name x np) "append" X.env (eval (.Name x np) X.env) = eval (.Name x np) X.env := by rfl) (hbase2 : attributeBase (.Name y np2) "pop" X.env (eval (.Name y np2) X.env) = eval (.Name y np2) X.env := by rfl)
    (hfew2 : ((backTo cpos2 (starEach [e] X.env)).all (fun x => !x.1) && (backToKw cpos2 (keywordEach [] X.env)).all (fun x => x.1.isSome) && decide ([e].length + ([] : List Keyword).length + (if ([] : List Keyword).isEmpty then 0 else 1) < 30)) = true := by rfl)
    (hline : (apos.endLine == cpos.line) = true := by rfl) (hline2 : (apos2.endLine == cpos2.line) = true := by rfl) :
    PSd X T fp0 G0 H0 E (.Expr (.Call (.Attribute (.Name x np) "append" apos) [.Call (.Attribute (.Name y np2) "pop" apos2) [e] [] cpos2] [] cpos) pos) (sAppPop i j f) := by
  refine PS_imp (ps_expr (pe_bm PySem.F.plainAttrs_list PySem.F.slot_list_append PySem.F.type_list_append mt_append (pe_var (i := i) hN hv hd hcd)
    (pa_cons (pe_bm PySem.F.plainAttrs_list PySem.F.slot_list_pop PySem.F.type_list_pop mt_popAt (pe_var (i := j) hN2 hv2 hd2 hcd2) (pa_cons he pa_nil h1) hbase2 hfew2 hline2 h1 rfl) pa_nil rfl) hbase rfl hline rfl rfl) hs) fun D σ H h => ?_
  obtain ⟨fp, F, ρ, τ, S, h⟩ := h
  obtain ⟨G, bG, eG, sG, gG, _⟩ := S.shown
  have ho : ownL i ρ ≠ false ∧ ownL j ρ ≠ false := ⟨fun z => by
    unfold sAppPop at h
    rw [if_pos (.inl z)] at h
    exact h, fun z => by
    unfold sAppPop at h
    rw [if_pos (.inr z)] at h
    exact h⟩
  unfold sAppPop at h
  rw [if_neg (fun z => z.elim ho.1 ho.2)] at h
  obtain ⟨p, vs, hp, hvs⟩ := ownL_at S ho.1
  obtain ⟨p2, vs2, hp2, hvs2⟩ := ownL_at S ho.2
  refine ⟨.ref p, hp, .inl ⟨rfl, _, .inl (.inl hvs)⟩, ?_⟩
  refine ⟨.ref p2, hp2, .inl ⟨rfl, _, .inl (.inl hvs2)⟩, ?_⟩
  refine ⟨fp, G, showS ρ, τ, bG, eG, S.evalS h bG sG gG fun d τ1 v fp1 F1 G1 H1 S1 rv b1 g1 tp low gr p1 s1 _ h2 => ?_⟩
  unfold appPopS at h2
  split at h2
  · rename_i ds hj
    split at h2
    · rename_i q hq
      unfold popAt at hq
      split at hq
      · rename_i k _
        cases rv with
        | int =>
        split at hq
        · rename_i hk
          cases qm : seqIndex? k ds.length with
          | none => rw [qm] at hq; cases hq
          | some m =>
            rw [qm] at hq
            simp only [Option.bind_some] at hq
            cases qy : ds[m]? with
            | none => rw [qy] at hq; cases hq
            | some y =>
              rw [qy] at hq
              cases hq
              obtain ⟨p2', e1, us, e2, ru⟩ := own_at S1 hj
              rw [hp2] at e1
              cases e1
              obtain ⟨w, hw, rw'⟩ := ru.get qy
              have S2 := S1.mut (d' := .lst (ds.eraseIdx m)) (o' := .lst (us.eraseIdx m)) hj hp2 ⟨_, upd_same, ru.eraseIdx m⟩
              obtain ⟨xs, q1, q2, q3⟩ := app_reads S2 rw' h2 (Q := fun H' => D.nx σ H') (fun _ z => z) p hp
              refine ⟨p2, us, k, m, w, rfl, rfl, e2, hk.1, hk.2, by rw [ru.length]; exact qm, hw, ?_⟩
              exact ⟨p, xs, w, rfl, rfl, q1, q2, q3⟩
        · cases hq
      · cases hq
    · exact h2.elim
  · exact h2.elim
end
end Mv
end
section
set_option Elab.async false
set_option linter.all false
set_option maxRecDepth 100000
namespace Mv
open PySem PySem.Spec PyProof.Rows L2

/-! ### what the top has written -/
structure DefA (K : PySem.W.Frag) (mg : Str → Option Value) (x : Str) (st : Stmt) (ps : List Str) (f : Addr) (fd : FuncData) : Prop where
  fn : Fun K x x st f fd
  g : mg x = some (.ref f)
  b : Binds K fd ps []
abbrev bmV : List Value := [.type "ValueError", .type "Exception", .type "BaseException", .type "object"]
structure ClsA (K : PySem.W.Frag) (mg : Str → Option Value) (x : Str) (C : Addr) : Prop where
  g : mg x = some (.ref C)
  q : PySem.W.excIn K C bmV "ValueError.__new__" = true
  k : PySem.W.keepIn K (.ref C) = true
  s : PySem.W.subIn K (.ref C) (.type "BaseException") = some true
  t : PySem.W.typeIn K (.ref C) = some (.type "type")
theorem kwb {K : PySem.W.Frag} {x q : Str} {st : Stmt} {f : Addr} {fd : FuncData} {ps ks : List Str} {n : Nat} (F : Fun K x q st f fd)
    (h : ∀ (kV doc pm : Value) (an : Option Addr) (cdv ct : Value) (us ws : List Value), us.length = n → ws.length = ks.length → bindArgs (PySem.W.fnOf x q (defArgs st) (defBody st) (defScope st) .none kV doc pm an cdv ct) ⟨us, ks.zip ws⟩ = pure (ps.zip (us ++ ws))) : KwB K fd ps ks n := by
  obtain ⟨oc, od, kV, doc, pm, an, cdv, ct, osl, rfl, _, _⟩ := F.ex
  exact fun s us ws _ h1 h2 => .of_eq (h kV doc pm an cdv ct us ws h1 h2)
section
variable {X : Cx} {T : List (Addr × Str)} {E : L2.St → XK}
theorem pd_fnK {j k n np : Nat} {f : Addr} {fd : FuncData} {ps : List Str} {F : List Dv → Sto → Res Dv} {x : Str} {e : Expr} {es : List Expr} {kws : List Keyword} {ks : List Str} {p pos : Pos} {a c : XL} (B : Bd X k E) (FO : FnOk X.prog X.w X.K X.mg X.base (L2.CX X.prog X.w) j f fd ps (spD X.K X.mg T n F)) (hj : j ≤ k)
    (hm : X.mg x = some (.ref f)) (hk : PySem.W.keepIn X.K (.ref f) = true) (hb : KwB X.K fd ps ks np) (ha : PL X T E (e :: es) a) (hkw : PKD X T E kws c) (hg : Gl X x := by rfl)
    (hall : (backToKw pos (keywordEach kws X.env)).all (·.1.isSome) = true := by rfl) (hks : (backToKw pos (keywordEach kws X.env)).filterMap (·.1) = ks := by rfl)
    (hdb : (x == ("__debug__" : Str)) = false := by decide) (he : starEach (e :: es) X.env = (false, eval e X.env) :: starEach es X.env := by rfl)
    (hpl : ((backTo pos (starEach (e :: es) X.env)).any (·.1) || (backToKw pos (keywordEach kws X.env)).any (·.1.isNone)) = false := by rfl) :
    PD X T E (.Call (.Name x p) (e :: es) kws pos) (xF (callF n F) (aK np ks.length a c)) :=
  pd_callK (FO.mono hj) B.room hg hm hk hb B.hx ha hkw hall hks hdb he hpl
theorem pd_fnK0 {j k n : Nat} {f : Addr} {fd : FuncData} {ps : List Str} {F : List Dv → Sto → Res Dv} {x : Str} {kws : List Keyword} {ks : List Str} {p pos : Pos} {c : XL} (B : Bd X k E) (FO : FnOk X.prog X.w X.K X.mg X.base (L2.CX X.prog X.w) j f fd ps (spD X.K X.mg T n F)) (hj : j ≤ k)
    (hm : X.mg x = some (.ref f)) (hk : PySem.W.keepIn X.K (.ref f) = true) (hb : KwB X.K fd ps ks 0) (hkw : PKD X T E kws c) (hg : Gl X x := by rfl)
    (hall : (backToKw pos (keywordEach kws X.env)).all (·.1.isSome) = true := by rfl) (hks : (backToKw pos (keywordEach kws X.env)).filterMap (·.1) = ks := by rfl)
    (hdb : (x == ("__debug__" : Str)) = false := by decide) (hpl : ((backTo pos (starEach [] X.env)).any (·.1) || (backToKw pos (keywordEach kws X.env)).any (·.1.isNone)) = false := by rfl) :
    PD X T E (.Call (.Name x p) [] kws pos) (xF (callF n F) (aK 0 ks.length aN c)) :=
  pd_callK0 (FO.mono hj) B.room hg hm hk hb B.hx hkw hall hks hdb hpl
/-! built-in functions by name -/
theorem bl_len : bootBuiltins "len" = some (.builtin "len") := by decide +kernel
theorem bl_all : bootBuiltins "all" = some (.builtin "all") := by decide +kernel
theorem bl_any : bootBuiltins "any" = some (.builtin "any") := by decide +kernel
theorem bl_sum : bootBuiltins "sum" = some (.builtin "sum") := by decide +kernel
theorem bl_max : bootBuiltins "max" = some (.builtin "max") := by decide +kernel
theorem bl_min : bootBuiltins "min" = some (.builtin "min") := by decide +kernel
theorem bl_sorted : bootBuiltins "sorted" = some (.builtin "sorted") := by decide +kernel
theorem bl_tuple : bootBuiltins "tuple" = some (.type "tuple") := by decide +kernel
theorem bl_list : bootBuiltins "list" = some (.type "list") := by decide +kernel
theorem bl_dict : bootBuiltins "dict" = some (.type "dict") := by decide +kernel
theorem bl_int : bootBuiltins "int" = some (.type "int") := by decide +kernel
theorem bl_str : bootBuiltins "str" = some (.type "str") := by decide +kernel
theorem bl_bool : bootBuiltins "bool" = some (.type "bool") := by decide +kernel
theorem bl_set : bootBuiltins "set" = some (.type "set") := by decide +kernel
end
section
variable {X : Cx} {T : List (Addr × Str)} {fp0 : List Addr} {G0 H0 : Hp} {E : L2.St → XK}
theorem sd_raiseC {k : Nat} {x m : Str} {C : Addr} {j : Nat} {p p2 pos pos2 : Pos} (B : Bs X k E) (c : ClsA X.K X.mg x C) (hg : Gl X x := by rfl) (hdb : (x == ("__debug__" : Str)) = false := by decide) :
    PSd X T fp0 G0 H0 E (.Raise (some (.Call (.Name x p) [.Constant (.str m) j p2] [] pos)) none pos2) (sRaise x) :=
  sd_raise B.calm B.tk c.g (pmk_own PySem.F.excBase_ValueError c.q c.g c.k (raises_own c.s c.t) hg hdb)
end
end Mv
end
section
set_option Elab.async false
set_option linter.all false
set_option maxRecDepth 100000
namespace Mv
open PySem PySem.Spec PyProof.Rows L2

/-! ### sorted -/
def leD : Dv → Dv → Bool := PySem.W.dataLe false Dv.py
/-- the data can be sorted: alike, all tuples with an item, or none a tuple or None -/
def alikeL (ds : List Dv) : Bool := ds.all fun d => ds.all fun e => PySem.W.alike d.py e.py
def tup1 : Dv → Bool
  | .tup (_ :: _) => true
  | _ => false
def notTN : Dv → Bool
  | .tup _ => false
  | .non => false
  | _ => true
def sortOk (ds : List Dv) : Bool := alikeL ds && (ds.all tup1 || ds.all notTN) && ds.all Dv.okq && big ds.length
def gSorted : List Dv → Option Dv
  | [.lst ds] => if sortOk ds then some (.lst (ds.mergeSort leD)) else none
  | _ => none
theorem alikeL_all {ds : List Dv} (h : alikeL ds = true) : PySem.W.AllAlike (ds.map Dv.py) := by
  intro d hd e he
  obtain ⟨a, ha, rfl⟩ := List.mem_map.mp hd
  obtain ⟨b, hb, rfl⟩ := List.mem_map.mp he
  exact List.all_eq_true.mp (List.all_eq_true.mp h a ha) b hb
theorem sortable_of {ds : List Dv} (h : (ds.all tup1 || ds.all notTN) = true) : PySem.W.Sortable (ds.map Dv.py) := by
  rcases Bool.or_eq_true_iff.mp h with h | h
  · refine .inl fun d hd => ?_
    obtain ⟨a, ha, rfl⟩ := List.mem_map.mp hd
    have := List.all_eq_true.mp h a ha
    cases a with
    | tup xs =>
      cases xs with
      | nil => cases this
      | cons x xs => exact ⟨x.py, Dv.pyL xs, rfl⟩
    | _ => cases this
  · refine .inr fun d hd => ?_
    obtain ⟨a, ha, rfl⟩ := List.mem_map.mp hd
    have := List.all_eq_true.mp h a ha
    cases a <;> first | (cases this; done) | simp [Dv.py]
/-- values and data go together -/
abbrev RvD (K : PySem.W.Frag) (fp : List Addr) (G : Hp) (u : Value) (d : Dv) : Prop := ∃ v : V, RelV v u ∧ Rp K fp G v d
theorem each_of {K : PySem.W.Frag} {fp : List Addr} {G : Hp} : ∀ {xs : List V} {us : List Value} {ds : List Dv}, Vals xs us → RpL K fp G xs ds → PySem.W.EachIs (RvD K fp G) us ds
  | _, _, _, .nil, .nil => .nil
  | _, _, _, .cons r t, .cons a b => .cons ⟨_, r, a⟩ (each_of t b)
theorem each_back {K : PySem.W.Frag} {fp : List Addr} {G : Hp} : ∀ {us : List Value} {ds : List Dv}, PySem.W.EachIs (RvD K fp G) us ds → ∃ xs, Vals xs us ∧ RpL K fp G xs ds
  | _, _, .nil => ⟨[], .nil, .nil⟩
  | _, _, .cons ⟨v, r, a⟩ t => by
    obtain ⟨xs, h1, h2⟩ := each_back t
    exact ⟨v :: xs, .cons r h1, .cons a h2⟩
section
variable {X : Cx}
theorem each_reads {pins : List (Addr × Obj)} {σ : L2.St} {G H : Hp} {s : Shared} {fp : List Addr} (I : Inv X pins σ H s) (sub : Same G H) {us : List Value} {ds : List Dv} (e : PySem.W.EachIs (RvD X.K fp G) us ds) (h : ds.all Dv.okq = true) : PySem.W.EachIs (fun u d => ∃ as, Reads s.heap u (Dv.py d) as) us ds := by
  induction e with
  | nil => exact .nil
  | cons r t ih =>
    obtain ⟨v, r, a⟩ := r
    rw [List.all_cons, Bool.and_eq_true] at h
    refine .cons ?_ (ih h.2)
    have hc := (dok_py _ _ h.1).1
    exact Dp.reads I _ _ _ (a.dp sub hc) r
theorem cr_gSorted (hu : X.A.units + 65 < cLine) : CallR X (.builtin "sorted") (VSo X.K gSorted) := by
  intro pins s σ H xs us Q I rs h
  obtain ⟨fp, G, ds0, d, sub, r, e, q⟩ := h
  unfold gSorted at e
  split at e
  · rename_i ds
    split at e
    · rename_i hk
      cases e
      obtain ⟨a, ys, rfl, hs, ry⟩ := lst1 sub r
      obtain ⟨u, rfl, ru⟩ := vals1 rs
      cases ru
      simp only [sortOk, Bool.and_eq_true] at hk
      obtain ⟨⟨⟨h1, h2⟩, h3⟩, h4⟩ := hk
      obtain ⟨its, rv, pl, hz⟩ := I.list hs
      have ee := each_of rv ry
      refine PySem.W.sorted_data (bs := ds) (enc := Dv.py) (R := RvD X.K fp G) pl.isList ee (each_reads I sub ee h3) (alikeL_all h1) (sortable_of h2) (big_le h4) (fun b hb => ?_) fun out hl eo => ?_
      · have := (dok_py _ _ (List.all_eq_true.mp h3 b hb)).2
        omega
      · obtain ⟨zs, r1, r2⟩ := each_back eo
        obtain ⟨n, hn⟩ := sortedAll_at s.heap its out.toArray
        have hfr := I.hok.fresh (Nat.le_succ s.heap.objs.size)
        obtain ⟨g, n0, ro⟩ := new_own sub hfr r2
        refine ⟨.ref (s.heap.objs.size + 1), L2.upd H (s.heap.objs.size + 1) (.lst zs), I.laid (t' := s.toks) (fun b o e => sortedAll_old e) (Nat.le_succ _) ⟨?_, out, n, r1, hn⟩, rfl, q _ _ _ g hfr n0 ro⟩
        rw [r1.length, hl]
        exact big_le h4
    · cases e
  · cases e
end
end Mv
end
section
set_option Elab.async false
set_option linter.all false
set_option maxRecDepth 100000
namespace Mv
open PySem PySem.Spec PyProof.Rows L2

/-! ### sorted(e, key=f), f a def of the text -/
def keysL (F : List Dv → Sto → Res Dv) : List Dv → Sto → Res (List Dv)
  | [], τ => .ok [] τ
  | d :: ds, τ => (noErr (F [d] τ)).bind fun k τ1 => (keysL F ds τ1).bind fun ks τ2 => .ok (k :: ks) τ2
def keyOk (ds ks : List Dv) : Bool := alikeL ks && (ks.all tup1 || ks.all notTN) && ks.all Dv.okq && big ds.length && decide (ks.length = ds.length)
def sortK (ds ks : List Dv) : List Dv := ((ds.zip ks).mergeSort (PySem.W.dataLe false fun p : Dv × Dv => p.2.py)).map (·.1)
def endK (ds ks : List Dv) (τ : Sto) : Res Dv := if keyOk ds ks = true then .ok (.lst (sortK ds ks)) τ else .bad
def sortKR (F : List Dv → Sto → Res Dv) (d : Dv) (τ : Sto) : Res Dv := match d with
  | .lst ds => (keysL F ds τ).bind fun ks τ1 => endK ds ks τ1
  | _ => .bad
def xSortK (F : List Dv → Sto → Res Dv) (f : XD) : XD := fun ρ τ => (f ρ τ).bind (sortKR F)
section
variable {X : Cx} {T : List (Addr × Str)} {E : L2.St → XK}
/-- a def called from within a built-in function -/
theorem call_in2 {k : Nat} {f : Addr} {fd : FuncData} {ps : List Str} {sp : Sp} {pins : List (Addr × Obj)} {σ : L2.St} {H : Hp} {s : Shared} {us : List Value} {vs : List V} {Q : VK} {E' : Value → Shared → Prop} (I : Inv X pins σ H s) (FO : FnOk X.prog X.w X.K X.mg X.base (L2.CX X.prog X.w) k f fd ps sp) (hr : Room (k + 2) X.A) (hb : Binds X.K fd ps [])
    (rv : Vals vs us) (hs : sp vs H Q fun _ _ _ => False) : wpAny (model X.prog X.w) X.A.in1.in1 (call (.ref f) us) (EP X pins σ Q) E' s := by
  have hl := FO.len _ _ _ _ hs
  have hb' := hb s us I.kIn (by rw [List.append_nil, ← rv.length, hl])
  rw [List.append_nil] at hb'
  refine wpAny_call (codeAny_mono (FO.run X.A.in1.in1 X.stack s H ⟨us, []⟩ us vs Q _ hr.in1.in1 I.env0.in1.in1 hb' rv hs) fun r s' hq => ?_)
  cases r with
  | error e =>
    obtain ⟨_, _, _, _, _, _, _, _, _, _, _, _, z⟩ := hq
    exact z.elim
  | ok fl =>
    cases fl with
    | ret u => exact I.after hq
    | next => exact False.elim hq
    | brk => exact False.elim hq
    | cont => exact False.elim hq
/-- where the keys of the first items stand in the list at kS -/
structure KeySt (X : Cx) (T : List (Addr × Str)) (F : List Dv → Sto → Res Dv) (pins : List (Addr × Obj)) (σ : L2.St) (Q : VK) (fp : List Addr) (G H : Hp) (ds : List Dv) (a kS : Addr) (e1 : Nat) (i : Nat) (s' : Shared) : Prop where
  ex : ∃ fp' G' H' τ' kA e ks, Inv X pins σ H' s' ∧ Gro fp G H fp' G' H' ∧ Base X.K X.mg T fp' G' τ' H' ∧ FpOk X pins H' a ∧ FpOk X pins H' kS ∧ s'.heap.get? kS = some (seqObj "list" kA e) ∧ s'.heap.get? a = some (seqObj "list" #[] e1) ∧
    PySem.W.EachIs (RvD X.K fp' G') kA.toList ks ∧ ks.length = i ∧ AfterO X.K X.mg T (fun _ _ _ => False) fp' G' H' ((keysL F (ds.drop i) τ').bind fun ks2 τ2 => endK ds (ks ++ ks2) τ2) Q
theorem each_more {K : PySem.W.Frag} {fp fp' : List Addr} {G G' : Hp} (s : Same G G') (p : fp <+: fp') {us : List Value} {ds : List Dv} (h : PySem.W.EachIs (RvD K fp G) us ds) : PySem.W.EachIs (RvD K fp' G') us ds :=
  h.mono fun _ _ ⟨v, r, a⟩ => ⟨v, r, a.mono s p⟩
theorem each_one {α β : Type} {R : α → β → Prop} {x : α} {y : β} (h : R x y) {as : List α} {bs : List β} (e : PySem.W.EachIs R as bs) : PySem.W.EachIs R (as ++ [x]) (bs ++ [y]) := by
  induction e with
  | nil => exact .cons h .nil
  | cons r t ih => exact .cons r ih
theorem each_zip {α β γ : Type} {R : α → β → Prop} : ∀ {as : List α} {bs : List β} {cs : List γ}, PySem.W.EachIs R as bs → bs.length = cs.length → PySem.W.EachIs (fun a (p : β × γ) => R a p.1) as (bs.zip cs)
  | _, _, [], .nil, _ => .nil
  | _, _, c :: cs, .cons h t, e => .cons h (each_zip t (by simpa using e))
theorem each_fst {α β γ : Type} {R : α → β → Prop} : ∀ {as : List α} {ps : List (β × γ)}, PySem.W.EachIs (fun a (p : β × γ) => R a p.1) as ps → PySem.W.EachIs R as (ps.map (·.1))
  | _, _, .nil => .nil
  | _, _, .cons h t => .cons h (each_fst t)
def rSortK (X : Cx) (T : List (Addr × Str)) (F : List Dv → Sto → Res Dv) (f : Addr) : List V → List V → Hp → VK → Prop := fun vs zs H Q =>
  ∃ fp G τ ds, Base X.K X.mg T fp G τ H ∧ RpL X.K fp G vs [.lst ds] ∧ zs = [.ref f] ∧ AfterO X.K X.mg T (fun _ _ _ => False) fp G H (sortKR F (.lst ds) τ) Q
theorem big_of_sort {F : List Dv → Sto → Res Dv} {ds : List Dv} : ∀ {es ks : List Dv} {τ : Sto} {d : Dv} {τ1 : Sto}, ((keysL F es τ).bind fun ks2 τ1 => endK ds (ks ++ ks2) τ1) = .ok d τ1 → big ds.length = true := by
  intro es ks τ d τ1 h
  cases q : keysL F es τ with
  | bad => rw [q] at h; cases h
  | err e τ2 => rw [q] at h; cases h
  | ok k2 τ2 =>
    rw [q] at h
    change endK ds (ks ++ k2) τ2 = _ at h
    unfold endK at h
    split at h
    · rename_i hk
      simp only [keyOk, Bool.and_eq_true] at hk
      exact hk.1.2
    · cases h
theorem keysL_noErr {F : List Dv → Sto → Res Dv} : ∀ {ds : List Dv} {τ : Sto} {e : Er} {τ1 : Sto}, keysL F ds τ ≠ .err e τ1
  | [], _, _, _, h => by cases h
  | d :: ds, τ, e, τ1, h => by
    unfold keysL at h
    cases q : F [d] τ with
    | bad => rw [q] at h; cases h
    | err e τ2 => rw [q] at h; cases h
    | ok k τ2 =>
      rw [q] at h
      change (keysL F ds τ2).bind _ = _ at h
      cases q2 : keysL F ds τ2 with
      | bad => rw [q2] at h; cases h
      | err e τ2 => exact keysL_noErr q2
      | ok k τ2 => rw [q2] at h; cases h
theorem sort_step {F : List Dv → Sto → Res Dv} {k : Nat} {f : Addr} {fd : FuncData} {ps : List Str} (FO : FnOk X.prog X.w X.K X.mg X.base (L2.CX X.prog X.w) k f fd ps (spD X.K X.mg T 1 F)) (hr : Room (k + 2) X.A) (hb : Binds X.K fd ps []) {pins : List (Addr × Obj)} {σ : L2.St} {Q : VK} {fp : List Addr} {G H : Hp}
    {ds : List Dv} {a kS : Addr} {e1 i : Nat} {s' : Shared} (hne : kS ≠ a) (hz : ds.length ≤ sizeLine) {u : Value} {d : Dv} (hd : ds[i]? = some d) (hu : RvD X.K fp G u d) (h : KeySt X T F pins σ Q fp G H ds a kS e1 i s') {E' : Value → Shared → Prop} :
    wpAny (model X.prog X.w) X.A.in1.in1 (call (.ref f) [u]) (fun v s2 => wpAny (model X.prog X.w) X.A.in1.in1 (Builtin.List.listUpdate (.ref kS) (·.push v)) (fun _ s3 => KeySt X T F pins σ Q fp G H ds a kS e1 (i + 1) s3) E' s2) E' s' := by
  obtain ⟨fp', G', H', τ', kA, e, ks, I, g, b, fa, fk, nk, na, ek, hl, af⟩ := h.ex
  have hdrop : ds.drop i = d :: ds.drop (i + 1) := by
    obtain ⟨h1, h2⟩ := List.getElem?_eq_some_iff.mp hd
    rw [← h2, List.getElem_cons_drop]
  rw [hdrop] at af
  unfold keysL at af
  cases qf : F [d] τ' with
  | bad => rw [qf] at af; exact af.elim
  | err er τ2 => rw [qf] at af; exact af.elim
  | ok kd τ2 =>
    rw [qf] at af
    change AfterO X.K X.mg T _ fp' G' H' (((keysL F (ds.drop (i + 1)) τ2).bind fun ks τ2 => .ok (kd :: ks) τ2).bind _) Q at af
    rw [bind_assoc] at af
    have ob : ∀ c ∈ [kS, a], ∃ o, s'.heap.get? c = some o ∧ ∀ v, o.data ≠ .cell v := fun c hc => by
      rcases List.mem_cons.mp hc with z | z
      · rw [z]; exact ⟨_, nk, fun v z => nomatch z⟩
      · have z : c = a := by simpa using z
        rw [z]; exact ⟨_, na, fun v z => nomatch z⟩
    have IP := I.pinned (fp := [kS, a]) (fun c hc => by
      rcases List.mem_cons.mp hc with z | z
      · rw [z]; exact fk
      · have z : c = a := by simpa using z
        rw [z]; exact fa) ob
    obtain ⟨v, ru, rd⟩ := hu
    refine wpAny_mono (call_in2 (vs := [v]) (Q := fun w H2 => ∃ fp2 G2, Gro fp' G' H' fp2 G2 H2 ∧ Base X.K X.mg T fp2 G2 τ2 H2 ∧ Rp X.K fp2 G2 w kd) IP FO hr hb (.cons ru .nil) ⟨fp', G', τ', [d], b, .cons (rd.mono g.same g.pre) .nil, rfl, ?_⟩) (fun v2 s2 hh => ?_) fun _ _ z => z
    · rw [qf]
      exact fun w fp2 G2 H2 g2 b2 r2 => ⟨fp2, G2, g2, b2, r2⟩
    · obtain ⟨w, H2, I2, rw2, fp2, G2, g2, b2, r2⟩ := hh
      have pinOf : ∀ c ∈ [kS, a], ∀ o, s'.heap.get? c = some o → s2.heap.get? c = some o ∧ H2 c = none ∧ FpOk X pins H2 c := fun c hc o ho => by
        have hm : (c, o) ∈ pinsAt [kS, a] s'.heap := by
          unfold pinsAt
          rw [List.mem_filterMap]
          exact ⟨c, hc, by rw [ho]; rfl⟩
        obtain ⟨p1, p2, p3, p4, p5⟩ := I2.pin (c, o) (List.mem_append_right _ (List.mem_append_right _ hm))
        refine ⟨p1, p2, ?_⟩
        have fo : FpOk X pins H' c := by
          rcases List.mem_cons.mp hc with z | z
          · rw [z]; exact fk
          · have z : c = a := by simpa using z
            rw [z]; exact fa
        exact ⟨p2, fo.2⟩
      obtain ⟨nk2, nH2, fk2⟩ := pinOf kS List.mem_cons_self _ nk
      obtain ⟨na2, _, fa2⟩ := pinOf a (List.mem_cons_of_mem _ List.mem_cons_self) _ na
      have I3 := I2.unpinned
      have hs1 := Heap.SameBut.update s2.heap kS (Obj.mapSeq (·.push v2))
      obtain ⟨c2, hc2⟩ : ∃ c2, (s2.heap.update kS (Obj.mapSeq (·.push v2))).get? kS = some (seqObj "list" (kA.push v2) c2) := ⟨_, get?_update_seq nk2 (·.push v2)⟩
      have hkl : kA.size = i := by
        have := ek.length
        rw [Array.length_toList, hl] at this
        exact this
      have hi : i < ds.length := (List.getElem?_eq_some_iff.mp hd).1
      refine listUpdate_at nk2 rfl ?_ (by rw [hkl]; omega) (by rw [Array.size_push, hkl]; omega)
      refine ⟨fp2, G2, H2, τ2, kA.push v2, c2, ks ++ [kd], Inv.turnedL (ch := [kS]) (t' := s2.toks) I3 (fun c o hc ho => (hs1.2 c (fun z => hc (by simp [z]))).trans ho) (fun c hc => by
        have z : c = kS := by simpa using hc
        rw [z]; exact fk2), g.trans g2, b2, fa2, fk2, hc2, (hs1.2 a hne.symm).trans na2, ?_, by rw [List.length_append, hl]; rfl, ?_⟩
      · rw [Array.toList_push]
        exact each_one ⟨w, rw2, r2⟩ (each_more g2.same g2.pre ek)
      · have af' : AfterO X.K X.mg T (fun _ _ _ => False) fp' G' H' ((keysL F (ds.drop (i + 1)) τ2).bind fun ks2 τ3 => endK ds (ks ++ [kd] ++ ks2) τ3) Q := by
          have e3 : (fun (ks2 : List Dv) (τ3 : Sto) => endK ds (ks ++ [kd] ++ ks2) τ3) = fun (a : List Dv) (τ : Sto) => (Res.ok (kd :: a) τ).bind fun ks2 τ2 => endK ds (ks ++ ks2) τ2 := by
            funext x y
            show _ = endK ds (ks ++ kd :: x) y
            rw [List.append_assoc]
            rfl
          rw [e3]
          exact af
        cases qr : (keysL F (ds.drop (i + 1)) τ2).bind fun ks2 τ3 => endK ds (ks ++ [kd] ++ ks2) τ3 with
        | ok x τ3 =>
          rw [qr] at af'
          intro p fp3 G3 H3 g3 b3 n0 nf n o
          exact af' p fp3 G3 H3 (g2.trans g3) b3 (none_of g2.ex n0) nf n o
        | err er τ3 => rw [qr] at af'; exact fun cls dx fp3 G3 H3 g3 b3 ed => af' cls dx fp3 G3 H3 (g2.trans g3) b3 ed
        | bad => rw [qr] at af'; exact af'
theorem cr_sortK {F : List Dv → Sto → Res Dv} {k : Nat} {f : Addr} {fd : FuncData} {ps : List Str} (hu : X.A.units + 65 < cLine) (FO : FnOk X.prog X.w X.K X.mg X.base (L2.CX X.prog X.w) k f fd ps (spD X.K X.mg T 1 F)) (hr : Room (k + 2) X.A) (hb : Binds X.K fd ps []) :
    CallRK X (.builtin "sorted") [Str.ofString "key"] (rSortK X T F f) := by
  intro pins s σ H xs zs us ws Q I rs rz h
  obtain ⟨fp, G, τ, ds, b, r, rfl, af⟩ := h
  obtain ⟨l, ys, rfl, hs, ry⟩ := lst1 b.sub r
  obtain ⟨u, rfl, ru⟩ := vals1 rs
  cases ru
  obtain ⟨u, rfl, ru⟩ := vals1 rz
  obtain rfl : u = Value.ref f := ru
  obtain ⟨its, rv, pl, hz⟩ := I.list hs
  have hlen : its.length = ds.length := by rw [← rv.length, ry.length]
  have hz' : ds.length ≤ sizeLine := by rw [← ry.length]; exact hz
  have hzi : its.length ≤ sizeLine := by rw [hlen]; exact hz'
  show wpAny _ _ (call _ [.ref l] [(Str.ofString "key", .ref f)]) _ _ _
  refine PySem.W.sorted_of_sort pl.isList hzi (PyProof.Rows.ksk_s1 _ _) (fun _ => PyProof.Rows.ksk_l1 _ _) fun E' => ?_
  rw [PyProof.Rows.ksk_t1]
  obtain ⟨a, ea⟩ : ∃ a, a = s.heap.objs.size + 1 := ⟨_, rfl⟩
  rw [← ea]
  have hA := PySem.W.copyHeap_at s.heap its
  rw [← ea] at hA
  have hsz : (PySem.W.copyHeap s.heap its).objs.size = s.heap.objs.size + 2 := by
    unfold PySem.W.copyHeap
    rw [size_push', Heap.size_update, size_push']
  have k0 : ∀ c o, s.heap.get? c = some o → (PySem.W.copyHeap s.heap its).get? c = some o := fun c o e => PySem.W.copyHeap_old e
  have k1 : ∀ c o, s.heap.get? c = some o → (PySem.W.sortingHeap (PySem.W.copyHeap s.heap its) a its).get? c = some o := fun c o e =>
    PySem.W.sortingHeap_old (fun z => by rw [z, ea] at e; have := Heap.lt_size e; exact absurd this (Nat.not_lt.mpr (Nat.le_succ _))) (k0 c o e)
  obtain ⟨e1, ho1⟩ : ∃ e1, ((PySem.W.copyHeap s.heap its).update a (Obj.mapSeq fun _ => (#[] : Array Value))).get? a = some (seqObj "list" #[] e1) := ⟨_, get?_update_seq hA fun _ => #[]⟩
  obtain ⟨kS, ek⟩ : ∃ kS, kS = (((PySem.W.copyHeap s.heap its).update a (Obj.mapSeq fun _ => (#[] : Array Value))).push (seqObj "tuple" its.toArray 0)).objs.size := ⟨_, rfl⟩
  have ekn : kS = s.heap.objs.size + 3 := by rw [ek, size_push', Heap.size_update, hsz]
  have hne : kS ≠ a := fun z => by rw [ekn, ea] at z; exact absurd (Nat.add_left_cancel z) (by decide)
  unfold PyProof.Rows.ksk_tree
  refine wpAny_bind (listItems_at hA rfl ?_)
  refine wpAny_bind (listUpdate_at hA rfl ?_ (by rw [List.size_toArray]; exact hzi) (Nat.zero_le _))
  refine wpAny_bind (seqEpoch_at ho1 rfl ?_)
  refine wpAny_bind (wpAny_newTuple ?_ (by show its.length ≤ _; exact hzi))
  refine wpAny_bind (wpAny_newList ?_ (Nat.zero_le _))
  refine wpAny_holding ?_
  rw [← ek]
  -- where the keys begin
  have hA2 : (PySem.W.sortingHeap (PySem.W.copyHeap s.heap its) a its).get? a = some (seqObj "list" #[] e1) := Heap.get?_push_of_some _ (Heap.get?_push_of_some _ ho1)
  have hK2 : (PySem.W.sortingHeap (PySem.W.copyHeap s.heap its) a its).get? kS = some (seqObj "list" #[] 0) := by rw [ek]; exact Heap.get?_push_size _ rfl
  have ee := each_of rv ry
  have st0 : KeySt X T F pins σ Q fp G H ds a kS e1 0 { s with heap := PySem.W.sortingHeap (PySem.W.copyHeap s.heap its) a its } :=
    ⟨fp, G, H, τ, #[], 0, [], I.kept (t' := s.toks) k1, Gro.refl _ _ _, b, I.fpOk (by omega) (I.hok.fresh (by omega)), I.fpOk (by omega) (I.hok.fresh (by omega)), hK2, hA2, .nil, rfl, by rw [List.drop_zero]; exact af⟩
  show wpAny _ _ (PyProof.Rows.ksk_rest a (.ref f) false its.toArray e1 (.ref kS)) _ _ { s with heap := PySem.W.sortingHeap (PySem.W.copyHeap s.heap its) a its }
  generalize hs' : ({ s with heap := PySem.W.sortingHeap (PySem.W.copyHeap s.heap its) a its } : Shared) = s1 at st0 ⊢
  clear hs' hA hA2 hK2 ho1 k1 k0 hsz ek
  unfold PyProof.Rows.ksk_rest
  refine wpAny_bind (wpAny_rule ?_)
  first
    | rw [List.forIn_toArray]
    | (rw [← Array.forIn_toList]; simp only [List.toList_toArray])
    | rw [← Array.forIn_toList]
  refine wpAny_bind (PyProof.Rows.ksk_fold (fun i s' => KeySt X T F pins σ Q fp G H ds a kS e1 i s') its 0 s1 st0 ?_ ?_)
  · intro j x s2 hx hst
    rw [Nat.zero_add] at hst ⊢
    have hj : j < ds.length := by rw [← hlen]; exact (List.getElem?_eq_some_iff.mp hx).1
    have hd : ds[j]? = some ds[j] := List.getElem?_eq_getElem hj
    have hR : RvD X.K fp G x ds[j] := ee.zip (x, ds[j]) (List.mem_of_getElem? (i := j) (by rw [List.getElem?_zip_eq_some]; exact ⟨hx, hd⟩))
    refine wpAny_bind (wpAny_attempt (wpAny_mono (sort_step (E' := fun _ _ => False) FO hr hb hne hz' hd hR hst) (fun v s3 he => ?_) fun _ _ z => z.elim))
    try dsimp only
    refine wpAny_bind (wpAny_mono he (fun _ s4 h4 => ?_) fun _ _ z => z.elim)
    exact wpAny_pure ⟨rfl, h4⟩
  · intro s2 hst
    rw [Nat.zero_add, hlen] at hst
    obtain ⟨fp', G', H', τ', kA, e, ks, I2, g, b2, fa, fk, nk, na, eks, hl, af2⟩ := hst.ex
    rw [List.drop_length] at af2
    change AfterO X.K X.mg T _ fp' G' H' (endK ds (ks ++ []) τ') Q at af2
    rw [List.append_nil] at af2
    unfold endK at af2
    by_cases hk : keyOk ds ks = true
    · rw [if_pos hk] at af2
      simp only [keyOk, Bool.and_eq_true] at hk
      obtain ⟨⟨⟨⟨h1, h2⟩, h3⟩, h4⟩, h5⟩ := hk
      try dsimp only
      refine wpAny_bind (listItems_at nk rfl ?_)
      obtain ⟨hr0, r1, r2⟩ := restrict s2.heap fun c => decide (c ≠ kS)
      have kp : PySem.W.KeepsBut a hr0 s2.heap := fun c o _ q => by
        by_cases hc : c = kS
        · rw [hc, r2 kS (by simp)] at q; cases q
        · exact (r1 c (by simpa using hc)).symm.trans q
      have er := each_reads I2 b2.sub eks h3
      have eP : PySem.W.EachIs (fun v d => ∃ as, Reads s2.heap v d as) kA.toList (ks.map Dv.py) := PySem.W.each_map (R := fun v d => ∃ as, Reads s2.heap v d as) Dv.py er
      have hkl : kA.size = its.length := by
        have := eks.length
        rw [Array.length_toList, hl, ← hlen] at this
        exact this
      refine PySem.W.keyH_end (κ := PySem.W.dataKind s2.heap (ks.map Dv.py)) (h₁ := hr0) (b := false) (vs := its) kp (r2 kS (by simp)) nk na hne (PySem.W.SortsAt.data (s := s2) eP (alikeL_all h1) (sortable_of h2) (fun d hd => ?_)) hkl hzi fun h' tk c kp2 hA' => ⟨rfl, ?_⟩
      · obtain ⟨x, hx, rfl⟩ := List.mem_map.mp hd
        have := (dok_py _ _ (List.all_eq_true.mp h3 x hx)).2
        show X.A.units + 1 + 1 + _ < cLine
        omega
      · have hkd : ks.length = ds.length := of_decide_eq_true h5
        have ko : PySem.W.KeyedOut false ((ds.zip ks).map fun p => p.2.py) its (PySem.W.sortVals (PySem.W.dataKind s2.heap (ks.map Dv.py)) false kA.toList its) := by
          have e3 : (ds.zip ks).map (fun p => p.2.py) = ks.map Dv.py := by
            rw [← List.map_snd_zip (l₁ := ds) (l₂ := ks) (by omega), List.map_map]
            rw [List.map_snd_zip (by omega)]
            rfl
          rw [e3]
          exact ⟨s2.heap, kA.toList, alikeL_all h1, rfl, eP⟩
        have eo := PySem.W.keyedOut_each (fun p : Dv × Dv => p.2.py) ko (each_zip (each_more g.same g.pre ee) hkd.symm)
        have eo2 := each_fst eo
        obtain ⟨zs, z1, z2⟩ := each_back eo2
        have keep : ∀ c o, c ∉ [kS, a] → s2.heap.get? c = some o → h'.get? c = some o := fun c o hc q => kp2 c o (fun z => hc (by simp [z])) ((r1 c (by simpa using fun z => hc (by simp [z]))).trans q)
        have IT : Inv X pins σ H' { s2 with heap := h', toks := tk } := Inv.turnedL (ch := [kS, a]) I2 keep (fun c hc => by
          rcases List.mem_cons.mp hc with z | z
          · rw [z]; exact fk
          · have z : c = a := by simpa using z
            rw [z]; exact fa)
        have hzs : zs.length ≤ sizeLine := by
          rw [z1.length, PySem.W.sortVals_length false (by rw [Array.length_toList]; exact hkl)]
          exact hzi
        have nG : G' a = none := by
          cases q : G' a with
          | none => rfl
          | some o => have := b2.sub _ _ q; rw [fa.1] at this; cases this
        obtain ⟨gg, n0, ro⟩ := new_own b2.sub fa.1 z2
        refine ⟨.ref a, L2.upd H' a (.lst zs), Inv.take (s := { s2 with heap := h', toks := tk }) (t' := tk) (h' := h') IT (fun _ _ _ q => q) fa ⟨hzs, _, c, z1, hA'⟩, rfl, ?_⟩
        exact af2 a fp' G' _ gg.gro (b2.grow gg) fa.1 (fun z => b2.sto.there z fa.1) nG ro
    · rw [if_neg hk] at af2
      exact af2.elim
theorem po_sortK {F : List Dv → Sto → Res Dv} {j k : Nat} {f : Addr} {fd : FuncData} {x : Str} {st : Stmt} {ps : List Str} {e : Expr} {p p2 kpos pos : Pos} {fe : XD} (B : Bd X k E) (FO : FnOk X.prog X.w X.K X.mg X.base (L2.CX X.prog X.w) j f fd ps (spD X.K X.mg T 1 F)) (hj : j + 2 ≤ k) (D : DefA X.K X.mg x st ps f fd) (hm : X.mg "sorted" = none) (he : PD X T E e fe)
    (hg : Gl X "sorted" := by rfl) (hgx : Gl X x := by rfl) (hdb : (x == ("__debug__" : Str)) = false := by decide) (h1 : starEach [e] X.env = (false, eval e X.env) :: starEach [] X.env := by rfl)
    (he2 : backTo pos (starEach [e] X.env) = (false, eval e X.env) :: backTo pos (starEach [] X.env) := by rfl) (hpl : (backTo pos (starEach [e] X.env)).any (·.1) = false := by rfl)
    (hall : (backToKw pos (keywordEach [⟨some "key", .Name x p2, kpos⟩] X.env)).all (·.1.isSome) = true := by rfl) (hnone : (backToKw pos (keywordEach [⟨some "key", .Name x p2, kpos⟩] X.env)).any (·.1.isNone) = false := by rfl)
    (hks : (backToKw pos (keywordEach [⟨some "key", .Name x p2, kpos⟩] X.env)).filterMap (·.1) = [Str.ofString "key"] := by rfl) :
    PO X T E (.Call (.Name "sorted" p) [e] [⟨some "key", .Name x p2, kpos⟩] pos) (xSortK F fe) := by
  have hr : Room (j + 2) X.A := B.room.mono hj
  refine PE_imp (pe_callBK (cr_sortK B.hu FO hr D.b) hg hm bl_sorted (pa_cons he pa_nil h1) (pk_cons (pe_glob (v := .ref f) hgx D.g rfl hdb) pk_nil) (by decide) (by decide) he2 hpl hall hnone hks) fun σ H Q h => ?_
  obtain ⟨fp, G, ρ, τ, b, e, h⟩ := h
  refine tD_stepO (k := sortKR F) b e h fun v fp1 G1 H1 τ1 d b1 e1 g1 r1 h1 => ?_
  cases d with
  | lst ds =>
    refine ⟨fp1, G1, τ1, ds, b1, .cons r1 .nil, rfl, ?_⟩
    unfold sortKR at h1 ⊢
    simp only at h1 ⊢
    cases q : keysL F ds τ1 with
    | bad => rw [q] at h1; exact h1.elim
    | err er τ2 => exact absurd q keysL_noErr
    | ok ks τ2 =>
      rw [q] at h1
      change AfterO X.K X.mg T (E σ) fp1 G1 H1 (endK ds ks τ2) Q at h1
      show AfterO X.K X.mg T _ fp1 G1 H1 (endK ds ks τ2) Q
      unfold endK at h1 ⊢
      by_cases hk : keyOk ds ks = true
      · rw [if_pos hk] at h1 ⊢
        exact h1
      · rw [if_neg hk] at h1
        exact h1.elim
  | _ => exact h1.elim
end
end Mv
end
section
set_option Elab.async false
set_option linter.all false
set_option maxRecDepth 100000
namespace Mv
open PySem PySem.Spec PyProof.Rows L2

/-! ### try: .. except C as n: y = n -- the error stays in y behind the suite -/
theorem erO_ok {P : Program} {w : World} {H : Hp} {h : Heap} {a : Addr} {cls : Value} {d : Option Addr} {oe : Obj} {vs : Array Value} (e : h.get? a = some oe) (z : Zc cls d oe) (hd : oe.data = .fields vs) : ObjOk P w H h a (ErO cls d a) :=
  ⟨⟨oe, vs, e, z.1, z.2, hd⟩, ⟨oe, e⟩, fun _ _ ⟨o, us, h1, h2, h3, h4⟩ k => ⟨o, us, k _ h1, h2, h3, h4⟩⟩
/-- what is wished of an error of the body: i the clause's name, j the name that keeps it -/
def wKeep (K : PySem.W.Frag) (c : Value) (i j n : Nat) (D : Ends) : WX := fun cls d σ H => PySem.W.exmOne K cls c = some true ∧ ∀ a, H a = none → σ.length = n → D.nx (((σ.set i (some (.ref a))).set j (some (.ref a))).set i none) (L2.upd H a (ErO cls d a))
section
variable {X : Cx}
theorem new_of {pins : List (Addr × Obj)} {σ : L2.St} {H : Hp} {s : Shared} {a : Addr} {B : Heap} (I : Inv X pins σ H s) (nb : ∀ b o, s.heap.get? b = some o → b ∉ frs X.stack → B.get? b = some o) (hB : B.get? a = none) (nf : a ∉ frs X.stack) : s.heap.get? a = none := by
  cases q : s.heap.get? a with
  | none => rfl
  | some o =>
    have := nb a o q nf
    rw [hB] at this
    cases this
/-- landed, and the error's object is tracked -/
theorem landT {pins : List (Addr × Obj)} {σ : L2.St} {H : Hp} {sI s' : Shared} {B : Heap} {a : Addr} {cls : Value} {d : Option Addr} {oe : Obj} {vs : Array Value} (I : Inv X pins σ H sI) (nb : ∀ c o, sI.heap.get? c = some o → c ∉ frs X.stack → B.get? c = some o) (st : B.StaysIn s'.heap) (up : sI.heap.UpToSlots s'.heap) (os : s'.os = sI.os) (ag : AllBare s'.gens)
    (na : H a = none) (nI : sI.heap.get? a = none) (he : s'.heap.get? a = some oe) (hz : Zc cls d oe) (hd : oe.data = .fields vs) : Inv X pins σ (L2.upd H a (ErO cls d a)) s' := by
  have fr : ∀ c ∈ frs X.stack, ∀ o, sI.heap.get? c = some o → ∃ sl, s'.heap.get? c = some { o with slots := sl } := fun c hc o e => by
    obtain ⟨_, o2, e2, hd2⟩ := I.stack.mem hc
    rw [e] at e2
    cases e2
    exact up c o e hd2
  have hk0 : HOk X.prog X.w H s'.heap := (I.inGround nb).kept st
  have ne : ∀ {c u}, H c = some u → c ≠ a := fun {c u} e z => by rw [z, na] at e; cases e
  have hk : HOk X.prog X.w (L2.upd H a (ErO cls d a)) s'.heap := fun c u e => by
    by_cases hc : c = a
    · subst hc
      rw [upd_same] at e
      cases e
      exact erO_ok he hz hd
    · rw [upd_ne hc] at e
      exact (hk0 c u e).stay (fun _ _ _ q => q) (fun x q => by rw [upd_ne (ne q)]; exact q) fun x _ q => by rw [upd_ne (ne q)]; exact q
  exact Inv.call' (ch := []) (H := H) (s := sI) I os
    ⟨fun c o e _ hc _ => st c o (nb c o e hc), fun c o e _ hc _ => fr c hc o e, fun c o e n _ => by rw [upd_ne (fun z => by rw [z, nI] at e; cases e)]; exact n, fun c o e _ => by
      by_cases hc : c ∈ frs X.stack
      · obtain ⟨sl, q⟩ := fr c hc o e
        exact ⟨_, q⟩
      · exact ⟨o, st c o (nb c o e hc)⟩, fun c xs e => by rw [upd_ne (ne e)]; exact e, fun c o u e => by rw [upd_ne (ne e)]; exact e, fun c ps e => ⟨#[], by rw [upd_ne (ne e), e]; simp⟩⟩ hk ag (fun _ z => nomatch z)
theorem toSuite {pins : List (Addr × Obj)} {σ : L2.St} {H : Hp} {s : Shared} (I : Inv X pins σ H s) (a : Addr) : Inv (X.suite a (X.pn ++ pins)) [] σ H s :=
  ⟨I.ok.suite _ _, I.os, I.bare, I.base, I.loc, I.cell, I.free, I.freeC, fun p hp => I.pin p (by rw [List.append_nil] at hp; exact hp), I.hok, I.len⟩
theorem ofSuite {pins : List (Addr × Obj)} {σ : L2.St} {H : Hp} {s : Shared} {a : Addr} (I : Inv (X.suite a (X.pn ++ pins)) [] σ H s) (ok : X.Ok) : Inv X pins σ H s :=
  ⟨ok, I.os, I.bare, I.base, I.loc, I.cell, I.free, I.freeC, fun p hp => I.pin p (by rw [List.append_nil]; exact hp), I.hok, I.len⟩
theorem ps_keep {x n : Str} {c : Value} {i j : Nat} {body suite : List Stmt} {b₀ : Stmt} {np pos pos' : Pos} {tb : WX → TS} (hs : X.stack = X.env :: X.outer) (hf : X.env.frame = some X.env.locals) (hN : X.N.Nodup) (hi : X.N[i]? = some n) (hln : X.env.kindOf n = some .local) (hc : Names X x c)
    (hb : ∀ (W : WX) (pn : List (Addr × Obj)) (xe : Value → Shared → Prop), Takes (X.tr pn xe) W → PassesOwn (model X.prog X.w) X.A X.env xe → PSs (X.tr pn xe) body (tb W)) (hsu : ∀ (a : Addr) (pn : List (Addr × Obj)), PSs (X.suite a pn) (b₀ :: suite) (tAsg (tVar i) (gName j))) :
    PS X (.Try body [.ExceptHandler (some (.Name x np)) (some n) (b₀ :: suite) pos'] [] [] pos) (fun D σ H => tb (wKeep X.K c i j X.N.length D) D σ H) := by
  refine ⟨fun pins s σ H D I w => ?_⟩
  have hX := I.ok
  have hA : X.A.frames = some (X.env :: X.outer) := hX.frames.trans (congrArg some hs)
  have hl : Loc X.env.scope n := .inl hln
  refine wpAny_Try_except (wpAny_mono (PSs.run (hb (wKeep X.K c i j X.N.length D) (X.pn ++ pins) _ (fun u s1 xx => ?_) PassesOwn.looking) [] s σ H D (I.toTry _) w) (fun fl s1 q => ?_) (fun e s1 he => he))
  · show wpAny (model X.prog X.w) X.A (noteFrame u X.env) (fun _ s₂ => wpAny (model X.prog X.w) X.A (setFlight u none) (fun _ s₃ => wpAny (model X.prog X.w) X.A (handleBy u X.env [.ExceptHandler (some (.Name x np)) (some n) (b₀ :: suite) pos']) (SP X pins D) X.xe s₃) X.xe s₂) X.xe s1
    obtain ⟨a, B, sI, pI, σ1, H1, cls, d, rfl, I1, nb, up, sky, na, os, ag, yes, go⟩ := xx
    have J1 : Inv X pins σ1 H1 sI := I1.ofTry hX
    refine Sky.land Zc.steady hA hf (by rw [← hs]; exact sky) fun h2 fl2 up2 => ?_
    have J2 : Inv X pins σ1 H1 { s1 with heap := h2 } := J1.landed nb fl2.1 (up.trans up2) os ag
    obtain ⟨o2, v2, he2, hz2, hd2⟩ := fl2.there
    have off : a ∉ frs (X.env :: X.outer) := fun hm => by
      obtain ⟨_, o', e', hnf⟩ := fl2.2.2.1.mem hm
      rw [he2] at e'
      cases e'
      exact hnf _ hd2
    have offL : a ≠ X.env.locals := fun z => off (List.mem_filterMap.mpr ⟨X.env, List.mem_cons_self, hf.trans (congrArg some z.symm)⟩)
    have offF : a ∉ X.fs := fun hm => by
      obtain ⟨e, he, q⟩ := List.mem_filterMap.mp hm
      exact off (List.mem_filterMap.mpr ⟨e, List.mem_cons_of_mem _ he, q⟩)
    have K2 := J2.suite he2 hd2 na offL offF
    refine wpAny_handleBy_cons (codeAny_handlers_test ?_) fun z => by cases z
    have tyA : PySem.W.Looks (model X.prog X.w) h2 (typeOf (.ref a)) cls := fun A Q E s k q => wpAny_typeOf_ref (k _ _ he2) (hz2.1.symm ▸ q)
    have lk := PySem.W.exm_one (M := model X.prog X.w) J2.kIn tyA yes
    have tst : ∀ {Q : Value → Shared → Prop} {E : Value → Shared → Prop}, Q c { s1 with heap := h2 } → wpAny (model X.prog X.w) (X.A.mark (some (.ref a))) (eval (.Name x np) X.env) Q E { s1 with heap := h2 } := fun {Q E} q => by
      obtain ⟨hg, hdb, m | ⟨m, v, nn⟩⟩ := hc
      · exact ld_glob (X := X.suite a ((a, o2) :: (X.pn ++ pins))) K2 hg m q hdb
      · exact ld_blt (X := X.suite a ((a, o2) :: (X.pn ++ pins))) K2 hg m v q nn hdb
    refine tst (lk.here (codeAny_handlers_suite_as (HandSPX.lands_againZ fl2 fun h3 fl3 up3 => ?_)))
    obtain ⟨o3, v3, he3, hz3, hd3⟩ := fl3.there
    have nI : sI.heap.get? a = none := new_of J1 nb fl3.2.1 (by rw [hs]; exact off)
    have JT : Inv X pins σ1 (L2.upd H1 a (ErO cls d a)) { s1 with heap := h3 } := landT J1 nb fl3.1 ((up.trans up2).trans up3) os ag na nI he3 hz3 hd3
    refine store_ok (X := X.suite a (X.pn ++ pins)) (v := .ref a) (toSuite JT a) hN hi hl rfl (fun s5 S5 => ?_) (.inr hln)
    have hil : i < σ1.length := by rw [JT.len]; exact (List.getElem?_eq_some_iff.mp hi).1
    refine wpAny_mono ((hsu a (X.pn ++ pins)).run [] s5 _ _ { nx := fun σ6 H6 => D.nx (σ6.set i none) H6, rt := fun _ _ => False } S5 ⟨.ref a, by rw [List.getElem?_set_self hil], go a na J1.len⟩) (fun fl s6 q => ?_) (fun _ _ z => False.elim z)
    cases fl with
    | next =>
      obtain ⟨σ6, H6, S6, q6⟩ := q
      exact gone_ok (ofSuite S6 hX) hN hi hln fun s7 J7 => ⟨_, _, J7, q6⟩
    | brk =>
      obtain ⟨_, _, _, z⟩ := q
      exact z.elim
    | cont =>
      obtain ⟨_, _, _, z⟩ := q
      exact z.elim
    | ret u =>
      obtain ⟨_, _, _, _, _, z⟩ := q
      exact z.elim
  · cases fl with
    | next => obtain ⟨σ1, H1, J1, q⟩ := q; exact wpAny_execs_nil ⟨σ1, H1, J1.ofTry hX, q⟩
    | brk => obtain ⟨σ1, H1, J1, q⟩ := q; exact ⟨σ1, H1, J1.ofTry hX, q⟩
    | cont => obtain ⟨σ1, H1, J1, q⟩ := q; exact ⟨σ1, H1, J1.ofTry hX, q⟩
    | ret u => obtain ⟨v, σ1, H1, J1, r, q⟩ := q; exact ⟨v, σ1, H1, J1.ofTry hX, r, q⟩
end
end Mv
end
section
set_option Elab.async false
set_option linter.all false
set_option maxRecDepth 100000
namespace Mv
open PySem PySem.Spec PyProof.Rows L2

/-! ### a lambda is made: what stood stands, tables too -/
structure ExtT (H H1 : Hp) : Prop where
  ext : LamX.ExtN H H1
  ex : ∀ b, H b ≠ none → H1 b ≠ none
section
variable {X : Cx} {pins : List (Addr × Obj)} {σ : L2.St} {H : Hp} {s : Shared}
theorem lam_mk {T : List (Addr × Str)} {c P : Addr} {params : Arguments} {body : Expr} {scope : Scope} {pos : Pos} {E : Value → Shared → Prop} {Q : Value → Shared → Prop} (I : Inv X pins σ H s) (TB : LamX.TabB X.base X.mg c P) (hcode : X.env.code = .ref c)
    (hm : (P, X.env.qual ++ "<lambda>") ∈ T) (hu : ∀ p ∈ T, p.1 = P → p.2 = X.env.qual ++ "<lambda>") (hT : LamX.Tabs T H) (hdef : defaultsOf params X.env = ([], [])) (hfree : ∀ y ∈ scope.names, y.2 = .free → ∃ c, X.env.cells.lookup y.1 = some c)
    (h : ∀ (f c' : Addr) (pm ctv : Value) (H1 : Hp) (s' : Shared), Inv X pins σ H1 s' → ExtT H H1 → LamX.Tabs T H1 → s'.heap.get? f = some (PySem.W.kla_obj "<lambda>" (X.env.qual ++ "<lambda>") params body scope (cloFrom X.env.cells scope.names []) pm c' ctv) → H1 f = none → f ∉ frs X.stack → H1 c' = some (LamX.CodeO c' (X.env.qual ++ "<lambda>")) → Q (.ref f) s') :
    wpAny (model X.prog X.w) X.A (eval (.Lambda params body scope pos) X.env) Q E s := by
  obtain ⟨ps, hP, tr, among⟩ := hT _ hm
  have base0 : s.heap.BuiltinsAt X.mg P := TB.bm.keeps I.bk
  have atP : s.heap.get? P = some { cls := .none, data := .fields ps } := I.hok P _ hP
  have young : ∀ f, s.heap.objs.size ≤ f → f ∉ frs X.stack := fun f hf z => (List.mem_cons.mp (I.stkSub _ z)).elim (fun e => absurd (Nat.lt_of_lt_of_le (e ▸ I.lt : f < s.heap.objs.size) hf) (Nat.lt_irrefl _)) (I.nofs hf)
  refine PySem.W.kla_eval hdef ?_
  cases hc : codeAmong pos ps.toList with
  | some cv =>
    obtain ⟨c', rfl, hco⟩ := among pos cv hc
    refine PySem.W.kla_makeFunctionHit (mg := X.mg) (c := c) (P := P) (ps := ps) (closure_ok hfree) I.ok.glob (I.mod.glob.keeps I.bk) hcode (TB.code.keeps I.bk) atP tr hc base0 fun ctv h' tk hx hsz => ?_
    exact h h'.objs.size c' ((X.mg "__name__").getD .none) ctv H _ (I.kept (t' := tk) fun b o e => Heap.get?_push_of_some _ (hx b o e)) ⟨LamX.ExtN.refl H, fun _ z => z⟩ hT (Heap.get?_push_size _ rfl) (I.hok.fresh hsz) (young _ hsz) hco
  | none =>
    refine PySem.W.kla_makeFunction (mg := X.mg) (c := c) (P := P) (ps := ps) (closure_ok hfree) I.ok.glob (I.mod.glob.keeps I.bk) hcode (TB.code.keeps I.bk) atP tr hc TB.gP base0 fun c' ctv h' tk hx hge hlt hrec htb => ?_
    obtain ⟨c2, oc, vs, t, e2, hoc, hd, hv⟩ := hrec
    cases e2
    have le : s.heap.objs.size ≤ h'.objs.size := Nat.le_trans hge (Nat.le_of_lt hlt)
    have new : H c' = none := I.hok.fresh hge
    have toL : (ps ++ #[rawInt pos.line, rawInt pos.col, .ref c']).toList = ps.toList ++ [rawInt pos.line, rawInt pos.col, .ref c'] := by simp
    let H1 : Hp := L2.upd (L2.upd H P (.tbl (ps ++ #[rawInt pos.line, rawInt pos.col, .ref c']))) c' (LamX.CodeO c' (X.env.qual ++ "<lambda>"))
    have stay : LamX.ExtN H H1 := fun b o e n => by
      show L2.upd _ c' _ b = _
      rw [upd_ne (ne_of_none e new), upd_ne (fun z => by rw [z, hP] at e; exact n ps (Option.some.inj e).symm)]
      exact e
    have at1 : H1 c' = some (LamX.CodeO c' (X.env.qual ++ "<lambda>")) := upd_same
    have atT : H1 P = some (.tbl (ps ++ #[rawInt pos.line, rawInt pos.col, .ref c'])) := by
      show L2.upd _ c' _ P = _
      rw [upd_ne (ne_of_none hP new), upd_same]
    refine h h'.objs.size c' ((X.mg "__name__").getD .none) ctv H1 _ (LamX.inv_table (t' := tk) (more := #[rawInt pos.line, rawInt pos.col, .ref c']) (h' := h'.push (PySem.W.kla_obj "<lambda>" (X.env.qual ++ "<lambda>") params body scope (cloFrom X.env.cells scope.names []) ((X.mg "__name__").getD .none) c' ctv)) I hP
      (fun b o hb e => Heap.get?_push_of_some _ (hx b o hb e)) (Heap.get?_push_of_some _ htb) hge ⟨oc, vs, t, Heap.get?_push_of_some _ hoc, hd, hv⟩) ⟨stay, fun b z => ?_⟩ (fun p hp => ?_) (Heap.get?_push_size _ rfl) ?_ (young _ le) at1
    · by_cases h1 : b = c'
      · rw [h1, at1]; exact fun z => nomatch z
      · by_cases h2 : b = P
        · rw [h2, atT]; exact fun z => nomatch z
        · show L2.upd _ c' _ b ≠ none
          rw [upd_ne h1, upd_ne h2]
          exact z
    · by_cases hb : p.1 = P
      · rw [hu p hp hb, hb]
        refine ⟨_, atT, by rw [toL]; exact PySem.TriplesOk_snoc _ _ _ _ tr, fun p' cv q => ?_⟩
        rw [toL] at q
        rcases LamX.among_app _ tr q with z | z
        · obtain ⟨c0, e1, e2⟩ := among p' cv z
          exact ⟨c0, e1, stay _ _ e2 LamX.codeO_ne⟩
        · exact ⟨c', z, at1⟩
      · obtain ⟨qs, a1, a2, a3⟩ := hT p hp
        refine ⟨qs, ?_, a2, fun p' cv q => ?_⟩
        · show L2.upd _ c' _ p.1 = _
          rw [upd_ne (ne_of_none a1 new), upd_ne hb]
          exact a1
        · obtain ⟨c0, e1, e2⟩ := a3 p' cv q
          exact ⟨c0, e1, stay _ _ e2 LamX.codeO_ne⟩
    · show L2.upd _ c' _ _ = none
      rw [upd_ne (Nat.ne_of_gt hlt), upd_ne (Nat.ne_of_gt (Nat.lt_of_lt_of_le (Heap.lt_size atP) le))]
      exact I.hok.fresh le
end
end Mv
end
section
set_option Elab.async false
set_option linter.all false
set_option maxRecDepth 100000
namespace Mv
open PySem PySem.Spec PyProof.Rows L2

/-! ### d.update(a new dict with other keys) -/
section
variable {X : Cx}
theorem mt_update : MtM X "dict.update" (fun x xs H Q => ∃ a b kvs more, x = .ref a ∧ xs = [.ref b] ∧ a ≠ b ∧ H a = some (.dK kvs) ∧ H b = some (.dK more) ∧ kvs.length + more.length ≤ sizeLine ∧ Q .non (L2.upd H a (.dK (mergeK kvs more)))) := by
  intro pins s σ H x xs v us Q I rx rxs h
  obtain ⟨a, b, kvs, more, rfl, rfl, hne, ha, hb, hz, q⟩ := h
  obtain rfl : v = Value.ref a := rx
  obtain ⟨u, rfl, ru⟩ := vals1 rxs
  obtain rfl : u = Value.ref b := ru
  obtain ⟨z1, hd1, vs1, r1, dd1⟩ := dk_of I.hok ha
  obtain ⟨z2, hd2, vs2, r2, dd2⟩ := dk_of I.hok hb
  refine call_meetsIn PySem.F.slot_dict_update dd1.typeIs PySem.F.entry_dict_update (PySem.F.args_dict_update_2 _ _) (meets_dict_update (mixKind X.prog X.w) a b hne hd2) ⟨vs1, vs2, dd1, dd2, by rw [← r1.length, ← r2.length]; exact hz, ?_⟩
  intro h' dd' _ hs
  have he : ∃ q, h'.get? a = some q := let ⟨q, _, _, hq, _⟩ := dd'; ⟨q, hq⟩
  have hl : (mergeK kvs more).length ≤ sizeLine := Nat.le_trans (length_mergeK more kvs) hz
  exact ⟨.non, _, d_write (t' := s.toks) I (by rw [ha]; exact True.intro) hs he (dk_new hl hd1 (KV.merge r2 r1) dd'), rfl, q⟩
end
def updS (i : Nat) (d : Dv) (ρ : EnvS) (τ : Sto) : SR := match ρ[i]?, d with
  | some (some (.own (.dct ks vs))), .dct ks2 vs2 => if distD (ks ++ ks2) = true ∧ big (vs.length + vs2.length) = true then .nx (ρ.set i (some (.own (.dct (ks ++ ks2) (vs ++ vs2))))) τ else .bad
  | _, _ => .bad
/-- x.update(a new dict), x a dict that the name owns -/
def sUpd (i : Nat) (f : XD) : XS := fun ρ τ => if ownDc i ρ = false then .bad else bindS (f (hideS ρ) τ) ρ fun d τ1 => updS i d ρ τ1
section
variable {X : Cx} {T : List (Addr × Str)} {fp0 : List Addr} {G0 H0 : Hp} {E : L2.St → XK}
theorem sd_upd {x : Str} {i : Nat} {e : Expr} {np apos cpos pos : Pos} {f : XD} (hN : X.N[i]? = some x) (hv : Vis X.env.scope x) (he : PO X T E e f) (hd : (x == ("__debug__" : Str)) = false := by decide) (hcd : (x == ("__classdict__" : Str)) = false := by decide)
    (hs : swapsWith (.Call (.Attribute (.Name x np) "update" apos) [e] [] cpos) none pos.line X.env = pure false := by rfl) (h1 : starEach [e] X.env = (false, eval e X.env) :: starEach [] X.env := by rfl)
    (hbase : attributeBase (.Name x np) "update" X.env (eval (.Name x np) X.env) = eval (.Name x np) X.env := by rfl)
    (hfew : ((backTo cpos (starEach [e] X.env)).all (fun x => !x.1) && (backToKw cpos (keywordEach [] X.env)).all (fun x => x.1.isSome) && decide ([e].length + ([] : List Keyword).length + (if ([] : List Keyword).isEmpty then 0 else 1) < 30)) = true := by rfl)
    (hline : (apos.endLine == cpos.line) = true := by rfl) (hplain : (backTo cpos (starEach [] X.env)).any (·.1) = false := by rfl) :
    PSd X T fp0 G0 H0 E (.Expr (.Call (.Attribute (.Name x np) "update" apos) [e] [] cpos) pos) (sUpd i f) := by
  refine PS_imp (ps_expr (pe_bm PySem.F.plainAttrs_dict PySem.F.slot_dict_update PySem.F.type_dict_update mt_update (pe_var (i := i) hN hv hd hcd) (pa_cons he pa_nil h1) hbase hfew hline h1 hplain) hs) fun D σ H h => ?_
  obtain ⟨fp, F, ρ, τ, S, h⟩ := h
  have ho : ownDc i ρ ≠ false := fun z => by
    unfold sUpd at h
    rw [if_pos z] at h
    exact h
  unfold sUpd at h
  rw [if_neg ho] at h
  obtain ⟨ks, vs, hi⟩ := ownDc_at ho
  obtain ⟨p, kvs, hp, hH, nd, e3, rk⟩ := own_dct S hi
  refine ⟨.ref p, hp, .inr (.inr (.inl ⟨rfl, .inl ⟨kvs, hH⟩⟩)), ?_⟩
  refine ⟨fp, F, hideS ρ, τ, S.base, S.env, AfterP.toO (S.evalH h fun _ _ _ _ _ _ _ _ _ _ _ => trivial) fun d τ1 e1 p2 fp1 G1 H1 gr b1 n0 nf nG o => ?_⟩
  rw [e1] at h
  change AfterS X.K X.mg T fp0 G0 H0 E fp F (updS i d ρ τ1) D at h
  have S1 := S.backH gr b1
  unfold updS at h
  rw [hi] at h
  cases d with
  | dct ks2 vs2 =>
    simp only at h
    by_cases hk : distD (ks ++ ks2) = true ∧ big (vs.length + vs2.length) = true
    · rw [if_pos hk] at h
      obtain ⟨p', kvs1, hp', hH1, nd1, e31, rk1⟩ := own_dct S1 hi
      rw [hp] at hp'
      cases hp'
      obtain ⟨more, hm, nm, em, rm⟩ := o
      have hne : p ≠ p2 := fun z => by rw [z, n0] at hH; cases hH
      have hnd : ((kvs1 ++ more).map (·.1)).Nodup := distD_key (by rw [List.map_append, List.map_append, ← e31, ← em]; exact hk.1)
      have em2 : mergeK kvs1 more = kvs1 ++ more := merge_nodup more kvs1 nm fun k hk1 hk2 => by
        rw [List.map_append, List.nodup_append] at hnd
        exact hnd.2.2 k hk2 k hk1 rfl
      refine ⟨p, p2, kvs1, more, rfl, rfl, hne, hH1, hm, ?_, ?_⟩
      · rw [len_rp rk1, len_rp rm]
        exact big_le hk.2
      · rw [em2]
        exact h σ _ fp1 G1 gr.pre gr.same (S1.mut hi hp ⟨_, upd_same, hnd, by rw [List.map_append, List.map_append, ← e31, ← em], by rw [List.map_append]; exact rk1.append rm⟩)
    · rw [if_neg hk] at h
      exact h.elim
  | _ => exact h.elim

/-! ### what a name owns is frozen, so that it can be walked -/
def sFrzD (i : Nat) (f : XS) : XS := fun ρ τ => match ρ[i]? with
  | some (some (.own (.dct ks vs))) => f (ρ.set i (some (.im (.fdct ks vs)))) τ
  | _ => .bad
/-- an untracked-by-F object of ours is shared as another -/
theorem SS.give {K : PySem.W.Frag} {mg : Str → Option Value} {fp : List Addr} {F H : Hp} {ρ : EnvS} {τ : Sto} {σ : L2.St} (S : SS K mg T fp0 G0 H0 fp F ρ τ σ H) {i : Nat} {p : Addr} {d d' : Dv} {u : HO} (hi : ρ[i]? = some (some (.own d))) (hp : σ[i]? = some (some (.ref p))) (hu : ∀ ps, u ≠ .tbl ps)
    (r : Rp K fp (L2.upd F p u) (.ref p) d') : ∃ F', SS K mg T fp0 G0 H0 fp F' (ρ.set i (some (.im d'))) τ σ (L2.upd H p u) ∧ Same F F' := by
  obtain ⟨p1, e1, e2, e3, e4, e5⟩ := S.own i d hi
  rw [hp] at e1
  cases e1
  obtain ⟨w, q1, q2, q3, _⟩ := e5.there
  have hil : i < ρ.length := (List.getElem?_eq_some_iff.mp hi).1
  have hsl : i < σ.length := (List.getElem?_eq_some_iff.mp hp).1
  have s1 : Same F (L2.upd F p u) := fun c o e => by rw [upd_ne (ne_of_none e e3)]; exact e
  have old : ∀ {j : Nat} {x : Dv}, (ρ.set i (some (.im d')))[j]? = some (some (.own x)) → j ≠ i ∧ ρ[j]? = some (some (.own x)) := fun {j x} h => by
    by_cases hj : j = i
    · subst hj; rw [List.getElem?_set_self hil] at h; cases h
    · rw [List.getElem?_set_ne (Ne.symm hj)] at h; exact ⟨hj, h⟩
  have bw := S.base.write (o' := u) q1 e3 e2 q2 q3 (e5.noXd q1)
  have gw := S.gro.write (o' := u) (p := p) e4
  refine ⟨L2.upd F p u, ⟨⟨gw.pre, S.gro.same.trans s1, gw.keep, gw.ex, fun c h1 h2 => ?_, gw.nfp⟩, ⟨fun c o e => ?_, fun c ps e => ?_, ⟨bw.sto.len, bw.sto.nd, fun c hc => ?_, fun n o a h1 h2 => (bw.sto.at_ n o a h1 h2).mono s1 (List.prefix_refl _) fun _ _ _ z => z, bw.sto.im⟩, bw.tab⟩, ⟨by simpa [hideS] using S.env.len, fun j e h => ?_⟩, fun j e h => ?_, fun j k a b q h1 h2 h3 h4 => S.dist j k a b q (old h1).2 (old h2).2 h3 h4⟩, s1⟩
  · rw [upd_ne (fun z => h1 (by rw [z]; exact e4))]
    exact S.gro.new c h1 h2
  · by_cases z : c = p
    · subst z; rw [upd_same] at e ⊢; exact e
    · rw [upd_ne z] at e ⊢; exact S.base.sub _ _ e
  · by_cases z : c = p
    · subst z; rw [upd_same] at e; exact hu ps (Option.some.inj e)
    · rw [upd_ne z] at e; exact S.base.nt _ _ e
  · rw [upd_ne (fun z => e2 (by rw [← z]; exact hc))]
    exact S.base.sto.out c hc
  · rw [hide_get] at h
    by_cases hj : j = i
    · subst hj
      rw [List.getElem?_set_self hil] at h
      cases h
      exact ⟨.ref p, hp, r⟩
    · rw [List.getElem?_set_ne (Ne.symm hj)] at h
      obtain ⟨v, w1, w2⟩ := S.env.at_ j e (by rw [hide_get]; exact h)
      exact ⟨v, w1, w2.mono s1 (List.prefix_refl _)⟩
  · obtain ⟨hj, h⟩ := old h
    obtain ⟨p', w1, w2, w3, w4, w5⟩ := S.own j e h
    have hne : p' ≠ p := fun z => hj (S.dist j i e d p h hi (by rw [w1, z]) hp)
    exact ⟨p', w1, w2, by rw [upd_ne hne]; exact w3, w4, w5.mono s1 (List.prefix_refl _) fun v hv _ => by rw [upd_ne hne]; exact hv⟩
theorem sd_frzD {st : Stmt} {f : XS} (i : Nat) (h : PSd X T fp0 G0 H0 E st f) : PSd X T fp0 G0 H0 E st (sFrzD i f) := by
  refine ⟨fun pins s σ H D I w => ?_⟩
  obtain ⟨fp, F, ρ, τ, S, w⟩ := w
  unfold sFrzD at w
  split at w
  · rename_i ks vs hi
    obtain ⟨p, kvs, hp, hH, nd, e3, rk⟩ := own_dct S hi
    have hF : F p = none := by
      obtain ⟨p1, e1, _, e3, _⟩ := S.own i _ hi
      rw [hp] at e1
      cases e1
      exact e3
    obtain ⟨od, I2⟩ := I.lock hH True.intro
    subst e3
    obtain ⟨F', S', s1⟩ := S.give (u := .frz od (.dK kvs)) hi hp (fun _ z => nomatch z) (.fdct upd_same nd (rk.mono (fun c o e => by rw [upd_ne (ne_of_none e hF)]; exact e) (List.prefix_refl _)))
    exact h.run pins s σ _ D I2 ⟨fp, F', _, τ, S', AfterS.later w (List.prefix_refl _) s1⟩
  · exact w.elim
end

/-! ### over the keys of a frozen dict -/
def keysOf : Dv → Option (List Dv)
  | .fdct ks _ => some ks
  | _ => none
def iKeysD (f : XD) : XI := fun ρ τ => (f ρ τ).bind fun d τ1 => lift (keysOf d) τ1
section
variable {X : Cx} {T : List (Addr × Str)} {E : L2.St → XK}
theorem kD_rp {K : PySem.W.Frag} {fp : List Addr} {G : Hp} (k : Key) : Rp K fp G (kV k) (kD k) := by
  cases k with
  | inl i => exact .int i
  | inr x => exact .str x
theorem id_keys {i : Nat} {tg e : Expr} {f : XD} (h : PD X T E e f) : PID X T E (.nm i) tg e (iKeysD f) := by
  refine PI_imp (pi_keys h) fun σ H R w => ?_
  obtain ⟨fp, G, ρ, τ, b, e, w⟩ := w
  refine tD_step (k := fun d τ1 => lift (keysOf d) τ1) b e w fun v fp1 G1 H1 τ1 d b1 e1 g1 r1 h1 => ?_
  cases r1 with
  | @fdct a o kvs vs h2 n h3 =>
    refine ⟨a, o, rfl, .inl ⟨kvs, b1.sub _ _ h2, h1 (Itk a o kvs) fp1 G1 H1 (Gro.refl _ _ _) b1 ?_⟩⟩
    have wk := (walk_keys (d := a) (o := o) (kvs := kvs)).mono (G' := fun H => Same G1 H) (Y' := fun i H x H' => H' = H ∧ ∃ k v, kvs[i]? = some (k, v) ∧ x = kV k) (fun H s => s _ _ h2) (fun i H x H' _ _ y => y)
    refine ⟨_, by rw [List.length_map, List.length_map]; exact wk, fun j F H x H' hj s1 s2 y => ?_⟩
    obtain ⟨rfl, k, v, hk, rfl⟩ := y
    exact ⟨F, kD k, Grow.refl s2, by rw [List.getElem?_map, List.getElem?_map, hk]; rfl, kD_rp k⟩
  | _ => exact h1.elim
end
end Mv
end
section
set_option Elab.async false
set_option linter.all false
set_option maxRecDepth 100000
namespace Mv
open PySem PySem.Spec PyProof.Rows L2

/-! ### errors as values -/
def hdNames : List Str := ["Lived", "Muddled", "NoPerson", "NoHouse", "NoStanding", "NoMove", "NoNames", "Unsettled", "Unfair", "NoNumber", "Unlike", "BadBook", "NoBack", "NoText"]
def errCB (K : PySem.W.Frag) (C CM : Addr) : Bool := (PySem.W.clsIn K C).isSome && decide (PySem.W.findIn K (.ref C) "__getattribute__" = some (some (.builtin "BaseException.__getattribute__"))) && decide (PySem.W.findIn K (.ref C) "__getattr__" = some none) &&
  decide (PySem.W.subIn K (.ref C) (.type "BaseException") = some true) && decide (PySem.W.findIn K (.ref C) "__class__" = some (some (.builtin "object.__class__"))) && decide (PySem.W.specialIn K (.builtin "object.__class__") "__get__" = some (some (.builtin "getset_descriptor.__get__"))) &&
  decide (PySem.W.takesIn K (.builtin "object.__class__") = some true) && decide (PySem.W.mroIn K C (.type "object") = some true) && PySem.W.hasDictIn K C && decide (PySem.W.findIn K (.ref C) "person" = some none) &&
  decide (PySem.W.exmOne K (.ref C) (.ref CM) = some true) && decide (PySem.W.kitOne K (.ref C) (.type "ValueError") = some true)
def hdB (K : PySem.W.Frag) (CM : Addr) (l : List (Str × Addr)) : Bool := decide (l.map (·.1) = hdNames) && l.all (fun p => errCB K p.2 CM) && l.all fun p => l.all fun q => decide (PySem.W.kitOne K (.ref p.2) (.ref q.2) = some (decide (p.1 = q.1)))
structure HdA (K : PySem.W.Frag) (mg : Str → Option Value) : Prop where
  ex : ∃ (CM : Addr) (l : List (Str × Addr)), mg "MoveError" = some (.ref CM) ∧ (∀ p ∈ l, mg p.1 = some (.ref p.2)) ∧ hdB K CM l = true
structure ErrC (K : PySem.W.Frag) (C CM : Addr) : Prop where
  cl : (PySem.W.clsIn K C).isSome = true
  ga : PySem.W.findIn K (.ref C) "__getattribute__" = some (some (.builtin "BaseException.__getattribute__"))
  gt : PySem.W.findIn K (.ref C) "__getattr__" = some none
  su : PySem.W.subIn K (.ref C) (.type "BaseException") = some true
  ca : PySem.W.findIn K (.ref C) "__class__" = some (some (.builtin "object.__class__"))
  sp : PySem.W.specialIn K (.builtin "object.__class__") "__get__" = some (some (.builtin "getset_descriptor.__get__"))
  tk : PySem.W.takesIn K (.builtin "object.__class__") = some true
  mr : PySem.W.mroIn K C (.type "object") = some true
  dc : PySem.W.hasDictIn K C = true
  pe : PySem.W.findIn K (.ref C) "person" = some none
  em : PySem.W.exmOne K (.ref C) (.ref CM) = some true
  ve : PySem.W.kitOne K (.ref C) (.type "ValueError") = some true
theorem errC_of {K : PySem.W.Frag} {C CM : Addr} (h : errCB K C CM = true) : ErrC K C CM := by
  simp only [errCB, Bool.and_eq_true, decide_eq_true_eq] at h
  obtain ⟨⟨⟨⟨⟨⟨⟨⟨⟨⟨⟨h1, h2⟩, h3⟩, h4⟩, h5⟩, h6⟩, h7⟩, h8⟩, h9⟩, h10⟩, h11⟩, h12⟩ := h
  exact ⟨h1, h2, h3, h4, h5, h6, h7, h8, h9, h10, h11, h12⟩
/-- an error's class, what is known of it -/
theorem HdA.of {K : PySem.W.Frag} {mg : Str → Option Value} (D : HdA K mg) : ∃ CM : Addr, mg "MoveError" = some (.ref CM) ∧ (∀ n ∈ hdNames, ∃ C, mg n = some (.ref C) ∧ ErrC K C CM) ∧
    ∀ n ∈ hdNames, ∀ m ∈ hdNames, ∀ C C', mg n = some (.ref C) → mg m = some (.ref C') → PySem.W.kitOne K (.ref C) (.ref C') = some (decide (n = m)) := by
  obtain ⟨CM, l, h1, h2, h3⟩ := D.ex
  simp only [hdB, Bool.and_eq_true, decide_eq_true_eq] at h3
  obtain ⟨⟨h3, h4⟩, h5⟩ := h3
  have get : ∀ n ∈ hdNames, ∃ p ∈ l, p.1 = n := fun n hn => by
    rw [← h3] at hn
    obtain ⟨p, hp, e⟩ := List.mem_map.mp hn
    exact ⟨p, hp, e⟩
  refine ⟨CM, h1, fun n hn => ?_, fun n hn m hm C C' e1 e2 => ?_⟩
  · obtain ⟨p, hp, rfl⟩ := get n hn
    exact ⟨p.2, h2 p hp, errC_of (List.all_eq_true.mp h4 p hp)⟩
  · obtain ⟨p, hp, rfl⟩ := get n hn
    obtain ⟨q, hq, rfl⟩ := get m hm
    rw [h2 p hp] at e1
    rw [h2 q hq] at e2
    cases e1
    cases e2
    exact of_decide_eq_true (List.all_eq_true.mp (List.all_eq_true.mp h5 p hp) q hq)
/-- a test that reads the store -/
def bPs (g : List Dv → Sto → Option Bool) (a : XL) : XB := fun ρ τ => (a ρ τ).bind fun ds τ1 => lift (g ds τ1) τ1
def excOf : Dv → Sto → Option (Str × Option Dv)
  | .tok k, τ => match τ[k]? with
    | some (.exc n x) => some (n, x)
    | _ => none
  | _, _ => none
def gIsiX (m : Str) : List Dv → Sto → Option Bool
  | [d], τ => (excOf d τ).bind fun p => if p.1 ∈ hdNames ∧ m ∈ hdNames then some (decide (p.1 = m)) else none
  | _, _ => none
def gIsiV : List Dv → Sto → Option Bool
  | [d], τ => (excOf d τ).bind fun p => if p.1 ∈ hdNames then some true else none
  | _, _ => none
def gPerson : List Dv → Sto → Option Dv
  | [d], τ => (excOf d τ).bind fun p => if p.1 ∈ hdNames then p.2 else none
  | _, _ => none
section
variable {X : Cx} {T : List (Addr × Str)} {E : L2.St → XK}
theorem exc_at {K : PySem.W.Frag} {mg : Str → Option Value} {fp : List Addr} {G H : Hp} {τ : Sto} {v : V} {d : Dv} {p : Str × Option Dv} (sto : StoR K mg fp G τ H) (r : Rp K fp G v d) (e : excOf d τ = some p) :
    ∃ (a C : Addr) (dx : Option Addr), v = .ref a ∧ H a = some (ErO (.ref C) dx a) ∧ mg p.1 = some (.ref C) ∧ (match p.2 with
      | none => dx = none
      | some x => ∃ dd w, dx = some dd ∧ H dd = some (.xd [("person", w)]) ∧ Rp K fp G w x) := by
  cases r with
  | @tok a k ha =>
    simp only [excOf] at e
    split at e
    · rename_i n x hn
      cases e
      have z := sto.at_ k _ a hn ha
      cases x with
      | none => obtain ⟨C, e1, e2⟩ := z; exact ⟨a, C, none, rfl, e1, e2, rfl⟩
      | some x => obtain ⟨C, dd, w, e1, e2, e3, e4⟩ := z; exact ⟨a, C, some dd, rfl, e1, e2, dd, w, rfl, e3, e4⟩
    · cases e
  | _ => cases e
theorem inst_at {pins : List (Addr × Obj)} {σ : L2.St} {H : Hp} {s : Shared} {a C : Addr} {dx : Option Addr} (I : Inv X pins σ H s) (h : H a = some (ErO (.ref C) dx a)) (hd : dx = none ∨ ∃ dd fs, dx = some dd ∧ H dd = some (.xd fs)) : ∃ oe od, PySem.W.InstAt s.heap a oe C od := by
  obtain ⟨⟨oe, vs, h1, h2, h3, h4⟩, _⟩ := I.hok a _ h
  have no : PySem.W.notCls oe = true := by unfold PySem.W.notCls; rw [h4] <;> rfl
  rcases hd with rfl | ⟨dd, fs, rfl, hdd⟩
  · exact ⟨oe, none, h1, h2, no, by rw [h3]; trivial⟩
  · have hx : ObjOk X.prog X.w H s.heap dd (.xd fs) := I.hok dd _ hdd
    obtain ⟨mA, hns, hr⟩ := hx
    obtain ⟨od, ho, hl⟩ := lookIn_ns hns
    exact ⟨oe, some od, h1, h2, no, by rw [h3]; exact ho⟩
def rIsEr (K : PySem.W.Frag) : List V → Hp → VK → Prop := fun xs H Q => ∃ (a C CM : Addr) (dx : Option Addr) (c : V) (cv : Value) (b : Bool), xs = [.ref a, c] ∧ H a = some (ErO (.ref C) dx a) ∧ (dx = none ∨ ∃ dd fs, dx = some dd ∧ H dd = some (.xd fs)) ∧ ErrC K C CM ∧ ClsV c cv ∧ PySem.W.kitOne K (.ref C) cv = some b ∧ Q (.bl b) H
theorem call_isEr : CallR X (.builtin "isinstance") (rIsEr X.K) := by
  intro pins s σ H xs us Q I r h
  obtain ⟨a, C, CM, dx, c, cv, b, rfl, ha, hd, ec, hc, e, q⟩ := h
  obtain ⟨u1, u2, rfl, r1, r2⟩ := vals2 r
  obtain rfl : u1 = Value.ref a := r1
  have e2 := hc.eq r2
  subst e2
  obtain ⟨oe, od, J⟩ := inst_at I ha hd
  exact PySem.W.kia_one (PySem.W.kitx_exc ec.cl ec.ga ec.gt ec.su ec.ca ec.sp ec.tk ec.mr) I.kIn J e (fun z => nomatch z) fun tk => ⟨.bl b, H, I.tok tk, rfl, q⟩
theorem side_of {fp : List Addr} {G H : Hp} {K : PySem.W.Frag} {x : Option Dv} {dx : Option Addr} (h : match x with
      | none => dx = none
      | some x => ∃ dd w, dx = some dd ∧ H dd = some (.xd [("person", w)]) ∧ Rp K fp G w x) : dx = none ∨ ∃ dd fs, dx = some dd ∧ H dd = some (.xd fs) := by
  cases x with
  | none => exact .inl h
  | some x => obtain ⟨dd, w, h1, h2, _⟩ := h; exact .inr ⟨dd, _, h1, h2⟩
theorem pd_isiX {e : Expr} {x : Str} {p p2 pos : Pos} {f : XD} (D : HdA X.K X.mg) (he : PD X T E e f) (hg : Gl X "isinstance") (hm : X.mg "isinstance" = none) (hgx : Gl X x) (hx : x ∈ hdNames := by decide) (hd : (x == ("__debug__" : Str)) = false := by decide)
    (h1 : starEach [e, .Name x p2] X.env = (false, eval e X.env) :: starEach [.Name x p2] X.env := by rfl) (h2 : starEach [.Name x p2] X.env = (false, eval (.Name x p2) X.env) :: starEach [] X.env := by rfl)
    (hpl : (backTo pos (starEach [.Name x p2] X.env)).any (·.1) = false := by rfl) :
    PD X T E (.Call (.Name "isinstance" p) [e, .Name x p2] [] pos) (xB (bPs (gIsiX x) (aC f aN))) := by
  obtain ⟨CM, _, hc, hk⟩ := D.of
  obtain ⟨C0, hC0, ec0⟩ := hc x hx
  refine PE_imp (pe_callB call_isEr hg hm (by decide +kernel) (pa_cons he (pa_cons (pe_glob (v := .ref C0) hgx hC0 rfl hd) pa_nil h2) h1) (by decide) (by decide) h1 hpl) fun σ H Q h => ?_
  obtain ⟨fp, G, ρ, τ, b, e, h⟩ := h
  unfold xB bPs at h
  rw [bind_assoc] at h
  refine arg1 b e h fun v fp1 G1 H1 τ1 d b1 e1 r1 h1 => ?_
  obtain ⟨d', q, rd⟩ := one_of r1
  cases q
  simp only [gIsiX] at h1
  cases qa : excOf d τ1 with
  | none => rw [qa] at h1; exact False.elim h1
  | some pr =>
    rw [qa] at h1
    simp only [Option.bind_some] at h1
    by_cases hn : pr.1 ∈ hdNames ∧ x ∈ hdNames
    · rw [if_pos hn] at h1
      obtain ⟨a, C, dx, rfl, ha, hmn, hs⟩ := exc_at b1.sto rd qa
      obtain ⟨C', hC', ec⟩ := hc pr.1 hn.1
      rw [hmn] at hC'
      cases hC'
      exact ⟨a, C, CM, dx, .ref C0, .ref C0, _, rfl, ha, side_of hs, ec, .own C0, hk pr.1 hn.1 x hx C C0 hmn hC0, h1 _ fp1 G1 H1 (Gro.refl _ _ _) b1 (.bl _)⟩
    · rw [if_neg hn] at h1
      exact False.elim h1
theorem bl_valueError : bootBuiltins "ValueError" = some (.type "ValueError") := by decide +kernel
theorem pd_isiV {e : Expr} {p p2 pos : Pos} {f : XD} (D : HdA X.K X.mg) (he : PD X T E e f) (hg : Gl X "isinstance") (hm : X.mg "isinstance" = none) (hgx : Gl X "ValueError") (hmx : X.mg "ValueError" = none)
    (h1 : starEach [e, .Name "ValueError" p2] X.env = (false, eval e X.env) :: starEach [.Name "ValueError" p2] X.env := by rfl) (h2 : starEach [.Name "ValueError" p2] X.env = (false, eval (.Name "ValueError" p2) X.env) :: starEach [] X.env := by rfl)
    (hpl : (backTo pos (starEach [.Name "ValueError" p2] X.env)).any (·.1) = false := by rfl) :
    PD X T E (.Call (.Name "isinstance" p) [e, .Name "ValueError" p2] [] pos) (xB (bPs gIsiV (aC f aN))) := by
  obtain ⟨CM, _, hc, hk⟩ := D.of
  refine PE_imp (pe_callB call_isEr hg hm (by decide +kernel) (pa_cons he (pa_cons (pe_bltn (v := .ty "ValueError") hgx hmx bl_valueError rfl) pa_nil h2) h1) (by decide) (by decide) h1 hpl) fun σ H Q h => ?_
  obtain ⟨fp, G, ρ, τ, b, e, h⟩ := h
  unfold xB bPs at h
  rw [bind_assoc] at h
  refine arg1 b e h fun v fp1 G1 H1 τ1 d b1 e1 r1 h1 => ?_
  obtain ⟨d', q, rd⟩ := one_of r1
  cases q
  simp only [gIsiV] at h1
  cases qa : excOf d τ1 with
  | none => rw [qa] at h1; exact False.elim h1
  | some pr =>
    rw [qa] at h1
    simp only [Option.bind_some] at h1
    by_cases hn : pr.1 ∈ hdNames
    · rw [if_pos hn] at h1
      obtain ⟨a, C, dx, rfl, ha, hmn, hs⟩ := exc_at b1.sto rd qa
      obtain ⟨C', hC', ec⟩ := hc pr.1 hn
      rw [hmn] at hC'
      cases hC'
      exact ⟨a, C, CM, dx, .ty "ValueError", .type "ValueError", _, rfl, ha, side_of hs, ec, .ty _, ec.ve, h1 _ fp1 G1 H1 (Gro.refl _ _ _) b1 (.bl _)⟩
    · rw [if_neg hn] at h1
      exact False.elim h1
/-- e.person, e an error -/
theorem pd_person {e : Expr} {pos : Pos} {f : XD} (D : HdA X.K X.mg) (he : PD X T E e f) (hb : attributeBase e "person" X.env (eval e X.env) = eval e X.env := by rfl) : PD X T E (.Attribute e "person" pos) (xPs gPerson (aC f aN)) := by
  obtain ⟨CM, _, hc, hk⟩ := D.of
  refine ⟨fun pins s σ H Q I h => ?_⟩
  refine attr_of hb (thn (he.run pins s σ H (fun x H1 => ∃ fp1 G1 τ1 d, Base X.K X.mg T fp1 G1 τ1 H1 ∧ Rp X.K fp1 G1 x d ∧ AfterP X.K X.mg T (fun fp G d v => Rp X.K fp G v d) (E σ) fp1 G1 H1 (lift (gPerson [d] τ1) τ1) Q) I ?_) fun u s1 hh => ?_)
  · obtain ⟨fp, G, ρ, τ, b, e, h⟩ := h
    unfold xPs at h
    refine arg1 b e h fun v fp1 G1 H1 τ1 d b1 e1 r1 h1 => ?_
    obtain ⟨d', q, rd⟩ := one_of r1
    cases q
    exact ⟨fp1, G1, τ1, d, b1, rd, h1⟩
  · obtain ⟨x, H1, I1, rx, fp1, G1, τ1, d, b1, rd, h1⟩ := hh
    simp only [gPerson] at h1
    cases qa : excOf d τ1 with
    | none => rw [qa] at h1; exact False.elim h1
    | some pr =>
      obtain ⟨n, y⟩ := pr
      rw [qa] at h1
      simp only [Option.bind_some] at h1
      by_cases hn : n ∈ hdNames
      · rw [if_pos hn] at h1
        cases y with
        | none => exact False.elim h1
        | some y =>
          obtain ⟨a, C, dx, rfl, ha, hmn, dd, w, rfl, hdd, rw'⟩ := exc_at b1.sto rd qa
          obtain ⟨C', hC', ec⟩ := hc n hn
          rw [show X.mg n = some (.ref C) from hmn] at hC'
          cases hC'
          obtain rfl : u = Value.ref a := rx
          obtain ⟨⟨oe, vs, i1, i2, i3, i4⟩, _⟩ := I1.hok a _ ha
          have hx : ObjOk X.prog X.w H1 s1.heap dd (.xd [("person", w)]) := I1.hok dd _ hdd
          obtain ⟨mA, hns, hr⟩ := hx
          obtain ⟨od, ho, hl⟩ := lookIn_ns hns
          have lk : List.lookup ("person" : Str) [(("person" : Str), w)] = some w := by simp [List.lookup]
          obtain ⟨z, hz, rz⟩ := RelO.some_of (v := w) (o := mA "person") (by rw [← lk]; exact hr "person")
          have J : PySem.W.InstAt s1.heap a oe C (some od) := ⟨i1, i2, by unfold PySem.W.notCls; rw [i4] <;> rfl, by rw [i3]; exact ho⟩
          exact HandSPX.exc_get I1.kIn J ec.ga ec.gt ec.su (PySem.W.findObj_own ec.dc ec.pe rfl (by rw [hl, hz])) (handed_of rz) ⟨w, H1, I1.tok _, rz, h1 w fp1 G1 H1 (Gro.refl _ _ _) b1 rw'⟩
      · rw [if_neg hn] at h1
        exact False.elim h1
end
end Mv
end
section
set_option Elab.async false
set_option linter.all false
set_option maxRecDepth 100000
namespace Mv
open PySem PySem.Spec PyProof.Rows L2

/-! ### _law_heard(lambda: e) -/
def finS : SR → Res Dv
  | .rt d τ => .ok d τ
  | .nx _ τ => .ok .non τ
  | _ => .bad
/-- what the def makes of the deed's answer; rest: its statements behind the try -/
def hdR (n iR iF : Nat) (rest : XS) : Res Dv → Res Dv
  | .ok d τ => finS (rest (((List.replicate n none).set iR (some (.im .non))).set iF (some (.im d))) τ)
  | .err e τ => if immEr e = true ∧ e.name ∈ hdNames then finS (rest ((List.replicate n none).set iR (some (.im (.tok τ.length)))) (τ ++ [.exc e.name e.arg])) else .bad
  | .bad => .bad
def xHeard (n iR iF : Nat) (rest : XS) (f : XD) : XD := fun ρ τ => hdR n iR iF rest (f ρ τ)
def TTh (K : PySem.W.Frag) (mg : Str → Option Value) (T : List (Addr × Str)) (n iR iF : Nat) (rest : XS) : (XK → Hp → VK → Prop) → Hp → VK → Prop := fun tl H Q => ∃ fp G τ r, Base K mg T fp G τ H ∧
  (∀ (H' : Hp) (E : XK) (Q' : VK), Base K mg T fp G τ H' → AfterP K mg T (fun fp G d v => Rp K fp G v d) E fp G H' r Q' → tl E H' Q') ∧ AfterP K mg T (fun fp G d v => Rp K fp G v d) (fun _ _ _ => False) fp G H (hdR n iR iF rest r) Q
theorem AfterS.fin {K : PySem.W.Frag} {mg : Str → Option Value} {T : List (Addr × Str)} {fp0 fp : List Addr} {G0 H0 F : Hp} {r : SR} {Q : VK} (h : AfterP K mg T (fun fp G d v => Rp K fp G v d) (fun _ _ _ => False) fp0 G0 H0 (finS r) Q) :
    AfterS K mg T fp0 G0 H0 (fun _ _ _ _ => False) fp F r { nx := fun _ H' => Q .non H', rt := Q } := by
  cases r with
  | nx ρ τ => exact fun σ H fp' F' _ _ S => h .non fp' F' H S.gro S.base .non
  | rt d τ => exact fun v H fp' G' g b r => h v fp' G' H g b r
  | bk ρ τ => exact h.elim
  | ct ρ τ => exact h.elim
  | er e ρ τ => exact h.elim
  | bad => exact h.elim
theorem env_one {K : PySem.W.Frag} {fp : List Addr} {F : Hp} {n i : Nat} {d : Dv} {v : V} {σ : L2.St} (hl : σ.length = n) (hv : σ[i]? = some (some v)) (r : Rp K fp F v d) : EnvR K fp F (hideS ((List.replicate n none).set i (some (.im d)))) σ := by
  refine ⟨by simp [hideS, hl], fun j e h => ?_⟩
  rw [hide_get] at h
  by_cases hj : j = i
  · subst hj
    by_cases hn : j < n
    · rw [List.getElem?_set_self (by simpa using hn)] at h
      cases h
      exact ⟨v, hv, r⟩
    · rw [List.getElem?_eq_none (by simpa using hn)] at h
      cases h
  · rw [List.getElem?_set_ne (Ne.symm hj), List.getElem?_replicate] at h
    split at h <;> cases h
theorem noown {n i : Nat} {d : Dv} : ∀ (j : Nat) (e : Dv), ((List.replicate n none).set i (some (Sl.im d)))[j]? ≠ some (some (.own e)) := fun j e h => by
  by_cases hj : j = i
  · subst hj
    by_cases hn : j < n
    · rw [List.getElem?_set_self (by simpa using hn)] at h; cases h
    · rw [List.getElem?_eq_none (by simpa using hn)] at h; cases h
  · rw [List.getElem?_set_ne (Ne.symm hj), List.getElem?_replicate] at h
    split at h <;> cases h
section
variable {X : Cx} {T : List (Addr × Str)}
/-- the def's body, in the context Z in which it runs -/
theorem heard_body {Z : Cx} {f c' : Addr} {q : Str} {iR iF iE : Nat} {R F e a : Str} {rest : List Stmt} {xr : XS} {tl : XK → Hp → VK → Prop} {H : Hp} {Q : VK} {pR pF pt pa pb p1 p2 p3 p4 p5 p6 p7 p8 p9 p10 p11 : Pos} {kt k2 : Nat} {pt2 : Pos} {ja jb : Nat}
    (HD : HdA Z.K Z.mg) (hc : Z.calm = true) (nd : Z.N.Nodup) (hst : Z.stack = Z.env :: Z.outer) (hfr : Z.env.frame = some Z.env.locals) (ha : Z.N[0]? = some a) (hR : Z.N[iR]? = some R) (hF : Z.N[iF]? = some F) (hE : Z.N[iE]? = some e) (hRF : iR ≠ iF) (hR0 : iR ≠ 0) (hF0 : iF ≠ 0) (hRE : iR ≠ iE)
    (lR : Z.env.scope.names.lookup R = some .local) (lF : Z.env.scope.names.lookup F = some .local) (lE : Z.env.scope.names.lookup e = some .local) (lE' : Z.env.kindOf e = some .local) (de : (e == ("__debug__" : Str)) = false) (dc : (e == ("__classdict__" : Str)) = false)
    (hME : Gl Z "MoveError")
    (hw : swappedStores [.Tuple [.Name R pR, .Name F pF] kt pt] (.Tuple [.Constant .none ja pa, .Constant .none jb pb] k2 pt2) Z.env = pure none) (hs1 : swapsWithSole [.Tuple [.Name R pR, .Name F pF] kt pt] (.Tuple [.Constant .none ja pa, .Constant .none jb pb] k2 pt2) p1.line Z.env = pure false)
    (hs2 : ∀ (pn : List (Addr × Obj)) (xe : Value → Shared → Prop), swapsWith (.Call (.Name a p2) [] [] p3) (some (.Name F p4)) p5.line (Z.tr pn xe).env = pure false) (hs3 : ∀ (x : Addr) (pn : List (Addr × Obj)), swapsWith (.Name e p6) (some (.Name R p7)) p8.line (Z.suite x pn).env = pure false)
    (act : ∀ (W : WX) (pn : List (Addr × Obj)) (xe : Value → Shared → Prop) (E : XK) (p1 p2 : Pos), Takes (Z.tr pn xe) W → (∀ cls d σ' H', E cls d H' → W cls d σ' H') →
      PE (Z.tr pn xe) (.Call (.Name a p1) [] [] p2) (fun σZ HZ Q => σZ[0]? = some (some (.ref f)) ∧ HZ c' = some (LamX.CodeO c' q) ∧ tl E HZ Q)) (hco : H c' = some (LamX.CodeO c' q))
    (hrest : ∀ (fp : List Addr) (G : Hp), PBd Z T fp G H (fun _ _ _ _ => False) rest xr) (tt : TTh Z.K Z.mg T Z.N.length iR iF xr tl H Q) :
    ∃ t, PSs Z (.Assign [.Tuple [.Name R pR, .Name F pF] kt pt] (.Tuple [.Constant .none ja pa, .Constant .none jb pb] k2 pt2) p1 :: .Try [.Assign [.Name F p4] (.Call (.Name a p2) [] [] p3) p5] [.ExceptHandler (some (.Name "MoveError" p9)) (some e) [.Assign [.Name R p7] (.Name e p6) p8] p10] [] [] p11 :: rest) t ∧
      t { nx := fun _ H' => Q .non H', rt := Q } (L2.start Z.N [.ref f]) H := by
  obtain ⟨CM, hCM, hcl, _⟩ := HD.of
  obtain ⟨fp, G, τ, r, b, htl, haft⟩ := tt
  refine ⟨_, pss_cons (ps_asg (pz_tup (pa_cons pe_non (pa_cons pe_non pa_nil))) (pg_tup hc (pgs_cons (pg_name nd hR (.inl lR) (.inr lR)) (pgs_cons (pg_name nd hF (.inl lF) (.inr lF)) pgs_nil))) hs1 hw)
    (pss_cons (ps_keep (c := .ref CM) (i := iE) (j := iR) (tb := fun W D σ H => ∃ Ech : XK, (∀ cls d σ' H', Ech cls d H' → W cls d σ' H') ∧ σ[0]? = some (some (.ref f)) ∧ H c' = some (LamX.CodeO c' q) ∧ tl Ech H fun v H' => D.nx (σ.set iF (some v)) H')
      hst hfr nd hE lE' ⟨hME, by decide, .inl hCM⟩ (fun W pn xe tk _ => ?_) (fun x pn => pss_one (ps_set (X := Z.suite x pn) nd hR (.inl lR) (pe_var (X := Z.suite x pn) (i := iE) hE (.inl lE) de dc) (hs3 x pn) (.inr lR)))) (hrest fp G)), ?_⟩
  · refine ⟨fun pins s' σ H' D I h' => ?_⟩
    obtain ⟨Ech, hW, h1, h2, h3⟩ := h'
    exact (pss_one (ps_set (X := Z.tr pn xe) (i := iF) nd hF (.inl lF) (act W pn xe Ech _ _ tk hW) (hs2 pn xe) (.inr lF))).run pins s' σ H' D I ⟨h1, h2, h3⟩
  · have hn : (L2.start Z.N [.ref f]).length = Z.N.length := by
      unfold L2.start
      have := (List.getElem?_eq_some_iff.mp ha).1
      simp only [List.length_append, List.length_map, List.length_replicate, List.length_singleton]
      omega
    have lnR : iR < Z.N.length := (List.getElem?_eq_some_iff.mp hR).1
    have lnF : iF < Z.N.length := (List.getElem?_eq_some_iff.mp hF).1
    have h0 : (L2.start Z.N [.ref f])[0]? = some (some (.ref f)) := rfl
    refine ⟨by decide, fun tp its hp => ⟨tp, _, rfl, rd_tup upd_same, rfl, .non, _, rfl, .non, _, rfl, rfl, fun cls d H' => ∀ σ', wKeep Z.K (.ref CM) iE iR Z.N.length _ cls d σ' H', fun _ _ σ' _ w => w σ', ?_, by rw [upd_ne (ne_of_none hco hp)]; exact hco, htl _ _ _ (b.grow (Grow.apart b.sub hp)) ?_⟩⟩
    · rw [List.getElem?_set_ne hF0, List.getElem?_set_ne hR0]
      exact h0
    · cases r with
      | bad => exact haft.elim
      | ok d τ1 =>
        intro v fp1 G1 H1 g1 b1 r1
        have g1 := (Grow.apart (o := tupH its [.non, .non]) b.sub hp).gro.trans g1
        have e1 : EnvR Z.K fp1 G1 (hideS (((List.replicate Z.N.length none).set iR (some (.im .non))).set iF (some (.im d)))) ((((L2.start Z.N [.ref f]).set iR (some .non)).set iF (some .non)).set iF (some v)) := by
          refine ⟨by simp [hideS, hn], fun j x h => ?_⟩
          rw [hide_get] at h
          by_cases hj : j = iF
          · subst hj
            rw [List.getElem?_set_self (by simpa using lnF)] at h
            cases h
            exact ⟨v, by rw [List.getElem?_set_self (by simpa [hn] using lnF)], r1⟩
          · rw [List.getElem?_set_ne (Ne.symm hj)] at h
            by_cases hj2 : j = iR
            · subst hj2
              rw [List.getElem?_set_self (by simpa using lnR)] at h
              cases h
              exact ⟨.non, by rw [List.getElem?_set_ne (Ne.symm hj), List.getElem?_set_ne (Ne.symm hj), List.getElem?_set_self (by rw [hn]; exact lnR)], .non⟩
            · rw [List.getElem?_set_ne (Ne.symm hj2), List.getElem?_replicate] at h
              split at h <;> cases h
        have no : ∀ (j : Nat) (x : Dv), (((List.replicate Z.N.length none).set iR (some (Sl.im .non))).set iF (some (.im d)))[j]? ≠ some (some (.own x)) := fun j x h => by
          by_cases hj : j = iF
          · subst hj
            rw [List.getElem?_set_self (by simpa using lnF)] at h
            cases h
          · rw [List.getElem?_set_ne (Ne.symm hj)] at h
            exact noown j x h
        exact ⟨fp1, G1, _, τ1, ⟨g1, b1, e1, fun i x h => absurd h (no i x), fun i _ x _ _ h => absurd h (no i x)⟩, AfterS.fin haft⟩
      | err er τ1 =>
        intro cls dx fp1 G1 H1 g1 b1 ed σ'
        have g1 := (Grow.apart (o := tupH its [.non, .non]) b.sub hp).gro.trans g1
        unfold hdR at haft
        by_cases hk : immEr er = true ∧ er.name ∈ hdNames
        · simp only [if_pos hk] at haft
          obtain ⟨C, hC, ec⟩ := hcl er.name hk.2
          obtain ⟨ed1, ed2⟩ := ed
          rw [hC] at ed1
          cases ed1
          refine ⟨ec.em, fun x hx hl => ?_⟩
          have gA := Grow.apart (o := ErO (.ref C) dx x) b1.sub hx
          have bA := b1.grow gA
          have nG : G1 x = none := by
            cases q : G1 x with
            | none => rfl
            | some o => have := b1.sub _ _ q; rw [hx] at this; cases this
          have nx : x ∉ fp1 := fun z => b1.sto.there z hx
          have so : SoR Z.K Z.mg fp1 G1 (L2.upd H1 x (ErO (.ref C) dx x)) x (.exc er.name er.arg) := by
            obtain ⟨n, y⟩ := er
            cases y with
            | none =>
              have ed2 : dx = none := ed2
              subst ed2
              exact ⟨C, upd_same, hC⟩
            | some y =>
              obtain ⟨dd, w, rfl, hd, rw'⟩ := ed2
              exact ⟨C, dd, w, upd_same, hC, by rw [upd_ne (ne_of_none hd hx)]; exact hd, rw'⟩
          have im : (So.exc er.name er.arg).imm = true := by
            obtain ⟨n, y⟩ := er
            cases y with
            | none => rfl
            | some y => exact hk.1
          obtain ⟨b2, g2⟩ := bA.adopt (g1.trans gA.gro) (none_of g1.ex hx) nx nG so im
          have nl : iR < σ'.length := by rw [hl]; exact lnR
          have hv : ((((σ'.set iE (some (.ref x))).set iR (some (.ref x))).set iE none))[iR]? = some (some (.ref x)) := by
            rw [List.getElem?_set_ne (Ne.symm hRE), List.getElem?_set_self (by simpa using nl)]
          have e1 : EnvR Z.K (fp1 ++ [x]) G1 (hideS ((List.replicate Z.N.length none).set iR (some (.im (.tok τ1.length))))) (((σ'.set iE (some (.ref x))).set iR (some (.ref x))).set iE none) :=
            env_one (by simpa using hl) hv (.tok (by rw [← b1.sto.len, List.getElem?_append_right (Nat.le_refl _), Nat.sub_self]; rfl))
          exact ⟨fp1 ++ [x], G1, _, _, ⟨g2, b2, e1, fun i y h => absurd h (noown i y), fun i _ y _ _ h => absurd h (noown i y)⟩, AfterS.fin haft⟩
        · simp only [if_neg hk] at haft
          exact haft.elim
end
end Mv
end
section
set_option Elab.async false
set_option linter.all false
set_option maxRecDepth 100000
namespace Mv
open PySem PySem.Spec PyProof.Rows L2

/-! ### a def that makes lambdas: its code object is known -/
structure FunC (K : PySem.W.Frag) (x qual : Str) (st : Stmt) (f : Addr) (fd : FuncData) (c : Addr) : Prop where
  ex : ∃ (oc : Value) (od : Option Addr) (kV doc pm : Value) (an : Option Addr) (ct : Value) (osl : Array (Option Value)),
    fd = PySem.W.fnOf x qual (defArgs st) (defBody st) (defScope st) .none kV doc pm an (.ref c) ct ∧ K.lookup f = some ⟨oc, od, .func fd, osl⟩ ∧ PySem.W.codeIn K (.ref c) qual = true
/-- its table of code objects stands at P and is told in T -/
structure LamA (mg : Str → Option Value) (base : Heap) (T : List (Addr × Str)) (c P : Addr) (q : Str) : Prop where
  tb : LamX.TabB base mg c P
  m : (P, q) ∈ T
  u : ∀ p ∈ T, p.1 = P → p.2 = q
theorem fn_dataC {P : Program} {w : World} {K : PySem.W.Frag} {mg : Str → Option Value} {base : Heap} {T : List (Addr × Str)} {x qual : Str} {st : Stmt} {f c : Addr} {fd : FuncData} {N ps : List Str} {k : Nat} {body : XS} (Fn : FunC K x qual st f fd c) (S : FnScope N ps (defScope st))
    (h : ∀ (A : Around) (outer : List Env) (s : Shared) (H : Hp) (E : XK) (fp0 : List Addr) (G0 : Hp), Bs (cxOf (L2.CX P w) P w K mg base N qual (defScope st) f (.ref c) A outer s H E) k (fun _ => E) →
      PBd (cxOf (L2.CX P w) P w K mg base N qual (defScope st) f (.ref c) A outer s H E) T fp0 G0 H (fun _ => E) (defBody st) body) :
    FnOk P w K mg base (L2.CX P w) (k + 1) f fd ps (spD K mg T ps.length (runF N.length body)) := by
  obtain ⟨oc, od, kV, doc, pm, an, ct, osl, rfl, lk, hcd⟩ := Fn.ex
  refine fn_of lk hcd S (fun vs H Q E hs => ?_) fun A outer s H vs Q E hr hs => ?_
  · obtain ⟨fp, G, τ, ds, b, r, hl, _⟩ := hs
    rw [r.length, hl]
  · obtain ⟨fp, G, τ, ds, b, r, hl, q⟩ := hs
    have tk : Takes (cxOf (L2.CX P w) P w K mg base N qual (defScope st) f (.ref c) A outer s H E) (fun cls d _ H => E cls d H) := takes_of rfl rfl rfl rfl
    refine ⟨_, h A outer s H E fp G ⟨⟨rfl, S.nd, hr, fun σ => passAt tk σ⟩, tk, passes_of rfl⟩, ?_⟩
    refine ⟨fp, G, startD N.length ds, τ, start_ss b r, ?_⟩
    unfold runF at q
    cases e : body (startD N.length ds) τ with
    | nx ρ1 τ1 => rw [e] at q; exact fun σ1 H1 fp1 F1 p1 s1 S1 => q .non fp1 F1 H1 S1.gro S1.base .non
    | rt d τ1 => rw [e] at q; exact fun v H1 fp1 G1 g1 b1 r1 => q v fp1 G1 H1 g1 b1 r1
    | er er ρ1 τ1 => rw [e] at q; exact fun cls dx σ1 H1 fp1 F1 p1 s1 S1 ed => q cls dx fp1 F1 H1 S1.gro S1.base ed
    | bk ρ1 τ1 => rw [e] at q; exact q.elim
    | ct ρ1 τ1 => rw [e] at q; exact q.elim
    | bad => rw [e] at q; exact q.elim

/-! ### the call with a lambda -/
theorem finS_noErr {z : SR} {er : Er} {τ' : Sto} : finS z ≠ .err er τ' := by cases z <;> exact fun q => nomatch q
theorem hdR_noErr {n iR iF : Nat} {xr : XS} {r : Res Dv} {er : Er} {τ' : Sto} : hdR n iR iF xr r ≠ .err er τ' := by
  cases r with
  | ok d τ1 => exact finS_noErr
  | err e τ1 =>
    show (if immEr e = true ∧ e.name ∈ hdNames then _ else _) ≠ _
    split
    · exact finS_noErr
    · exact fun q => nomatch q
  | bad => exact fun q => nomatch q
def GivesH (X : Cx) (x a : Str) (st : Stmt) (Ng : List Str) (g : Addr) (k : Nat) (q : Str) (TT : (XK → Hp → VK → Prop) → Hp → VK → Prop) : Prop :=
  ∀ (cdg : Value) (f c' : Addr) (s : Shared) (H : Hp) (Q : VK) (tl : XK → Hp → VK → Prop), Room k (X.A.deeper (envOfC x (defScope st) s.heap.objs.size g cdg)) →
    (∀ (W : WX) (pn : List (Addr × Obj)) (xe : Value → Shared → Prop) (E : XK) (p1 p2 : Pos), Takes ((cxOf C8.CX0 X.prog X.w X.K X.mg X.base Ng x (defScope st) g cdg X.A X.stack s H C8.E0).tr pn xe) W → (∀ cls d σ' H', E cls d H' → W cls d σ' H') →
      PE ((cxOf C8.CX0 X.prog X.w X.K X.mg X.base Ng x (defScope st) g cdg X.A X.stack s H C8.E0).tr pn xe) (.Call (.Name a p1) [] [] p2) (fun σZ HZ Q => σZ[0]? = some (some (.ref f)) ∧ HZ c' = some (LamX.CodeO c' q) ∧ tl E HZ Q)) →
    H c' = some (LamX.CodeO c' q) → TT tl H Q →
    ∃ t, PSs (cxOf C8.CX0 X.prog X.w X.K X.mg X.base Ng x (defScope st) g cdg X.A X.stack s H C8.E0).nox (defBody st) t ∧ t { nx := fun _ H' => Q .non H', rt := Q } (L2.start Ng [.ref f]) H
section
variable {X : Cx} {T : List (Addr × Str)} {E : L2.St → XK}
theorem lam_bd {A : Around} {outer : List Env} {s : Shared} {H : Hp} {E : XK} {scope : Scope} {f c' : Addr} {k : Nat} (nd : X.N.Nodup) (hr : Room k (A.deeper (LamX.lamEnv X scope s.heap.objs.size f c'))) : Bd (LamX.lamCx X A outer s H E scope f c') k (fun _ => E) := by
  have tk : Takes (LamX.lamCx X A outer s H E scope f c') (fun cls d _ H => E cls d H) := takes_of rfl rfl rfl rfl
  exact ⟨rfl, nd, hr, fun σ => passAt tk σ⟩
theorem pd_heard {k n kb iR iF : Nat} {x a : Str} {st : Stmt} {Ng : List Str} {g c P : Addr} {fd : FuncData} {xr : XS} {params : Arguments} {body : Expr} {scope : Scope} {p lpos pos : Pos} {fb : XD} (B : Bd X k E) (hk : kb + 2 ≤ k) (DA : DefA X.K X.mg x st [a] g fd) (Sg : FnScope Ng [a] (defScope st)) (hNg : Ng[0]? = some a) (hva : Vis (defScope st) a)
    (hG : ∀ q, GivesH X x a st Ng g (kb + 1) q (TTh X.K X.mg T n iR iF xr)) (LA : LamA X.mg X.base T c P (X.env.qual ++ "<lambda>")) (hcode : X.env.code = .ref c) (L : LamX.LamS X.env.scope scope) (hg : Gl X x)
    (hbody : ∀ (A : Around) (outer : List Env) (s : Shared) (H : Hp) (E : XK) (f c' : Addr), Bd (LamX.lamCx X A outer s H E scope f c') kb (fun _ => E) → PD (LamX.lamCx X A outer s H E scope f c') T (fun _ => E) body fb)
    (hdef : defaultsOf params X.env = ([], []) := by rfl) (hbind : ∀ (q : Str) (cl : List (Str × Addr)) (pm cv ctv : Value), bindArgs (PySem.W.kla_fn "<lambda>" q params body scope cl pm cv ctv) ⟨[], []⟩ = pure [] := by intro _ _ _ _ _; rfl)
    (hdb : (x == ("__debug__" : Str)) = false := by decide) (hd : (a == ("__debug__" : Str)) = false := by decide) (hcd : (a == ("__classdict__" : Str)) = false := by decide) :
    PD X T E (.Call (.Name x p) [.Lambda params body scope lpos] [] pos) (xHeard n iR iF xr fb) := by
  have hr : Room (kb + 2) X.A := B.room.mono hk
  obtain ⟨oc, od, kV, doc, pm, an, cdv, ct, osl, rfl, lk, hcg⟩ := DA.fn.ex
  refine ⟨fun pins s σ H Q I w => ?_⟩
  obtain ⟨fp, G, ρ, τ, b, e, w⟩ := w
  refine wpAny_Call_Name_kw (ld_glob I hg DA.g ?_ hdb)
  refine PySem.W.callWith_K (h₀ := X.base) I.ok.mod.kin DA.fn.kp ?_ (by rfl) (by rfl)
  show wpAny _ _ (spliced ((false, eval (.Lambda params body scope lpos) X.env) :: backTo pos (starEach [] X.env))) _ _ s
  refine Calls.spliced_cons (lam_mk I LA.tb hcode LA.m LA.u b.tab hdef (L.has I.ok) fun f c' pm' ctv H1 s1 I1 eT T1 hf hfn hfr hco => Calls.spliced_nil ⟨I1.kIn, ?_⟩)
  have st1 : ∀ (m : Nat) (o : So) (a : Addr), τ[m]? = some o → fp[m]? = some a → SoR X.K X.mg fp G H1 a o := fun m o a h1 h2 => by
    have z := b.sto.at_ m o a h1 h2
    refine z.mono (Same.refl _) (List.prefix_refl _) fun c u hc hu => eT.ext c u hu fun ps q => ?_
    subst q
    rcases hc with rfl | ⟨fs, hc⟩
    · cases o with
      | lst ds => obtain ⟨_, e1, _⟩ := z; rw [hu] at e1; cases e1
      | dct ks vs => obtain ⟨_, e1, _⟩ := z; rw [hu] at e1; cases e1
      | ins C fs => obtain ⟨_, _, _, e1, _⟩ := z; rw [hu] at e1; cases e1
      | exc n y =>
        cases y with
        | none => obtain ⟨_, e1, _⟩ := z; rw [hu] at e1; cases e1
        | some y => obtain ⟨_, _, _, e1, _⟩ := z; rw [hu] at e1; cases e1
    · cases hc
  have b1 : Base X.K X.mg T fp G τ H1 := ⟨fun a o q => eT.ext a o (b.sub a o q) fun ps z => b.nt a ps (by rw [q, z]), b.nt, ⟨b.sto.len, b.sto.nd, b.sto.out, st1, b.sto.im⟩, T1⟩
  have g1 : Gro fp G H fp G H1 := ⟨List.prefix_refl _, Same.refl _, fun a o _ q n => eT.ext a o q n, eT.ex, fun _ _ z => z, fun _ h h' => absurd h h'⟩
  have rc : codeAny (model X.prog X.w) X.A (.call (.ref g) ⟨[.ref f], []⟩) (CR C8.CX0 X.stack X.prog X.w H1 s1 Q C8.E0) s1 := by
    refine LamX.run_ofS (N := Ng) (ps := [a]) (us := [.ref f]) (vs := [.ref f]) lk hcg Sg hr I1.env0 (DA.b s1 [.ref f] I1.kIn rfl) (.cons rfl .nil) rfl fun hr' => ?_
    refine (hG (X.env.qual ++ "<lambda>") cdv f c' s1 H1 Q (fun E' H' Q' => tD X.K X.mg T (fun _ => E') fb σ H' Q') hr' (fun W pn xe E' p1 p2 tk hW => LamX.pe_act (i := 0) I1 L hf hfn hfr (hbind _ _ _ _ _) tk hW hr' (fun A outer s H hr2 => hbody A outer s H E' f c' (lam_bd B.nd hr2)) hNg hva hd hcd) hco
      ⟨fp, G, τ, fb ρ τ, b1, fun H' E' Q' b' h => ⟨fp, G, ρ, τ, b', e, h⟩, ?_⟩).imp fun t' ht => ⟨ht.1.nox, ht.2⟩
    unfold xHeard at w
    have go : ∀ r : Res Dv, AfterP X.K X.mg T (fun fp G d v => Rp X.K fp G v d) (E σ) fp G H (hdR n iR iF xr r) Q → AfterP X.K X.mg T (fun fp G d v => Rp X.K fp G v d) (fun _ _ _ => False) fp G H1 (hdR n iR iF xr r) Q := fun r w => by
      cases q : hdR n iR iF xr r with
      | ok d τ1 =>
        rw [q] at w
        exact fun v fp' G' H' g b' rv => w v fp' G' H' (g1.trans g) b' rv
      | err er τ1 => exact absurd q hdR_noErr
      | bad => rw [q] at w; exact w
    exact go _ w
  refine wpAny_call (codeAny_mono rc fun r s2 hq => ?_)
  cases r with
  | error e => exact (show False from hq).elim
  | ok fl =>
    cases fl with
    | ret u => exact I1.after hq
    | next => exact False.elim hq
    | brk => exact False.elim hq
    | cont => exact False.elim hq
end
end Mv
end
section
set_option Elab.async false
set_option linter.all false
set_option maxRecDepth 100000
namespace Mv
open PySem PySem.Spec PyProof.Rows L2

/-! ### the end: the law's own call -/
def clsAB (K : PySem.W.Frag) (C : Addr) : Bool := PySem.W.excIn K C bmV "ValueError.__new__" && PySem.W.keepIn K (.ref C) && decide (PySem.W.subIn K (.ref C) (.type "BaseException") = some true) && decide (PySem.W.typeIn K (.ref C) = some (.type "type"))
theorem clsA_of {K : PySem.W.Frag} {mg : Str → Option Value} {x : Str} {C : Addr} (g : mg x = some (.ref C)) (h : clsAB K C = true) : ClsA K mg x C := by
  simp only [clsAB, Bool.and_eq_true, decide_eq_true_eq] at h
  exact ⟨g, h.1.1.1, h.1.1.2, h.1.2, h.2⟩
theorem defA_of {K : PySem.W.Frag} {mg : Str → Option Value} {x : Str} {st : Stmt} {ps : List Str} {f : Addr} {fd : FuncData} (F : Fun K x x st f fd) (g : mg x = some (.ref f))
    (h : ∀ (kV doc pm : Value) (an : Option Addr) (cdv ct : Value) (us : List Value), us.length = ps.length → bindArgs (PySem.W.fnOf x x (defArgs st) (defBody st) (defScope st) .none kV doc pm an cdv ct) ⟨us, []⟩ = pure (ps.zip us)) : DefA K mg x st ps f fd := ⟨F, g, F.binds h⟩
open Classical in
theorem law_start {K : PySem.W.Frag} {mg : Str → Option Value} {T : List (Addr × Str)} {F : List Dv → Sto → Res Dv} {H : Hp} {a : Addr} {ns : List Int} (hT : LamX.Tabs T H) (hS : SqL K H a (ns.map V.int)) {τ : Sto} (h : F [.scr ns] [] = .ok (.bl true) τ) :
    spD K mg T 1 F [.ref a] H (fun v _ => v = .bl true) fun _ _ _ => False := by
  have nt : ∀ b, (¬ ∃ ps, H b = some (.tbl ps)) → (fun b => if ∃ ps, H b = some (.tbl ps) then none else H b) b = H b := fun b n => if_neg n
  refine ⟨[], fun b => if ∃ ps, H b = some (.tbl ps) then none else H b, [], [.scr ns], ⟨fun b o e => ?_, fun b ps e => ?_, ⟨rfl, List.nodup_nil, fun b hb => absurd hb (by simp), fun n o a h1 _ => by simp at h1, fun o ho => absurd ho (by simp)⟩, hT⟩, .cons (.scr ?_) .nil, rfl, ?_⟩
  · have e : (if ∃ ps, H b = some (.tbl ps) then none else H b) = some o := e
    split at e
    · cases e
    · exact e
  · have e : (if ∃ ps, H b = some (.tbl ps) then none else H b) = some (.tbl ps) := e
    split at e
    · cases e
    · rename_i n
      exact n ⟨ps, e⟩
  · rcases hS with (h1 | ⟨o, h1⟩) | h1
    · exact .inl (.inl (by rw [nt a (fun ⟨ps, z⟩ => by rw [h1] at z; cases z)]; exact h1))
    · exact .inl (.inr ⟨o, by rw [nt a (fun ⟨ps, z⟩ => by rw [h1] at z; cases z)]; exact h1⟩)
    · exact .inr h1
  · rw [h]
    intro v fp G H' _ _ r
    cases r
    rfl
end Mv
end
section
set_option Elab.async false
set_option linter.all false
set_option maxRecDepth 100000
namespace Mv
open PySem PySem.Spec PyProof.Rows L2

/-! ### evaluation of what the texts tell -/
theorem bind_okE {α β : Type} (a : α) (τ : Sto) (k : α → Sto → Res β) : (Res.ok a τ).bind k = k a τ := rfl
theorem bindS_ok {α : Type} (a : α) (τ : Sto) (ρ : EnvS) (k : α → Sto → SR) : bindS (.ok a τ) ρ k = k a τ := rfl
theorem lift_some {α : Type} (a : α) (τ : Sto) : lift (some a) τ = .ok a τ := rfl
/-- a comprehension over data that are told by l -/
theorem compL_eq {α : Type} {own : List Nat} {t : Tgt} {c : XB} {e : XD} {ρ : EnvD} {τ : Sto} (enc : α → Dv) (p : α → Bool) (g : α → Dv) : ∀ (l : List α), (∀ a ∈ l, ∃ ps, tset t (enc a) = some ps ∧ c (putsD (wipeD ρ own) ps) τ = .ok (p a) τ ∧ (p a = true → e (putsD (wipeD ρ own) ps) τ = .ok (g a) τ)) →
    compL own t c e ρ (l.map enc) τ = .ok ((l.filter p).map g) τ
  | [], _ => rfl
  | a :: l, h => by
    obtain ⟨ps, h1, h2, h3⟩ := h a List.mem_cons_self
    have ih := compL_eq enc p g l fun b hb => h b (List.mem_cons_of_mem _ hb)
    rw [List.map_cons, compL, h1]
    simp only [h2, noErr, bindS_ok, ok_bind]
    cases hp : p a with
    | true =>
      rw [List.filter_cons_of_pos hp, List.map_cons]
      simp only [if_true, h3 hp, noErr, ok_bind, ih]
    | false =>
      rw [List.filter_cons_of_neg (by rw [hp]; exact Bool.false_ne_true)]
      simp only [Bool.false_eq_true, if_false, ih]
/-- .. a whole comprehension -/
theorem xComp_eq {α : Type} {own : List Nat} {t : Tgt} {f : XI} {c : XB} {e : XD} {ρ : EnvD} {τ τ1 : Sto} (enc : α → Dv) (p : α → Bool) (g : α → Dv) (l : List α) (hf : f ρ τ = .ok (l.map enc) τ1) (hb : big l.length = true)
    (h : ∀ a ∈ l, ∃ ps, tset t (enc a) = some ps ∧ c (putsD (wipeD ρ own) ps) τ1 = .ok (p a) τ1 ∧ (p a = true → e (putsD (wipeD ρ own) ps) τ1 = .ok (g a) τ1)) : xComp own t f c e ρ τ = .ok (.lst ((l.filter p).map g)) τ1 := by
  unfold xComp
  rw [hf, ok_bind, List.length_map, if_pos hb, compL_eq enc p g l h]
  rfl
theorem xCompA_eq {α : Type} {own : List Nat} {t : Tgt} {f : XI} {e : XD} {ρ : EnvD} {τ τ1 : Sto} (enc : α → Dv) (g : α → Dv) (l : List α) (hf : f ρ τ = .ok (l.map enc) τ1) (hb : big l.length = true)
    (h : ∀ a ∈ l, ∃ ps, tset t (enc a) = some ps ∧ e (putsD (wipeD ρ own) ps) τ1 = .ok (g a) τ1) : xComp own t f bYes e ρ τ = .ok (.lst (l.map g)) τ1 := by
  have z := xComp_eq (c := bYes) enc (fun _ => true) g l hf hb fun a ha => by
    obtain ⟨ps, h1, h2⟩ := h a ha
    exact ⟨ps, h1, rfl, fun _ => h2⟩
  rw [List.filter_eq_self.mpr fun _ _ => rfl] at z
  exact z
end Mv
end
section
set_option Elab.async false
set_option linter.all false
set_option maxRecDepth 100000
set_option maxHeartbeats 0
namespace Lk02
open PySem PySem.Spec PyProof.Rows L2 Mv
section
def topS (i : Nat) : Stmt := PySem.Challenge.pw_movesup_k02_standings.main.body.getD i (.Pass ⟨0, 0, 0, 0⟩)
abbrev st_houses_of : Stmt := topS 17
abbrev N_houses_of : List Str := ["book", "one"]
abbrev P_houses_of : List Str := ["book"]
abbrev st_people_of : Stmt := topS 18
abbrev N_people_of : List Str := ["book", "one"]
abbrev P_people_of : List Str := ["book"]
abbrev st_homes_of : Stmt := topS 19
abbrev N_homes_of : List Str := ["book", "person", "rows", "house"]
abbrev P_homes_of : List Str := ["book", "person"]
abbrev st_look_person : Stmt := topS 20
abbrev N_look_person : List Str := ["book", "person"]
abbrev P_look_person : List Str := ["book", "person"]
abbrev st_look_house : Stmt := topS 21
abbrev N_look_house : List Str := ["book", "house"]
abbrev P_look_house : List Str := ["book", "house"]
abbrev st_key_of : Stmt := topS 22
abbrev N_key_of : List Str := ["standing", "house"]
abbrev P_key_of : List Str := ["standing"]
abbrev st_standings : Stmt := topS 23
abbrev N_standings : List Str := ["book", "found", "person", "more", "row", "free", "house"]
abbrev P_standings : List Str := ["book"]
abbrev st_is_better : Stmt := topS 24
abbrev N_is_better : List Str := ["book", "person", "one", "other", "likes"]
abbrev P_is_better : List Str := ["book", "person", "one", "other"]
abbrev st_likes_better : Stmt := topS 25
abbrev N_likes_better : List Str := ["book", "person", "one", "other"]
abbrev P_likes_better : List Str := ["book", "person", "one", "other"]
abbrev st__law_heard : Stmt := topS 27
abbrev N__law_heard : List Str := ["_law_deed", "e", "_law_some", "_law_names", "_law_refused", "_law_found", "_law_word"]
abbrev P__law_heard : List Str := ["_law_deed"]
abbrev st__law_is : Stmt := topS 28
abbrev N__law_is : List Str := ["_law_found", "_law_due"]
abbrev P__law_is : List Str := ["_law_found", "_law_due"]
abbrev st__law_draw : Stmt := topS 29
abbrev N__law_draw : List Str := ["_law_script", "_law_town", "_law_many", "_law_at", "_law_rest", "_law_number"]
abbrev P__law_draw : List Str := ["_law_script", "_law_town", "_law_many"]
abbrev st__law_begun : Stmt := topS 30
abbrev N__law_begun : List Str := []
abbrev P__law_begun : List Str := []
abbrev st__law_mixed : Stmt := topS 31
abbrev N__law_mixed : List Str := ["_law_script", "_law_town", "_law_names", "_law_least", "_law_rest", "_law_found"]
abbrev P__law_mixed : List Str := ["_law_script", "_law_town", "_law_names", "_law_least"]
abbrev st__law_a_book : Stmt := topS 32
abbrev N__law_a_book : List Str := ["_law_script", "_law_town", "_law_houses_most", "_law_people_most", "_law_houses", "_law_people", "_law_rows", "_law_house", "_law_person"]
abbrev P__law_a_book : List Str := ["_law_script", "_law_town", "_law_houses_most", "_law_people_most"]
abbrev st__law_homes : Stmt := topS 33
abbrev N__law_homes : List Str := ["_law_book_here", "_law_person", "_law_rows", "_law_likes", "_law_house"]
abbrev P__law_homes : List Str := ["_law_book_here", "_law_person"]
abbrev st__law_better : Stmt := topS 34
abbrev N__law_better : List Str := ["_law_likes", "_law_one", "_law_other_here"]
abbrev P__law_better : List Str := ["_law_likes", "_law_one", "_law_other_here"]
abbrev st__law_all : Stmt := topS 35
abbrev N__law_all : List Str := ["_law_book_here", "_law_found", "_law_person", "_law_likes", "_law_more", "_law_row", "_law_free", "_law_house"]
abbrev P__law_all : List Str := ["_law_book_here"]
abbrev st_law : Stmt := topS 36
abbrev N_law : List Str := ["_law_script", "_law_town", "_law_k", "_law_book_here", "_law_houses", "_law_odd", "_law_person", "_law_likes", "_law_one", "_law_other_here", "_law_due"]
abbrev P_law : List Str := ["_law_script"]
structure Tx (K : PySem.W.Frag) (mg : Str → Option Value) (base : Heap) (T : List (Addr × Str)) (A : Nat → Addr) (Dd : Nat → FuncData) (Cd Pt : Nat → Addr) : Prop where
  d_houses_of : DefA K mg "houses_of" st_houses_of P_houses_of (A 17) (Dd 17)
  d_people_of : DefA K mg "people_of" st_people_of P_people_of (A 18) (Dd 18)
  d_homes_of : DefA K mg "homes_of" st_homes_of P_homes_of (A 19) (Dd 19)
  d_look_person : DefA K mg "look_person" st_look_person P_look_person (A 20) (Dd 20)
  d_look_house : DefA K mg "look_house" st_look_house P_look_house (A 21) (Dd 21)
  d_key_of : DefA K mg "key_of" st_key_of P_key_of (A 22) (Dd 22)
  d_standings : DefA K mg "standings" st_standings P_standings (A 23) (Dd 23)
  d_is_better : DefA K mg "is_better" st_is_better P_is_better (A 24) (Dd 24)
  d_likes_better : DefA K mg "likes_better" st_likes_better P_likes_better (A 25) (Dd 25)
  d__law_heard : DefA K mg "_law_heard" st__law_heard P__law_heard (A 27) (Dd 27)
  d__law_is : DefA K mg "_law_is" st__law_is P__law_is (A 28) (Dd 28)
  d__law_draw : DefA K mg "_law_draw" st__law_draw P__law_draw (A 29) (Dd 29)
  d__law_begun : DefA K mg "_law_begun" st__law_begun P__law_begun (A 30) (Dd 30)
  d__law_mixed : DefA K mg "_law_mixed" st__law_mixed P__law_mixed (A 31) (Dd 31)
  d__law_a_book : DefA K mg "_law_a_book" st__law_a_book P__law_a_book (A 32) (Dd 32)
  d__law_homes : DefA K mg "_law_homes" st__law_homes P__law_homes (A 33) (Dd 33)
  d__law_better : DefA K mg "_law_better" st__law_better P__law_better (A 34) (Dd 34)
  d__law_all : DefA K mg "_law_all" st__law_all P__law_all (A 35) (Dd 35)
  d_law : DefA K mg "law" st_law P_law (A 36) (Dd 36)
  f_law : FunC K "law" "law" st_law (A 36) (Dd 36) (Cd 36)
  l_law : LamA mg base T (Cd 36) (Pt 36) "law.<locals>.<lambda>"
  hd : HdA K mg
  w_likes_better_3 : KwB K (Dd 25) P_likes_better ["other"] 3
  w_standings_0 : KwB K (Dd 23) P_standings ["book"] 0
  b_ValueError : mg "ValueError" = none
  b_bool : mg "bool" = none
  b_dict : mg "dict" = none
  b_isinstance : mg "isinstance" = none
  b_len : mg "len" = none
  b_list : mg "list" = none
  b_range : mg "range" = none
  b_sorted : mg "sorted" = none
  b_str : mg "str" = none
  b_tuple : mg "tuple" = none
  c_NoHouse : ClsA K mg "NoHouse" (A 3)
  c_NoPerson : ClsA K mg "NoPerson" (A 2)
variable {P : Program} {w : World} {K : PySem.W.Frag} {mg : Str → Option Value} {base : Heap} {T : List (Addr × Str)} {A : Nat → Addr} {Dd : Nat → FuncData} {Cd Pt : Nat → Addr}
theorem sc__law_heard : FnScope N__law_heard P__law_heard (defScope st__law_heard) := ⟨rfl, rfl, rfl, by decide +kernel, rfl, by decide +kernel, by decide +kernel⟩
def xr_heard : XS :=
 (sCons (sIf (bP gIsN (aC (xV 4) (aC (xC .non) aN)))
 (sCons (sRet (xTup (aC (xC (.str "told")) (aC (xV 5) aN))))
 sNil)
 sNil)
 (sCons (sIf (bT (xB (bPs (gIsiX "Lived") (aC (xV 4) aN))))
 (sCons (sRet (xTup (aC (xC (.str "lived")) (aC (xPs gPerson (aC (xV 4) aN)) aN))))
 sNil)
 sNil)
 (sCons (sIf (bT (xB (bPs (gIsiX "Muddled") (aC (xV 4) aN))))
 (sCons (sRet (xTup (aC (xC (.str "muddled")) (aC (xPs gPerson (aC (xV 4) aN)) aN))))
 sNil)
 sNil)
 (sCons (sSetOH 2 (xDct ["no person", "no house"] (aC (xB (bPs (gIsiX "NoPerson") (aC (xV 4) aN))) (aC (xB (bPs (gIsiX "NoHouse") (aC (xV 4) aN))) aN))))
 (sCons (sUpd 2 (xDct ["no standing", "no move"] (aC (xB (bPs (gIsiX "NoStanding") (aC (xV 4) aN))) (aC (xB (bPs (gIsiX "NoMove") (aC (xV 4) aN))) aN))))
 (sCons (sUpd 2 (xDct ["no names", "unsettled"] (aC (xB (bPs (gIsiX "NoNames") (aC (xV 4) aN))) (aC (xB (bPs (gIsiX "Unsettled") (aC (xV 4) aN))) aN))))
 (sCons (sUpd 2 (xDct ["unfair", "no number"] (aC (xB (bPs (gIsiX "Unfair") (aC (xV 4) aN))) (aC (xB (bPs (gIsiX "NoNumber") (aC (xV 4) aN))) aN))))
 (sCons (sUpd 2 (xDct ["unlike", "bad book"] (aC (xB (bPs (gIsiX "Unlike") (aC (xV 4) aN))) (aC (xB (bPs (gIsiX "BadBook") (aC (xV 4) aN))) aN))))
 (sCons (sUpd 2 (xDct ["no back", "no text"] (aC (xB (bPs (gIsiX "NoBack") (aC (xV 4) aN))) (aC (xB (bPs (gIsiX "NoText") (aC (xV 4) aN))) aN))))
 (sCons (sFrzD 2 (sSetH 3 (xComp [6] (.nm 6) (iKeysD (xV 2)) (bT (xPs gIx (aC (xV 2) (aC (xV 6) aN)))) (xV 6))))
 (sCons (sRet (xIf (bAnd (bP gEq (aC (xP gLen (aC (xV 3) aN)) (aC (xC (.int 1)) aN))) (bT (xB (bPs gIsiV (aC (xV 4) aN))))) (xTup (aC (xPs gIx (aC (xV 3) (aC (xC (.int 0)) aN))) aN)) (xTup (aC (xC (.str "is wrong")) aN))))
 sNil)))))))))))
theorem rest_heard {Z : Cx} {k : Nat} {fp : List Addr} {G H : Hp} (hz : ∃ (CX : CXT) (cdv : Value) (As : Around) (outer : List Env) (s : Shared) (H : Hp) (E : XK), Z = (cxOf CX P w K mg base N__law_heard "_law_heard" (defScope st__law_heard) (A 27) cdv As outer s H E).nox) (D : Tx K mg base T A Dd Cd Pt) (BH : Bd Z k (fun _ _ _ _ => False)) :
    PBd Z T fp G H (fun _ _ _ _ => False) ((defBody st__law_heard).drop 2) xr_heard := by
  obtain ⟨CX, cdv, As, outer, s, H, E, rfl⟩ := hz
  exact
 (sd_cons (sd_if (pb_cmp op_gIsN (pd_var 4) pd_non (by rfl))
 (sd_cons (sd_ret (pd_tup (pl_cons pd_str (pl_cons (pd_var 5) pl_nil))))
 sd_nil)
 sd_nil)
 (sd_cons (sd_if (pb_truth (pd_isiX D.hd (pd_var 4) (by rfl) D.b_isinstance (by rfl)))
 (sd_cons (sd_ret (pd_tup (pl_cons pd_str (pl_cons (pd_person D.hd (pd_var 4)) pl_nil))))
 sd_nil)
 sd_nil)
 (sd_cons (sd_if (pb_truth (pd_isiX D.hd (pd_var 4) (by rfl) D.b_isinstance (by rfl)))
 (sd_cons (sd_ret (pd_tup (pl_cons pd_str (pl_cons (pd_person D.hd (pd_var 4)) pl_nil))))
 sd_nil)
 sd_nil)
 (sd_cons (sd_setOH (i := 2) BH.nd rfl (by first | exact .inl rfl | exact .inr rfl) (po_dct (pkv_cons (pd_isiX D.hd (pd_var 4) (by rfl) D.b_isinstance (by rfl)) (pkv_cons (pd_isiX D.hd (pd_var 4) (by rfl) D.b_isinstance (by rfl)) pkv_nil))))
 (sd_cons (sd_upd (i := 2) rfl (by first | exact Or.inl rfl | exact Or.inr (Or.inl rfl) | exact Or.inr (Or.inr rfl)) (po_dct (pkv_cons (pd_isiX D.hd (pd_var 4) (by rfl) D.b_isinstance (by rfl)) (pkv_cons (pd_isiX D.hd (pd_var 4) (by rfl) D.b_isinstance (by rfl)) pkv_nil))))
 (sd_cons (sd_upd (i := 2) rfl (by first | exact Or.inl rfl | exact Or.inr (Or.inl rfl) | exact Or.inr (Or.inr rfl)) (po_dct (pkv_cons (pd_isiX D.hd (pd_var 4) (by rfl) D.b_isinstance (by rfl)) (pkv_cons (pd_isiX D.hd (pd_var 4) (by rfl) D.b_isinstance (by rfl)) pkv_nil))))
 (sd_cons (sd_upd (i := 2) rfl (by first | exact Or.inl rfl | exact Or.inr (Or.inl rfl) | exact Or.inr (Or.inr rfl)) (po_dct (pkv_cons (pd_isiX D.hd (pd_var 4) (by rfl) D.b_isinstance (by rfl)) (pkv_cons (pd_isiX D.hd (pd_var 4) (by rfl) D.b_isinstance (by rfl)) pkv_nil))))
 (sd_cons (sd_upd (i := 2) rfl (by first | exact Or.inl rfl | exact Or.inr (Or.inl rfl) | exact Or.inr (Or.inr rfl)) (po_dct (pkv_cons (pd_isiX D.hd (pd_var 4) (by rfl) D.b_isinstance (by rfl)) (pkv_cons (pd_isiX D.hd (pd_var 4) (by rfl) D.b_isinstance (by rfl)) pkv_nil))))
 (sd_cons (sd_upd (i := 2) rfl (by first | exact Or.inl rfl | exact Or.inr (Or.inl rfl) | exact Or.inr (Or.inr rfl)) (po_dct (pkv_cons (pd_isiX D.hd (pd_var 4) (by rfl) D.b_isinstance (by rfl)) (pkv_cons (pd_isiX D.hd (pd_var 4) (by rfl) D.b_isinstance (by rfl)) pkv_nil))))
 (sd_cons (sd_frzD 2 (sd_lcH (i := 3) BH.calm BH.nd rfl rfl (sw_true (by rfl) (by rfl) (by rfl) (by rfl)) (id_keys (pd_var 2)) (blkOk_by (N := N__law_heard) (sc := (defScope st__law_heard)) (own := [("_law_word", 6)]) (by decide +kernel)) (fun _ _ _ _ _ => (pg_nm (i := 6) (Bd.blk BH).nd rfl (by first | exact .inl rfl | exact .inr rfl))) (fun _ _ _ _ _ => (bs_one (pb_truth (pd_ix (Bd.blk BH).hu1 (pd_var 2) (pd_var 6))))) (fun _ _ _ _ _ => (pd_var 6)) (by decide)))
 (sd_cons (sd_ret (pd_if (pb_w (pw_ac (pb_cmp (op_gEq BH.hu64) (pd_callB cr_gLen (by rfl) D.b_len bl_len (pl_cons (pd_var 3) pl_nil)) pd_int (by rfl)) (pw_a1 (pb_truth (pd_isiV D.hd (pd_var 4) (by rfl) D.b_isinstance (by rfl) D.b_ValueError))))) (pd_tup (pl_cons (pd_ix BH.hu1 (pd_var 3) pd_int) pl_nil)) (pd_tup (pl_cons pd_str pl_nil))))
 sd_nil)))))))))))
theorem gives_heard {X : Cx} {k : Nat} (D : Tx X.K X.mg X.base T A Dd Cd Pt) (q : Str) : GivesH X "_law_heard" "_law_deed" st__law_heard N__law_heard (A 27) k q (TTh X.K X.mg T 7 4 5 xr_heard) := by
  intro cdg f c' s H Q tl hr act hco tt
  exact heard_body D.hd rfl sc__law_heard.nd rfl rfl rfl (iR := 4) (iF := 5) (iE := 1) rfl rfl rfl (by decide) (by decide) (by decide) (by decide) rfl rfl rfl rfl (by decide) (by decide) (by rfl) rfl rfl (fun _ _ => rfl) (fun _ _ => rfl) act hco
    (fun fp G => rest_heard ⟨_, _, _, _, _, _, _, rfl⟩ D ⟨rfl, sc__law_heard.nd, hr, fun σ pins H s e s' I h => passL pins σ H s e s' I h⟩) tt
theorem sc_houses_of : FnScope N_houses_of P_houses_of (defScope st_houses_of) := ⟨rfl, rfl, rfl, by decide +kernel, rfl, by decide +kernel, by decide +kernel⟩
def xb_houses_of : XS :=
 (sCons (sRet (xComp [1] (.nm 1) (iSeq (xPs gIx (aC (xV 0) (aC (xC (.int 0)) aN)))) bYes (xPs gIx (aC (xV 1) (aC (xC (.int 0)) aN)))))
 sNil)
def F_houses_of : List Dv → Sto → Res Dv := runF 2 xb_houses_of
theorem ok_houses_of (D : Tx K mg base T A Dd Cd Pt) : FnOk P w K mg base (L2.CX P w) 1 (A 17) (Dd 17) P_houses_of (spD K mg T 1 F_houses_of) :=
 fn_data D.d_houses_of.fn sc_houses_of fun cdv As outer s H E fp0 G0 B =>
 (sd_cons (sd_ret (pd_po (po_comp B.toBd.calm B.toBd.nd (id_seq (pd_ix B.toBd.hu1 (pd_var 0) pd_int)) (blkOk_by (N := N_houses_of) (sc := (defScope st_houses_of)) (own := [("one", 1)]) (by decide +kernel)) (fun _ _ _ _ _ => (pg_nm (i := 1) (Bd.blk B.toBd).nd rfl (by first | exact .inl rfl | exact .inr rfl))) (fun _ _ _ _ _ => bs_nil) (fun _ _ _ _ _ => (pd_ix (Bd.blk B.toBd).hu1 (pd_var 1) pd_int)) (by decide))))
 sd_nil)
theorem sc_people_of : FnScope N_people_of P_people_of (defScope st_people_of) := ⟨rfl, rfl, rfl, by decide +kernel, rfl, by decide +kernel, by decide +kernel⟩
def xb_people_of : XS :=
 (sCons (sRet (xComp [1] (.nm 1) (iSeq (xPs gIx (aC (xV 0) (aC (xC (.int 1)) aN)))) bYes (xPs gIx (aC (xV 1) (aC (xC (.int 0)) aN)))))
 sNil)
def F_people_of : List Dv → Sto → Res Dv := runF 2 xb_people_of
theorem ok_people_of (D : Tx K mg base T A Dd Cd Pt) : FnOk P w K mg base (L2.CX P w) 1 (A 18) (Dd 18) P_people_of (spD K mg T 1 F_people_of) :=
 fn_data D.d_people_of.fn sc_people_of fun cdv As outer s H E fp0 G0 B =>
 (sd_cons (sd_ret (pd_po (po_comp B.toBd.calm B.toBd.nd (id_seq (pd_ix B.toBd.hu1 (pd_var 0) pd_int)) (blkOk_by (N := N_people_of) (sc := (defScope st_people_of)) (own := [("one", 1)]) (by decide +kernel)) (fun _ _ _ _ _ => (pg_nm (i := 1) (Bd.blk B.toBd).nd rfl (by first | exact .inl rfl | exact .inr rfl))) (fun _ _ _ _ _ => bs_nil) (fun _ _ _ _ _ => (pd_ix (Bd.blk B.toBd).hu1 (pd_var 1) pd_int)) (by decide))))
 sd_nil)
theorem sc_homes_of : FnScope N_homes_of P_homes_of (defScope st_homes_of) := ⟨rfl, rfl, rfl, by decide +kernel, rfl, by decide +kernel, by decide +kernel⟩
def xb_homes_of : XS :=
 (sCons (sSetH 2 (xP gDict (aC (xPs gIx (aC (xV 0) (aC (xC (.int 0)) aN))) aN)))
 (sCons (sRet (xComp [3] (.nm 3) (iSeq (xPs gIx (aC (xP gDict (aC (xPs gIx (aC (xV 0) (aC (xC (.int 1)) aN))) aN)) (aC (xV 1) aN)))) (bP gIn (aC (xV 1) (aC (xPs gIx (aC (xV 2) (aC (xV 3) aN))) aN))) (xV 3)))
 sNil))
def F_homes_of : List Dv → Sto → Res Dv := runF 4 xb_homes_of
theorem ok_homes_of (D : Tx K mg base T A Dd Cd Pt) : FnOk P w K mg base (L2.CX P w) 1 (A 19) (Dd 19) P_homes_of (spD K mg T 2 F_homes_of) :=
 fn_data D.d_homes_of.fn sc_homes_of fun cdv As outer s H E fp0 G0 B =>
 (sd_cons (sd_setH (i := 2) B.toBd.nd rfl (by first | exact .inl rfl | exact .inr rfl) (pd_po (po_callTy (cr_gDict B.toBd.calm) (by rfl) D.b_dict bl_dict (pl_cons (pd_ix B.toBd.hu1 (pd_var 0) pd_int) pl_nil))))
 (sd_cons (sd_ret (pd_po (po_comp B.toBd.calm B.toBd.nd (id_seq (pd_ix B.toBd.hu1 (pd_po (po_callTy (cr_gDict B.toBd.calm) (by rfl) D.b_dict bl_dict (pl_cons (pd_ix B.toBd.hu1 (pd_var 0) pd_int) pl_nil))) (pd_var 1))) (blkOk_by (N := N_homes_of) (sc := (defScope st_homes_of)) (own := [("house", 3)]) (by decide +kernel)) (fun _ _ _ _ _ => (pg_nm (i := 3) (Bd.blk B.toBd).nd rfl (by first | exact .inl rfl | exact .inr rfl))) (fun _ _ _ _ _ => (bs_one (pb_cmp (op_gIn (Bd.blk B.toBd).hu) (pd_var 1) (pd_ix (Bd.blk B.toBd).hu1 (pd_var 2) (pd_var 3)) (by rfl)))) (fun _ _ _ _ _ => (pd_var 3)) (by decide))))
 sd_nil))
theorem sc_look_person : FnScope N_look_person P_look_person (defScope st_look_person) := ⟨rfl, rfl, rfl, by decide +kernel, rfl, by decide +kernel, by decide +kernel⟩
def xb_look_person : XS :=
 (sCons (sIf (bOr (bNot (bT (xB (bP (gIsi "str") (aC (xV 1) aN))))) (bP gNotIn (aC (xV 1) (aC (xF (callF 1 F_people_of) (aC (xV 0) aN)) aN))))
 (sCons (sRaise "NoPerson")
 sNil)
 sNil)
 sNil)
def F_look_person : List Dv → Sto → Res Dv := runF 2 xb_look_person
theorem ok_look_person (D : Tx K mg base T A Dd Cd Pt) : FnOk P w K mg base (L2.CX P w) 2 (A 20) (Dd 20) P_look_person (spD K mg T 2 F_look_person) :=
 fn_data D.d_look_person.fn sc_look_person fun cdv As outer s H E fp0 G0 B =>
 (sd_cons (sd_if (pb_w (pw_oc (pb_not (pb_truth (pd_isi (pd_var 1) (by rfl) D.b_isinstance (by rfl) D.b_str bl_str))) (pw_o1 (pb_cmp (op_gNotIn B.toBd.hu) (pd_var 1) (pd_fn B.toBd (ok_people_of D) (by decide) D.d_people_of.g D.d_people_of.fn.kp D.d_people_of.b (pl_cons (pd_var 0) pl_nil)) (by rfl)))))
 (sd_cons (sd_raiseC B D.c_NoPerson)
 sd_nil)
 sd_nil)
 sd_nil)
theorem sc_look_house : FnScope N_look_house P_look_house (defScope st_look_house) := ⟨rfl, rfl, rfl, by decide +kernel, rfl, by decide +kernel, by decide +kernel⟩
def xb_look_house : XS :=
 (sCons (sIf (bOr (bNot (bT (xB (bP (gIsi "str") (aC (xV 1) aN))))) (bP gNotIn (aC (xV 1) (aC (xF (callF 1 F_houses_of) (aC (xV 0) aN)) aN))))
 (sCons (sRaise "NoHouse")
 sNil)
 sNil)
 sNil)
def F_look_house : List Dv → Sto → Res Dv := runF 2 xb_look_house
theorem ok_look_house (D : Tx K mg base T A Dd Cd Pt) : FnOk P w K mg base (L2.CX P w) 2 (A 21) (Dd 21) P_look_house (spD K mg T 2 F_look_house) :=
 fn_data D.d_look_house.fn sc_look_house fun cdv As outer s H E fp0 G0 B =>
 (sd_cons (sd_if (pb_w (pw_oc (pb_not (pb_truth (pd_isi (pd_var 1) (by rfl) D.b_isinstance (by rfl) D.b_str bl_str))) (pw_o1 (pb_cmp (op_gNotIn B.toBd.hu) (pd_var 1) (pd_fn B.toBd (ok_houses_of D) (by decide) D.d_houses_of.g D.d_houses_of.fn.kp D.d_houses_of.b (pl_cons (pd_var 0) pl_nil)) (by rfl)))))
 (sd_cons (sd_raiseC B D.c_NoHouse)
 sd_nil)
 sd_nil)
 sd_nil)
theorem sc_key_of : FnScope N_key_of P_key_of (defScope st_key_of) := ⟨rfl, rfl, rfl, by decide +kernel, rfl, by decide +kernel, by decide +kernel⟩
def xb_key_of : XS :=
 (sCons (sRet (xComp [1] (.nm 1) (iSeq (xV 0)) bYes (xOr (xV 1) (xC (.str "")))))
 sNil)
def F_key_of : List Dv → Sto → Res Dv := runF 2 xb_key_of
theorem ok_key_of (D : Tx K mg base T A Dd Cd Pt) : FnOk P w K mg base (L2.CX P w) 1 (A 22) (Dd 22) P_key_of (spD K mg T 1 F_key_of) :=
 fn_data D.d_key_of.fn sc_key_of fun cdv As outer s H E fp0 G0 B =>
 (sd_cons (sd_ret (pd_po (po_comp B.toBd.calm B.toBd.nd (id_seq (pd_var 0)) (blkOk_by (N := N_key_of) (sc := (defScope st_key_of)) (own := [("house", 1)]) (by decide +kernel)) (fun _ _ _ _ _ => (pg_nm (i := 1) (Bd.blk B.toBd).nd rfl (by first | exact .inl rfl | exact .inr rfl))) (fun _ _ _ _ _ => bs_nil) (fun _ _ _ _ _ => (pd_or (pd_var 1) (pd_one pd_str))) (by decide))))
 sd_nil)
theorem sc_standings : FnScope N_standings P_standings (defScope st_standings) := ⟨rfl, rfl, rfl, by decide +kernel, rfl, by decide +kernel, by decide +kernel⟩
def xb_standings : XS :=
 (sCons (sSetH 1 (xLst (aC (xTup aN) aN)))
 (sCons (sFor (.nm 2) (iSeq (xF (callF 1 F_people_of) (aC (xV 0) aN)))
 (sCons (sSetOH 3 (xLst aN))
 (sCons (sFor (.nm 4) (iSeq (xV 1))
 (sCons (sSetH 5 (xComp [6] (.nm 6) (iSeq (xF (callF 2 F_homes_of) (aC (xV 0) (aC (xV 2) aN)))) (bP gNotIn (aC (xV 6) (aC (xV 4) aN))) (xV 6)))
 (sCons (sExt 3 (xComp [6] (.nm 6) (iSeq (xP gCat (aC (xLst (aC (xC .non) aN)) (aC (xV 5) aN)))) bYes (xP gAdd (aC (xV 4) (aC (xTup (aC (xV 6) aN)) aN)))))
 sNil)))
 (sCons (sFrz 3 (sSetH 1 (xV 3)))
 sNil))))
 (sCons (sRet (xP gTuple (aC (xSortK F_key_of (xV 1)) aN)))
 sNil)))
def F_standings : List Dv → Sto → Res Dv := runF 7 xb_standings
theorem ok_standings (D : Tx K mg base T A Dd Cd Pt) : FnOk P w K mg base (L2.CX P w) 4 (A 23) (Dd 23) P_standings (spD K mg T 1 F_standings) :=
 fn_data D.d_standings.fn sc_standings fun cdv As outer s H E fp0 G0 B =>
 (sd_cons (sd_setH (i := 1) B.toBd.nd rfl (by first | exact .inl rfl | exact .inr rfl) (pd_po (po_lst (pl_cons (pd_tup pl_nil) pl_nil))))
 (sd_cons (sd_for B.po B.toBd.calm (id_seq (pd_fn B.toBd (ok_people_of D) (by decide) D.d_people_of.g D.d_people_of.fn.kp D.d_people_of.b (pl_cons (pd_var 0) pl_nil))) (pg_nm (i := 2) B.toBd.nd rfl (by first | exact .inl rfl | exact .inr rfl))
 (sd_cons (sd_setOH (i := 3) B.toBd.nd rfl (by first | exact .inl rfl | exact .inr rfl) (po_lst pl_nil))
 (sd_cons (sd_for B.po B.toBd.calm (id_seq (pd_var 1)) (pg_nm (i := 4) B.toBd.nd rfl (by first | exact .inl rfl | exact .inr rfl))
 (sd_cons (sd_lcH (i := 5) B.toBd.calm B.toBd.nd rfl rfl (sw_true (by rfl) (by rfl) (by rfl) (by rfl)) (id_seq (pd_fn B.toBd (ok_homes_of D) (by decide) D.d_homes_of.g D.d_homes_of.fn.kp D.d_homes_of.b (pl_cons (pd_var 0) (pl_cons (pd_var 2) pl_nil)))) (blkOk_by (N := N_standings) (sc := (defScope st_standings)) (own := [("house", 6)]) (by decide +kernel)) (fun _ _ _ _ _ => (pg_nm (i := 6) (Bd.blk B.toBd).nd rfl (by first | exact .inl rfl | exact .inr rfl))) (fun _ _ _ _ _ => (bs_one (pb_cmp (op_gNotIn (Bd.blk B.toBd).hu) (pd_var 6) (pd_var 4) (by rfl)))) (fun _ _ _ _ _ => (pd_var 6)) (by decide))
 (sd_cons (sd_ext (i := 3) rfl (by first | exact Or.inl rfl | exact Or.inr (Or.inl rfl) | exact Or.inr (Or.inr rfl)) (pd_po (po_comp B.toBd.calm B.toBd.nd (id_seq (pd_po (po_op op_gCat (pd_po (po_lst (pl_cons pd_non pl_nil))) (pd_var 5)))) (blkOk_by (N := N_standings) (sc := (defScope st_standings)) (own := [("house", 6)]) (by decide +kernel)) (fun _ _ _ _ _ => (pg_nm (i := 6) (Bd.blk B.toBd).nd rfl (by first | exact .inl rfl | exact .inr rfl))) (fun _ _ _ _ _ => bs_nil) (fun _ _ _ _ _ => (pd_op op_gAdd (pd_var 4) (pd_tup (pl_cons (pd_var 6) pl_nil)))) (by decide))))
 sd_nil)))
 (sd_cons (sd_frz 3 (sd_setH (i := 1) B.toBd.nd rfl (by first | exact .inl rfl | exact .inr rfl) (pd_var 3)))
 sd_nil))))
 (sd_cons (sd_ret (pd_callTy cr_gTuple (by rfl) D.b_tuple bl_tuple (pl_cons (pd_po (po_sortK B.toBd (ok_key_of D) (by decide) D.d_key_of D.b_sorted (pd_var 1))) pl_nil)))
 sd_nil)))
theorem sc_is_better : FnScope N_is_better P_is_better (defScope st_is_better) := ⟨rfl, rfl, rfl, by decide +kernel, rfl, by decide +kernel, by decide +kernel⟩
def xb_is_better : XS :=
 (sCons (sSetH 4 (xPs gIx (aC (xP gDict (aC (xPs gIx (aC (xV 0) (aC (xC (.int 1)) aN))) aN)) (aC (xV 1) aN))))
 (sCons (sIf (bP gNotIn (aC (xV 2) (aC (xV 4) aN)))
 (sCons (sRet (xC (.bl false)))
 sNil)
 sNil)
 (sCons (sRet (xOr (xB (bP gNotIn (aC (xV 3) (aC (xV 4) aN)))) (xB (bP gLt (aC (xM okSeq gIndex (xV 4) (aC (xV 2) aN)) (aC (xM okSeq gIndex (xV 4) (aC (xV 3) aN)) aN))))))
 sNil)))
def F_is_better : List Dv → Sto → Res Dv := runF 5 xb_is_better
theorem ok_is_better (D : Tx K mg base T A Dd Cd Pt) : FnOk P w K mg base (L2.CX P w) 1 (A 24) (Dd 24) P_is_better (spD K mg T 4 F_is_better) :=
 fn_data D.d_is_better.fn sc_is_better fun cdv As outer s H E fp0 G0 B =>
 (sd_cons (sd_setH (i := 4) B.toBd.nd rfl (by first | exact .inl rfl | exact .inr rfl) (pd_ix B.toBd.hu1 (pd_po (po_callTy (cr_gDict B.toBd.calm) (by rfl) D.b_dict bl_dict (pl_cons (pd_ix B.toBd.hu1 (pd_var 0) pd_int) pl_nil))) (pd_var 1)))
 (sd_cons (sd_if (pb_cmp (op_gNotIn B.toBd.hu) (pd_var 2) (pd_var 4) (by rfl))
 (sd_cons (sd_ret pd_bl)
 sd_nil)
 sd_nil)
 (sd_cons (sd_ret (pd_or (pd_cmp (op_gNotIn B.toBd.hu) (pd_var 3) (pd_var 4) (by rfl)) (pd_one (pd_cmp op_gLt (pd_mth (md_index B.toBd.hu) (pd_var 4) (pl_cons (pd_var 2) pl_nil)) (pd_mth (md_index B.toBd.hu) (pd_var 4) (pl_cons (pd_var 3) pl_nil)) (by rfl)))))
 sd_nil)))
theorem sc_likes_better : FnScope N_likes_better P_likes_better (defScope st_likes_better) := ⟨rfl, rfl, rfl, by decide +kernel, rfl, by decide +kernel, by decide +kernel⟩
def xb_likes_better : XS :=
 (sCons (sExp (xF (callF 2 F_look_person) (aC (xV 0) (aC (xV 1) aN))))
 (sCons (sExp (xF (callF 2 F_look_house) (aC (xV 0) (aC (xV 2) aN))))
 (sCons (sIf (bP gNotN (aC (xV 3) (aC (xC .non) aN)))
 (sCons (sExp (xF (callF 2 F_look_house) (aC (xV 0) (aC (xV 3) aN))))
 sNil)
 sNil)
 (sCons (sRet (xF (callF 4 F_is_better) (aC (xV 0) (aC (xV 1) (aC (xV 2) (aC (xV 3) aN))))))
 sNil))))
def F_likes_better : List Dv → Sto → Res Dv := runF 4 xb_likes_better
theorem ok_likes_better (D : Tx K mg base T A Dd Cd Pt) : FnOk P w K mg base (L2.CX P w) 3 (A 25) (Dd 25) P_likes_better (spD K mg T 4 F_likes_better) :=
 fn_data D.d_likes_better.fn sc_likes_better fun cdv As outer s H E fp0 G0 B =>
 (sd_cons (sd_expr (pd_fn B.toBd (ok_look_person D) (by decide) D.d_look_person.g D.d_look_person.fn.kp D.d_look_person.b (pl_cons (pd_var 0) (pl_cons (pd_var 1) pl_nil))))
 (sd_cons (sd_expr (pd_fn B.toBd (ok_look_house D) (by decide) D.d_look_house.g D.d_look_house.fn.kp D.d_look_house.b (pl_cons (pd_var 0) (pl_cons (pd_var 2) pl_nil))))
 (sd_cons (sd_if (pb_cmp op_gNotN (pd_var 3) pd_non (by rfl))
 (sd_cons (sd_expr (pd_fn B.toBd (ok_look_house D) (by decide) D.d_look_house.g D.d_look_house.fn.kp D.d_look_house.b (pl_cons (pd_var 0) (pl_cons (pd_var 3) pl_nil))))
 sd_nil)
 sd_nil)
 (sd_cons (sd_ret (pd_fn B.toBd (ok_is_better D) (by decide) D.d_is_better.g D.d_is_better.fn.kp D.d_is_better.b (pl_cons (pd_var 0) (pl_cons (pd_var 1) (pl_cons (pd_var 2) (pl_cons (pd_var 3) pl_nil))))))
 sd_nil))))
theorem sc__law_is : FnScope N__law_is P__law_is (defScope st__law_is) := ⟨rfl, rfl, rfl, by decide +kernel, rfl, by decide +kernel, by decide +kernel⟩
def xb__law_is : XS :=
 (sCons (sRet (xAnd (xB (bP (gIsi "bool") (aC (xV 0) aN))) (xB (bP gEq (aC (xV 0) (aC (xV 1) aN))))))
 sNil)
def F__law_is : List Dv → Sto → Res Dv := runF 2 xb__law_is
theorem ok__law_is (D : Tx K mg base T A Dd Cd Pt) : FnOk P w K mg base (L2.CX P w) 1 (A 28) (Dd 28) P__law_is (spD K mg T 2 F__law_is) :=
 fn_data D.d__law_is.fn sc__law_is fun cdv As outer s H E fp0 G0 B =>
 (sd_cons (sd_ret (pd_and (pd_isi (pd_var 0) (by rfl) D.b_isinstance (by rfl) D.b_bool bl_bool) (pd_one (pd_cmp (op_gEq B.toBd.hu64) (pd_var 0) (pd_var 1) (by rfl)))))
 sd_nil)
theorem sc__law_draw : FnScope N__law_draw P__law_draw (defScope st__law_draw) := ⟨rfl, rfl, rfl, by decide +kernel, rfl, by decide +kernel, by decide +kernel⟩
def xb__law_draw : XS :=
 (sCons (sPutT (xV 1) (xC (.str "count")) (xP gAdd (aC (xPs gIx (aC (xV 1) (aC (xC (.str "count")) aN))) (aC (xC (.int 1)) aN))))
 (sCons (sSetH 3 (xIf (bT (xV 0)) (xP gMod (aC (xPs gIx (aC (xV 1) (aC (xC (.str "count")) aN))) (aC (xP gLen (aC (xV 0) aN)) aN))) (xC (.int 0))))
 (sCons (sSetH 4 (xM okGet gGet (xPs gIx (aC (xV 1) (aC (xC (.str "rests")) aN))) (aC (xV 3) (aC (xIf (bT (xV 0)) (xPs gIx (aC (xV 0) (aC (xV 3) aN))) (xC (.int 0))) aN))))
 (sCons (sIf (bP gGe (aC (xV 4) (aC (xP gPow (aC (xC (.int 10)) (aC (xC (.int 18)) aN))) aN)))
 (sCons (sPutT (xPs gIx (aC (xV 1) (aC (xC (.str "rests")) aN))) (xV 3) (xP gDiv (aC (xV 4) (aC (xV 2) aN))))
 (sCons (sRet (xP gMod (aC (xV 4) (aC (xV 2) aN))))
 sNil))
 sNil)
 (sCons (sSetH 5 (xP gMod (aC (xP gAdd (aC (xV 4) (aC (xP gMul (aC (xC (.int 104729)) (aC (xPs gIx (aC (xV 1) (aC (xC (.str "count")) aN))) aN))) aN))) (aC (xC (.int 4294967291)) aN))))
 (sCons (sSetH 5 (xP gMod (aC (xP gPow (aC (xV 5) (aC (xC (.int 5)) aN))) (aC (xC (.int 4294967279)) aN))))
 (sCons (sRet (xP gMod (aC (xP gDiv (aC (xP gMod (aC (xP gAdd (aC (xP gMul (aC (xP gDiv (aC (xV 5) (aC (xC (.int 64)) aN))) (aC (xC (.int 69621)) aN))) (aC (xV 5) aN))) (aC (xC (.int 4294967231)) aN))) (aC (xC (.int 8)) aN))) (aC (xV 2) aN))))
 sNil)))))))
def F__law_draw : List Dv → Sto → Res Dv := runF 6 xb__law_draw
theorem ok__law_draw (D : Tx K mg base T A Dd Cd Pt) : FnOk P w K mg base (L2.CX P w) 1 (A 29) (Dd 29) P__law_draw (spD K mg T 3 F__law_draw) :=
 fn_data D.d__law_draw.fn sc__law_draw fun cdv As outer s H E fp0 G0 B =>
 (sd_cons (sd_putT B.toBd.hu1 (pd_var 1) pd_str (pd_op op_gAdd (pd_ix B.toBd.hu1 (pd_var 1) pd_str) pd_int))
 (sd_cons (sd_setH (i := 3) B.toBd.nd rfl (by first | exact .inl rfl | exact .inr rfl) (pd_if (pb_truth (pd_var 0)) (pd_op op_gMod (pd_ix B.toBd.hu1 (pd_var 1) pd_str) (pd_callB cr_gLen (by rfl) D.b_len bl_len (pl_cons (pd_var 0) pl_nil))) pd_int))
 (sd_cons (sd_setH (i := 4) B.toBd.nd rfl (by first | exact .inl rfl | exact .inr rfl) (pd_mth (md_get B.toBd.hu1) (pd_ix B.toBd.hu1 (pd_var 1) pd_str) (pl_cons (pd_var 3) (pl_cons (pd_if (pb_truth (pd_var 0)) (pd_ix B.toBd.hu1 (pd_var 0) (pd_var 3)) pd_int) pl_nil))))
 (sd_cons (sd_if (pb_cmp op_gGe (pd_var 4) (pd_op op_gPow pd_int pd_int) (by rfl))
 (sd_cons (sd_putT B.toBd.hu1 (pd_ix B.toBd.hu1 (pd_var 1) pd_str) (pd_var 3) (pd_op op_gDiv (pd_var 4) (pd_var 2)))
 (sd_cons (sd_ret (pd_op op_gMod (pd_var 4) (pd_var 2)))
 sd_nil))
 sd_nil)
 (sd_cons (sd_setH (i := 5) B.toBd.nd rfl (by first | exact .inl rfl | exact .inr rfl) (pd_op op_gMod (pd_op op_gAdd (pd_var 4) (pd_op op_gMul pd_int (pd_ix B.toBd.hu1 (pd_var 1) pd_str))) pd_int))
 (sd_cons (sd_setH (i := 5) B.toBd.nd rfl (by first | exact .inl rfl | exact .inr rfl) (pd_op op_gMod (pd_op op_gPow (pd_var 5) pd_int) pd_int))
 (sd_cons (sd_ret (pd_op op_gMod (pd_op op_gDiv (pd_op op_gMod (pd_op op_gAdd (pd_op op_gMul (pd_op op_gDiv (pd_var 5) pd_int) pd_int) (pd_var 5)) pd_int) pd_int) (pd_var 2)))
 sd_nil)))))))
theorem sc__law_begun : FnScope N__law_begun P__law_begun (defScope st__law_begun) := ⟨rfl, rfl, rfl, by decide +kernel, rfl, by decide +kernel, by decide +kernel⟩
def xb__law_begun : XS :=
 (sCons (sRet (xNew (xDct ["count", "rests"] (aC (xC (.int 0)) (aC (xNew xDct0) aN))))) sNil)
def F__law_begun : List Dv → Sto → Res Dv := runF 0 xb__law_begun
theorem ok__law_begun (D : Tx K mg base T A Dd Cd Pt) : FnOk P w K mg base (L2.CX P w) 1 (A 30) (Dd 30) P__law_begun (spD K mg T 0 F__law_begun) :=
 fn_data D.d__law_begun.fn sc__law_begun fun cdv As outer s H E fp0 G0 B =>
 (sd_cons (sd_ret (pd_new (po_dct (pkv_cons pd_int (pkv_cons (pd_new po_dct0) pkv_nil))))) sd_nil)
theorem sc__law_mixed : FnScope N__law_mixed P__law_mixed (defScope st__law_mixed) := ⟨rfl, rfl, rfl, by decide +kernel, rfl, by decide +kernel, by decide +kernel⟩
def xb__law_mixed : XS :=
 (sCons (sParH [4, 5] [true, true] (aC (xP gList (aC (xV 2) aN)) (aC (xLst aN) aN)))
 (sCons (sWhile 64 (bAnd (bP gNe (aC (xV 4) (aC (xLst aN) aN))) (bOr (bP gLt (aC (xP gLen (aC (xV 5) aN)) (aC (xV 3) aN))) (bP gGt (aC (xF (callF 3 F__law_draw) (aC (xV 0) (aC (xV 1) (aC (xC (.int 5)) aN)))) (aC (xC (.int 0)) aN)))))
 (sCons (sAppPop 5 4 (xF (callF 3 F__law_draw) (aC (xV 0) (aC (xV 1) (aC (xP gLen (aC (xV 4) aN)) aN)))))
 sNil))
 (sCons (sRet (xP gTuple (aC (xV 5) aN)))
 sNil)))
def F__law_mixed : List Dv → Sto → Res Dv := runF 6 xb__law_mixed
theorem ok__law_mixed (D : Tx K mg base T A Dd Cd Pt) : FnOk P w K mg base (L2.CX P w) 2 (A 31) (Dd 31) P__law_mixed (spD K mg T 4 F__law_mixed) :=
 fn_data D.d__law_mixed.fn sc__law_mixed fun cdv As outer s H E fp0 G0 B =>
 (sd_cons (parH (is := [4, 5]) rfl (par2 (i := 4) (j := 5) B.toBd.calm B.toBd.nd rfl rfl (by decide) rfl rfl (pm_own (po_callTy cr_gList (by rfl) D.b_list bl_list (pl_cons (pd_var 2) pl_nil)) (pm_own (po_lst pl_nil) pm_nil))))
 (sd_cons (sd_while 64 B.po (pb_w (pw_ac (pb_cmp (op_gNe B.toBd.hu64) (pd_var 4) (pd_po (po_lst pl_nil)) (by rfl)) (pw_a1 (pb_w (pw_oc (pb_cmp op_gLt (pd_callB cr_gLen (by rfl) D.b_len bl_len (pl_cons (pd_var 5) pl_nil)) (pd_var 3) (by rfl)) (pw_o1 (pb_cmp op_gGt (pd_fn B.toBd (ok__law_draw D) (by decide) D.d__law_draw.g D.d__law_draw.fn.kp D.d__law_draw.b (pl_cons (pd_var 0) (pl_cons (pd_var 1) (pl_cons pd_int pl_nil)))) pd_int (by rfl))))))))
 (sd_cons (sd_appPop (i := 5) (j := 4) (by decide) rfl (by first | exact Or.inl rfl | exact Or.inr (Or.inl rfl) | exact Or.inr (Or.inr rfl)) rfl (by first | exact Or.inl rfl | exact Or.inr (Or.inl rfl) | exact Or.inr (Or.inr rfl)) (pd_fn B.toBd (ok__law_draw D) (by decide) D.d__law_draw.g D.d__law_draw.fn.kp D.d__law_draw.b (pl_cons (pd_var 0) (pl_cons (pd_var 1) (pl_cons (pd_callB cr_gLen (by rfl) D.b_len bl_len (pl_cons (pd_var 4) pl_nil)) pl_nil)))))
 sd_nil))
 (sd_cons (sd_ret (pd_callTy cr_gTuple (by rfl) D.b_tuple bl_tuple (pl_cons (pd_var 5) pl_nil)))
 sd_nil)))
theorem sc__law_a_book : FnScope N__law_a_book P__law_a_book (defScope st__law_a_book) := ⟨rfl, rfl, rfl, by decide +kernel, rfl, by decide +kernel, by decide +kernel⟩
def xb__law_a_book : XS :=
 (sCons (sSetH 4 (xSl (xTup (aC (xC (.str "barn")) (aC (xC (.str "cot")) (aC (xC (.str "den")) (aC (xC (.str "hut")) (aC (xC (.str "inn")) aN)))))) oN (oS (xP gAdd (aC (xC (.int 1)) (aC (xF (callF 3 F__law_draw) (aC (xV 0) (aC (xV 1) (aC (xV 2) aN)))) aN))))))
 (sCons (sSetH 5 (xSl (xTup (aC (xC (.str "ann")) (aC (xC (.str "bob")) (aC (xC (.str "cat")) (aC (xC (.str "dan")) (aC (xC (.str "eve")) aN)))))) oN (oS (xP gAdd (aC (xC (.int 1)) (aC (xF (callF 3 F__law_draw) (aC (xV 0) (aC (xV 1) (aC (xV 3) aN)))) aN))))))
 (sCons (sSetH 6 (xP gTuple (aC (xComp [7] (.nm 7) (iSeq (xV 4)) bYes (xTup (aC (xV 7) (aC (xF (callF 4 F__law_mixed) (aC (xV 0) (aC (xV 1) (aC (xV 5) (aC (xC (.int 1)) aN))))) aN)))) aN)))
 (sCons (sRet (xTup (aC (xV 6) (aC (xP gTuple (aC (xComp [8] (.nm 8) (iSeq (xV 5)) bYes (xTup (aC (xV 8) (aC (xF (callF 4 F__law_mixed) (aC (xV 0) (aC (xV 1) (aC (xV 4) (aC (xC (.int 1)) aN))))) aN)))) aN)) aN))))
 sNil))))
def F__law_a_book : List Dv → Sto → Res Dv := runF 9 xb__law_a_book
theorem ok__law_a_book (D : Tx K mg base T A Dd Cd Pt) : FnOk P w K mg base (L2.CX P w) 3 (A 32) (Dd 32) P__law_a_book (spD K mg T 4 F__law_a_book) :=
 fn_data D.d__law_a_book.fn sc__law_a_book fun cdv As outer s H E fp0 G0 B =>
 (sd_cons (sd_setH (i := 4) B.toBd.nd rfl (by first | exact .inl rfl | exact .inr rfl) (pd_slice (pd_tup (pl_cons pd_str (pl_cons pd_str (pl_cons pd_str (pl_cons pd_str (pl_cons pd_str pl_nil)))))) od_none (od_some (pd_op op_gAdd pd_int (pd_fn B.toBd (ok__law_draw D) (by decide) D.d__law_draw.g D.d__law_draw.fn.kp D.d__law_draw.b (pl_cons (pd_var 0) (pl_cons (pd_var 1) (pl_cons (pd_var 2) pl_nil))))))))
 (sd_cons (sd_setH (i := 5) B.toBd.nd rfl (by first | exact .inl rfl | exact .inr rfl) (pd_slice (pd_tup (pl_cons pd_str (pl_cons pd_str (pl_cons pd_str (pl_cons pd_str (pl_cons pd_str pl_nil)))))) od_none (od_some (pd_op op_gAdd pd_int (pd_fn B.toBd (ok__law_draw D) (by decide) D.d__law_draw.g D.d__law_draw.fn.kp D.d__law_draw.b (pl_cons (pd_var 0) (pl_cons (pd_var 1) (pl_cons (pd_var 3) pl_nil))))))))
 (sd_cons (sd_setH (i := 6) B.toBd.nd rfl (by first | exact .inl rfl | exact .inr rfl) (pd_callTy cr_gTuple (by rfl) D.b_tuple bl_tuple (pl_cons (pd_po (po_comp B.toBd.calm B.toBd.nd (id_seq (pd_var 4)) (blkOk_by (N := N__law_a_book) (sc := (defScope st__law_a_book)) (own := [("_law_house", 7)]) (by decide +kernel)) (fun _ _ _ _ _ => (pg_nm (i := 7) (Bd.blk B.toBd).nd rfl (by first | exact .inl rfl | exact .inr rfl))) (fun _ _ _ _ _ => bs_nil) (fun _ _ _ _ _ => (pd_tup (pl_cons (pd_var 7) (pl_cons (pd_fn (Bd.blk B.toBd) (ok__law_mixed D) (by decide) D.d__law_mixed.g D.d__law_mixed.fn.kp D.d__law_mixed.b (pl_cons (pd_var 0) (pl_cons (pd_var 1) (pl_cons (pd_var 5) (pl_cons pd_int pl_nil))))) pl_nil)))) (by decide))) pl_nil)))
 (sd_cons (sd_ret (pd_tup (pl_cons (pd_var 6) (pl_cons (pd_callTy cr_gTuple (by rfl) D.b_tuple bl_tuple (pl_cons (pd_po (po_comp B.toBd.calm B.toBd.nd (id_seq (pd_var 5)) (blkOk_by (N := N__law_a_book) (sc := (defScope st__law_a_book)) (own := [("_law_person", 8)]) (by decide +kernel)) (fun _ _ _ _ _ => (pg_nm (i := 8) (Bd.blk B.toBd).nd rfl (by first | exact .inl rfl | exact .inr rfl))) (fun _ _ _ _ _ => bs_nil) (fun _ _ _ _ _ => (pd_tup (pl_cons (pd_var 8) (pl_cons (pd_fn (Bd.blk B.toBd) (ok__law_mixed D) (by decide) D.d__law_mixed.g D.d__law_mixed.fn.kp D.d__law_mixed.b (pl_cons (pd_var 0) (pl_cons (pd_var 1) (pl_cons (pd_var 4) (pl_cons pd_int pl_nil))))) pl_nil)))) (by decide))) pl_nil)) pl_nil))))
 sd_nil))))
theorem sc__law_homes : FnScope N__law_homes P__law_homes (defScope st__law_homes) := ⟨rfl, rfl, rfl, by decide +kernel, rfl, by decide +kernel, by decide +kernel⟩
def xb__law_homes : XS :=
 (sCons (sParH [2, 3] [false, false] (aC (xP gDict (aC (xPs gIx (aC (xV 0) (aC (xC (.int 0)) aN))) aN)) (aC (xP gDict (aC (xPs gIx (aC (xV 0) (aC (xC (.int 1)) aN))) aN)) aN)))
 (sCons (sRet (xComp [4] (.nm 4) (iSeq (xPs gIx (aC (xV 3) (aC (xV 1) aN)))) (bP gIn (aC (xV 1) (aC (xPs gIx (aC (xV 2) (aC (xV 4) aN))) aN))) (xV 4)))
 sNil))
def F__law_homes : List Dv → Sto → Res Dv := runF 5 xb__law_homes
theorem ok__law_homes (D : Tx K mg base T A Dd Cd Pt) : FnOk P w K mg base (L2.CX P w) 1 (A 33) (Dd 33) P__law_homes (spD K mg T 2 F__law_homes) :=
 fn_data D.d__law_homes.fn sc__law_homes fun cdv As outer s H E fp0 G0 B =>
 (sd_cons (parH (is := [2, 3]) rfl (parT (is := [2, 3]) (by decide) (pm_cons (pd_po (po_callTy (cr_gDict B.toBd.calm) (by rfl) D.b_dict bl_dict (pl_cons (pd_ix B.toBd.hu1 (pd_var 0) pd_int) pl_nil))) (pm_cons (pd_po (po_callTy (cr_gDict B.toBd.calm) (by rfl) D.b_dict bl_dict (pl_cons (pd_ix B.toBd.hu1 (pd_var 0) pd_int) pl_nil))) pm_nil)) (pg_tup B.toBd.calm (pgs_cons (pg_name (i := 2) B.toBd.nd rfl (by first | exact .inl rfl | exact .inr rfl)) (pgs_cons (pg_name (i := 3) B.toBd.nd rfl (by first | exact .inl rfl | exact .inr rfl)) pgs_nil))) gset2))
 (sd_cons (sd_ret (pd_po (po_comp B.toBd.calm B.toBd.nd (id_seq (pd_ix B.toBd.hu1 (pd_var 3) (pd_var 1))) (blkOk_by (N := N__law_homes) (sc := (defScope st__law_homes)) (own := [("_law_house", 4)]) (by decide +kernel)) (fun _ _ _ _ _ => (pg_nm (i := 4) (Bd.blk B.toBd).nd rfl (by first | exact .inl rfl | exact .inr rfl))) (fun _ _ _ _ _ => (bs_one (pb_cmp (op_gIn (Bd.blk B.toBd).hu) (pd_var 1) (pd_ix (Bd.blk B.toBd).hu1 (pd_var 2) (pd_var 4)) (by rfl)))) (fun _ _ _ _ _ => (pd_var 4)) (by decide))))
 sd_nil))
theorem sc__law_better : FnScope N__law_better P__law_better (defScope st__law_better) := ⟨rfl, rfl, rfl, by decide +kernel, rfl, by decide +kernel, by decide +kernel⟩
def xb__law_better : XS :=
 (sCons (sRet (xAnd (xB (bP gIn (aC (xV 1) (aC (xV 0) aN)))) (xOr (xB (bP gNotIn (aC (xV 2) (aC (xV 0) aN)))) (xB (bP gLt (aC (xM okSeq gIndex (xV 0) (aC (xV 1) aN)) (aC (xM okSeq gIndex (xV 0) (aC (xV 2) aN)) aN)))))))
 sNil)
def F__law_better : List Dv → Sto → Res Dv := runF 3 xb__law_better
theorem ok__law_better (D : Tx K mg base T A Dd Cd Pt) : FnOk P w K mg base (L2.CX P w) 1 (A 34) (Dd 34) P__law_better (spD K mg T 3 F__law_better) :=
 fn_data D.d__law_better.fn sc__law_better fun cdv As outer s H E fp0 G0 B =>
 (sd_cons (sd_ret (pd_and (pd_cmp (op_gIn B.toBd.hu) (pd_var 1) (pd_var 0) (by rfl)) (pd_one (pd_or (pd_cmp (op_gNotIn B.toBd.hu) (pd_var 2) (pd_var 0) (by rfl)) (pd_one (pd_cmp op_gLt (pd_mth (md_index B.toBd.hu) (pd_var 0) (pl_cons (pd_var 1) pl_nil)) (pd_mth (md_index B.toBd.hu) (pd_var 0) (pl_cons (pd_var 2) pl_nil)) (by rfl)))))))
 sd_nil)
theorem sc__law_all : FnScope N__law_all P__law_all (defScope st__law_all) := ⟨rfl, rfl, rfl, by decide +kernel, rfl, by decide +kernel, by decide +kernel⟩
def xb__law_all : XS :=
 (sCons (sSetH 1 (xLst (aC (xTup aN) aN)))
 (sCons (sFor (.tp [(.nm 2), (.nm 3)]) (iSeqT (xPs gIx (aC (xV 0) (aC (xC (.int 1)) aN))))
 (sCons (sSetOH 4 (xLst aN))
 (sCons (sFor (.nm 5) (iSeq (xV 1))
 (sCons (sSetH 6 (xComp [7] (.nm 7) (iSeq (xP gSorted (aC (xF (callF 2 F__law_homes) (aC (xV 0) (aC (xV 2) aN))) aN))) (bP gNotIn (aC (xV 7) (aC (xV 5) aN))) (xV 7)))
 (sCons (sExt 4 (xComp [7] (.nm 7) (iSeq (xP gCat (aC (xLst (aC (xC .non) aN)) (aC (xV 6) aN)))) bYes (xP gAdd (aC (xV 5) (aC (xTup (aC (xV 7) aN)) aN)))))
 sNil)))
 (sCons (sFrz 4 (sSetH 1 (xV 4)))
 sNil))))
 (sCons (sRet (xV 1))
 sNil)))
def F__law_all : List Dv → Sto → Res Dv := runF 8 xb__law_all
theorem ok__law_all (D : Tx K mg base T A Dd Cd Pt) : FnOk P w K mg base (L2.CX P w) 2 (A 35) (Dd 35) P__law_all (spD K mg T 1 F__law_all) :=
 fn_data D.d__law_all.fn sc__law_all fun cdv As outer s H E fp0 G0 B =>
 (sd_cons (sd_setH (i := 1) B.toBd.nd rfl (by first | exact .inl rfl | exact .inr rfl) (pd_po (po_lst (pl_cons (pd_tup pl_nil) pl_nil))))
 (sd_cons (sd_for B.po B.toBd.calm (id_seqT (pd_ix B.toBd.hu1 (pd_var 0) pd_int)) (pg_tp B.toBd.calm (pgs_c (pg_nm (i := 2) B.toBd.nd rfl (by first | exact .inl rfl | exact .inr rfl)) (pgs_c (pg_nm (i := 3) B.toBd.nd rfl (by first | exact .inl rfl | exact .inr rfl)) pgs_n)))
 (sd_cons (sd_setOH (i := 4) B.toBd.nd rfl (by first | exact .inl rfl | exact .inr rfl) (po_lst pl_nil))
 (sd_cons (sd_for B.po B.toBd.calm (id_seq (pd_var 1)) (pg_nm (i := 5) B.toBd.nd rfl (by first | exact .inl rfl | exact .inr rfl))
 (sd_cons (sd_lcH (i := 6) B.toBd.calm B.toBd.nd rfl rfl (sw_true (by rfl) (by rfl) (by rfl) (by rfl)) (id_seq (pd_po (po_callB (cr_gSorted B.toBd.hu) (by rfl) D.b_sorted bl_sorted (pl_cons (pd_fn B.toBd (ok__law_homes D) (by decide) D.d__law_homes.g D.d__law_homes.fn.kp D.d__law_homes.b (pl_cons (pd_var 0) (pl_cons (pd_var 2) pl_nil))) pl_nil)))) (blkOk_by (N := N__law_all) (sc := (defScope st__law_all)) (own := [("_law_house", 7)]) (by decide +kernel)) (fun _ _ _ _ _ => (pg_nm (i := 7) (Bd.blk B.toBd).nd rfl (by first | exact .inl rfl | exact .inr rfl))) (fun _ _ _ _ _ => (bs_one (pb_cmp (op_gNotIn (Bd.blk B.toBd).hu) (pd_var 7) (pd_var 5) (by rfl)))) (fun _ _ _ _ _ => (pd_var 7)) (by decide))
 (sd_cons (sd_ext (i := 4) rfl (by first | exact Or.inl rfl | exact Or.inr (Or.inl rfl) | exact Or.inr (Or.inr rfl)) (pd_po (po_comp B.toBd.calm B.toBd.nd (id_seq (pd_po (po_op op_gCat (pd_po (po_lst (pl_cons pd_non pl_nil))) (pd_var 6)))) (blkOk_by (N := N__law_all) (sc := (defScope st__law_all)) (own := [("_law_house", 7)]) (by decide +kernel)) (fun _ _ _ _ _ => (pg_nm (i := 7) (Bd.blk B.toBd).nd rfl (by first | exact .inl rfl | exact .inr rfl))) (fun _ _ _ _ _ => bs_nil) (fun _ _ _ _ _ => (pd_op op_gAdd (pd_var 5) (pd_tup (pl_cons (pd_var 7) pl_nil)))) (by decide))))
 sd_nil)))
 (sd_cons (sd_frz 4 (sd_setH (i := 1) B.toBd.nd rfl (by first | exact .inl rfl | exact .inr rfl) (pd_var 4)))
 sd_nil))))
 (sd_cons (sd_ret (pd_var 1))
 sd_nil)))
theorem sc_law : FnScope N_law P_law (defScope st_law) := ⟨rfl, rfl, rfl, by decide +kernel, rfl, by decide +kernel, by decide +kernel⟩
def xb_law : XS :=
 (sCons (sSetH 1 (xF (callF 0 F__law_begun) aN))
 (sCons (sFor (.nm 2) (iRng (xC (.int 5)))
 (sCons (sSetH 3 (xF (callF 4 F__law_a_book) (aC (xV 0) (aC (xV 1) (aC (xC (.int 4)) (aC (xC (.int 4)) aN))))))
 (sCons (sIf (bP gNe (aC (xF (callF 1 F_standings) (aK 0 1 aN (aC (xV 3) aN))) (aC (xP gTuple (aC (xF (callF 1 F__law_all) (aC (xV 3) aN)) aN)) aN)))
 (sCons (sRet (xC (.bl false)))
 sNil)
 sNil)
 (sCons (sSetH 4 (xComp [8] (.nm 8) (iSeq (xPs gIx (aC (xV 3) (aC (xC (.int 0)) aN)))) bYes (xPs gIx (aC (xV 8) (aC (xC (.int 0)) aN)))))
 (sCons (sFor (.tp [(.nm 6), (.nm 7)]) (iSeqT (xPs gIx (aC (xV 3) (aC (xC (.int 1)) aN))))
 (sCons (sFor (.nm 8) (iSeq (xV 4))
 (sCons (sFor (.nm 9) (iSeq (xP gCat (aC (xLst (aC (xC .non) aN)) (aC (xV 4) aN))))
 (sCons (sSetH 10 (xF (callF 3 F__law_better) (aC (xV 7) (aC (xV 8) (aC (xV 9) aN)))))
 (sCons (sIf (bNot (bT (xF (callF 2 F__law_is) (aC (xF (callF 4 F_likes_better) (aK 3 1 (aC (xV 3) (aC (xV 6) (aC (xV 8) aN))) (aC (xV 9) aN))) (aC (xV 10) aN)))))
 (sCons (sRet (xC (.bl false)))
 sNil)
 sNil)
 sNil)))
 sNil))
 sNil))
 (sCons (sSetOH 5 (xLst (aC (xHeard 7 4 5 xr_heard (xF (callF 4 F_likes_better) (aC (xV 3) (aC (xC (.str "zz")) (aC (xC (.str "zz")) (aC (xC .non) aN)))))) aN)))
 (sCons (sAppH 5 (xHeard 7 4 5 xr_heard (xF (callF 4 F_likes_better) (aC (xV 3) (aC (xC .non) (aC (xPs gIx (aC (xV 4) (aC (xC (.int 0)) aN))) (aC (xC .non) aN)))))))
 (sCons (sAppH 5 (xHeard 7 4 5 xr_heard (xF (callF 4 F_likes_better) (aC (xV 3) (aC (xC (.str "ann")) (aC (xC .non) (aC (xC .non) aN)))))))
 (sCons (sAppH 5 (xHeard 7 4 5 xr_heard (xF (callF 4 F_likes_better) (aC (xV 3) (aC (xC (.str "ann")) (aC (xC (.str "zz")) (aC (xPs gIx (aC (xV 4) (aC (xC (.int 0)) aN))) aN)))))))
 (sCons (sAppH 5 (xHeard 7 4 5 xr_heard (xF (callF 4 F_likes_better) (aC (xV 3) (aC (xC (.str "ann")) (aC (xPs gIx (aC (xV 4) (aC (xC (.int 0)) aN))) (aC (xC (.str "zz")) aN)))))))
 (sCons (sIf (bP gNe (aC (xV 5) (aC (xP gAdd (aC (xP gMul (aC (xLst (aC (xTup (aC (xC (.str "no person")) aN)) aN)) (aC (xC (.int 2)) aN))) (aC (xP gMul (aC (xLst (aC (xTup (aC (xC (.str "no house")) aN)) aN)) (aC (xC (.int 3)) aN))) aN))) aN)))
 (sCons (sRet (xC (.bl false)))
 sNil)
 sNil)
 sNil)))))))))))
 (sCons (sRet (xC (.bl true)))
 sNil)))
def F_law : List Dv → Sto → Res Dv := runF 11 xb_law
theorem ok_law (D : Tx K mg base T A Dd Cd Pt) : FnOk P w K mg base (L2.CX P w) 6 (A 36) (Dd 36) P_law (spD K mg T 1 F_law) :=
 fn_dataC D.f_law sc_law fun As outer s H E fp0 G0 B =>
 (sd_cons (sd_setH (i := 1) B.toBd.nd rfl (by first | exact .inl rfl | exact .inr rfl) (pd_fn0 B.toBd (ok__law_begun D) (by decide) D.d__law_begun.g D.d__law_begun.fn.kp D.d__law_begun.b))
 (sd_cons (sd_for B.po B.toBd.calm (id_range (by rfl) D.b_range pd_int) (pg_nm (i := 2) B.toBd.nd rfl (by first | exact .inl rfl | exact .inr rfl))
 (sd_cons (sd_setH (i := 3) B.toBd.nd rfl (by first | exact .inl rfl | exact .inr rfl) (pd_fn B.toBd (ok__law_a_book D) (by decide) D.d__law_a_book.g D.d__law_a_book.fn.kp D.d__law_a_book.b (pl_cons (pd_var 0) (pl_cons (pd_var 1) (pl_cons pd_int (pl_cons pd_int pl_nil))))))
 (sd_cons (sd_if (pb_cmp (op_gNe B.toBd.hu64) (pd_fnK0 (ks := ["book"]) B.toBd (ok_standings D) (by decide) D.d_standings.g D.d_standings.fn.kp D.w_standings_0 (kd_cons (pd_var 3) kd_nil)) (pd_callTy cr_gTuple (by rfl) D.b_tuple bl_tuple (pl_cons (pd_fn B.toBd (ok__law_all D) (by decide) D.d__law_all.g D.d__law_all.fn.kp D.d__law_all.b (pl_cons (pd_var 3) pl_nil)) pl_nil)) (by rfl))
 (sd_cons (sd_ret pd_bl)
 sd_nil)
 sd_nil)
 (sd_cons (sd_setH (i := 4) B.toBd.nd rfl (by first | exact .inl rfl | exact .inr rfl) (pd_po (po_comp B.toBd.calm B.toBd.nd (id_seq (pd_ix B.toBd.hu1 (pd_var 3) pd_int)) (blkOk_by (N := N_law) (sc := (defScope st_law)) (own := [("_law_one", 8)]) (by decide +kernel)) (fun _ _ _ _ _ => (pg_nm (i := 8) (Bd.blk B.toBd).nd rfl (by first | exact .inl rfl | exact .inr rfl))) (fun _ _ _ _ _ => bs_nil) (fun _ _ _ _ _ => (pd_ix (Bd.blk B.toBd).hu1 (pd_var 8) pd_int)) (by decide))))
 (sd_cons (sd_for B.po B.toBd.calm (id_seqT (pd_ix B.toBd.hu1 (pd_var 3) pd_int)) (pg_tp B.toBd.calm (pgs_c (pg_nm (i := 6) B.toBd.nd rfl (by first | exact .inl rfl | exact .inr rfl)) (pgs_c (pg_nm (i := 7) B.toBd.nd rfl (by first | exact .inl rfl | exact .inr rfl)) pgs_n)))
 (sd_cons (sd_for B.po B.toBd.calm (id_seq (pd_var 4)) (pg_nm (i := 8) B.toBd.nd rfl (by first | exact .inl rfl | exact .inr rfl))
 (sd_cons (sd_for B.po B.toBd.calm (id_seq (pd_po (po_op op_gCat (pd_po (po_lst (pl_cons pd_non pl_nil))) (pd_var 4)))) (pg_nm (i := 9) B.toBd.nd rfl (by first | exact .inl rfl | exact .inr rfl))
 (sd_cons (sd_setH (i := 10) B.toBd.nd rfl (by first | exact .inl rfl | exact .inr rfl) (pd_fn B.toBd (ok__law_better D) (by decide) D.d__law_better.g D.d__law_better.fn.kp D.d__law_better.b (pl_cons (pd_var 7) (pl_cons (pd_var 8) (pl_cons (pd_var 9) pl_nil)))))
 (sd_cons (sd_if (pb_not (pb_truth (pd_fn B.toBd (ok__law_is D) (by decide) D.d__law_is.g D.d__law_is.fn.kp D.d__law_is.b (pl_cons (pd_fnK (ks := ["other"]) B.toBd (ok_likes_better D) (by decide) D.d_likes_better.g D.d_likes_better.fn.kp D.w_likes_better_3 (pl_cons (pd_var 3) (pl_cons (pd_var 6) (pl_cons (pd_var 8) pl_nil))) (kd_cons (pd_var 9) kd_nil)) (pl_cons (pd_var 10) pl_nil)))))
 (sd_cons (sd_ret pd_bl)
 sd_nil)
 sd_nil)
 sd_nil)))
 sd_nil))
 sd_nil))
 (sd_cons (sd_setOH (i := 5) B.toBd.nd rfl (by first | exact .inl rfl | exact .inr rfl) (po_lst (pl_cons (pd_heard (kb := 3) B.toBd (by decide) D.d__law_heard sc__law_heard rfl (by first | exact Or.inl rfl | exact Or.inr (Or.inl rfl) | exact Or.inr (Or.inr rfl)) (fun q => gives_heard D q) D.l_law rfl (LamX.lamS_by (sc := defScope st_law) (by decide +kernel)) (by rfl) (fun _ _ _ _ _ _ _ BL => (pd_fn BL (ok_likes_better D) (by decide) D.d_likes_better.g D.d_likes_better.fn.kp D.d_likes_better.b (pl_cons (pd_var 3) (pl_cons pd_str (pl_cons pd_str (pl_cons pd_non pl_nil))))))) pl_nil)))
 (sd_cons (sd_appH (i := 5) rfl (by first | exact Or.inl rfl | exact Or.inr (Or.inl rfl) | exact Or.inr (Or.inr rfl)) (pd_heard (kb := 3) B.toBd (by decide) D.d__law_heard sc__law_heard rfl (by first | exact Or.inl rfl | exact Or.inr (Or.inl rfl) | exact Or.inr (Or.inr rfl)) (fun q => gives_heard D q) D.l_law rfl (LamX.lamS_by (sc := defScope st_law) (by decide +kernel)) (by rfl) (fun _ _ _ _ _ _ _ BL => (pd_fn BL (ok_likes_better D) (by decide) D.d_likes_better.g D.d_likes_better.fn.kp D.d_likes_better.b (pl_cons (pd_var 3) (pl_cons pd_non (pl_cons (pd_ix BL.hu1 (pd_var 4) pd_int) (pl_cons pd_non pl_nil))))))))
 (sd_cons (sd_appH (i := 5) rfl (by first | exact Or.inl rfl | exact Or.inr (Or.inl rfl) | exact Or.inr (Or.inr rfl)) (pd_heard (kb := 3) B.toBd (by decide) D.d__law_heard sc__law_heard rfl (by first | exact Or.inl rfl | exact Or.inr (Or.inl rfl) | exact Or.inr (Or.inr rfl)) (fun q => gives_heard D q) D.l_law rfl (LamX.lamS_by (sc := defScope st_law) (by decide +kernel)) (by rfl) (fun _ _ _ _ _ _ _ BL => (pd_fn BL (ok_likes_better D) (by decide) D.d_likes_better.g D.d_likes_better.fn.kp D.d_likes_better.b (pl_cons (pd_var 3) (pl_cons pd_str (pl_cons pd_non (pl_cons pd_non pl_nil))))))))
 (sd_cons (sd_appH (i := 5) rfl (by first | exact Or.inl rfl | exact Or.inr (Or.inl rfl) | exact Or.inr (Or.inr rfl)) (pd_heard (kb := 3) B.toBd (by decide) D.d__law_heard sc__law_heard rfl (by first | exact Or.inl rfl | exact Or.inr (Or.inl rfl) | exact Or.inr (Or.inr rfl)) (fun q => gives_heard D q) D.l_law rfl (LamX.lamS_by (sc := defScope st_law) (by decide +kernel)) (by rfl) (fun _ _ _ _ _ _ _ BL => (pd_fn BL (ok_likes_better D) (by decide) D.d_likes_better.g D.d_likes_better.fn.kp D.d_likes_better.b (pl_cons (pd_var 3) (pl_cons pd_str (pl_cons pd_str (pl_cons (pd_ix BL.hu1 (pd_var 4) pd_int) pl_nil))))))))
 (sd_cons (sd_appH (i := 5) rfl (by first | exact Or.inl rfl | exact Or.inr (Or.inl rfl) | exact Or.inr (Or.inr rfl)) (pd_heard (kb := 3) B.toBd (by decide) D.d__law_heard sc__law_heard rfl (by first | exact Or.inl rfl | exact Or.inr (Or.inl rfl) | exact Or.inr (Or.inr rfl)) (fun q => gives_heard D q) D.l_law rfl (LamX.lamS_by (sc := defScope st_law) (by decide +kernel)) (by rfl) (fun _ _ _ _ _ _ _ BL => (pd_fn BL (ok_likes_better D) (by decide) D.d_likes_better.g D.d_likes_better.fn.kp D.d_likes_better.b (pl_cons (pd_var 3) (pl_cons pd_str (pl_cons (pd_ix BL.hu1 (pd_var 4) pd_int) (pl_cons pd_str pl_nil))))))))
 (sd_cons (sd_if (pb_cmp (op_gNe B.toBd.hu64) (pd_var 5) (pd_op op_gAdd (pd_op op_gMul (pd_po (po_lst (pl_cons (pd_tup (pl_cons pd_str pl_nil)) pl_nil))) pd_int) (pd_op op_gMul (pd_po (po_lst (pl_cons (pd_tup (pl_cons pd_str pl_nil)) pl_nil))) pd_int)) (by rfl))
 (sd_cons (sd_ret pd_bl)
 sd_nil)
 sd_nil)
 sd_nil)))))))))))
 (sd_cons (sd_ret pd_bl)
 sd_nil)))
/-! ### the law -/
theorem all_mk {w : World} {K : PySem.W.Frag} {h : Heap} {mg : Str → Option Value} {fa : Addr} {ts : List Addr} (X : K.In h) (G : h.Ns mainGlobals mg) (hfa : mg "law" = some (.ref fa)) (hts : ∀ p ∈ ts, h.get? p = some (PySem.W.tabObj #[]))
  {f17 : Addr} {od17 an17 : Option Addr} {sl17 : Array (Option Value)} {oc17 kV17 dc17 pm17 ct17 : Value} {cd17 : Value}
  (a17 : PySem.W.nsIn K mainGlobals "houses_of" = some (some (.ref f17)))
  (l17 : K.lookup f17 = some ⟨oc17, od17, .func (PySem.W.fnOf "houses_of" "houses_of" (defArgs st_houses_of) (defBody st_houses_of) (defScope st_houses_of) .none kV17 dc17 pm17 an17 cd17 ct17), sl17⟩)
  (k17 : PySem.W.codeIn K cd17 "houses_of" = true) (q17 : PySem.W.keepIn K (.ref f17) = true)
  {f18 : Addr} {od18 an18 : Option Addr} {sl18 : Array (Option Value)} {oc18 kV18 dc18 pm18 ct18 : Value} {cd18 : Value}
  (a18 : PySem.W.nsIn K mainGlobals "people_of" = some (some (.ref f18)))
  (l18 : K.lookup f18 = some ⟨oc18, od18, .func (PySem.W.fnOf "people_of" "people_of" (defArgs st_people_of) (defBody st_people_of) (defScope st_people_of) .none kV18 dc18 pm18 an18 cd18 ct18), sl18⟩)
  (k18 : PySem.W.codeIn K cd18 "people_of" = true) (q18 : PySem.W.keepIn K (.ref f18) = true)
  {f19 : Addr} {od19 an19 : Option Addr} {sl19 : Array (Option Value)} {oc19 kV19 dc19 pm19 ct19 : Value} {cd19 : Value}
  (a19 : PySem.W.nsIn K mainGlobals "homes_of" = some (some (.ref f19)))
  (l19 : K.lookup f19 = some ⟨oc19, od19, .func (PySem.W.fnOf "homes_of" "homes_of" (defArgs st_homes_of) (defBody st_homes_of) (defScope st_homes_of) .none kV19 dc19 pm19 an19 cd19 ct19), sl19⟩)
  (k19 : PySem.W.codeIn K cd19 "homes_of" = true) (q19 : PySem.W.keepIn K (.ref f19) = true)
  {f20 : Addr} {od20 an20 : Option Addr} {sl20 : Array (Option Value)} {oc20 kV20 dc20 pm20 ct20 : Value} {cd20 : Value}
  (a20 : PySem.W.nsIn K mainGlobals "look_person" = some (some (.ref f20)))
  (l20 : K.lookup f20 = some ⟨oc20, od20, .func (PySem.W.fnOf "look_person" "look_person" (defArgs st_look_person) (defBody st_look_person) (defScope st_look_person) .none kV20 dc20 pm20 an20 cd20 ct20), sl20⟩)
  (k20 : PySem.W.codeIn K cd20 "look_person" = true) (q20 : PySem.W.keepIn K (.ref f20) = true)
  {f21 : Addr} {od21 an21 : Option Addr} {sl21 : Array (Option Value)} {oc21 kV21 dc21 pm21 ct21 : Value} {cd21 : Value}
  (a21 : PySem.W.nsIn K mainGlobals "look_house" = some (some (.ref f21)))
  (l21 : K.lookup f21 = some ⟨oc21, od21, .func (PySem.W.fnOf "look_house" "look_house" (defArgs st_look_house) (defBody st_look_house) (defScope st_look_house) .none kV21 dc21 pm21 an21 cd21 ct21), sl21⟩)
  (k21 : PySem.W.codeIn K cd21 "look_house" = true) (q21 : PySem.W.keepIn K (.ref f21) = true)
  {f22 : Addr} {od22 an22 : Option Addr} {sl22 : Array (Option Value)} {oc22 kV22 dc22 pm22 ct22 : Value} {cd22 : Value}
  (a22 : PySem.W.nsIn K mainGlobals "key_of" = some (some (.ref f22)))
  (l22 : K.lookup f22 = some ⟨oc22, od22, .func (PySem.W.fnOf "key_of" "key_of" (defArgs st_key_of) (defBody st_key_of) (defScope st_key_of) .none kV22 dc22 pm22 an22 cd22 ct22), sl22⟩)
  (k22 : PySem.W.codeIn K cd22 "key_of" = true) (q22 : PySem.W.keepIn K (.ref f22) = true)
  {f23 : Addr} {od23 an23 : Option Addr} {sl23 : Array (Option Value)} {oc23 kV23 dc23 pm23 ct23 : Value} {cd23 : Value}
  (a23 : PySem.W.nsIn K mainGlobals "standings" = some (some (.ref f23)))
  (l23 : K.lookup f23 = some ⟨oc23, od23, .func (PySem.W.fnOf "standings" "standings" (defArgs st_standings) (defBody st_standings) (defScope st_standings) .none kV23 dc23 pm23 an23 cd23 ct23), sl23⟩)
  (k23 : PySem.W.codeIn K cd23 "standings" = true) (q23 : PySem.W.keepIn K (.ref f23) = true)
  {f24 : Addr} {od24 an24 : Option Addr} {sl24 : Array (Option Value)} {oc24 kV24 dc24 pm24 ct24 : Value} {cd24 : Value}
  (a24 : PySem.W.nsIn K mainGlobals "is_better" = some (some (.ref f24)))
  (l24 : K.lookup f24 = some ⟨oc24, od24, .func (PySem.W.fnOf "is_better" "is_better" (defArgs st_is_better) (defBody st_is_better) (defScope st_is_better) .none kV24 dc24 pm24 an24 cd24 ct24), sl24⟩)
  (k24 : PySem.W.codeIn K cd24 "is_better" = true) (q24 : PySem.W.keepIn K (.ref f24) = true)
  {f25 : Addr} {od25 an25 : Option Addr} {sl25 : Array (Option Value)} {oc25 kV25 dc25 pm25 ct25 : Value} {cd25 : Value}
  (a25 : PySem.W.nsIn K mainGlobals "likes_better" = some (some (.ref f25)))
  (l25 : K.lookup f25 = some ⟨oc25, od25, .func (PySem.W.fnOf "likes_better" "likes_better" (defArgs st_likes_better) (defBody st_likes_better) (defScope st_likes_better) .none kV25 dc25 pm25 an25 cd25 ct25), sl25⟩)
  (k25 : PySem.W.codeIn K cd25 "likes_better" = true) (q25 : PySem.W.keepIn K (.ref f25) = true)
  {f27 : Addr} {od27 an27 : Option Addr} {sl27 : Array (Option Value)} {oc27 kV27 dc27 pm27 ct27 : Value} {cd27 : Value}
  (a27 : PySem.W.nsIn K mainGlobals "_law_heard" = some (some (.ref f27)))
  (l27 : K.lookup f27 = some ⟨oc27, od27, .func (PySem.W.fnOf "_law_heard" "_law_heard" (defArgs st__law_heard) (defBody st__law_heard) (defScope st__law_heard) .none kV27 dc27 pm27 an27 cd27 ct27), sl27⟩)
  (k27 : PySem.W.codeIn K cd27 "_law_heard" = true) (q27 : PySem.W.keepIn K (.ref f27) = true)
  {f28 : Addr} {od28 an28 : Option Addr} {sl28 : Array (Option Value)} {oc28 kV28 dc28 pm28 ct28 : Value} {cd28 : Value}
  (a28 : PySem.W.nsIn K mainGlobals "_law_is" = some (some (.ref f28)))
  (l28 : K.lookup f28 = some ⟨oc28, od28, .func (PySem.W.fnOf "_law_is" "_law_is" (defArgs st__law_is) (defBody st__law_is) (defScope st__law_is) .none kV28 dc28 pm28 an28 cd28 ct28), sl28⟩)
  (k28 : PySem.W.codeIn K cd28 "_law_is" = true) (q28 : PySem.W.keepIn K (.ref f28) = true)
  {f29 : Addr} {od29 an29 : Option Addr} {sl29 : Array (Option Value)} {oc29 kV29 dc29 pm29 ct29 : Value} {cd29 : Value}
  (a29 : PySem.W.nsIn K mainGlobals "_law_draw" = some (some (.ref f29)))
  (l29 : K.lookup f29 = some ⟨oc29, od29, .func (PySem.W.fnOf "_law_draw" "_law_draw" (defArgs st__law_draw) (defBody st__law_draw) (defScope st__law_draw) .none kV29 dc29 pm29 an29 cd29 ct29), sl29⟩)
  (k29 : PySem.W.codeIn K cd29 "_law_draw" = true) (q29 : PySem.W.keepIn K (.ref f29) = true)
  {f30 : Addr} {od30 an30 : Option Addr} {sl30 : Array (Option Value)} {oc30 kV30 dc30 pm30 ct30 : Value} {cd30 : Value}
  (a30 : PySem.W.nsIn K mainGlobals "_law_begun" = some (some (.ref f30)))
  (l30 : K.lookup f30 = some ⟨oc30, od30, .func (PySem.W.fnOf "_law_begun" "_law_begun" (defArgs st__law_begun) (defBody st__law_begun) (defScope st__law_begun) .none kV30 dc30 pm30 an30 cd30 ct30), sl30⟩)
  (k30 : PySem.W.codeIn K cd30 "_law_begun" = true) (q30 : PySem.W.keepIn K (.ref f30) = true)
  {f31 : Addr} {od31 an31 : Option Addr} {sl31 : Array (Option Value)} {oc31 kV31 dc31 pm31 ct31 : Value} {cd31 : Value}
  (a31 : PySem.W.nsIn K mainGlobals "_law_mixed" = some (some (.ref f31)))
  (l31 : K.lookup f31 = some ⟨oc31, od31, .func (PySem.W.fnOf "_law_mixed" "_law_mixed" (defArgs st__law_mixed) (defBody st__law_mixed) (defScope st__law_mixed) .none kV31 dc31 pm31 an31 cd31 ct31), sl31⟩)
  (k31 : PySem.W.codeIn K cd31 "_law_mixed" = true) (q31 : PySem.W.keepIn K (.ref f31) = true)
  {f32 : Addr} {od32 an32 : Option Addr} {sl32 : Array (Option Value)} {oc32 kV32 dc32 pm32 ct32 : Value} {cd32 : Value}
  (a32 : PySem.W.nsIn K mainGlobals "_law_a_book" = some (some (.ref f32)))
  (l32 : K.lookup f32 = some ⟨oc32, od32, .func (PySem.W.fnOf "_law_a_book" "_law_a_book" (defArgs st__law_a_book) (defBody st__law_a_book) (defScope st__law_a_book) .none kV32 dc32 pm32 an32 cd32 ct32), sl32⟩)
  (k32 : PySem.W.codeIn K cd32 "_law_a_book" = true) (q32 : PySem.W.keepIn K (.ref f32) = true)
  {f33 : Addr} {od33 an33 : Option Addr} {sl33 : Array (Option Value)} {oc33 kV33 dc33 pm33 ct33 : Value} {cd33 : Value}
  (a33 : PySem.W.nsIn K mainGlobals "_law_homes" = some (some (.ref f33)))
  (l33 : K.lookup f33 = some ⟨oc33, od33, .func (PySem.W.fnOf "_law_homes" "_law_homes" (defArgs st__law_homes) (defBody st__law_homes) (defScope st__law_homes) .none kV33 dc33 pm33 an33 cd33 ct33), sl33⟩)
  (k33 : PySem.W.codeIn K cd33 "_law_homes" = true) (q33 : PySem.W.keepIn K (.ref f33) = true)
  {f34 : Addr} {od34 an34 : Option Addr} {sl34 : Array (Option Value)} {oc34 kV34 dc34 pm34 ct34 : Value} {cd34 : Value}
  (a34 : PySem.W.nsIn K mainGlobals "_law_better" = some (some (.ref f34)))
  (l34 : K.lookup f34 = some ⟨oc34, od34, .func (PySem.W.fnOf "_law_better" "_law_better" (defArgs st__law_better) (defBody st__law_better) (defScope st__law_better) .none kV34 dc34 pm34 an34 cd34 ct34), sl34⟩)
  (k34 : PySem.W.codeIn K cd34 "_law_better" = true) (q34 : PySem.W.keepIn K (.ref f34) = true)
  {f35 : Addr} {od35 an35 : Option Addr} {sl35 : Array (Option Value)} {oc35 kV35 dc35 pm35 ct35 : Value} {cd35 : Value}
  (a35 : PySem.W.nsIn K mainGlobals "_law_all" = some (some (.ref f35)))
  (l35 : K.lookup f35 = some ⟨oc35, od35, .func (PySem.W.fnOf "_law_all" "_law_all" (defArgs st__law_all) (defBody st__law_all) (defScope st__law_all) .none kV35 dc35 pm35 an35 cd35 ct35), sl35⟩)
  (k35 : PySem.W.codeIn K cd35 "_law_all" = true) (q35 : PySem.W.keepIn K (.ref f35) = true)
  {f36 : Addr} {od36 an36 : Option Addr} {sl36 : Array (Option Value)} {oc36 kV36 dc36 pm36 ct36 : Value} {c36 p36 : Addr} {ec36 : Value} {dd36 : Option Addr} {vs36 : Array Value} {sc36 : Array (Option Value)}
  (a36 : PySem.W.nsIn K mainGlobals "law" = some (some (.ref f36)))
  (l36 : K.lookup f36 = some ⟨oc36, od36, .func (PySem.W.fnOf "law" "law" (defArgs st_law) (defBody st_law) (defScope st_law) .none kV36 dc36 pm36 an36 (.ref c36) ct36), sl36⟩)
  (k36 : PySem.W.codeIn K (.ref c36) "law" = true) (q36 : PySem.W.keepIn K (.ref f36) = true)
  (m36 : K.lookup c36 = some ⟨ec36, dd36, .fields vs36, sc36⟩) (n36 : vs36[11]? = some (.ref p36)) (o36 : PySem.W.codeHdIn K c36 p36 = true) (r36 : K.lookup p36 = none) (s36 : p36 ∈ ts)
  {f11 : Addr} (a11 : PySem.W.nsIn K mainGlobals "BadBook" = some (some (.ref f11)))
  {f14 : Addr} (a14 : PySem.W.nsIn K mainGlobals "Lived" = some (some (.ref f14)))
  {f15 : Addr} (a15 : PySem.W.nsIn K mainGlobals "Muddled" = some (some (.ref f15)))
  {f12 : Addr} (a12 : PySem.W.nsIn K mainGlobals "NoBack" = some (some (.ref f12)))
  {f3 : Addr} (a3 : PySem.W.nsIn K mainGlobals "NoHouse" = some (some (.ref f3)))
  (b3 : clsAB K f3 = true)
  {f5 : Addr} (a5 : PySem.W.nsIn K mainGlobals "NoMove" = some (some (.ref f5)))
  {f6 : Addr} (a6 : PySem.W.nsIn K mainGlobals "NoNames" = some (some (.ref f6)))
  {f9 : Addr} (a9 : PySem.W.nsIn K mainGlobals "NoNumber" = some (some (.ref f9)))
  {f2 : Addr} (a2 : PySem.W.nsIn K mainGlobals "NoPerson" = some (some (.ref f2)))
  (b2 : clsAB K f2 = true)
  {f4 : Addr} (a4 : PySem.W.nsIn K mainGlobals "NoStanding" = some (some (.ref f4)))
  {f13 : Addr} (a13 : PySem.W.nsIn K mainGlobals "NoText" = some (some (.ref f13)))
  {f8 : Addr} (a8 : PySem.W.nsIn K mainGlobals "Unfair" = some (some (.ref f8)))
  {f10 : Addr} (a10 : PySem.W.nsIn K mainGlobals "Unlike" = some (some (.ref f10)))
  {f7 : Addr} (a7 : PySem.W.nsIn K mainGlobals "Unsettled" = some (some (.ref f7)))
  {f1 : Addr} (a1 : PySem.W.nsIn K mainGlobals "MoveError" = some (some (.ref f1)))
  (hd : hdB K f1 [("Lived", f14), ("Muddled", f15), ("NoPerson", f2), ("NoHouse", f3), ("NoStanding", f4), ("NoMove", f5), ("NoNames", f6), ("Unsettled", f7), ("Unfair", f8), ("NoNumber", f9), ("Unlike", f10), ("BadBook", f11), ("NoBack", f12), ("NoText", f13)] = true)
  (z_ValueError : PySem.W.nsIn K mainGlobals "ValueError" = some none)
  (z_bool : PySem.W.nsIn K mainGlobals "bool" = some none)
  (z_dict : PySem.W.nsIn K mainGlobals "dict" = some none)
  (z_isinstance : PySem.W.nsIn K mainGlobals "isinstance" = some none)
  (z_len : PySem.W.nsIn K mainGlobals "len" = some none)
  (z_list : PySem.W.nsIn K mainGlobals "list" = some none)
  (z_range : PySem.W.nsIn K mainGlobals "range" = some none)
  (z_sorted : PySem.W.nsIn K mainGlobals "sorted" = some none)
  (z_str : PySem.W.nsIn K mainGlobals "str" = some none)
  (z_tuple : PySem.W.nsIn K mainGlobals "tuple" = some none)
  (tru : ∀ ns : List Int, ns.length ≤ 63 → ∃ τ, F_law [.scr ns] [] = .ok (.bl true) τ) :
  LamX.LawAtS PySem.Challenge.rw_movesup_k02_standings w K (L2.CX PySem.Challenge.rw_movesup_k02_standings.prog w) 6 63 "_law_script" mg fa h := by
  have e := hfa.symm.trans (PySem.W.mg_of X G a36)
  have e2 : f36 = fa := by injection e with e; injection e with e; exact e.symm
  subst e2
  have F17 := fun_mk (st := st_houses_of) l17 k17 q17
  have F18 := fun_mk (st := st_people_of) l18 k18 q18
  have F19 := fun_mk (st := st_homes_of) l19 k19 q19
  have F20 := fun_mk (st := st_look_person) l20 k20 q20
  have F21 := fun_mk (st := st_look_house) l21 k21 q21
  have F22 := fun_mk (st := st_key_of) l22 k22 q22
  have F23 := fun_mk (st := st_standings) l23 k23 q23
  have F24 := fun_mk (st := st_is_better) l24 k24 q24
  have F25 := fun_mk (st := st_likes_better) l25 k25 q25
  have F27 := fun_mk (st := st__law_heard) l27 k27 q27
  have F28 := fun_mk (st := st__law_is) l28 k28 q28
  have F29 := fun_mk (st := st__law_draw) l29 k29 q29
  have F30 := fun_mk (st := st__law_begun) l30 k30 q30
  have F31 := fun_mk (st := st__law_mixed) l31 k31 q31
  have F32 := fun_mk (st := st__law_a_book) l32 k32 q32
  have F33 := fun_mk (st := st__law_homes) l33 k33 q33
  have F34 := fun_mk (st := st__law_better) l34 k34 q34
  have F35 := fun_mk (st := st__law_all) l35 k35 q35
  have F36 := fun_mk (st := st_law) l36 k36 q36
  obtain ⟨fd17, hfd17⟩ : ∃ fd, fd = PySem.W.fnOf "houses_of" "houses_of" (defArgs st_houses_of) (defBody st_houses_of) (defScope st_houses_of) .none kV17 dc17 pm17 an17 cd17 ct17 := ⟨_, rfl⟩
  obtain ⟨fd18, hfd18⟩ : ∃ fd, fd = PySem.W.fnOf "people_of" "people_of" (defArgs st_people_of) (defBody st_people_of) (defScope st_people_of) .none kV18 dc18 pm18 an18 cd18 ct18 := ⟨_, rfl⟩
  obtain ⟨fd19, hfd19⟩ : ∃ fd, fd = PySem.W.fnOf "homes_of" "homes_of" (defArgs st_homes_of) (defBody st_homes_of) (defScope st_homes_of) .none kV19 dc19 pm19 an19 cd19 ct19 := ⟨_, rfl⟩
  obtain ⟨fd20, hfd20⟩ : ∃ fd, fd = PySem.W.fnOf "look_person" "look_person" (defArgs st_look_person) (defBody st_look_person) (defScope st_look_person) .none kV20 dc20 pm20 an20 cd20 ct20 := ⟨_, rfl⟩
  obtain ⟨fd21, hfd21⟩ : ∃ fd, fd = PySem.W.fnOf "look_house" "look_house" (defArgs st_look_house) (defBody st_look_house) (defScope st_look_house) .none kV21 dc21 pm21 an21 cd21 ct21 := ⟨_, rfl⟩
  obtain ⟨fd22, hfd22⟩ : ∃ fd, fd = PySem.W.fnOf "key_of" "key_of" (defArgs st_key_of) (defBody st_key_of) (defScope st_key_of) .none kV22 dc22 pm22 an22 cd22 ct22 := ⟨_, rfl⟩
  obtain ⟨fd23, hfd23⟩ : ∃ fd, fd = PySem.W.fnOf "standings" "standings" (defArgs st_standings) (defBody st_standings) (defScope st_standings) .none kV23 dc23 pm23 an23 cd23 ct23 := ⟨_, rfl⟩
  obtain ⟨fd24, hfd24⟩ : ∃ fd, fd = PySem.W.fnOf "is_better" "is_better" (defArgs st_is_better) (defBody st_is_better) (defScope st_is_better) .none kV24 dc24 pm24 an24 cd24 ct24 := ⟨_, rfl⟩
  obtain ⟨fd25, hfd25⟩ : ∃ fd, fd = PySem.W.fnOf "likes_better" "likes_better" (defArgs st_likes_better) (defBody st_likes_better) (defScope st_likes_better) .none kV25 dc25 pm25 an25 cd25 ct25 := ⟨_, rfl⟩
  obtain ⟨fd27, hfd27⟩ : ∃ fd, fd = PySem.W.fnOf "_law_heard" "_law_heard" (defArgs st__law_heard) (defBody st__law_heard) (defScope st__law_heard) .none kV27 dc27 pm27 an27 cd27 ct27 := ⟨_, rfl⟩
  obtain ⟨fd28, hfd28⟩ : ∃ fd, fd = PySem.W.fnOf "_law_is" "_law_is" (defArgs st__law_is) (defBody st__law_is) (defScope st__law_is) .none kV28 dc28 pm28 an28 cd28 ct28 := ⟨_, rfl⟩
  obtain ⟨fd29, hfd29⟩ : ∃ fd, fd = PySem.W.fnOf "_law_draw" "_law_draw" (defArgs st__law_draw) (defBody st__law_draw) (defScope st__law_draw) .none kV29 dc29 pm29 an29 cd29 ct29 := ⟨_, rfl⟩
  obtain ⟨fd30, hfd30⟩ : ∃ fd, fd = PySem.W.fnOf "_law_begun" "_law_begun" (defArgs st__law_begun) (defBody st__law_begun) (defScope st__law_begun) .none kV30 dc30 pm30 an30 cd30 ct30 := ⟨_, rfl⟩
  obtain ⟨fd31, hfd31⟩ : ∃ fd, fd = PySem.W.fnOf "_law_mixed" "_law_mixed" (defArgs st__law_mixed) (defBody st__law_mixed) (defScope st__law_mixed) .none kV31 dc31 pm31 an31 cd31 ct31 := ⟨_, rfl⟩
  obtain ⟨fd32, hfd32⟩ : ∃ fd, fd = PySem.W.fnOf "_law_a_book" "_law_a_book" (defArgs st__law_a_book) (defBody st__law_a_book) (defScope st__law_a_book) .none kV32 dc32 pm32 an32 cd32 ct32 := ⟨_, rfl⟩
  obtain ⟨fd33, hfd33⟩ : ∃ fd, fd = PySem.W.fnOf "_law_homes" "_law_homes" (defArgs st__law_homes) (defBody st__law_homes) (defScope st__law_homes) .none kV33 dc33 pm33 an33 cd33 ct33 := ⟨_, rfl⟩
  obtain ⟨fd34, hfd34⟩ : ∃ fd, fd = PySem.W.fnOf "_law_better" "_law_better" (defArgs st__law_better) (defBody st__law_better) (defScope st__law_better) .none kV34 dc34 pm34 an34 cd34 ct34 := ⟨_, rfl⟩
  obtain ⟨fd35, hfd35⟩ : ∃ fd, fd = PySem.W.fnOf "_law_all" "_law_all" (defArgs st__law_all) (defBody st__law_all) (defScope st__law_all) .none kV35 dc35 pm35 an35 cd35 ct35 := ⟨_, rfl⟩
  obtain ⟨fd36, hfd36⟩ : ∃ fd, fd = PySem.W.fnOf "law" "law" (defArgs st_law) (defBody st_law) (defScope st_law) .none kV36 dc36 pm36 an36 (.ref c36) ct36 := ⟨_, rfl⟩
  let fd0 := fd36
  have mk : ∀ base : Heap, K.In base → base.Ns mainGlobals mg → (∀ p ∈ [(c36, p36)], LamX.TabB base mg p.1 p.2) → Tx K mg base [(p36, "law.<locals>.<lambda>")] (fun i => [0, 0, f2, f3, f4, f5, f6, f7, f8, f9, f10, f11, f12, f13, f14, f15, 0, f17, f18, f19, f20, f21, f22, f23, f24, f25, 0, f27, f28, f29, f30, f31, f32, f33, f34, f35, f36].getD i 0) (fun i => [fd0, fd0, fd0, fd0, fd0, fd0, fd0, fd0, fd0, fd0, fd0, fd0, fd0, fd0, fd0, fd0, fd0, fd17, fd18, fd19, fd20, fd21, fd22, fd23, fd24, fd25, fd0, fd27, fd28, fd29, fd30, fd31, fd32, fd33, fd34, fd35, fd36].getD i fd0) (fun i => [0, 0, 0, 0, 0, 0, 0, 0, 0, 0, 0, 0, 0, 0, 0, 0, 0, 0, 0, 0, 0, 0, 0, 0, 0, 0, 0, 0, 0, 0, 0, 0, 0, 0, 0, 0, c36].getD i 0) (fun i => [0, 0, 0, 0, 0, 0, 0, 0, 0, 0, 0, 0, 0, 0, 0, 0, 0, 0, 0, 0, 0, 0, 0, 0, 0, 0, 0, 0, 0, 0, 0, 0, 0, 0, 0, 0, p36].getD i 0) := fun base _ _ tb => {
    d_houses_of := by subst hfd17; exact defA_of F17 (PySem.W.mg_of X G a17) fun _ _ _ _ _ _ us hl => match us, hl with | [_], _ => rfl
    d_people_of := by subst hfd18; exact defA_of F18 (PySem.W.mg_of X G a18) fun _ _ _ _ _ _ us hl => match us, hl with | [_], _ => rfl
    d_homes_of := by subst hfd19; exact defA_of F19 (PySem.W.mg_of X G a19) fun _ _ _ _ _ _ us hl => match us, hl with | [_, _], _ => rfl
    d_look_person := by subst hfd20; exact defA_of F20 (PySem.W.mg_of X G a20) fun _ _ _ _ _ _ us hl => match us, hl with | [_, _], _ => rfl
    d_look_house := by subst hfd21; exact defA_of F21 (PySem.W.mg_of X G a21) fun _ _ _ _ _ _ us hl => match us, hl with | [_, _], _ => rfl
    d_key_of := by subst hfd22; exact defA_of F22 (PySem.W.mg_of X G a22) fun _ _ _ _ _ _ us hl => match us, hl with | [_], _ => rfl
    d_standings := by subst hfd23; exact defA_of F23 (PySem.W.mg_of X G a23) fun _ _ _ _ _ _ us hl => match us, hl with | [_], _ => rfl
    d_is_better := by subst hfd24; exact defA_of F24 (PySem.W.mg_of X G a24) fun _ _ _ _ _ _ us hl => match us, hl with | [_, _, _, _], _ => rfl
    d_likes_better := by subst hfd25; exact defA_of F25 (PySem.W.mg_of X G a25) fun _ _ _ _ _ _ us hl => match us, hl with | [_, _, _, _], _ => rfl
    d__law_heard := by subst hfd27; exact defA_of F27 (PySem.W.mg_of X G a27) fun _ _ _ _ _ _ us hl => match us, hl with | [_], _ => rfl
    d__law_is := by subst hfd28; exact defA_of F28 (PySem.W.mg_of X G a28) fun _ _ _ _ _ _ us hl => match us, hl with | [_, _], _ => rfl
    d__law_draw := by subst hfd29; exact defA_of F29 (PySem.W.mg_of X G a29) fun _ _ _ _ _ _ us hl => match us, hl with | [_, _, _], _ => rfl
    d__law_begun := by subst hfd30; exact defA_of F30 (PySem.W.mg_of X G a30) fun _ _ _ _ _ _ us hl => match us, hl with | [], _ => rfl
    d__law_mixed := by subst hfd31; exact defA_of F31 (PySem.W.mg_of X G a31) fun _ _ _ _ _ _ us hl => match us, hl with | [_, _, _, _], _ => rfl
    d__law_a_book := by subst hfd32; exact defA_of F32 (PySem.W.mg_of X G a32) fun _ _ _ _ _ _ us hl => match us, hl with | [_, _, _, _], _ => rfl
    d__law_homes := by subst hfd33; exact defA_of F33 (PySem.W.mg_of X G a33) fun _ _ _ _ _ _ us hl => match us, hl with | [_, _], _ => rfl
    d__law_better := by subst hfd34; exact defA_of F34 (PySem.W.mg_of X G a34) fun _ _ _ _ _ _ us hl => match us, hl with | [_, _, _], _ => rfl
    d__law_all := by subst hfd35; exact defA_of F35 (PySem.W.mg_of X G a35) fun _ _ _ _ _ _ us hl => match us, hl with | [_], _ => rfl
    d_law := by subst hfd36; exact defA_of F36 (PySem.W.mg_of X G a36) fun _ _ _ _ _ _ us hl => match us, hl with | [_], _ => rfl
    f_law := by subst hfd36; exact ⟨⟨_, _, _, _, _, _, _, _, rfl, l36, k36⟩⟩
    l_law := ⟨tb (c36, p36) (by simp), by simp, fun p hp e => by simp at hp; first | (subst hp; rfl) | simp_all⟩
    hd := ⟨f1, [("Lived", f14), ("Muddled", f15), ("NoPerson", f2), ("NoHouse", f3), ("NoStanding", f4), ("NoMove", f5), ("NoNames", f6), ("Unsettled", f7), ("Unfair", f8), ("NoNumber", f9), ("Unlike", f10), ("BadBook", f11), ("NoBack", f12), ("NoText", f13)], PySem.W.mg_of X G a1, fun p hp => by simp only [List.mem_cons, List.not_mem_nil, or_false] at hp; rcases hp with rfl | rfl | rfl | rfl | rfl | rfl | rfl | rfl | rfl | rfl | rfl | rfl | rfl | rfl <;> first | exact PySem.W.mg_of X G a14 | exact PySem.W.mg_of X G a15 | exact PySem.W.mg_of X G a2 | exact PySem.W.mg_of X G a3 | exact PySem.W.mg_of X G a4 | exact PySem.W.mg_of X G a5 | exact PySem.W.mg_of X G a6 | exact PySem.W.mg_of X G a7 | exact PySem.W.mg_of X G a8 | exact PySem.W.mg_of X G a9 | exact PySem.W.mg_of X G a10 | exact PySem.W.mg_of X G a11 | exact PySem.W.mg_of X G a12 | exact PySem.W.mg_of X G a13, hd⟩
    w_likes_better_3 := by subst hfd25; exact kwb F25 fun _ _ _ _ _ _ us ws h1 h2 => match us, ws, h1, h2 with | [_, _, _], [_], _, _ => rfl
    w_standings_0 := by subst hfd23; exact kwb F23 fun _ _ _ _ _ _ us ws h1 h2 => match us, ws, h1, h2 with | [], [_], _, _ => rfl
    b_ValueError := PySem.W.mg_none_of X G z_ValueError
    b_bool := PySem.W.mg_none_of X G z_bool
    b_dict := PySem.W.mg_none_of X G z_dict
    b_isinstance := PySem.W.mg_none_of X G z_isinstance
    b_len := PySem.W.mg_none_of X G z_len
    b_list := PySem.W.mg_none_of X G z_list
    b_range := PySem.W.mg_none_of X G z_range
    b_sorted := PySem.W.mg_none_of X G z_sorted
    b_str := PySem.W.mg_none_of X G z_str
    b_tuple := PySem.W.mg_none_of X G z_tuple
    c_NoHouse := clsA_of (PySem.W.mg_of X G a3) b3
    c_NoPerson := clsA_of (PySem.W.mg_of X G a2) b2
  }
  refine ⟨fd36, [(c36, p36)], spD K mg [(p36, "law.<locals>.<lambda>")] 1 F_law, ?_, ?_, ?_, fun s u => by subst hfd36; exact .of_eq rfl, fun H a ns hn _ hH hS => ?_, fun base kb nb tb => ok_law (mk base kb nb tb)⟩
  · intro p hp; simp only [List.mem_cons, List.not_mem_nil, or_false] at hp; rcases hp with rfl <;> first | exact hts _ s36
  · intro p hp; simp only [List.mem_cons, List.not_mem_nil, or_false] at hp; rcases hp with rfl <;> first | exact r36
  · intro p hp; simp only [List.mem_cons, List.not_mem_nil, or_false] at hp; rcases hp with rfl <;> first | exact PySem.W.codeHd_of_K X o36
  · obtain ⟨τ, ht⟩ := tru ns hn
    refine law_start (fun p hp => ?_) hS ht
    simp only [List.mem_cons, List.not_mem_nil, or_false] at hp
    rcases hp with rfl <;> first | exact LamX.TabS.nil (hH (c36, p36) (by simp))
end
end Lk02
end
section
set_option Elab.async false
set_option linter.all false
set_option maxRecDepth 100000
namespace Lk02
open PySem PySem.Spec PyProof.Rows L2 Mv
theorem atI_nat {α : Type} (l : List α) (k : Nat) : atI l (k : Int) = l[k]? := by
  unfold atI ixN
  rw [if_pos (by omega)]
  by_cases h : k < l.length
  · rw [if_pos (by omega)]; simp
  · rw [if_neg (by omega)]; simp; omega
def kI (k : Nat) : Dv := .int k
structure Town (ns : List Int) (τ : Sto) (t : Nat) : Prop where
  ex : ∃ (r : Nat) (c : Int) (ks : List Nat) (zs : List Int), t ≠ r ∧ τ[t]? = some (.dct [.str "count", .str "rests"] [.int c, .tok r]) ∧ τ[r]? = some (.dct (ks.map kI) (zs.map .int)) ∧ ks.Nodup ∧ (∀ k ∈ ks, k < ns.length) ∧ ks.length = zs.length
theorem nd_len {ks : List Nat} {n : Nat} (h : ks.Nodup) (hb : ∀ k ∈ ks, k < n) : ks.length ≤ n := by
  have : ks ⊆ List.range n := fun k hk => List.mem_range.mpr (hb k hk)
  simpa using List.Nodup.length_le_of_subset h this
theorem look_int (i : Nat) : ∀ (ks : List Nat) (zs : List Int) (z : Int), ∃ y : Int, (lookK (kI i) (ks.map kI) (zs.map .int)).getD (.int z) = .int y
  | [], zs, z => ⟨z, by simp [lookK]⟩
  | k :: ks, [], z => ⟨z, by simp [lookK]⟩
  | k :: ks, y :: zs, z => by
    simp only [List.map_cons, lookK]
    split
    · exact ⟨y, rfl⟩
    · exact look_int i ks zs z
theorem memD_kI (k : Nat) (ks : List Nat) : memD (kI k) (ks.map kI) = decide (k ∈ ks) := by
  unfold memD
  induction ks with
  | nil => rfl
  | cons a ks ih =>
    rw [List.map_cons, List.any_cons, ih]
    simp only [kI, Dv.eqv, List.mem_cons, Bool.decide_or]
    congr 1
    by_cases h : a = k
    · subst h; simp
    · have : k ≠ a := fun z => h z.symm
      simp [h, this]
      try omega
theorem repl_int (k : Nat) (x : Int) : ∀ (ks : List Nat) (zs : List Int), ∃ ys : List Int, replD (kI k) (.int x) (ks.map kI) (zs.map .int) = ys.map .int ∧ ys.length = zs.length
  | [], zs => ⟨zs, by simp [replD], rfl⟩
  | a :: ks, [] => ⟨[], rfl, rfl⟩
  | a :: ks, z :: zs => by
    obtain ⟨ys, h1, h2⟩ := repl_int k x ks zs
    simp only [List.map_cons, replD, h1]
    split
    · exact ⟨x :: ys, rfl, by simp [h2]⟩
    · exact ⟨z :: ys, rfl, by simp [h2]⟩
theorem put_int (k : Nat) (x : Int) (n : Nat) (hk : k < n) (ks : List Nat) (zs : List Int) (h1 : ks.Nodup) (h2 : ∀ k ∈ ks, k < n) (h3 : ks.length = zs.length) : ∃ (ks' : List Nat) (zs' : List Int), putKs (kI k) (ks.map kI) = ks'.map kI ∧ putVs (kI k) (.int x) (ks.map kI) (zs.map .int) = zs'.map .int ∧ ks'.Nodup ∧ (∀ k ∈ ks', k < n) ∧ ks'.length = zs'.length := by
  unfold putKs putVs
  rw [memD_kI]
  by_cases h : k ∈ ks
  · obtain ⟨ys, e1, e2⟩ := repl_int k x ks zs
    simp only [h, decide_true, if_true]
    exact ⟨ks, ys, rfl, e1, h1, h2, h3.trans e2.symm⟩
  · simp only [h, decide_false, Bool.false_eq_true, if_false]
    refine ⟨ks ++ [k], zs ++ [x], by simp, by simp, ?_, ?_, by simp [h3]⟩
    · rw [List.nodup_append]
      refine ⟨h1, by simp, ?_⟩
      intro a ha b hb
      simp at hb
      rintro rfl
      exact h (hb ▸ ha)
    · intro a ha
      rcases List.mem_append.mp ha with h' | h'
      · exact h2 a h'
      · simp at h'; omega
theorem get_set_same {τ : Sto} {t : Nat} {x y : So} (h : τ[t]? = some x) : (τ.set t y)[t]? = some y := by
  have : t < τ.length := (List.getElem?_eq_some_iff.mp h).1
  simp [this]
theorem get_set_ne {τ : Sto} {t r : Nat} {y : So} (h : t ≠ r) : (τ.set t y)[r]? = τ[r]? := by
  simp [h]
theorem cnt_key : Dv.eqv (.str "count") (.str "count") = true := by simp [Dv.eqv]
theorem cr_key : Dv.eqv (.str "count") (.str "rests") = false := by simp only [Dv.eqv]; decide
theorem rc_key : Dv.eqv (.str "rests") (.str "count") = false := by simp only [Dv.eqv]; decide
theorem rr_key : Dv.eqv (.str "rests") (.str "rests") = true := by simp [Dv.eqv]
theorem gAdd_i (i j : Int) : gAdd [.int i, .int j] = some (.int (i + j)) := rfl
theorem gMul_i {i j : Int} (h : mulOk i j = true) : gMul [.int i, .int j] = some (.int (i * j)) := by simp [gMul, h]
theorem gMod_i {i j : Int} (h : 0 < j) : gMod [.int i, .int j] = some (.int (i % j)) := by simp [gMod, h]
theorem gDiv_i {i j : Int} (h : 0 < j ∧ j < 1073741824) : gDiv [.int i, .int j] = some (.int (i / j)) := by simp [gDiv, h]
theorem gPow_i {i j : Int} (h : 0 ≤ j ∧ j ≤ 1000000 ∧ i.natAbs < 2 ^ 64) : gPow [.int i, .int j] = some (.int (i ^ j.toNat)) := by
  show (if decide (0 ≤ j ∧ j ≤ 1000000 ∧ i.natAbs < 2 ^ 64) = true then some (Dv.int (i ^ j.toNat)) else none) = _
  rw [if_pos (decide_eq_true h)]
theorem gGe_i (i j : Int) : gGe [.int i, .int j] = some (decide (j ≤ i)) := rfl
theorem gIx_t {t : Nat} {τ : Sto} {ks vs : List Dv} {k : Dv} (h : τ[t]? = some (.dct ks vs)) (hk : isKey k = true) : gIx [.tok t, k] τ = lookK k ks vs := by simp [gIx, h, hk]
theorem lk_c (a b : Dv) : lookK (.str "count") [.str "count", .str "rests"] [a, b] = some a := by simp only [lookK, cnt_key, if_true]
theorem lk_r (a b : Dv) : lookK (.str "rests") [.str "count", .str "rests"] [a, b] = some b := by simp only [lookK, cr_key, rr_key, Bool.false_eq_true, if_true, if_false]
theorem gIx_c {t : Nat} {τ : Sto} {a b : Dv} (h : τ[t]? = some (.dct [.str "count", .str "rests"] [a, b])) : gIx [.tok t, .str "count"] τ = some a := by rw [gIx_t h rfl, lk_c]
theorem gIx_r {t : Nat} {τ : Sto} {a b : Dv} (h : τ[t]? = some (.dct [.str "count", .str "rests"] [a, b])) : gIx [.tok t, .str "rests"] τ = some b := by rw [gIx_t h rfl, lk_r]
theorem putT_n {t : Nat} {τ : Sto} {ks vs : List Dv} {k v : Dv} {ρ : EnvS} (h : τ[t]? = some (.dct ks vs)) (hk : isKey k = true) (hb : big (vs.length + 1) = true) : putT (.tok t) k v ρ τ = .nx ρ (τ.set t (.dct (putKs k ks) (putVs k v ks vs))) := by simp [putT, h, hk, hb]
def dA : XS := sPutT (xV 1) (xC (.str "count")) (xP gAdd (aC (xPs gIx (aC (xV 1) (aC (xC (.str "count")) aN))) (aC (xC (.int 1)) aN)))
def dB : XS := sSetH 3 (xIf (bT (xV 0)) (xP gMod (aC (xPs gIx (aC (xV 1) (aC (xC (.str "count")) aN))) (aC (xP gLen (aC (xV 0) aN)) aN))) (xC (.int 0)))
def dC : XS := sSetH 4 (xM okGet gGet (xPs gIx (aC (xV 1) (aC (xC (.str "rests")) aN))) (aC (xV 3) (aC (xIf (bT (xV 0)) (xPs gIx (aC (xV 0) (aC (xV 3) aN))) (xC (.int 0))) aN)))
def dD : XS := sIf (bP gGe (aC (xV 4) (aC (xP gPow (aC (xC (.int 10)) (aC (xC (.int 18)) aN))) aN)))
 (sCons (sPutT (xPs gIx (aC (xV 1) (aC (xC (.str "rests")) aN))) (xV 3) (xP gDiv (aC (xV 4) (aC (xV 2) aN))))
 (sCons (sRet (xP gMod (aC (xV 4) (aC (xV 2) aN))))
 sNil))
 sNil
def dE : XS := (sCons (sSetH 5 (xP gMod (aC (xP gAdd (aC (xV 4) (aC (xP gMul (aC (xC (.int 104729)) (aC (xPs gIx (aC (xV 1) (aC (xC (.str "count")) aN))) aN))) aN))) (aC (xC (.int 4294967291)) aN))))
 (sCons (sSetH 5 (xP gMod (aC (xP gPow (aC (xV 5) (aC (xC (.int 5)) aN))) (aC (xC (.int 4294967279)) aN))))
 (sCons (sRet (xP gMod (aC (xP gDiv (aC (xP gMod (aC (xP gAdd (aC (xP gMul (aC (xP gDiv (aC (xV 5) (aC (xC (.int 64)) aN))) (aC (xC (.int 69621)) aN))) (aC (xV 5) aN))) (aC (xC (.int 4294967231)) aN))) (aC (xC (.int 8)) aN))) (aC (xV 2) aN))))
 sNil)))
theorem draw_split : xb__law_draw = sCons dA (sCons dB (sCons dC (sCons dD dE))) := rfl
def envN (ns : List Int) (t : Nat) (m : Int) (a b c : Option Sl) : EnvS := [some (.im (.scr ns)), some (.im (.tok t)), some (.im (.int m)), a, b, c]
section
variable {ns : List Int} {τ : Sto} {t r : Nat} {m c : Int}
theorem dA_ok (ht : τ[t]? = some (.dct [.str "count", .str "rests"] [.int c, .tok r])) : dA (envN ns t m none none none) τ = .nx (envN ns t m none none none) (τ.set t (.dct [.str "count", .str "rests"] [.int (c + 1), .tok r])) := by
  unfold dA envN
  simp only [sPutT, xP, xPs, aC, aN, xC, xV, showS, List.map_cons, List.map_nil, show1, List.getElem?_cons_zero, List.getElem?_cons_succ, ok_bind, gIx_c ht, lift_some, gAdd_i, bindS_ok, Dv.imm, if_true]
  rw [putT_n ht rfl (show big (2 + 1) = true by decide)]
  simp only [putKs, putVs, memD, List.any_cons, List.any_nil, cnt_key, cr_key, rc_key, Bool.true_or, if_true, replD, Bool.false_eq_true, if_false]
theorem dB_ok (ht : τ[t]? = some (.dct [.str "count", .str "rests"] [.int c, .tok r])) : ∃ k : Nat, dB (envN ns t m none none none) τ = .nx (envN ns t m (some (.im (kI k))) none none) τ ∧ (ns ≠ [] → k < ns.length) := by
  unfold dB envN
  cases ns with
  | nil =>
    refine ⟨0, ?_, fun h => absurd rfl h⟩
    simp only [sSetH, xIf, bT, hideS, List.map_cons, List.map_nil, hide1, xV, xC, List.getElem?_cons_zero, ok_bind, truD, List.isEmpty_nil, Bool.not_true, lift_some, Bool.false_eq_true, if_false, bindS_ok, List.set_cons_succ, List.set_cons_zero]
    rfl
  | cons n ns =>
    have hp : (0 : Int) < ((n :: ns).length : Int) := by simp only [List.length_cons]; omega
    refine ⟨(c % ((n :: ns).length : Int)).toNat, ?_, fun _ => ?_⟩
    · simp only [sSetH, xIf, bT, hideS, List.map_cons, List.map_nil, hide1, xV, xC, xP, xPs, aC, aN, List.getElem?_cons_zero, List.getElem?_cons_succ, ok_bind, truD, List.isEmpty_cons, Bool.not_false, lift_some, if_true, bindS_ok, List.set_cons_succ, List.set_cons_zero, gIx_c ht, gLen, gMod_i hp, kI]
      rw [Int.toNat_of_nonneg (Int.emod_nonneg _ (by omega))]
    · have := Int.emod_lt_of_pos c hp
      have := Int.emod_nonneg c (show ((n :: ns).length : Int) ≠ 0 by omega)
      omega
theorem dC_ok {k : Nat} {ks : List Nat} {zs : List Int} (hk : ns ≠ [] → k < ns.length) (ht : τ[t]? = some (.dct [.str "count", .str "rests"] [.int c, .tok r])) (hr : τ[r]? = some (.dct (ks.map kI) (zs.map .int))) (h0 : ns = [] → ks = []) :
    ∃ z : Int, dC (envN ns t m (some (.im (kI k))) none none) τ = .nx (envN ns t m (some (.im (kI k))) (some (.im (.int z))) none) τ ∧ (ns = [] → z = 0) := by
  have hg : ∀ z : Int, gGet [.tok r, kI k, .int z] τ = some ((lookK (kI k) (ks.map kI) (zs.map .int)).getD (.int z)) := fun z => by simp [gGet, dctOf, hr, kI, isKey]
  unfold dC envN
  cases ns with
  | nil =>
    rw [h0 rfl] at hg
    refine ⟨0, ?_, fun _ => rfl⟩
    simp only [sSetH, xM, xIf, bT, hideS, List.map_cons, List.map_nil, hide1, xV, xC, xP, xPs, aC, aN, List.getElem?_cons_zero, List.getElem?_cons_succ, ok_bind, truD, List.isEmpty_nil, Bool.not_true, lift_some, Bool.false_eq_true, if_false, if_true, bindS_ok, List.set_cons_succ, List.set_cons_zero, gIx_r ht, okGet, hr, hg, lookK, Option.getD_none]
  | cons n ns =>
    have hk' := hk (fun z => nomatch z)
    have hx : ∃ x : Int, gIx [.scr (n :: ns), kI k] τ = some (.int x) := by
      refine ⟨(n :: ns)[k], ?_⟩
      show (atI (n :: ns) (k : Int)).map Dv.int = _
      rw [atI_nat, List.getElem?_eq_getElem hk']; rfl
    obtain ⟨x, hx⟩ := hx
    obtain ⟨z, hz⟩ := look_int k ks zs x
    refine ⟨z, ?_, fun h => nomatch h⟩
    simp only [sSetH, xM, xIf, bT, hideS, List.map_cons, List.map_nil, hide1, xV, xC, xP, xPs, aC, aN, List.getElem?_cons_zero, List.getElem?_cons_succ, ok_bind, truD, List.isEmpty_cons, Bool.not_false, lift_some, if_true, bindS_ok, List.set_cons_succ, List.set_cons_zero, gIx_r ht, okGet, hr, hg, hx, hz]
theorem dDE_ok {k : Nat} {z : Int} {ks : List Nat} {zs : List Int} (hn : ns.length ≤ 63) (hm : 0 < m ∧ m < 1073741824) (hk : ns ≠ [] → k < ns.length) (hz : ns = [] → z = 0) (htr : t ≠ r) (ht : τ[t]? = some (.dct [.str "count", .str "rests"] [.int c, .tok r])) (hr : τ[r]? = some (.dct (ks.map kI) (zs.map .int)))
    (h1 : ks.Nodup) (h2 : ∀ k ∈ ks, k < ns.length) (h3 : ks.length = zs.length) :
    ∃ (n : Int) (τ' : Sto), sCons dD dE (envN ns t m (some (.im (kI k))) (some (.im (.int z))) none) τ = .rt (.int n) τ' ∧ 0 ≤ n ∧ n < m ∧ Town ns τ' t := by
  have d18 : ((10 : Int) ^ (18 : Int).toNat) = 1000000000000000000 := by decide
  have p18 : gPow [.int 10, .int 18] = some (.int 1000000000000000000) := by rw [gPow_i (by decide), d18]
  unfold dD envN
  simp only [sCons, sIf, bP, xP, showS, List.map_cons, List.map_nil, show1, xV, xC, aC, aN, List.getElem?_cons_zero, List.getElem?_cons_succ, ok_bind, p18, lift_some, gGe_i, bindS_ok]
  by_cases hb : (1000000000000000000 : Int) ≤ z
  · have hne : ns ≠ [] := fun q => by have := hz q; omega
    have hk' := hk hne
    have lz : big ((zs.map Dv.int).length + 1) = true := by
      have := nd_len h1 h2
      rw [List.length_map]
      exact decide_eq_true (by omega)
    obtain ⟨ks', zs', e1, e2, e3, e4, e5⟩ := put_int k (z / m) ns.length hk' ks zs h1 h2 h3
    refine ⟨z % m, τ.set r (.dct (ks'.map kI) (zs'.map .int)), ?_, Int.emod_nonneg _ (by omega), Int.emod_lt_of_pos _ hm.1, ?_⟩
    · simp only [hb, decide_true, if_true, sPutT, xP, xPs, showS, List.map_cons, List.map_nil, show1, xV, xC, aC, aN, List.getElem?_cons_zero, List.getElem?_cons_succ, ok_bind, gDiv_i hm, gMod_i hm.1, lift_some, bindS_ok, Dv.imm, gIx_r ht, putT_n hr (show isKey (kI k) = true from rfl) lz, e1, e2, sRet]
    · refine ⟨r, c, ks', zs', htr, ?_, get_set_same hr, e3, e4, e5⟩
      rw [get_set_ne fun q => htr q.symm]
      exact ht
  · have E : ∃ y : Int, (match (if decide ((1000000000000000000 : Int) ≤ z) = true then SR.bad else .nx (envN ns t m (some (.im (kI k))) (some (.im (.int z))) none) τ) with | .nx ρ1 τ1 => dE ρ1 τ1 | r => r) = .rt (.int (y % m)) τ := ⟨_, by
      unfold dE envN
      simp only [hb, decide_false, Bool.false_eq_true, if_false, sCons, sNil, sSetH, sRet, hideS, hide1, xP, xPs, showS, List.map_cons, List.map_nil, show1, xV, xC, aC, aN, List.getElem?_cons_zero, List.getElem?_cons_succ, ok_bind, lift_some, bindS_ok, gIx_c ht, gAdd_i, gMul_i (i := 104729) (j := c) (by simp [mulOk]), gMod_i (j := 4294967291) (by decide), gMod_i (j := 4294967279) (by decide), gMod_i (j := 4294967231) (by decide), List.set_cons_succ, List.set_cons_zero]
      rw [gPow_i]
      · simp only [lift_some, ok_bind, bindS_ok, gMod_i (j := 4294967279) (by decide), gDiv_i (j := 64) (by decide), gDiv_i (j := 8) (by decide), gMul_i (j := 69621) (by simp [mulOk]), gMod_i (j := 4294967231) (by decide), gAdd_i, gMod_i hm.1, List.map_cons, List.map_nil, show1, hide1, List.getElem?_cons_zero, List.getElem?_cons_succ, List.set_cons_succ, List.set_cons_zero]
        rfl
      · refine ⟨by decide, by decide, ?_⟩
        have a1 := Int.emod_nonneg (z + 104729 * c) (show (4294967291 : Int) ≠ 0 by decide)
        have a2 := Int.emod_lt_of_pos (z + 104729 * c) (show (0 : Int) < 4294967291 by decide)
        omega⟩
    obtain ⟨y, E⟩ := E
    refine ⟨y % m, τ, ?_, Int.emod_nonneg _ (by omega), Int.emod_lt_of_pos _ hm.1, ⟨r, c, ks, zs, htr, ht, hr, h1, h2, h3⟩⟩
    rw [← E]
    simp only [hb, decide_false, Bool.false_eq_true, if_false, sNil, envN]
end
theorem draw_ok {ns : List Int} {τ : Sto} {t : Nat} {m : Int} (hn : ns.length ≤ 63) (T : Town ns τ t) (h0 : 0 < m) (h1 : m < 1073741824) : ∃ n τ', F__law_draw [.scr ns, .tok t, .int m] τ = .ok (.int n) τ' ∧ 0 ≤ n ∧ n < m ∧ Town ns τ' t := by
  obtain ⟨r, c, ks, zs, hr, ht, hr', k1, k2, k3⟩ := T.ex
  have q1 := get_set_same (y := .dct [.str "count", .str "rests"] [.int (c + 1), .tok r]) ht
  have q2 := (get_set_ne (τ := τ) (y := .dct [.str "count", .str "rests"] [.int (c + 1), .tok r]) hr).trans hr'
  obtain ⟨k, b1, b2⟩ := dB_ok (ns := ns) (m := m) q1
  obtain ⟨z, c1, c2⟩ := dC_ok (m := m) b2 q1 q2 fun e => by
    subst e
    cases ks with
    | nil => rfl
    | cons k ks => exact absurd (k2 k List.mem_cons_self) (by simp)
  obtain ⟨n, τ', d1, d2, d3, d4⟩ := dDE_ok hn ⟨h0, h1⟩ b2 c2 hr q1 q2 k1 k2 k3
  refine ⟨n, τ', ?_, d2, d3, d4⟩
  unfold F__law_draw runF
  rw [draw_split]
  have s0 : startD 6 [.scr ns, .tok t, .int m] = envN ns t m none none none := rfl
  rw [s0]
  rw [show ∀ (f g : XS) ρ τ, sCons f g ρ τ = (match f ρ τ with | .nx ρ1 τ1 => g ρ1 τ1 | r => r) from fun _ _ _ _ => rfl, dA_ok ht]
  simp only []
  rw [show ∀ (f g : XS) ρ τ, sCons f g ρ τ = (match f ρ τ with | .nx ρ1 τ1 => g ρ1 τ1 | r => r) from fun _ _ _ _ => rfl, b1]
  simp only []
  rw [show ∀ (f g : XS) ρ τ, sCons f g ρ τ = (match f ρ τ with | .nx ρ1 τ1 => g ρ1 τ1 | r => r) from fun _ _ _ _ => rfl, c1]
  simp only []
  rw [d1]
end Lk02
end
section
set_option Elab.async false
set_option linter.all false
set_option maxRecDepth 100000
namespace Lk02
open PySem PySem.Spec PyProof.Rows L2 Mv
abbrev eS : Str := ""
def rL (xs ys : List Str) : Bool := PySem.W.rowLt (xs.map .str) (ys.map .str)
theorem rL_nn : rL [] [] = false := lex_irrefl (O := itemOrd) _
theorem rL_nc (y : Str) (ys : List Str) : rL [] (y :: ys) = true := by
  unfold rL PySem.W.rowLt
  rw [List.map_cons, PySem.W.toks_all_cons]
  simp only [List.map_nil, PySem.W.keyToksAll]
  rw [lex_diff (O := itemOrd) (by simp)]
  rfl
theorem rL_cn (x : Str) (xs : List Str) : rL (x :: xs) [] = false := by
  unfold rL PySem.W.rowLt
  rw [List.map_cons, PySem.W.toks_all_cons]
  simp only [List.map_nil, PySem.W.keyToksAll]
  rw [lex_diff (O := itemOrd) (by simp)]
  rfl
theorem rL_cc (x y : Str) (xs ys : List Str) : rL (x :: xs) (y :: ys) = if x = y then rL xs ys else decide (x.cps.toList < y.cps.toList) := by
  unfold rL PySem.W.rowLt
  rw [List.map_cons, List.map_cons, PySem.W.dataLt_cons (by simp [PySem.W.alike]), PySem.W.dataLt_str]
  simp only [PyData.eqv, beq_iff_eq]
theorem rL_app : ∀ {r r' : List Str} (a b : List Str), r.length = r'.length → rL r r' = true → rL (r ++ a) (r' ++ b) = true
  | [], [], a, b, _, h => by rw [rL_nn] at h; cases h
  | x :: r, y :: r', a, b, hl, h => by
    rw [rL_cc] at h
    rw [List.cons_append, List.cons_append, rL_cc]
    by_cases e : x = y
    · rw [if_pos e] at h ⊢
      exact rL_app a b (by simpa using hl) h
    · rw [if_neg e] at h ⊢
      exact h
  | [], _ :: _, _, _, hl, _ => by simp at hl
  | _ :: _, [], _, _, hl, _ => by simp at hl
theorem rL_pre : ∀ (r a b : List Str), rL (r ++ a) (r ++ b) = rL a b
  | [], _, _ => rfl
  | x :: r, a, b => by rw [List.cons_append, List.cons_append, rL_cc, if_pos rfl, rL_pre r a b]
theorem rL_tot : ∀ {r r' : List Str}, rL r r' = false → rL r' r = false → r = r'
  | [], [], _, _ => rfl
  | [], y :: ys, h, _ => by rw [rL_nc] at h; cases h
  | x :: xs, [], _, h => by rw [rL_nc] at h; cases h
  | x :: xs, y :: ys, h1, h2 => by
    rw [rL_cc] at h1 h2
    by_cases e : x = y
    · rw [if_pos e] at h1
      rw [if_pos e.symm] at h2
      rw [e, rL_tot h1 h2]
    · rw [if_neg e] at h1
      rw [if_neg (fun z => e z.symm)] at h2
      have h1 := of_decide_eq_false h1
      have h2 := of_decide_eq_false h2
      exact absurd (PySem.W.str_of_cps (List.le_antisymm (List.not_lt.mp h2) (List.not_lt.mp h1))) e
theorem rL_asymm {r r' : List Str} (h : rL r r' = true) : rL r' r = false := KeyOrd.klt_asymm (O := listOrd itemOrd) h
/-- the order of the rows -/
def rLe (a b : List Str) : Bool := !rL b a
theorem rLe_eq : rLe = PySem.W.dataLe false (fun r : List Str => .list (r.map .str)) := by
  funext a b
  show _ = !PySem.W.dataLt _ _
  rw [PySem.W.dataLt_list]
  rfl
theorem rLe_tot : PySem.W.TotalLe rLe := by
  rw [rLe_eq]
  exact PySem.W.sortLe_total _ _ _
/-- the order of the texts -/
def sLe (a b : Str) : Bool := decide (a.cps.toList ≤ b.cps.toList)
theorem sLe_tot : PySem.W.TotalLe sLe where
  trans a b c h1 h2 := decide_eq_true (List.le_trans (of_decide_eq_true h1) (of_decide_eq_true h2))
  total a b := by
    rcases List.le_total a.cps.toList b.cps.toList with h | h
    · exact .inl (decide_eq_true h)
    · exact .inr (decide_eq_true h)
def stepR (H : List Str) (f : List (List Str)) : List (List Str) := f.flatMap fun r => (eS :: H.filter fun h => !decide (h ∈ r)).map fun h => r ++ [h]
theorem flat_perm {α β : Type} {f g : α → List β} : ∀ (l : List α), (∀ a, (f a).Perm (g a)) → (l.flatMap f).Perm (l.flatMap g)
  | [], _ => .refl _
  | a :: l, h => by rw [List.flatMap_cons, List.flatMap_cons]; exact (h a).append (flat_perm l h)
theorem stepR_perm {H H' : List Str} {f f' : List (List Str)} (h : H.Perm H') (g : f.Perm f') : (stepR H f).Perm (stepR H' f') := by
  unfold stepR
  exact (g.flatMap_right _).trans (flat_perm f' fun r => ((h.filter _).cons _).map _)
theorem stepR_len {H : List Str} {f : List (List Str)} {n : Nat} (h : ∀ r ∈ f, r.length = n) : ∀ r ∈ stepR H f, r.length = n + 1 := by
  intro r hr
  unfold stepR at hr
  obtain ⟨q, hq, h2⟩ := List.mem_flatMap.mp hr
  obtain ⟨x, _, rfl⟩ := List.mem_map.mp h2
  simp [h q hq]
theorem stepR_sort {H : List Str} {f : List (List Str)} {n : Nat} (h : ∀ r ∈ f, r.length = n) (hs : f.Pairwise fun a b => rL a b = true) (hH : (eS :: H).Pairwise fun a b => a.cps.toList < b.cps.toList) : (stepR H f).Pairwise fun a b => rL a b = true := by
  unfold stepR
  rw [List.pairwise_flatMap]
  refine ⟨fun r _ => ?_, ?_⟩
  · rw [List.pairwise_map]
    have : (eS :: H.filter fun h => !decide (h ∈ r)).Sublist (eS :: H) := List.Sublist.cons_cons _ List.filter_sublist
    refine (hH.sublist this).imp fun {a b} q => ?_
    rw [rL_pre, rL_cc]
    have : a ≠ b := by rintro rfl; exact List.lt_irrefl _ q
    rw [if_neg this]
    exact decide_eq_true q
  · refine hs.imp_of_mem fun {a b} ha hb q => ?_
    intro x hx y hy
    obtain ⟨_, _, rfl⟩ := List.mem_map.mp hx
    obtain ⟨_, _, rfl⟩ := List.mem_map.mp hy
    exact rL_app _ _ ((h a ha).trans (h b hb).symm) q
theorem rows_eq {l m : List (List Str)} (hp : m.Perm l) (hs : m.Pairwise fun a b => rL a b = true) : l.mergeSort rLe = m := by
  have s1 := List.pairwise_mergeSort (le := rLe) (fun a b c => rLe_tot.trans a b c) (fun a b => by rcases rLe_tot.total a b with h | h <;> simp [h]) l
  have s2 : m.Pairwise fun a b => rLe a b = true := hs.imp fun {a b} q => by
    unfold rLe
    rw [rL_asymm q]; rfl
  refine List.Perm.eq_of_pairwise (le := fun a b => rLe a b = true) (fun a b _ _ h1 h2 => ?_) s1 s2 ((List.mergeSort_perm l _).trans hp.symm)
  unfold rLe at h1 h2
  rw [Bool.not_eq_true'] at h1 h2
  exact rL_tot h2 h1
theorem sorted_strict {H : List Str} (hn : H.Nodup) (he : eS ∉ H) : (eS :: H.mergeSort sLe).Pairwise fun a b => a.cps.toList < b.cps.toList := by
  have s1 := List.pairwise_mergeSort (le := sLe) (fun a b c => sLe_tot.trans a b c) (fun a b => by rcases sLe_tot.total a b with h | h <;> simp [h]) H
  have n1 : (H.mergeSort sLe).Nodup := (List.mergeSort_perm H _).nodup_iff.mpr hn
  rw [List.pairwise_cons]
  constructor
  · intro b hb
    have hb' : b ∈ H := (List.mergeSort_perm H _).mem_iff.mp hb
    have : b ≠ eS := by rintro rfl; exact he hb'
    have e0 : eS.cps.toList = [] := rfl
    rw [e0]
    cases e : b.cps.toList with
    | nil => exact absurd (PySem.W.str_of_cps (e.trans e0.symm)) this
    | cons x xs => exact List.nil_lt_cons _ _
  · refine (s1.and n1).imp fun {a b} q => ?_
    have := of_decide_eq_true q.1
    rcases List.le_iff_lt_or_eq.mp this with h | h
    · exact h
    · exact absurd (PySem.W.str_of_cps h) q.2
/-- the standings are the law's -/
theorem stand_eq (Hs : List (List Str)) (h : ∀ H ∈ Hs, H.Nodup ∧ eS ∉ H) : (Hs.foldl (fun f H => stepR H f) [[]]).mergeSort rLe = Hs.foldl (fun f H => stepR (H.mergeSort sLe) f) [[]] := by
  have key : ∀ (Hs : List (List Str)) (f g : List (List Str)) (n : Nat), (∀ H ∈ Hs, H.Nodup ∧ eS ∉ H) → g.Perm f → (∀ r ∈ g, r.length = n) → g.Pairwise (fun a b => rL a b = true) →
      (Hs.foldl (fun f H => stepR (H.mergeSort sLe) f) g).Perm (Hs.foldl (fun f H => stepR H f) f) ∧ (Hs.foldl (fun f H => stepR (H.mergeSort sLe) f) g).Pairwise (fun a b => rL a b = true) := by
    intro Hs
    induction Hs with
    | nil => intro f g n _ p _ q; exact ⟨p, q⟩
    | cons H Hs ih =>
      intro f g n hh p l q
      rw [List.foldl_cons, List.foldl_cons]
      obtain ⟨h1, h2⟩ := hh H List.mem_cons_self
      exact ih _ _ (n + 1) (fun H' m => hh H' (List.mem_cons_of_mem _ m)) (stepR_perm (List.mergeSort_perm H _) p) (stepR_len l) (stepR_sort l q (sorted_strict h1 h2))
  obtain ⟨p, q⟩ := key Hs [[]] [[]] 0 h (List.Perm.refl _) (by simp) (List.pairwise_singleton _ _)
  exact rows_eq p q
end Lk02
end
section
set_option Elab.async false
set_option linter.all false
set_option maxRecDepth 100000
namespace Lk02
open PySem PySem.Spec PyProof.Rows L2 Mv
def sDs (l : List Str) : List Dv := l.map .str
theorem gLen_l (l : List Dv) : gLen [.lst l] = some (.int l.length) := rfl
theorem gLt_i (i j : Int) : gLt [.int i, .int j] = some (decide (i < j)) := rfl
theorem sc_cons (f g : XS) (ρ : EnvS) (τ : Sto) : sCons f g ρ τ = (match f ρ τ with | .nx ρ1 τ1 => g ρ1 τ1 | r => r) := rfl
theorem sDs_len (l : List Str) : (sDs l).length = l.length := List.length_map _
theorem dok_sDs {l : List Str} (h : ∀ x ∈ l, PyData.strOk x = true) (n : Nat) : Dv.dokL n (sDs l) = true := by
  rw [dokL_all, List.all_eq_true]
  intro d hd
  obtain ⟨x, hx, rfl⟩ := List.mem_map.mp hd
  simpa [Dv.dok] using h x hx
theorem okq_lst {l : List Str} (h : ∀ x ∈ l, PyData.strOk x = true) : (Dv.lst (sDs l)).okq = true := dok_sDs h 59
theorem okq_tup {l : List Str} (h : ∀ x ∈ l, PyData.strOk x = true) : (Dv.tup (sDs l)).okq = true := dok_sDs h 59
theorem gNe_eq {d e : Dv} (h1 : d.okq = true) (h2 : e.okq = true) : gNe [d, e] = some (!d.eqv e) := by simp [gNe, h1, h2]
theorem gEq_eq {d e : Dv} (h1 : d.okq = true) (h2 : e.okq = true) : gEq [d, e] = some (d.eqv e) := by simp [gEq, h1, h2]
theorem erase_map {α β : Type} (f : α → β) : ∀ (l : List α) (k : Nat), (l.map f).eraseIdx k = (l.eraseIdx k).map f
  | [], _ => rfl
  | _ :: _, 0 => rfl
  | a :: l, k + 1 => by rw [List.map_cons, List.eraseIdx_cons_succ, List.eraseIdx_cons_succ, List.map_cons, erase_map f l k]
theorem erase_perm {α : Type} : ∀ (l : List α) (k : Nat) (h : k < l.length), (l[k] :: l.eraseIdx k).Perm l
  | a :: l, 0, _ => .refl _
  | a :: l, k + 1, h => by
    rw [List.eraseIdx_cons_succ, List.getElem_cons_succ]
    exact (List.Perm.swap _ _ _).trans ((erase_perm l k (by simpa using h)).cons a)
theorem len_b {n : Nat} (h : n ≤ 60) : (n : Int) < 1073741824 := by omega
theorem big_b {n : Nat} (h : n ≤ 60) : big (n + 1) = true := decide_eq_true (by omega)
theorem appPop_ok {i j : Nat} {f : XD} {ρ : EnvS} {τ τ1 : Sto} {k d : Dv} {ds ds' es : List Dv} (h1 : ρ[i]? = some (some (.own (.lst es)))) (h2 : ρ[j]? = some (some (.own (.lst ds)))) (hf : f (showS ρ) τ = .ok k τ1) (hp : popAt k ds = some (d, ds'))
    (h3 : (ρ.set j (some (.own (.lst ds'))))[i]? = some (some (.own (.lst es)))) (hb : big (es.length + 1) = true) : sAppPop i j f ρ τ = .nx ((ρ.set j (some (.own (.lst ds')))).set i (some (.own (.lst (es ++ [d]))))) τ1 := by
  have o1 : ownL i ρ = true := by simp [ownL, h1]
  have o2 : ownL j ρ = true := by simp [ownL, h2]
  unfold sAppPop
  rw [o1, o2, if_neg (by simp), hf, bindS_ok]
  unfold appPopS
  rw [h2]
  simp only [hp]
  unfold appS
  rw [h3]
  simp only [hb, if_true]
theorem pop_ok {rest : List Str} {k : Nat} (hk : k < rest.length) (hl : rest.length ≤ 60) : popAt (.int k) (sDs rest) = some (.str rest[k], sDs (rest.eraseIdx k)) := by
  have s1 : seqIndex? (k : Int) (sDs rest).length = some k := by
    unfold seqIndex?
    rw [sDs_len]
    simp; omega
  have b : -(2 ^ 63 : Int) ≤ (k : Int) ∧ (k : Int) < 2 ^ 63 := by
    have e : (2 ^ 63 : Int) = 9223372036854775808 := by decide
    rw [e]; omega
  simp only [popAt]
  rw [if_pos b, s1, Option.bind_some]
  unfold sDs
  rw [List.getElem?_map, List.getElem?_eq_getElem hk, erase_map]
  rfl
theorem ne_nil {l : List Str} (h : ∀ x ∈ l, PyData.strOk x = true) : gNe [.lst (sDs l), .lst []] = some (!l.isEmpty) := by
  rw [gNe_eq (okq_lst h) rfl]
  cases l with
  | nil => rfl
  | cons a l => rfl
def envM (ns : List Int) (t : Nat) (names rest found : List Str) : EnvS := [some (.im (.scr ns)), some (.im (.tok t)), some (.im (.tup (sDs names))), some (.im (.int 1)), some (.own (.lst (sDs rest))), some (.own (.lst (sDs found)))]
def mC : XB := bAnd (bP gNe (aC (xV 4) (aC (xLst aN) aN))) (bOr (bP gLt (aC (xP gLen (aC (xV 5) aN)) (aC (xV 3) aN))) (bP gGt (aC (xF (callF 3 F__law_draw) (aC (xV 0) (aC (xV 1) (aC (xC (.int 5)) aN)))) (aC (xC (.int 0)) aN))))
def mB : XS := sCons (sAppPop 5 4 (xF (callF 3 F__law_draw) (aC (xV 0) (aC (xV 1) (aC (xP gLen (aC (xV 4) aN)) aN))))) sNil
theorem mixed_split : xb__law_mixed = sCons (sParH [4, 5] [true, true] (aC (xP gList (aC (xV 2) aN)) (aC (xLst aN) aN))) (sCons (sWhile 64 mC mB) (sCons (sRet (xP gTuple (aC (xV 5) aN))) sNil)) := rfl
section
variable {ns : List Int} {t : Nat} {names : List Str} (hn : ns.length ≤ 63)
include hn
theorem mC_ok {rest found : List Str} {τ : Sto} (T : Town ns τ t) (h : ∀ x ∈ rest, PyData.strOk x = true) : ∃ b τ', mC (showS (envM ns t names rest found)) τ = .ok b τ' ∧ Town ns τ' t ∧ (b = true → rest ≠ []) := by
  have E : mC (showS (envM ns t names rest found)) τ = if (!rest.isEmpty) = true then (if decide ((found.length : Int) < 1) = true then .ok true τ else ((F__law_draw [.scr ns, .tok t, .int 5] τ).bind fun d τ1 => (lift (gGt [d, .int 0]) τ1))) else .ok false τ := by
    unfold mC envM
    simp only [bAnd, bOr, bP, xP, xF, xLst, callF, showS, List.map_cons, List.map_nil, show1, xV, xC, aC, aN, List.getElem?_cons_zero, List.getElem?_cons_succ, ok_bind, List.length_nil, List.length_cons, show big 0 = true from rfl, if_true, ne_nil h, lift_some, gLen_l, gLt_i, sDs_len, List.length_map, Nat.zero_add, Nat.reduceAdd, bind_assoc]
  rw [E]
  by_cases hr : rest = []
  · subst hr
    exact ⟨false, τ, rfl, T, fun z => nomatch z⟩
  · rw [if_pos (by simp [hr])]
    by_cases hf : ((found.length : Int) < 1)
    · rw [if_pos (decide_eq_true hf)]
      exact ⟨true, τ, rfl, T, fun _ => hr⟩
    · rw [if_neg (by simp only [hf, decide_false]; exact Bool.false_ne_true)]
      obtain ⟨n, τ', e, _, _, T'⟩ := draw_ok (m := 5) hn T (by decide) (by decide)
      rw [e, ok_bind]
      exact ⟨decide (0 < n), τ', rfl, T', fun _ => hr⟩
theorem mB_ok {rest found : List Str} {τ : Sto} (T : Town ns τ t) (hr : rest ≠ []) (hl : rest.length ≤ 60) (hf : found.length ≤ 60) : ∃ rest' found' τ', mB (envM ns t names rest found) τ = .nx (envM ns t names rest' found') τ' ∧ Town ns τ' t ∧ rest'.length + 1 = rest.length ∧ (rest' ++ found').Perm (rest ++ found) := by
  have hp : 0 < rest.length := List.length_pos_iff.mpr hr
  obtain ⟨n, τ', e, n0, n1, T'⟩ := draw_ok (m := (rest.length : Int)) hn T (Int.natCast_pos.mpr hp) (len_b hl)
  obtain ⟨k, rfl⟩ := Int.eq_ofNat_of_zero_le n0
  have hk : k < rest.length := Int.ofNat_lt.mp n1
  refine ⟨rest.eraseIdx k, found ++ [rest[k]], τ', ?_, T', ?_, ?_⟩
  · have hp := pop_ok hk hl
    have hf' : (xF (callF 3 F__law_draw) (aC (xV 0) (aC (xV 1) (aC (xP gLen (aC (xV 4) aN)) aN)))) (showS (envM ns t names rest found)) τ = .ok (.int k) τ' := by
      rw [← e]
      unfold envM
      simp only [xF, xP, aC, aN, xV, showS, List.map_cons, List.map_nil, show1, List.getElem?_cons_zero, List.getElem?_cons_succ, ok_bind, lift_some, gLen_l, sDs_len]
      rfl
    unfold mB
    rw [sc_cons, appPop_ok (ρ := envM ns t names rest found) (es := sDs found) rfl rfl hf' hp rfl (by rw [sDs_len]; exact big_b hf)]
    simp only [sNil]
    unfold envM
    simp only [List.set_cons_succ, List.set_cons_zero, sDs, List.map_append, List.map_cons, List.map_nil]
  · rw [List.length_eraseIdx_of_lt hk]; omega
  · have := erase_perm rest k hk
    refine List.Perm.trans ?_ (this.append_right found)
    rw [List.cons_append, ← List.append_assoc]
    exact List.perm_append_singleton _ _
theorem mW_ok : ∀ (n : Nat) {rest found : List Str} {τ : Sto}, Town ns τ t → (∀ x ∈ rest ++ found, PyData.strOk x = true) → rest.length < n → rest.length + found.length ≤ 60 → ∃ rest' found' τ', whileS mC mB n (envM ns t names rest found) τ = .nx (envM ns t names rest' found') τ' ∧ Town ns τ' t ∧ (rest' ++ found').Perm (rest ++ found)
  | 0, _, _, _, _, _, h, _ => absurd h (Nat.not_lt_zero _)
  | n + 1, rest, found, τ, T, h, hl, hs => by
    obtain ⟨b, τ1, e1, T1, hb⟩ := mC_ok (names := names) (found := found) hn T fun x hx => h x (List.mem_append_left _ hx)
    rw [whileS, e1, bindS_ok]
    cases b with
    | false => exact ⟨rest, found, τ1, rfl, T1, .refl _⟩
    | true =>
      obtain ⟨rest1, found1, τ2, e2, T2, l2, p2⟩ := mB_ok (names := names) (found := found) hn T1 (hb rfl) (by omega) (by omega)
      have lp := p2.length_eq
      rw [List.length_append, List.length_append] at lp
      have h1 : ∀ x ∈ rest1 ++ found1, PyData.strOk x = true := fun x hx => h x (p2.mem_iff.mp hx)
      obtain ⟨rest', found', τ', e3, T3, p3⟩ := mW_ok n (τ := τ2) T2 h1 (by omega) (by omega) 
      refine ⟨rest', found', τ', ?_, T3, p3.trans p2⟩
      rw [if_pos rfl, e2]
      exact e3
theorem mixed_ok {τ : Sto} (T : Town ns τ t) (h : ∀ x ∈ names, PyData.strOk x = true) (hl : names.length ≤ 60) (hd : names.Nodup) : ∃ found τ', F__law_mixed [.scr ns, .tok t, .tup (sDs names), .int 1] τ = .ok (.tup (sDs found)) τ' ∧ Town ns τ' t ∧ found.Nodup ∧ ∀ x ∈ found, x ∈ names := by
  obtain ⟨rest', found', τ', e, T', p⟩ := mW_ok (names := names) (found := []) hn 64 T (by rw [List.append_nil]; exact h) (by omega) (by simpa using hl)
  rw [List.append_nil] at p
  refine ⟨found', τ', ?_, T', ?_, fun x hx => p.mem_iff.mp (List.mem_append_right _ hx)⟩
  · unfold F__law_mixed runF
    rw [mixed_split, sc_cons]
    have s1 : sParH [4, 5] [true, true] (aC (xP gList (aC (xV 2) aN)) (aC (xLst aN) aN)) (startD 6 [.scr ns, .tok t, .tup (sDs names), .int 1]) τ = .nx (envM ns t names names []) τ := by
      unfold envM
      simp only [sParH, startD, List.map_cons, List.map_nil, List.length_cons, List.length_nil, List.replicate, Nat.zero_add, Nat.reduceAdd, Nat.reduceSub, List.cons_append, List.nil_append, hideS, hide1, xP, xLst, aC, aN, xV, List.getElem?_cons_zero, List.getElem?_cons_succ, ok_bind, gList, lift_some, show big 0 = true from rfl, if_true, bindS_ok, putsM, slotM, List.set_cons_succ, List.set_cons_zero]
      rfl
    rw [s1]
    simp only [sc_cons, sWhile, e]
    unfold envM
    simp only [sRet, xP, aC, aN, xV, showS, List.map_cons, List.map_nil, show1, List.getElem?_cons_zero, List.getElem?_cons_succ, ok_bind, gTuple, lift_some, bindS_ok]
  · exact (List.nodup_append.mp (p.nodup_iff.mpr hd)).2.1
end
end Lk02
end
section
set_option Elab.async false
set_option linter.all false
set_option maxRecDepth 100000
namespace Lk02
open PySem PySem.Spec PyProof.Rows L2 Mv
def rowD (p : Str × List Str) : Dv := .tup [.str p.1, .tup (sDs p.2)]
structure Book where
  rows : List (Str × List Str)
  likes : List (Str × List Str)
def bookD (b : Book) : Dv := .tup [.tup (b.rows.map rowD), .tup (b.likes.map rowD)]
def hou5 : List Str := ["barn", "cot", "den", "hut", "inn"]
def peo5 : List Str := ["ann", "bob", "cat", "dan", "eve"]
structure BookOk (b : Book) : Prop where
  hh : ∃ k : Nat, b.rows.map (·.1) = hou5.take (k + 1)
  pp : ∃ k : Nat, b.likes.map (·.1) = peo5.take (k + 1)
  rr : ∀ p ∈ b.rows, p.2.Nodup ∧ ∀ x ∈ p.2, x ∈ b.likes.map (·.1)
  ll : ∀ p ∈ b.likes, p.2.Nodup ∧ ∀ x ∈ p.2, x ∈ b.rows.map (·.1)
section
variable {f g h k : XD} {ρ : EnvD} {τ τ1 τ2 τ3 τ4 τ5 : Sto} {d e d3 d4 r : Dv} {a : XL} {ds : List Dv}
theorem aC_ok (h1 : f ρ τ = .ok d τ1) (h2 : a ρ τ1 = .ok ds τ2) : aC f a ρ τ = .ok (d :: ds) τ2 := by unfold aC; rw [h1, ok_bind, h2, ok_bind]
theorem aN_ok : aN ρ τ = .ok [] τ := rfl
theorem xP_ok {p : List Dv → Option Dv} (h1 : a ρ τ = .ok ds τ1) (h2 : p ds = some r) : xP p a ρ τ = .ok r τ1 := by unfold xP; rw [h1, ok_bind, h2]; rfl
theorem bP_ok {p : List Dv → Option Bool} {b : Bool} (h1 : a ρ τ = .ok ds τ1) (h2 : p ds = some b) : bP p a ρ τ = .ok b τ1 := by unfold bP; rw [h1, ok_bind, h2]; rfl
theorem xPs_ok {p : List Dv → Sto → Option Dv} (h1 : a ρ τ = .ok ds τ1) (h2 : p ds τ1 = some r) : xPs p a ρ τ = .ok r τ1 := by unfold xPs; rw [h1, ok_bind, h2]; rfl
theorem xF_ok {n : Nat} {F : List Dv → Sto → Res Dv} (h1 : a ρ τ = .ok ds τ1) (hl : ds.length = n) (h2 : F ds τ1 = .ok r τ2) : xF (callF n F) a ρ τ = .ok r τ2 := by unfold xF callF; rw [h1, ok_bind, if_pos hl, h2]
theorem xTup_ok (h1 : a ρ τ = .ok ds τ1) (hb : big ds.length = true) : xTup a ρ τ = .ok (.tup ds) τ1 := by unfold xTup; rw [h1, ok_bind, if_pos hb]
theorem xLst_ok (h1 : a ρ τ = .ok ds τ1) (hb : big ds.length = true) : xLst a ρ τ = .ok (.lst ds) τ1 := by unfold xLst; rw [h1, ok_bind, if_pos hb]
theorem iSeq_ok (h1 : f ρ τ = .ok d τ1) (h2 : seqD d = some ds) : iSeq f ρ τ = .ok ds τ1 := by unfold iSeq; rw [h1, ok_bind, h2]; rfl
theorem iSeqT_ok (h1 : f ρ τ = .ok d τ1) (h2 : seqD d = some ds) (h3 : ds.all isTup = true) : iSeqT f ρ τ = .ok ds τ1 := by unfold iSeqT; rw [iSeq_ok h1 h2, ok_bind, if_pos h3]
theorem xComp_ok {own : List Nat} {t : Tgt} {i : XI} {c : XB} {es : List Dv} (h1 : i ρ τ = .ok ds τ1) (hb : big ds.length = true) (h2 : compL own t c f ρ ds τ1 = .ok es τ2) : xComp own t i c f ρ τ = .ok (.lst es) τ2 := by unfold xComp; rw [h1, ok_bind, if_pos hb, h2]; rfl
theorem xB_ok {c : XB} {b : Bool} (h1 : c ρ τ = .ok b τ1) : xB c ρ τ = .ok (.bl b) τ1 := by unfold xB; rw [h1]; rfl
theorem bT_ok {b : Bool} (h1 : f ρ τ = .ok d τ1) (h2 : truD d = some b) : bT f ρ τ = .ok b τ1 := by unfold bT; rw [h1, ok_bind, h2]; rfl
theorem bNot_ok {c : XB} {b : Bool} (h1 : c ρ τ = .ok b τ1) : bNot c ρ τ = .ok (!b) τ1 := by unfold bNot; rw [h1]; rfl
end
section
variable {f : XD} {ρ : EnvS} {τ τ1 τ2 : Sto} {d : Dv} {i : Nat}
theorem sSetH_ok (h : f (hideS ρ) τ = .ok d τ1) : sSetH i f ρ τ = .nx (ρ.set i (some (.im d))) τ1 := by unfold sSetH; rw [h]; rfl
theorem sRet_ok (h : f (showS ρ) τ = .ok d τ1) : sRet f ρ τ = .rt d τ1 := by unfold sRet; rw [h]; rfl
theorem sIf_ok {c : XB} {g k : XS} {b : Bool} (h : c (showS ρ) τ = .ok b τ1) : sIf c g k ρ τ = if b = true then g ρ τ1 else k ρ τ1 := by unfold sIf; rw [h]; rfl
theorem sExp_ok (h : f (showS ρ) τ = .ok d τ1) : sExp f ρ τ = .nx ρ τ1 := by unfold sExp; rw [h]; rfl
theorem sc_nx {g k : XS} {ρ1 : EnvS} (h : g ρ τ = .nx ρ1 τ1) : sCons g k ρ τ = k ρ1 τ1 := by unfold sCons; rw [h]
theorem sc_rt {g k : XS} (h : g ρ τ = .rt d τ1) : sCons g k ρ τ = .rt d τ1 := by unfold sCons; rw [h]
theorem sFor_ok {t : Tgt} {j : XI} {b : XS} {ds : List Dv} (h : j (hideS ρ) τ = .ok ds τ1) : sFor t j b ρ τ = loopS t b ds ρ τ1 := by unfold sFor; rw [h]; rfl
end
theorem cut_take {α : Type} (xs : List α) (k : Nat) : cutL xs none (some (k : Int)) = xs.take k := by
  unfold cutL
  rw [HT.sIx_none, HT.sIx_nat, List.drop_zero, Nat.sub_zero]
  by_cases h : k ≤ xs.length
  · rw [Nat.min_eq_left h]
  · rw [Nat.min_eq_right (by omega), List.take_of_length_le (Nat.le_refl _), List.take_of_length_le (by omega)]
theorem cut_sDs (l : List Str) (k : Nat) : gSl (.tup (sDs l)) none (some (k : Int)) = some (.tup (sDs (l.take k))) := by
  simp only [gSl, cut_take, sDs, List.map_take]
theorem hou_ok : ∀ x ∈ hou5, PyData.strOk x = true := by decide +kernel
theorem peo_ok : ∀ x ∈ peo5, PyData.strOk x = true := by decide +kernel
theorem hou_nd : hou5.Nodup := by decide +kernel
theorem peo_nd : peo5.Nodup := by decide +kernel
section
variable {ns : List Int} {t : Nat} (hn : ns.length ≤ 63)
include hn
theorem compM (own : List Nat) (i : Nat) (e : XD) (ρ : EnvD) (names : List Str)
    (he : ∀ (x : Str) (τ : Sto), Town ns τ t → ∃ f τ', e (putsD (wipeD ρ own) [(i, .str x)]) τ = .ok (rowD (x, f)) τ' ∧ Town ns τ' t ∧ f.Nodup ∧ ∀ y ∈ f, y ∈ names) :
    ∀ (l : List Str) (τ : Sto), Town ns τ t → ∃ (rs : List (Str × List Str)) (τ' : Sto), compL own (.nm i) bYes e ρ (sDs l) τ = .ok (rs.map rowD) τ' ∧ Town ns τ' t ∧ rs.map (·.1) = l ∧ ∀ p ∈ rs, p.2.Nodup ∧ ∀ y ∈ p.2, y ∈ names
  | [], τ, T => ⟨[], τ, rfl, T, rfl, fun _ h => nomatch h⟩
  | x :: l, τ, T => by
    obtain ⟨f, τ1, e1, T1, f1, f2⟩ := he x τ T
    obtain ⟨rs, τ2, e2, T2, r1, r2⟩ := compM own i e ρ names he l τ1 T1
    refine ⟨(x, f) :: rs, τ2, ?_, T2, by rw [List.map_cons, r1], ?_⟩
    · unfold sDs at e2 ⊢
      rw [List.map_cons, compL]
      simp only [tset, bYes, noErr, ok_bind, if_true, e1]
      rw [e2, ok_bind]
      rfl
    · intro p hp
      rcases List.mem_cons.mp hp with rfl | hp
      · exact ⟨f1, f2⟩
      · exact r2 p hp
def bA : XS := sSetH 4 (xSl (xTup (aC (xC (.str "barn")) (aC (xC (.str "cot")) (aC (xC (.str "den")) (aC (xC (.str "hut")) (aC (xC (.str "inn")) aN)))))) oN (oS (xP gAdd (aC (xC (.int 1)) (aC (xF (callF 3 F__law_draw) (aC (xV 0) (aC (xV 1) (aC (xV 2) aN)))) aN)))))
def bB : XS := sSetH 5 (xSl (xTup (aC (xC (.str "ann")) (aC (xC (.str "bob")) (aC (xC (.str "cat")) (aC (xC (.str "dan")) (aC (xC (.str "eve")) aN)))))) oN (oS (xP gAdd (aC (xC (.int 1)) (aC (xF (callF 3 F__law_draw) (aC (xV 0) (aC (xV 1) (aC (xV 3) aN)))) aN)))))
def bC : XS := sSetH 6 (xP gTuple (aC (xComp [7] (.nm 7) (iSeq (xV 4)) bYes (xTup (aC (xV 7) (aC (xF (callF 4 F__law_mixed) (aC (xV 0) (aC (xV 1) (aC (xV 5) (aC (xC (.int 1)) aN))))) aN)))) aN))
def bD : XS := sRet (xTup (aC (xV 6) (aC (xP gTuple (aC (xComp [8] (.nm 8) (iSeq (xV 5)) bYes (xTup (aC (xV 8) (aC (xF (callF 4 F__law_mixed) (aC (xV 0) (aC (xV 1) (aC (xV 4) (aC (xC (.int 1)) aN))))) aN)))) aN)) aN)))
omit hn in
theorem book_split : xb__law_a_book = sCons bA (sCons bB (sCons bC (sCons bD sNil))) := rfl
def envB (ns : List Int) (t : Nat) (a b c : Option Sl) : EnvS := [some (.im (.scr ns)), some (.im (.tok t)), some (.im (.int 4)), some (.im (.int 4)), a, b, c, none, none]
def imD (l : List Str) : Option Sl := some (.im (.tup (sDs l)))
theorem bA_ok {τ : Sto} (T : Town ns τ t) : ∃ (k : Nat) (τ' : Sto), bA (envB ns t none none none) τ = .nx (envB ns t (imD (hou5.take (k + 1))) none none) τ' ∧ Town ns τ' t := by
  obtain ⟨n, τ', e, n0, n1, T'⟩ := draw_ok (m := 4) hn T (by decide) (by decide)
  obtain ⟨k, rfl⟩ := Int.eq_ofNat_of_zero_le n0
  refine ⟨k, τ', ?_, T'⟩
  unfold bA envB
  simp only [sSetH, xSl, xTup, oN, oS, xP, xF, callF, aC, aN, xC, xV, hideS, List.map_cons, List.map_nil, hide1, List.getElem?_cons_zero, List.getElem?_cons_succ, ok_bind, bindS_ok, List.length_cons, List.length_nil, Nat.zero_add, Nat.reduceAdd, show big 5 = true from rfl, if_true, e, gAdd_i, lift_some, toI]
  rw [show (1 : Int) + (k : Int) = ((k + 1 : Nat) : Int) by omega]
  have := cut_sDs hou5 (k + 1)
  rw [show sDs hou5 = [.str "barn", .str "cot", .str "den", .str "hut", .str "inn"] from rfl] at this
  rw [this]
  rfl
theorem bB_ok {τ : Sto} (h : List Str) (T : Town ns τ t) : ∃ (k : Nat) (τ' : Sto), bB (envB ns t (imD h) none none) τ = .nx (envB ns t (imD h) (imD (peo5.take (k + 1))) none) τ' ∧ Town ns τ' t := by
  obtain ⟨n, τ', e, n0, n1, T'⟩ := draw_ok (m := 4) hn T (by decide) (by decide)
  obtain ⟨k, rfl⟩ := Int.eq_ofNat_of_zero_le n0
  refine ⟨k, τ', ?_, T'⟩
  unfold bB envB
  simp only [sSetH, xSl, xTup, oN, oS, xP, xF, callF, aC, aN, xC, xV, hideS, List.map_cons, List.map_nil, hide1, List.getElem?_cons_zero, List.getElem?_cons_succ, ok_bind, bindS_ok, List.length_cons, List.length_nil, Nat.zero_add, Nat.reduceAdd, show big 5 = true from rfl, if_true, e, gAdd_i, lift_some, toI]
  rw [show (1 : Int) + (k : Int) = ((k + 1 : Nat) : Int) by omega]
  have := cut_sDs peo5 (k + 1)
  rw [show sDs peo5 = [.str "ann", .str "bob", .str "cat", .str "dan", .str "eve"] from rfl] at this
  rw [this]
  rfl
theorem len_big {l : List Str} (h : l.length ≤ 60) : big (sDs l).length = true := by rw [sDs_len]; exact decide_eq_true (by omega)
theorem bC_ok {τ : Sto} {h p : List Str} (hh : h.length ≤ 60) (ph : p.length ≤ 60) (pk : ∀ x ∈ p, PyData.strOk x = true) (pn : p.Nodup) (T : Town ns τ t) : ∃ (rs : List (Str × List Str)) (τ' : Sto), bC (envB ns t (imD h) (imD p) none) τ = .nx (envB ns t (imD h) (imD p) (some (.im (.tup (rs.map rowD))))) τ' ∧ Town ns τ' t ∧ rs.map (·.1) = h ∧ ∀ q ∈ rs, q.2.Nodup ∧ ∀ y ∈ q.2, y ∈ p := by
  have K := compM hn [7] 7 (xTup (aC (xV 7) (aC (xF (callF 4 F__law_mixed) (aC (xV 0) (aC (xV 1) (aC (xV 5) (aC (xC (.int 1)) aN))))) aN))) (hideS (envB ns t (imD h) (imD p) none)) p ?_ h τ T
  · obtain ⟨rs, τ', e, T', r1, r2⟩ := K
    refine ⟨rs, τ', ?_, T', r1, r2⟩
    exact sSetH_ok (xP_ok (aC_ok (xComp_ok (iSeq_ok (d := .tup (sDs h)) rfl rfl) (len_big hn hh) e) aN_ok) rfl)
  · intro x τ T
    obtain ⟨f, τ', e, T', f1, f2⟩ := mixed_ok hn T pk ph pn
    refine ⟨f, τ', ?_, T', f1, f2⟩
    unfold envB imD
    simp only [putsD, wipeD, hideS, List.map_cons, List.map_nil, hide1, List.foldl_cons, List.foldl_nil, List.set_cons_succ, List.set_cons_zero, xTup, xF, callF, aC, aN, xC, xV, List.getElem?_cons_zero, List.getElem?_cons_succ, ok_bind, List.length_cons, List.length_nil, Nat.zero_add, Nat.reduceAdd, if_true, e, show big 2 = true from rfl]
    rfl
theorem bD_ok {τ : Sto} {h p : List Str} (rs : List (Str × List Str)) (hh : h.length ≤ 60) (ph : p.length ≤ 60) (hk : ∀ x ∈ h, PyData.strOk x = true) (hnd : h.Nodup) (T : Town ns τ t) : ∃ (ls : List (Str × List Str)) (τ' : Sto), bD (envB ns t (imD h) (imD p) (some (.im (.tup (rs.map rowD))))) τ = .rt (bookD ⟨rs, ls⟩) τ' ∧ Town ns τ' t ∧ ls.map (·.1) = p ∧ ∀ q ∈ ls, q.2.Nodup ∧ ∀ y ∈ q.2, y ∈ h := by
  have K := compM hn [8] 8 (xTup (aC (xV 8) (aC (xF (callF 4 F__law_mixed) (aC (xV 0) (aC (xV 1) (aC (xV 4) (aC (xC (.int 1)) aN))))) aN))) (showS (envB ns t (imD h) (imD p) (some (.im (.tup (rs.map rowD)))))) h ?_ p τ T
  · obtain ⟨ls, τ', e, T', r1, r2⟩ := K
    refine ⟨ls, τ', ?_, T', r1, r2⟩
    exact sRet_ok (xTup_ok (aC_ok (d := .tup (rs.map rowD)) rfl (aC_ok (xP_ok (aC_ok (xComp_ok (iSeq_ok (d := .tup (sDs p)) rfl rfl) (len_big hn ph) e) aN_ok) rfl) aN_ok)) rfl)
  · intro x τ T
    obtain ⟨f, τ', e, T', f1, f2⟩ := mixed_ok hn T hk hh hnd
    refine ⟨f, τ', ?_, T', f1, f2⟩
    unfold envB imD
    simp only [putsD, wipeD, showS, List.map_cons, List.map_nil, show1, List.foldl_cons, List.foldl_nil, List.set_cons_succ, List.set_cons_zero, xTup, xF, callF, aC, aN, xC, xV, List.getElem?_cons_zero, List.getElem?_cons_succ, ok_bind, List.length_cons, List.length_nil, Nat.zero_add, Nat.reduceAdd, if_true, e, show big 2 = true from rfl]
    rfl
theorem book_ok {τ : Sto} (T : Town ns τ t) : ∃ (b : Book) (τ' : Sto), F__law_a_book [.scr ns, .tok t, .int 4, .int 4] τ = .ok (bookD b) τ' ∧ Town ns τ' t ∧ BookOk b := by
  obtain ⟨k, τ1, e1, T1⟩ := bA_ok hn T
  obtain ⟨j, τ2, e2, T2⟩ := bB_ok hn (hou5.take (k + 1)) T1
  have hl : (hou5.take (k + 1)).length ≤ 60 := Nat.le_trans (List.length_take_le' _ _) (by decide)
  have pl : (peo5.take (j + 1)).length ≤ 60 := Nat.le_trans (List.length_take_le' _ _) (by decide)
  obtain ⟨rs, τ3, e3, T3, r1, r2⟩ := bC_ok hn hl pl (fun x hx => peo_ok x (List.mem_of_mem_take hx)) (peo_nd.sublist (List.take_sublist _ _)) T2
  obtain ⟨ls, τ4, e4, T4, l1, l2⟩ := bD_ok hn rs hl pl (fun x hx => hou_ok x (List.mem_of_mem_take hx)) (hou_nd.sublist (List.take_sublist _ _)) T3
  refine ⟨⟨rs, ls⟩, τ4, ?_, T4, ⟨⟨k, r1⟩, ⟨j, l1⟩, fun p hp => ?_, fun p hp => ?_⟩⟩
  · unfold F__law_a_book runF
    rw [show startD 9 [.scr ns, .tok t, .int 4, .int 4] = envB ns t none none none from rfl, book_split, sc_cons, e1]
    simp only []
    rw [sc_cons, e2]
    simp only []
    rw [sc_cons, e3]
    simp only []
    rw [sc_cons, e4]
  · show _ ∧ ∀ x ∈ p.2, x ∈ ls.map (·.1)
    rw [l1]; exact r2 p hp
  · show _ ∧ ∀ x ∈ p.2, x ∈ rs.map (·.1)
    rw [r1]; exact l2 p hp
end
end Lk02
end
section
set_option Elab.async false
set_option linter.all false
set_option maxRecDepth 100000
namespace Lk02
open PySem PySem.Spec PyProof.Rows L2 Mv
def named (l : List (Str × List Str)) : List Str := l.map (·.1)
theorem memD_sDs (x : Str) (l : List Str) : memD (.str x) (sDs l) = decide (x ∈ l) := by
  unfold memD sDs
  induction l with
  | nil => rfl
  | cons a l ih =>
    rw [List.map_cons, List.any_cons, ih]
    simp only [Dv.eqv, List.mem_cons, Bool.decide_or]
    congr 1
    by_cases h : a = x
    · subst h; simp
    · have : x ≠ a := fun z => h z.symm
      simp [h, this]
theorem memD_non (l : List Str) : memD .non (sDs l) = false := by
  unfold memD sDs
  induction l with
  | nil => rfl
  | cons a l ih => rw [List.map_cons, List.any_cons, ih]; rfl
theorem okq_str {x : Str} (h : PyData.strOk x = true) : (Dv.str x).okq = true := h
theorem in_tup {d : Dv} {l : List Dv} (h1 : d.okq = true) (h2 : (Dv.tup l).okq = true) : gIn [d, .tup l] = some (memD d l) := by
  cases d <;> simp_all [gIn]
theorem in_lst {d : Dv} {l : List Dv} (h1 : d.okq = true) (h2 : (Dv.lst l).okq = true) : gIn [d, .lst l] = some (memD d l) := by
  cases d <;> simp_all [gIn]
theorem ni_tup {d : Dv} {l : List Dv} (h1 : d.okq = true) (h2 : (Dv.tup l).okq = true) : gNotIn [d, .tup l] = some (!memD d l) := by
  unfold gNotIn; rw [in_tup h1 h2]; rfl
theorem ni_lst {d : Dv} {l : List Dv} (h1 : d.okq = true) (h2 : (Dv.lst l).okq = true) : gNotIn [d, .lst l] = some (!memD d l) := by
  unfold gNotIn; rw [in_lst h1 h2]; rfl
/-! dicts -/
def valsD (l : List (Str × List Str)) : List Dv := l.map fun p => .tup (sDs p.2)
theorem dist_sDs : ∀ {l : List Str}, l.Nodup → distD (sDs l) = true
  | [], _ => rfl
  | a :: l, h => by
    rw [List.nodup_cons] at h
    show (!memD (.str a) (sDs l) && distD (sDs l)) = true
    rw [memD_sDs, dist_sDs h.2]
    simp [h.1]
theorem pairs_rows : ∀ l : List (Str × List Str), pairsD (l.map rowD) = some (l.map fun p => (.str p.1, .tup (sDs p.2)))
  | [] => rfl
  | p :: l => by
    rw [List.map_cons]
    unfold rowD
    rw [pairsD, if_pos (show isKey (.str p.1) = true from rfl)]
    have := pairs_rows l
    unfold rowD at this
    rw [this]; rfl
theorem dict_rows {l : List (Str × List Str)} (h : (named l).Nodup) (hl : l.length ≤ 60) : gDict [.tup (l.map rowD)] = some (.dct (sDs (named l)) (valsD l)) := by
  show mkD _ = _
  unfold mkD
  have e1 : (l.map fun p => ((.str p.1, .tup (sDs p.2)) : Dv × Dv)).map (·.1) = sDs (named l) := by unfold sDs named; rw [List.map_map, List.map_map]; rfl
  have e2 : (l.map fun p => ((.str p.1, .tup (sDs p.2)) : Dv × Dv)).map (·.2) = valsD l := by unfold valsD; rw [List.map_map]; rfl
  rw [pairs_rows, Option.bind_some, e1, e2, if_pos]
  exact ⟨dist_sDs h, by rw [List.length_map]; exact decide_eq_true (by omega)⟩
theorem look_rows : ∀ {l : List (Str × List Str)}, (named l).Nodup → ∀ p ∈ l, lookK (.str p.1) (sDs (named l)) (valsD l) = some (.tup (sDs p.2))
  | q :: l, h, p, hp => by
    unfold named at h
    rw [List.map_cons, List.nodup_cons] at h
    show (if (Dv.str q.1).eqv (.str p.1) then some (Dv.tup (sDs q.2)) else lookK (.str p.1) (sDs (named l)) (valsD l)) = _
    rcases List.mem_cons.mp hp with rfl | hp
    · rw [if_pos (by simp [Dv.eqv])]
    · rw [if_neg, look_rows h.2 p hp]
      intro e
      have : q.1 = p.1 := by simpa [Dv.eqv] using e
      exact h.1 (this ▸ List.mem_map_of_mem hp)
/-- what stands beside a name -/
def rowOf (l : List (Str × List Str)) (x : Str) : List Str := ((l.find? fun p => p.1 == x).map (·.2)).getD []
theorem rowOf_mem : ∀ {l : List (Str × List Str)}, (named l).Nodup → ∀ p ∈ l, rowOf l p.1 = p.2
  | q :: l, h, p, hp => by
    unfold named at h
    rw [List.map_cons, List.nodup_cons] at h
    unfold rowOf
    rw [List.find?_cons]
    rcases List.mem_cons.mp hp with rfl | hp
    · simp
    · have : (q.1 == p.1) = false := by
        have : q.1 ≠ p.1 := fun e => h.1 (e ▸ List.mem_map_of_mem hp)
        simpa using this
      rw [this]
      exact rowOf_mem h.2 p hp
theorem look_of {l : List (Str × List Str)} (h : (named l).Nodup) {x : Str} (hx : x ∈ named l) : lookK (.str x) (sDs (named l)) (valsD l) = some (.tup (sDs (rowOf l x))) := by
  obtain ⟨p, hp, rfl⟩ := List.mem_map.mp hx
  rw [look_rows h p hp, rowOf_mem h p hp]
theorem rowOf_in {l : List (Str × List Str)} (h : (named l).Nodup) {x : Str} (hx : x ∈ named l) : ∃ p ∈ l, p.1 = x ∧ rowOf l x = p.2 := by
  obtain ⟨p, hp, rfl⟩ := List.mem_map.mp hx
  exact ⟨p, hp, rfl, rowOf_mem h p hp⟩
/-! what a book gives -/
structure BF (b : Book) : Prop where
  nh : (named b.rows).Nodup
  np : (named b.likes).Nodup
  h5 : ∀ x ∈ named b.rows, x ∈ hou5
  p5 : ∀ x ∈ named b.likes, x ∈ peo5
  lh : b.rows.length ≤ 5
  lp : b.likes.length ≤ 5
  rr : ∀ x ∈ named b.rows, ∀ y ∈ rowOf b.rows x, y ∈ named b.likes
  ll : ∀ x ∈ named b.likes, ∀ y ∈ rowOf b.likes x, y ∈ named b.rows
  ln : ∀ x ∈ named b.likes, (rowOf b.likes x).Nodup
  h0 : ∃ h hs, b.rows = h :: hs
  ann : ("ann" : Str) ∈ named b.likes
theorem BookOk.bf {b : Book} (h : BookOk b) : BF b := by
  obtain ⟨⟨k, hk⟩, ⟨j, hj⟩, hr, hl⟩ := h
  have nh : (named b.rows).Nodup := by unfold named; rw [hk]; exact hou_nd.sublist (List.take_sublist _ _)
  have np : (named b.likes).Nodup := by unfold named; rw [hj]; exact peo_nd.sublist (List.take_sublist _ _)
  refine ⟨nh, np, fun x hx => ?_, fun x hx => ?_, ?_, ?_, fun x hx => ?_, fun x hx => ?_, fun x hx => ?_, ?_, ?_⟩
  · unfold named at hx; rw [hk] at hx; exact List.mem_of_mem_take hx
  · unfold named at hx; rw [hj] at hx; exact List.mem_of_mem_take hx
  · have := congrArg List.length hk; rw [List.length_map] at this; rw [this]; exact Nat.le_trans (List.length_take_le' _ _) (by decide)
  · have := congrArg List.length hj; rw [List.length_map] at this; rw [this]; exact Nat.le_trans (List.length_take_le' _ _) (by decide)
  · obtain ⟨p, hp, _, e⟩ := rowOf_in nh hx; rw [e]; exact (hr p hp).2
  · obtain ⟨p, hp, _, e⟩ := rowOf_in np hx; rw [e]; exact (hl p hp).2
  · obtain ⟨p, hp, _, e⟩ := rowOf_in np hx; rw [e]; exact (hl p hp).1
  · cases e : b.rows with
    | nil => rw [e] at hk; simp [hou5] at hk
    | cons h hs => exact ⟨h, hs, rfl⟩
  · unfold named; rw [hj]; unfold peo5; rw [List.take_succ_cons]; exact List.mem_cons_self
section
variable {b : Book} (B : BF b) {τ : Sto}
theorem ix_b0 : gIx [bookD b, .int 0] τ = some (.tup (b.rows.map rowD)) := atI_nat _ 0
theorem ix_b1 : gIx [bookD b, .int 1] τ = some (.tup (b.likes.map rowD)) := atI_nat _ 1
theorem ix_dct {ks vs : List Dv} {x : Str} : gIx [.dct ks vs, .str x] τ = lookK (.str x) ks vs := rfl
theorem ix_r0 (p : Str × List Str) : gIx [rowD p, .int 0] τ = some (.str p.1) := atI_nat _ 0
include B
theorem hok {x : Str} (h : x ∈ named b.rows) : PyData.strOk x = true := hou_ok x (B.h5 x h)
theorem pok {x : Str} (h : x ∈ named b.likes) : PyData.strOk x = true := peo_ok x (B.p5 x h)
theorem big5 {n : Nat} (h : n ≤ 60) : big n = true := decide_eq_true (by omega)
theorem houses_ok : F_houses_of [bookD b] τ = .ok (.lst (sDs (named b.rows))) τ := by
  have e : xComp [1] (.nm 1) (iSeq (xPs gIx (aC (xV 0) (aC (xC (.int 0)) aN)))) bYes (xPs gIx (aC (xV 1) (aC (xC (.int 0)) aN))) (showS (startD 2 [bookD b])) τ = .ok (.lst (b.rows.map fun p => .str p.1)) τ := by
    refine xCompA_eq rowD (fun p => .str p.1) b.rows (iSeq_ok (xPs_ok (aC_ok (d := bookD b) rfl (aC_ok rfl aN_ok)) ix_b0) rfl) (big5 B (Nat.le_trans B.lh (by decide))) fun p _ => ⟨_, rfl, ?_⟩
    exact xPs_ok (aC_ok (d := rowD p) rfl (aC_ok rfl aN_ok)) (ix_r0 p)
  unfold F_houses_of runF xb_houses_of
  rw [sc_rt (sRet_ok e)]
  unfold sDs named
  rw [List.map_map]; rfl
theorem people_ok : F_people_of [bookD b] τ = .ok (.lst (sDs (named b.likes))) τ := by
  have e : xComp [1] (.nm 1) (iSeq (xPs gIx (aC (xV 0) (aC (xC (.int 1)) aN)))) bYes (xPs gIx (aC (xV 1) (aC (xC (.int 0)) aN))) (showS (startD 2 [bookD b])) τ = .ok (.lst (b.likes.map fun p => .str p.1)) τ := by
    refine xCompA_eq rowD (fun p => .str p.1) b.likes (iSeq_ok (xPs_ok (aC_ok (d := bookD b) rfl (aC_ok rfl aN_ok)) ix_b1) rfl) (big5 B (Nat.le_trans B.lp (by decide))) fun p _ => ⟨_, rfl, ?_⟩
    exact xPs_ok (aC_ok (d := rowD p) rfl (aC_ok rfl aN_ok)) (ix_r0 p)
  unfold F_people_of runF xb_people_of
  rw [sc_rt (sRet_ok e)]
  unfold sDs named
  rw [List.map_map]; rfl
def homes (b : Book) (x : Str) : List Str := (rowOf b.likes x).filter fun h => decide (x ∈ rowOf b.rows h)
theorem d0 : gDict [.tup (b.rows.map rowD)] = some (.dct (sDs (named b.rows)) (valsD b.rows)) := dict_rows B.nh (Nat.le_trans B.lh (by decide))
theorem d1 : gDict [.tup (b.likes.map rowD)] = some (.dct (sDs (named b.likes)) (valsD b.likes)) := dict_rows B.np (Nat.le_trans B.lp (by decide))
theorem likes_len {x : Str} (hx : x ∈ named b.likes) : (rowOf b.likes x).length ≤ 60 := by
  have := List.Nodup.length_le_of_subset (B.ln x hx) (B.ll x hx)
  have l2 : (named b.rows).length = b.rows.length := List.length_map _
  have := B.lh
  omega
theorem homes_ok {x : Str} (hx : x ∈ named b.likes) : F_homes_of [bookD b, .str x] τ = .ok (.lst (sDs (homes b x))) τ := by
  have s1 : sSetH 2 (xP gDict (aC (xPs gIx (aC (xV 0) (aC (xC (.int 0)) aN))) aN)) (startD 4 [bookD b, .str x]) τ = .nx [some (.im (bookD b)), some (.im (.str x)), some (.im (.dct (sDs (named b.rows)) (valsD b.rows))), none] τ :=
    sSetH_ok (xP_ok (aC_ok (xPs_ok (aC_ok (d := bookD b) rfl (aC_ok rfl aN_ok)) ix_b0) aN_ok) (d0 B))
  have e : xComp [3] (.nm 3) (iSeq (xPs gIx (aC (xP gDict (aC (xPs gIx (aC (xV 0) (aC (xC (.int 1)) aN))) aN)) (aC (xV 1) aN)))) (bP gIn (aC (xV 1) (aC (xPs gIx (aC (xV 2) (aC (xV 3) aN))) aN))) (xV 3)
      (showS [some (.im (bookD b)), some (.im (.str x)), some (.im (.dct (sDs (named b.rows)) (valsD b.rows))), none]) τ = .ok (.lst (sDs (homes b x))) τ := by
    refine xComp_eq Dv.str (fun h => decide (x ∈ rowOf b.rows h)) Dv.str (rowOf b.likes x) (iSeq_ok (d := .tup (sDs (rowOf b.likes x))) (xPs_ok (aC_ok (xP_ok (aC_ok (xPs_ok (aC_ok (d := bookD b) rfl (aC_ok rfl aN_ok)) ix_b1) aN_ok) (d1 B)) (aC_ok (d := .str x) rfl aN_ok)) ?_) rfl) (big5 B (likes_len B hx)) fun h hh => ⟨_, rfl, ?_, fun _ => rfl⟩
    · rw [ix_dct]; exact look_of B.np hx
    · have hm : h ∈ named b.rows := B.ll x hx h hh
      refine bP_ok (aC_ok (d := .str x) rfl (aC_ok (xPs_ok (r := .tup (sDs (rowOf b.rows h))) (aC_ok (d := .dct (sDs (named b.rows)) (valsD b.rows)) rfl (aC_ok (d := .str h) rfl aN_ok)) ?_) aN_ok)) ?_
      · rw [ix_dct]; exact look_of B.nh hm
      · rw [in_tup (okq_str (pok B hx)) (okq_tup fun y hy => pok B (B.rr h hm y hy)), memD_sDs]
  unfold F_homes_of runF xb_homes_of
  rw [sc_nx s1, sc_rt (sRet_ok e)]
theorem lhomes_ok {x : Str} (hx : x ∈ named b.likes) : F__law_homes [bookD b, .str x] τ = .ok (.lst (sDs (homes b x))) τ := by
  have s1 : sParH [2, 3] [false, false] (aC (xP gDict (aC (xPs gIx (aC (xV 0) (aC (xC (.int 0)) aN))) aN)) (aC (xP gDict (aC (xPs gIx (aC (xV 0) (aC (xC (.int 1)) aN))) aN)) aN)) (startD 5 [bookD b, .str x]) τ = .nx [some (.im (bookD b)), some (.im (.str x)), some (.im (.dct (sDs (named b.rows)) (valsD b.rows))), some (.im (.dct (sDs (named b.likes)) (valsD b.likes))), none] τ := by
    have a : (aC (xP gDict (aC (xPs gIx (aC (xV 0) (aC (xC (.int 0)) aN))) aN)) (aC (xP gDict (aC (xPs gIx (aC (xV 0) (aC (xC (.int 1)) aN))) aN)) aN)) (hideS (startD 5 [bookD b, .str x])) τ = .ok [.dct (sDs (named b.rows)) (valsD b.rows), .dct (sDs (named b.likes)) (valsD b.likes)] τ :=
      aC_ok (xP_ok (aC_ok (xPs_ok (aC_ok (d := bookD b) rfl (aC_ok rfl aN_ok)) ix_b0) aN_ok) (d0 B)) (aC_ok (xP_ok (aC_ok (xPs_ok (aC_ok (d := bookD b) rfl (aC_ok rfl aN_ok)) ix_b1) aN_ok) (d1 B)) aN_ok)
    unfold sParH
    rw [a]; rfl
  have e : xComp [4] (.nm 4) (iSeq (xPs gIx (aC (xV 3) (aC (xV 1) aN)))) (bP gIn (aC (xV 1) (aC (xPs gIx (aC (xV 2) (aC (xV 4) aN))) aN))) (xV 4)
      (showS [some (.im (bookD b)), some (.im (.str x)), some (.im (.dct (sDs (named b.rows)) (valsD b.rows))), some (.im (.dct (sDs (named b.likes)) (valsD b.likes))), none]) τ = .ok (.lst (sDs (homes b x))) τ := by
    refine xComp_eq Dv.str (fun h => decide (x ∈ rowOf b.rows h)) Dv.str (rowOf b.likes x) (iSeq_ok (d := .tup (sDs (rowOf b.likes x))) (xPs_ok (aC_ok (d := .dct (sDs (named b.likes)) (valsD b.likes)) rfl (aC_ok (d := .str x) rfl aN_ok)) ?_) rfl) (big5 B (likes_len B hx)) fun h hh => ⟨_, rfl, ?_, fun _ => rfl⟩
    · rw [ix_dct]; exact look_of B.np hx
    · have hm : h ∈ named b.rows := B.ll x hx h hh
      refine bP_ok (aC_ok (d := .str x) rfl (aC_ok (xPs_ok (r := .tup (sDs (rowOf b.rows h))) (aC_ok (d := .dct (sDs (named b.rows)) (valsD b.rows)) rfl (aC_ok (d := .str h) rfl aN_ok)) ?_) aN_ok)) ?_
      · rw [ix_dct]; exact look_of B.nh hm
      · rw [in_tup (okq_str (pok B hx)) (okq_tup fun y hy => pok B (B.rr h hm y hy)), memD_sDs]
  unfold F__law_homes runF xb__law_homes
  rw [sc_nx s1, sc_rt (sRet_ok e)]
/-! the looks -/
def lookB (x : Dv) (l : List Str) : Bool := match x with
  | .str s => decide (s ∈ l)
  | _ => false
omit B in
theorem bOr_l {c d : XB} {ρ : EnvD} {τ1 : Sto} (h : c ρ τ = .ok true τ1) : bOr c d ρ τ = .ok true τ1 := by unfold bOr; rw [h]; rfl
omit B in
theorem bOr_r {c d : XB} {ρ : EnvD} {τ1 : Sto} {v : Bool} {τ2 : Sto} (h : c ρ τ = .ok false τ1) (h2 : d ρ τ1 = .ok v τ2) : bOr c d ρ τ = .ok v τ2 := by unfold bOr; rw [h]; exact h2
theorem look_person_ok (x : Dv) (h : x = .non ∨ ∃ s, x = .str s ∧ PyData.strOk s = true) : F_look_person [bookD b, x] τ = if lookB x (named b.likes) = true then .ok .non τ else .err ⟨"NoPerson", none⟩ τ := by
  have c : (bOr (bNot (bT (xB (bP (gIsi "str") (aC (xV 1) aN))))) (bP gNotIn (aC (xV 1) (aC (xF (callF 1 F_people_of) (aC (xV 0) aN)) aN)))) (showS (startD 2 [bookD b, x])) τ = .ok (!lookB x (named b.likes)) τ := by
    rcases h with rfl | ⟨s, rfl, hs⟩
    · exact bOr_l (bNot_ok (b := false) (bT_ok (xB_ok (b := false) (bP_ok (aC_ok (d := .non) rfl aN_ok) rfl)) rfl))
    · refine bOr_r (bNot_ok (b := true) (bT_ok (xB_ok (b := true) (bP_ok (aC_ok (d := .str s) rfl aN_ok) rfl)) rfl)) (bP_ok (aC_ok (d := .str s) rfl (aC_ok (xF_ok (aC_ok (d := bookD b) rfl aN_ok) rfl (people_ok B)) aN_ok)) ?_)
      rw [ni_lst (okq_str hs) (okq_lst fun y hy => pok B hy), memD_sDs]; rfl
  unfold F_look_person runF xb_look_person
  rw [sc_cons, sIf_ok c]
  cases lookB x (named b.likes) <;> rfl
theorem look_house_ok (x : Dv) (h : x = .non ∨ ∃ s, x = .str s ∧ PyData.strOk s = true) : F_look_house [bookD b, x] τ = if lookB x (named b.rows) = true then .ok .non τ else .err ⟨"NoHouse", none⟩ τ := by
  have c : (bOr (bNot (bT (xB (bP (gIsi "str") (aC (xV 1) aN))))) (bP gNotIn (aC (xV 1) (aC (xF (callF 1 F_houses_of) (aC (xV 0) aN)) aN)))) (showS (startD 2 [bookD b, x])) τ = .ok (!lookB x (named b.rows)) τ := by
    rcases h with rfl | ⟨s, rfl, hs⟩
    · exact bOr_l (bNot_ok (b := false) (bT_ok (xB_ok (b := false) (bP_ok (aC_ok (d := .non) rfl aN_ok) rfl)) rfl))
    · refine bOr_r (bNot_ok (b := true) (bT_ok (xB_ok (b := true) (bP_ok (aC_ok (d := .str s) rfl aN_ok) rfl)) rfl)) (bP_ok (aC_ok (d := .str s) rfl (aC_ok (xF_ok (aC_ok (d := bookD b) rfl aN_ok) rfl (houses_ok B)) aN_ok)) ?_)
      rw [ni_lst (okq_str hs) (okq_lst fun y hy => hok B hy), memD_sDs]; rfl
  unfold F_look_house runF xb_look_house
  rw [sc_cons, sIf_ok c]
  cases lookB x (named b.rows) <;> rfl
end
end Lk02
end
section
set_option Elab.async false
set_option linter.all false
set_option maxRecDepth 100000
namespace Lk02
open PySem PySem.Spec PyProof.Rows L2 Mv
def encO : Option Str → Dv
  | none => .non
  | some s => .str s
def memO (l : List Str) : Option Str → Bool
  | none => false
  | some s => decide (s ∈ l)
def ixO (l : List Str) (s : Str) : Nat := (idxD (.str s) (sDs l)).getD 0
def ixP (l : List Str) : Option Str → Nat
  | none => 0
  | some s => ixO l s
def bet (l : List Str) (one : Str) (o : Option Str) : Bool := decide (one ∈ l) && (!memO l o || decide ((ixO l one : Int) < ixP l o))
theorem idx_mem : ∀ {l : List Str} {s : Str}, s ∈ l → ∃ i, idxD (.str s) (sDs l) = some i
  | a :: l, s, h => by
    show ∃ i, (if (Dv.str a).eqv (.str s) then some 0 else (idxD (.str s) (sDs l)).map (· + 1)) = some i
    by_cases e : (Dv.str a).eqv (.str s) = true
    · exact ⟨0, by rw [if_pos e]⟩
    · have : a ≠ s := fun q => e (by subst q; simp [Dv.eqv])
      rcases List.mem_cons.mp h with h | h
      · exact absurd h.symm this
      · obtain ⟨i, hi⟩ := idx_mem h
        exact ⟨i + 1, by rw [if_neg e, hi]; rfl⟩
theorem index_ok {l : List Str} {s : Str} {τ : Sto} (hl : ∀ x ∈ l, PyData.strOk x = true) (h : s ∈ l) : gIndex [.tup (sDs l), .str s] τ = some (.int (ixO l s)) := by
  obtain ⟨i, hi⟩ := idx_mem h
  show (if ((Dv.tup (sDs l)).okq && (Dv.str s).okq) = true then (idxD (.str s) (sDs l)).map fun i => Dv.int i else none) = _
  rw [okq_tup hl, okq_str (hl s h)]
  unfold ixO
  rw [hi]; rfl
section
variable {f g : XD} {ρ : EnvD} {τ τ1 τ2 : Sto} {d e r : Dv} {a : XL} {ds : List Dv}
theorem xM_ok {ok : Dv → Sto → Bool} {p : List Dv → Sto → Option Dv} (h1 : f ρ τ = .ok d τ1) (h2 : ok d τ1 = true) (h3 : a ρ τ1 = .ok ds τ2) (h4 : p (d :: ds) τ2 = some r) : xM ok p f a ρ τ = .ok r τ2 := by unfold xM; rw [h1, ok_bind, if_pos h2, h3, ok_bind, h4]; rfl
theorem xOr_t (h1 : f ρ τ = .ok (.bl true) τ1) : xOr f g ρ τ = .ok (.bl true) τ1 := by unfold xOr; rw [h1]; rfl
theorem xOr_f (h1 : f ρ τ = .ok (.bl false) τ1) (h2 : g ρ τ1 = .ok r τ2) : xOr f g ρ τ = .ok r τ2 := by unfold xOr; rw [h1]; exact h2
theorem xAnd_t (h1 : f ρ τ = .ok (.bl true) τ1) (h2 : g ρ τ1 = .ok r τ2) : xAnd f g ρ τ = .ok r τ2 := by unfold xAnd; rw [h1]; exact h2
theorem xAnd_f (h1 : f ρ τ = .ok (.bl false) τ1) : xAnd f g ρ τ = .ok (.bl false) τ1 := by unfold xAnd; rw [h1]; rfl
end
theorem ni_encO {l : List Str} {o : Option Str} (hl : ∀ x ∈ l, PyData.strOk x = true) (ho : ∀ s, o = some s → PyData.strOk s = true) : gNotIn [encO o, .tup (sDs l)] = some (!memO l o) := by
  cases o with
  | none => show gNotIn [.non, .tup (sDs l)] = _; rw [ni_tup rfl (okq_tup hl), memD_non]; rfl
  | some s => show gNotIn [.str s, .tup (sDs l)] = _; rw [ni_tup (okq_str (ho s rfl)) (okq_tup hl), memD_sDs]; rfl
/-- the test both make -/
theorem orx_ok {l : List Str} {one : Str} {o : Option Str} (i j k : Nat) {ρ : EnvD} {τ : Sto} (hl : ∀ x ∈ l, PyData.strOk x = true) (ho : ∀ s, o = some s → PyData.strOk s = true) (h1 : one ∈ l)
    (vi : xV i ρ τ = .ok (.tup (sDs l)) τ) (vj : xV j ρ τ = .ok (.str one) τ) (vk : xV k ρ τ = .ok (encO o) τ) :
    xOr (xB (bP gNotIn (aC (xV k) (aC (xV i) aN)))) (xB (bP gLt (aC (xM okSeq gIndex (xV i) (aC (xV j) aN)) (aC (xM okSeq gIndex (xV i) (aC (xV k) aN)) aN)))) ρ τ = .ok (.bl (!memO l o || decide ((ixO l one : Int) < ixP l o))) τ := by
  have n := xB_ok (bP_ok (aC_ok vk (aC_ok vi aN_ok)) (ni_encO hl ho))
  cases e : memO l o with
  | false =>
    rw [e] at n
    exact xOr_t n
  | true =>
    rw [e] at n
    obtain ⟨s, rfl⟩ : ∃ s, o = some s := by cases o with
      | none => cases e
      | some s => exact ⟨s, rfl⟩
    have hs : s ∈ l := of_decide_eq_true e
    refine xOr_f n ?_
    exact xB_ok (bP_ok (aC_ok (xM_ok vi rfl (aC_ok vj aN_ok) (index_ok hl h1)) (aC_ok (xM_ok vi rfl (aC_ok vk aN_ok) (index_ok hl hs)) aN_ok)) rfl)
section
variable {b : Book} (B : BF b) {τ : Sto}
include B
theorem lok {x : Str} (hx : x ∈ named b.likes) : ∀ y ∈ rowOf b.likes x, PyData.strOk y = true := fun y hy => hok B (B.ll x hx y hy)
theorem is_better_ok {x one : Str} {o : Option Str} (hx : x ∈ named b.likes) (h1 : one ∈ named b.rows) (ho : ∀ s, o = some s → PyData.strOk s = true) : F_is_better [bookD b, .str x, .str one, encO o] τ = .ok (.bl (bet (rowOf b.likes x) one o)) τ := by
  have s1 : sSetH 4 (xPs gIx (aC (xP gDict (aC (xPs gIx (aC (xV 0) (aC (xC (.int 1)) aN))) aN)) (aC (xV 1) aN))) (startD 5 [bookD b, .str x, .str one, encO o]) τ = .nx [some (.im (bookD b)), some (.im (.str x)), some (.im (.str one)), some (.im (encO o)), some (.im (.tup (sDs (rowOf b.likes x))))] τ :=
    sSetH_ok (xPs_ok (aC_ok (xP_ok (aC_ok (xPs_ok (aC_ok (d := bookD b) rfl (aC_ok rfl aN_ok)) ix_b1) aN_ok) (d1 B)) (aC_ok (d := .str x) rfl aN_ok)) (by rw [ix_dct]; exact look_of B.np hx))
  have c : (bP gNotIn (aC (xV 2) (aC (xV 4) aN))) (showS [some (.im (bookD b)), some (.im (.str x)), some (.im (.str one)), some (.im (encO o)), some (.im (.tup (sDs (rowOf b.likes x))))]) τ = .ok (!decide (one ∈ rowOf b.likes x)) τ :=
    bP_ok (aC_ok (d := .str one) rfl (aC_ok (d := .tup (sDs (rowOf b.likes x))) rfl aN_ok)) (by rw [ni_tup (okq_str (hok B h1)) (okq_tup (lok B hx)), memD_sDs])
  unfold F_is_better runF xb_is_better bet
  rw [sc_nx s1, sc_cons, sIf_ok c]
  by_cases hm : one ∈ rowOf b.likes x
  · simp only [hm, decide_true, Bool.not_true, Bool.false_eq_true, if_false, Bool.true_and]
    rw [show sNil [some (.im (bookD b)), some (.im (.str x)), some (.im (.str one)), some (.im (encO o)), some (.im (.tup (sDs (rowOf b.likes x))))] τ = .nx _ τ from rfl]
    simp only []
    rw [sc_rt (sRet_ok (orx_ok 4 2 3 (lok B hx) ho hm rfl rfl rfl))]
  · simp only [hm, decide_false, Bool.not_false, if_true, Bool.false_and]
    rfl
theorem lbetter_ok {x one : Str} {o : Option Str} (hx : x ∈ named b.likes) (h1 : one ∈ named b.rows) (ho : ∀ s, o = some s → PyData.strOk s = true) : F__law_better [.tup (sDs (rowOf b.likes x)), .str one, encO o] τ = .ok (.bl (bet (rowOf b.likes x) one o)) τ := by
  have c : (xB (bP gIn (aC (xV 1) (aC (xV 0) aN)))) (showS (startD 3 [.tup (sDs (rowOf b.likes x)), .str one, encO o])) τ = .ok (.bl (decide (one ∈ rowOf b.likes x))) τ :=
    xB_ok (bP_ok (aC_ok (d := .str one) rfl (aC_ok (d := .tup (sDs (rowOf b.likes x))) rfl aN_ok)) (by rw [in_tup (okq_str (hok B h1)) (okq_tup (lok B hx)), memD_sDs]))
  unfold F__law_better runF xb__law_better bet
  by_cases hm : one ∈ rowOf b.likes x
  · simp only [hm, decide_true, Bool.true_and] at c ⊢
    rw [sc_rt (sRet_ok (xAnd_t c (orx_ok 0 1 2 (lok B hx) ho hm rfl rfl rfl)))]
  · simp only [hm, decide_false, Bool.false_and] at c ⊢
    rw [sc_rt (sRet_ok (xAnd_f c))]
omit B in
theorem law_is_ok (v : Bool) : F__law_is [.bl v, .bl v] τ = .ok (.bl true) τ := by
  have e : xAnd (xB (bP (gIsi "bool") (aC (xV 0) aN))) (xB (bP gEq (aC (xV 0) (aC (xV 1) aN)))) (showS (startD 2 [.bl v, .bl v])) τ = .ok (.bl true) τ :=
    xAnd_t (xB_ok (b := true) (bP_ok (aC_ok (d := .bl v) rfl aN_ok) rfl)) (xB_ok (b := true) (bP_ok (aC_ok (d := .bl v) rfl (aC_ok (d := .bl v) rfl aN_ok)) (by rw [gEq_eq rfl rfl]; simp [Dv.eqv])))
  unfold F__law_is runF xb__law_is
  rw [sc_rt (sRet_ok e)]
omit B in
theorem sExp_er {f : XD} {ρ : EnvS} {τ1 : Sto} {n : Str} (h : f (showS ρ) τ = .err ⟨n, none⟩ τ1) : sExp f ρ τ = .er ⟨n, none⟩ ρ τ1 := by unfold sExp; rw [h]; rfl
omit B in
theorem xF_er {f : List Dv → Sto → Res Dv} {n : Nat} {a : XL} {ds : List Dv} {ρ : EnvD} {e : Er} {τ1 τ2 : Sto} (h1 : a ρ τ = .ok ds τ1) (hl : ds.length = n) (h2 : f ds τ1 = .err e τ2) : xF (callF n f) a ρ τ = .err e τ2 := by unfold xF callF; rw [h1, ok_bind, if_pos hl, h2]
def lE (b : Book) (x y z : Dv) : EnvS := [some (.im (bookD b)), some (.im x), some (.im y), some (.im z)]
def lS1 : XS := sExp (xF (callF 2 F_look_person) (aC (xV 0) (aC (xV 1) aN)))
def lS2 : XS := sExp (xF (callF 2 F_look_house) (aC (xV 0) (aC (xV 2) aN)))
def lS3 : XS := sIf (bP gNotN (aC (xV 3) (aC (xC .non) aN))) (sCons (sExp (xF (callF 2 F_look_house) (aC (xV 0) (aC (xV 3) aN)))) sNil) sNil
def lS4 : XS := sRet (xF (callF 4 F_is_better) (aC (xV 0) (aC (xV 1) (aC (xV 2) (aC (xV 3) aN)))))
omit B in
theorem lb_split (x y z : Dv) : F_likes_better [bookD b, x, y, z] τ = (match sCons lS1 (sCons lS2 (sCons lS3 (sCons lS4 sNil))) (lE b x y z) τ with | .nx _ τ1 => .ok .non τ1 | .rt d τ1 => .ok d τ1 | .er e _ τ1 => .err e τ1 | _ => .bad) := rfl
abbrev Txt (x : Dv) : Prop := x = .non ∨ ∃ s, x = .str s ∧ PyData.strOk s = true
omit B in
theorem args2 {x y z : Dv} : (aC (xV 0) (aC (xV 1) aN)) (showS (lE b x y z)) τ = .ok [bookD b, x] τ := aC_ok (d := bookD b) rfl (aC_ok (d := x) rfl aN_ok)
omit B in
theorem args3 {x y z : Dv} : (aC (xV 0) (aC (xV 2) aN)) (showS (lE b x y z)) τ = .ok [bookD b, y] τ := aC_ok (d := bookD b) rfl (aC_ok (d := y) rfl aN_ok)
omit B in
theorem args4 {x y z : Dv} : (aC (xV 0) (aC (xV 3) aN)) (showS (lE b x y z)) τ = .ok [bookD b, z] τ := aC_ok (d := bookD b) rfl (aC_ok (d := z) rfl aN_ok)
theorem s1_ok {x y z : Dv} (hx : Txt x) (h : lookB x (named b.likes) = true) : lS1 (lE b x y z) τ = .nx (lE b x y z) τ := sExp_ok (d := .non) (xF_ok args2 rfl (by rw [look_person_ok B x hx, if_pos h]))
theorem s1_er {x y z : Dv} (hx : Txt x) (h : lookB x (named b.likes) = false) : lS1 (lE b x y z) τ = .er ⟨"NoPerson", none⟩ (lE b x y z) τ := sExp_er (xF_er args2 rfl (by rw [look_person_ok B x hx, h]; rfl))
theorem s2_ok {x y z : Dv} (hy : Txt y) (h : lookB y (named b.rows) = true) : lS2 (lE b x y z) τ = .nx (lE b x y z) τ := sExp_ok (d := .non) (xF_ok args3 rfl (by rw [look_house_ok B y hy, if_pos h]))
theorem s2_er {x y z : Dv} (hy : Txt y) (h : lookB y (named b.rows) = false) : lS2 (lE b x y z) τ = .er ⟨"NoHouse", none⟩ (lE b x y z) τ := sExp_er (xF_er args3 rfl (by rw [look_house_ok B y hy, h]; rfl))
theorem lb_p {x y z : Dv} (hx : Txt x) (h : lookB x (named b.likes) = false) : F_likes_better [bookD b, x, y, z] τ = .err ⟨"NoPerson", none⟩ τ := by
  rw [lb_split, sc_cons, s1_er B hx h]
theorem lb_h {x y z : Dv} (hx : Txt x) (hy : Txt y) (h : lookB x (named b.likes) = true) (h2 : lookB y (named b.rows) = false) : F_likes_better [bookD b, x, y, z] τ = .err ⟨"NoHouse", none⟩ τ := by
  rw [lb_split, sc_nx (s1_ok B hx h), sc_cons, s2_er B hy h2]
theorem lb_o {x y : Dv} {s : Str} (hx : Txt x) (hy : Txt y) (hs : PyData.strOk s = true) (h : lookB x (named b.likes) = true) (h2 : lookB y (named b.rows) = true) (h3 : lookB (.str s) (named b.rows) = false) : F_likes_better [bookD b, x, y, .str s] τ = .err ⟨"NoHouse", none⟩ τ := by
  have c : (bP gNotN (aC (xV 3) (aC (xC .non) aN))) (showS (lE b x y (.str s))) τ = .ok true τ := bP_ok (aC_ok (d := .str s) rfl (aC_ok rfl aN_ok)) rfl
  have e : sExp (xF (callF 2 F_look_house) (aC (xV 0) (aC (xV 3) aN))) (lE b x y (.str s)) τ = .er ⟨"NoHouse", none⟩ (lE b x y (.str s)) τ := sExp_er (xF_er args4 rfl (by rw [look_house_ok B _ (.inr ⟨s, rfl, hs⟩), h3]; rfl))
  rw [lb_split, sc_nx (s1_ok B hx h), sc_nx (s2_ok B hy h2), sc_cons]
  unfold lS3
  rw [sIf_ok c, if_pos rfl, sc_cons, e]
theorem lb_ok {x one : Str} {o : Option Str} (hx : x ∈ named b.likes) (h1 : one ∈ named b.rows) (ho : ∀ s, o = some s → s ∈ named b.rows) : F_likes_better [bookD b, .str x, .str one, encO o] τ = .ok (.bl (bet (rowOf b.likes x) one o)) τ := by
  have hs : ∀ s, o = some s → PyData.strOk s = true := fun s e => hok B (ho s e)
  have t3 : lS3 (lE b (.str x) (.str one) (encO o)) τ = .nx (lE b (.str x) (.str one) (encO o)) τ := by
    unfold lS3
    cases o with
    | none =>
      have c : (bP gNotN (aC (xV 3) (aC (xC .non) aN))) (showS (lE b (.str x) (.str one) (encO none))) τ = .ok false τ := bP_ok (aC_ok (d := .non) rfl (aC_ok rfl aN_ok)) rfl
      rw [sIf_ok c]; rfl
    | some s =>
      have c : (bP gNotN (aC (xV 3) (aC (xC .non) aN))) (showS (lE b (.str x) (.str one) (encO (some s)))) τ = .ok true τ := bP_ok (aC_ok (d := .str s) rfl (aC_ok rfl aN_ok)) rfl
      have e : sExp (xF (callF 2 F_look_house) (aC (xV 0) (aC (xV 3) aN))) (lE b (.str x) (.str one) (encO (some s))) τ = .nx (lE b (.str x) (.str one) (encO (some s))) τ :=
        sExp_ok (d := .non) (xF_ok args4 rfl (by rw [show encO (some s) = Dv.str s from rfl, look_house_ok B _ (.inr ⟨s, rfl, hs s rfl⟩), if_pos (show lookB (.str s) (named b.rows) = true from decide_eq_true (ho s rfl))]))
      rw [sIf_ok c, if_pos rfl, sc_nx e]; rfl
  have t4 : lS4 (lE b (.str x) (.str one) (encO o)) τ = .rt (.bl (bet (rowOf b.likes x) one o)) τ := sRet_ok (xF_ok (aC_ok (d := bookD b) rfl (aC_ok (d := .str x) rfl (aC_ok (d := .str one) rfl (aC_ok (d := encO o) rfl aN_ok)))) rfl (is_better_ok B hx h1 hs))
  rw [lb_split, sc_nx (s1_ok B (.inr ⟨x, rfl, pok B hx⟩) (decide_eq_true hx)), sc_nx (s2_ok B (.inr ⟨one, rfl, hok B h1⟩) (decide_eq_true h1)), sc_nx t3, sc_rt t4]
end
end Lk02
end
section
set_option Elab.async false
set_option linter.all false
set_option maxRecDepth 100000
namespace Lk02
open PySem PySem.Spec PyProof.Rows L2 Mv
def encE (x : Str) : Dv := if x = eS then .non else .str x
def encR (r : List Str) : Dv := .tup (r.map encE)
def rowsD (l : List (List Str)) : List Dv := l.map encR
/-- the texts of a row -/
def RowOk (r : List Str) : Prop := r.length ≤ 60 ∧ ∀ x ∈ r, x = eS ∨ x ∈ hou5
theorem enc_imm (x : Str) : (encE x).imm = true := by unfold encE; split <;> rfl
theorem immL_all' {l : List Dv} (h : ∀ d ∈ l, d.imm = true) : Dv.immL l = true := by
  induction l with
  | nil => rfl
  | cons a l ih =>
    show (a.imm && Dv.immL l) = true
    rw [h a List.mem_cons_self, ih fun d hd => h d (List.mem_cons_of_mem _ hd)]; rfl
theorem encR_imm (r : List Str) : (encR r).imm = true := immL_all' fun d hd => by
  obtain ⟨x, _, rfl⟩ := List.mem_map.mp hd
  exact enc_imm x
theorem enc_okq {x : Str} (h : x = eS ∨ x ∈ hou5) (n : Nat) : Dv.dok n (encE x) = true := by
  unfold encE
  split
  · simp [Dv.dok]
  · rename_i hne
    simpa [Dv.dok] using hou_ok x (h.resolve_left hne)
theorem encR_ok {r : List Str} (h : RowOk r) (n : Nat) : Dv.dok (n + 1) (encR r) = true := by
  unfold encR
  rw [Dv.dok, dokL_all, List.all_eq_true]
  intro d hd
  obtain ⟨x, hx, rfl⟩ := List.mem_map.mp hd
  exact enc_okq (h.2 x hx) n
theorem rows_okq {l : List (List Str)} (h : ∀ r ∈ l, RowOk r) : (Dv.tup (rowsD l)).okq = true := by
  show Dv.dokL 59 (rowsD l) = true
  rw [dokL_all, List.all_eq_true]
  intro d hd
  obtain ⟨x, hx, rfl⟩ := List.mem_map.mp hd
  exact encR_ok (h x hx) 58
theorem enc_self (x : Str) : (encE x).eqv (encE x) = true := by unfold encE; split <;> simp [Dv.eqv]
theorem row_self : ∀ r : List Str, Dv.eqvL (r.map encE) (r.map encE) = true
  | [] => by simp [Dv.eqvL]
  | x :: r => by rw [List.map_cons, Dv.eqvL, enc_self, row_self r]; rfl
theorem rows_self : ∀ l : List (List Str), Dv.eqvL (rowsD l) (rowsD l) = true
  | [] => by simp [rowsD, Dv.eqvL]
  | r :: l => by
    show Dv.eqvL (encR r :: rowsD l) (encR r :: rowsD l) = true
    rw [Dv.eqvL, rows_self l]
    show (Dv.eqv (.tup _) (.tup _) && _) = _
    rw [Dv.eqv, row_self]; rfl
theorem memD_row {h : Str} (hh : h ∈ hou5) (r : List Str) : memD (.str h) (r.map encE) = decide (h ∈ r) := by
  have hne : h ≠ eS := by rintro rfl; revert hh; decide +kernel
  unfold memD
  induction r with
  | nil => rfl
  | cons a l ih =>
    rw [List.map_cons, List.any_cons, ih]
    simp only [List.mem_cons, Bool.decide_or]
    congr 1
    unfold encE
    split
    · rename_i e; subst e; simp [Dv.eqv, hne]
    · by_cases e : a = h
      · subst e; simp [Dv.eqv]
      · have : h ≠ a := fun z => e z.symm
        simp [Dv.eqv, e, this]
/-! key_of -/
theorem len_hou : ∀ x ∈ hou5, x.length ≤ 16777216 ∧ ((x.length : Int) != 0) = true := by decide +kernel
theorem key_ok {r : List Str} (h : RowOk r) {τ : Sto} : F_key_of [encR r] τ = .ok (.lst (sDs r)) τ := by
  have e : xComp [1] (.nm 1) (iSeq (xV 0)) bYes (xOr (xV 1) (xC (.str ""))) (showS (startD 2 [encR r])) τ = .ok (.lst (sDs r)) τ := by
    refine xCompA_eq encE Dv.str r (iSeq_ok (d := encR r) rfl rfl) (big5' h.1) fun x hx => ⟨_, rfl, ?_⟩
    unfold xOr
    have v : xV 1 (putsD (wipeD (showS (startD 2 [encR r])) [1]) [(1, encE x)]) τ = .ok (encE x) τ := rfl
    rw [v, ok_bind]
    unfold encE
    split
    · rename_i e0; subst e0; rfl
    · rename_i hne
      have := len_hou x ((h.2 x hx).resolve_left hne)
      show (lift (if x.length ≤ 16777216 then some ((x.length : Int) != 0) else none) τ).bind _ = _
      rw [if_pos this.1, this.2]; rfl
  unfold F_key_of runF xb_key_of
  rw [sc_rt (sRet_ok e)]
where big5' {n : Nat} (h : n ≤ 60) : big n = true := decide_eq_true (by omega)
theorem keysL_ok : ∀ {l : List (List Str)} {τ : Sto}, (∀ r ∈ l, RowOk r) → keysL F_key_of (rowsD l) τ = .ok (l.map fun r => .lst (sDs r)) τ
  | [], τ, _ => rfl
  | r :: l, τ, h => by
    show keysL F_key_of (encR r :: rowsD l) τ = _
    unfold keysL
    rw [key_ok (h r List.mem_cons_self)]
    simp only [noErr, ok_bind]
    rw [keysL_ok fun q hq => h q (List.mem_cons_of_mem _ hq)]
    rfl
theorem pyL_sDs : ∀ r : List Str, Dv.pyL (sDs r) = r.map .str
  | [] => rfl
  | x :: r => by
    show Dv.pyL (.str x :: sDs r) = _
    rw [Dv.pyL, pyL_sDs r]; rfl
theorem alike_strs : ∀ r q : List Str, PySem.W.alikeAll (r.map .str) (q.map .str) = true
  | [], [] => by simp [PySem.W.alikeAll]
  | [], _ :: _ => by simp [PySem.W.alikeAll]
  | _ :: _, [] => by simp [PySem.W.alikeAll]
  | x :: r, y :: q => by
    rw [List.map_cons, List.map_cons, PySem.W.alikeAll, alike_strs r q]
    simp [PySem.W.alike]
theorem sorted_rows {l : List (List Str)} {τ : Sto} (h : ∀ r ∈ l, RowOk r) (hb : big l.length = true) : sortKR F_key_of (.lst (rowsD l)) τ = .ok (.lst (rowsD (l.mergeSort rLe))) τ := by
  unfold sortKR
  simp only []
  rw [keysL_ok h, ok_bind]
  unfold endK
  have k : keyOk (rowsD l) (l.map fun r => .lst (sDs r)) = true := by
    unfold keyOk
    have a1 : alikeL (l.map fun r => (.lst (sDs r) : Dv)) = true := by
      unfold alikeL
      rw [List.all_eq_true]; intro d hd
      rw [List.all_eq_true]; intro e he
      obtain ⟨r, _, rfl⟩ := List.mem_map.mp hd
      obtain ⟨q, _, rfl⟩ := List.mem_map.mp he
      show PySem.W.alike (.list (Dv.pyL (sDs r))) (.list (Dv.pyL (sDs q))) = true
      rw [pyL_sDs, pyL_sDs, PySem.W.alike, alike_strs]
    have a2 : (l.map fun r => (.lst (sDs r) : Dv)).all notTN = true := by
      rw [List.all_eq_true]; intro d hd
      obtain ⟨r, _, rfl⟩ := List.mem_map.mp hd
      rfl
    have a3 : (l.map fun r => (.lst (sDs r) : Dv)).all Dv.okq = true := by
      rw [List.all_eq_true]; intro d hd
      obtain ⟨r, hr, rfl⟩ := List.mem_map.mp hd
      refine okq_lst fun x hx => ?_
      rcases (h r hr).2 x hx with rfl | hx
      · decide +kernel
      · exact hou_ok x hx
    rw [a1, a2, a3]
    unfold rowsD
    rw [List.length_map, List.length_map, hb]
    simp
  rw [if_pos k]
  have s : sortK (rowsD l) (l.map fun r => .lst (sDs r)) = rowsD (l.mergeSort rLe) := by
    unfold sortK rowsD
    have z : (l.map encR).zip (l.map fun r => (.lst (sDs r) : Dv)) = l.map fun r => (encR r, .lst (sDs r)) := List.zip_map'
    rw [z, ← List.map_mergeSort (r := rLe) (f := fun r => ((encR r, Dv.lst (sDs r)) : Dv × Dv)) (fun a _ c _ => ?_), List.map_map]
    · rfl
    · rw [rLe_eq]
      show (!PySem.W.dataLt _ _) = (!PySem.W.dataLt (Dv.py (.lst (sDs c))) (Dv.py (.lst (sDs a))))
      rw [show Dv.py (.lst (sDs c)) = .list (Dv.pyL (sDs c)) from rfl, show Dv.py (.lst (sDs a)) = .list (Dv.pyL (sDs a)) from rfl, pyL_sDs, pyL_sDs]
  rw [s]
/-! sorted texts -/
theorem sorted_texts {l : List Str} (h : ∀ x ∈ l, PyData.strOk x = true) (hb : big l.length = true) : gSorted [.lst (sDs l)] = some (.lst (sDs (l.mergeSort sLe))) := by
  have k : sortOk (sDs l) = true := by
    unfold sortOk
    have a1 : alikeL (sDs l) = true := by
      unfold alikeL
      rw [List.all_eq_true]; intro d hd
      rw [List.all_eq_true]; intro e he
      obtain ⟨r, _, rfl⟩ := List.mem_map.mp hd
      obtain ⟨q, _, rfl⟩ := List.mem_map.mp he
      show PySem.W.alike (.str r) (.str q) = true
      simp [PySem.W.alike]
    have a2 : (sDs l).all notTN = true := by
      rw [List.all_eq_true]; intro d hd
      obtain ⟨r, _, rfl⟩ := List.mem_map.mp hd
      rfl
    have a3 : (sDs l).all Dv.okq = true := by
      rw [List.all_eq_true]; intro d hd
      obtain ⟨r, hr, rfl⟩ := List.mem_map.mp hd
      exact okq_str (h r hr)
    rw [a1, a2, a3, sDs_len, hb]
    simp
  show (if sortOk (sDs l) = true then some (Dv.lst ((sDs l).mergeSort leD)) else none) = _
  rw [if_pos k]
  unfold sDs
  rw [← List.map_mergeSort (r := sLe) (f := Dv.str) (fun a _ c _ => ?_)]
  show sLe a c = !PySem.W.dataLt (.str c) (.str a)
  rw [PySem.W.dataLt_str, PySem.W.not_lt_str]
  rfl
end Lk02
end
section
set_option Elab.async false
set_option linter.all false
set_option maxRecDepth 100000
namespace Lk02
open PySem PySem.Spec PyProof.Rows L2 Mv
theorem b60 {n : Nat} (h : n ≤ 60) : big n = true := decide_eq_true (by omega)
theorem bK {n : Nat} (h : n ≤ 100000) : big n = true := decide_eq_true (by omega)
theorem hou_ne : ∀ x ∈ hou5, x ≠ eS := by decide +kernel
theorem free_ok {v rw : Nat} {I : XI} {ρ : EnvD} {τ : Sto} {H r : List Str} (hI : I ρ τ = .ok (sDs H) τ) (hH : ∀ h ∈ H, h ∈ hou5) (hl : H.length ≤ 60) (hr : RowOk r) (hv : ∀ d, xV v (putsD (wipeD ρ [v]) [(v, d)]) τ = .ok d τ) (hw : ∀ d, xV rw (putsD (wipeD ρ [v]) [(v, d)]) τ = .ok (encR r) τ) :
    xComp [v] (.nm v) I (bP gNotIn (aC (xV v) (aC (xV rw) aN))) (xV v) ρ τ = .ok (.lst (sDs (H.filter fun h => !decide (h ∈ r)))) τ := by
  refine xComp_eq Dv.str (fun h => !decide (h ∈ r)) Dv.str H hI (b60 hl) fun h hh => ⟨_, rfl, ?_, fun _ => hv _⟩
  refine bP_ok (aC_ok (hv _) (aC_ok (hw _) aN_ok)) ?_
  have e : gNotIn [.str h, .tup (r.map encE)] = some (!memD (.str h) (r.map encE)) := ni_tup (okq_str (hou_ok h (hH h hh))) (encR_ok hr 59)
  rw [show encR r = .tup (r.map encE) from rfl, e, memD_row (hH h hh)]
theorem enc_strs {F : List Str} (h : ∀ x ∈ F, x ∈ hou5) : sDs F = F.map encE := by
  unfold sDs
  refine List.map_congr_left fun x hx => ?_
  unfold encE
  rw [if_neg (hou_ne x (h x hx))]
theorem more_ok {v rw fr : Nat} {ρ : EnvD} {τ : Sto} {F r : List Str} (hF : xV fr ρ τ = .ok (.lst (sDs F)) τ) (hH : ∀ h ∈ F, h ∈ hou5) (hl : F.length ≤ 59) (hr : r.length ≤ 60) (hv : ∀ d, xV v (putsD (wipeD ρ [v]) [(v, d)]) τ = .ok d τ) (hw : ∀ d, xV rw (putsD (wipeD ρ [v]) [(v, d)]) τ = .ok (encR r) τ) :
    xComp [v] (.nm v) (iSeq (xP gCat (aC (xLst (aC (xC .non) aN)) (aC (xV fr) aN)))) bYes (xP gAdd (aC (xV rw) (aC (xTup (aC (xV v) aN)) aN))) ρ τ = .ok (.lst (rowsD ((eS :: F).map fun h => r ++ [h]))) τ := by
  have z : (.lst ((eS :: F).map fun h => encR (r ++ [h])) : Dv) = .lst (rowsD ((eS :: F).map fun h => r ++ [h])) := by unfold rowsD; rw [List.map_map]; rfl
  rw [← z]
  refine xCompA_eq encE (fun h => encR (r ++ [h])) (eS :: F) (iSeq_ok (xP_ok (r := .lst ((eS :: F).map encE)) (aC_ok (xLst_ok (aC_ok (d := .non) rfl aN_ok) rfl) (aC_ok hF aN_ok)) ?_) rfl) (b60 (by rw [List.length_cons]; omega)) fun h _ => ⟨_, rfl, ?_⟩
  · show (if big (1 + (sDs F).length) = true then some (Dv.lst ([.non] ++ sDs F)) else none) = _
    rw [if_pos (by rw [sDs_len]; exact b60 (by omega)), enc_strs hH]
    rfl
  · refine xP_ok (aC_ok (hw _) (aC_ok (xTup_ok (aC_ok (hv _) aN_ok) rfl) aN_ok)) ?_
    show (if big ((r.map encE).length + 1) = true then some (Dv.tup (r.map encE ++ [encE h])) else none) = _
    rw [if_pos (by rw [List.length_map]; exact bK (by omega))]
    unfold encR
    rw [List.map_append]; rfl
theorem sExt_ok {i : Nat} {f : XD} {ρ : EnvS} {τ τ1 : Sto} {ds es : List Dv} (h1 : ρ[i]? = some (some (.own (.lst ds)))) (hf : f (showS ρ) τ = .ok (.lst es) τ1) (hi : Dv.immL es = true) (hb : big (ds.length + es.length) = true) : sExt i f ρ τ = .nx (ρ.set i (some (.own (.lst (ds ++ es))))) τ1 := by
  have o1 : ownL i ρ = true := by simp [ownL, h1]
  unfold sExt
  rw [o1, if_neg (by simp), hf, bindS_ok]
  simp only [hi, if_true]
  unfold extS
  rw [h1]
  simp only [hb, if_true]
theorem rows_imm (l : List (List Str)) : Dv.immL (rowsD l) = true := immL_all' fun d hd => by
  obtain ⟨x, _, rfl⟩ := List.mem_map.mp hd
  exact encR_imm x
theorem rowsD_len (l : List (List Str)) : (rowsD l).length = l.length := List.length_map _
theorem rowsD_app (l m : List (List Str)) : rowsD (l ++ m) = rowsD l ++ rowsD m := List.map_append
theorem stepR_cons (H r : List Str) (l : List (List Str)) : stepR H (r :: l) = ((eS :: H.filter fun h => !decide (h ∈ r)).map fun h => r ++ [h]) ++ stepR H l := by unfold stepR; rw [List.flatMap_cons]
theorem loop_nx {t : Tgt} {body : XS} {d : Dv} {ds : List Dv} {ρ ρ1 : EnvS} {τ τ1 : Sto} {l : List (Nat × Dv)} (h1 : tset t d = some l) (h2 : body (putsS ρ l) τ = .nx ρ1 τ1) : loopS t body (d :: ds) ρ τ = loopS t body ds ρ1 τ1 := by
  rw [loopS, h1]
  simp only [h2]
section
variable {b : Book} (B : BF b) {τ : Sto}
include B
theorem homes_hou (p : Str) (hp : p ∈ named b.likes) : ∀ h ∈ homes b p, h ∈ hou5 := fun h hh => B.h5 h (B.ll p hp h ((List.mem_filter.mp hh).1))
theorem homes_nd (p : Str) (hp : p ∈ named b.likes) : (homes b p).Nodup := (B.ln p hp).sublist List.filter_sublist
theorem homes_len (p : Str) (hp : p ∈ named b.likes) : (homes b p).length ≤ 5 := by
  have := List.Nodup.length_le_of_subset (homes_nd B p hp) (l₂ := named b.rows) fun h hh => B.ll p hp h ((List.mem_filter.mp hh).1)
  have l2 : (named b.rows).length = b.rows.length := List.length_map _
  have := B.lh
  omega
/-! the program's standings -/
def sE (b : Book) (f : List (List Str)) (s2 s3 s4 s5 : Option Sl) : EnvS := [some (.im (bookD b)), some (.im (.lst (rowsD f))), s2, s3, s4, s5, none]
def sI : XS := sCons (sSetH 5 (xComp [6] (.nm 6) (iSeq (xF (callF 2 F_homes_of) (aC (xV 0) (aC (xV 2) aN)))) (bP gNotIn (aC (xV 6) (aC (xV 4) aN))) (xV 6)))
 (sCons (sExt 3 (xComp [6] (.nm 6) (iSeq (xP gCat (aC (xLst (aC (xC .non) aN)) (aC (xV 5) aN)))) bYes (xP gAdd (aC (xV 4) (aC (xTup (aC (xV 6) aN)) aN))))) sNil)
def sO : XS := sCons (sSetOH 3 (xLst aN)) (sCons (sFor (.nm 4) (iSeq (xV 1)) sI) (sCons (sFrz 3 (sSetH 1 (xV 3))) sNil))
omit B in
theorem stand_split : xb_standings = sCons (sSetH 1 (xLst (aC (xTup aN) aN))) (sCons (sFor (.nm 2) (iSeq (xF (callF 1 F_people_of) (aC (xV 0) aN))) sO) (sCons (sRet (xP gTuple (aC (xSortK F_key_of (xV 1)) aN))) sNil)) := rfl
def ownR (m : List (List Str)) : Option Sl := some (.own (.lst (rowsD m)))
def imS (p : Str) : Option Sl := some (.im (.str p))
theorem sI_ok {p : Str} (hp : p ∈ named b.likes) {f m : List (List Str)} {s4 s5 : Option Sl} {r : List Str} (hr : RowOk r) (hb : m.length + 6 ≤ 100000) :
    ∃ s5', sI (sE b f (imS p) (ownR m) (some (.im (encR r))) s5) τ = .nx (sE b f (imS p) (ownR (m ++ ((eS :: (homes b p).filter fun h => !decide (h ∈ r)).map fun h => r ++ [h]))) (some (.im (encR r))) s5') τ := by
  have hl := homes_len B p hp
  have hI : (iSeq (xF (callF 2 F_homes_of) (aC (xV 0) (aC (xV 2) aN)))) (hideS (sE b f (imS p) (ownR m) (some (.im (encR r))) s5)) τ = .ok (sDs (homes b p)) τ :=
    iSeq_ok (xF_ok (aC_ok (d := bookD b) rfl (aC_ok (d := .str p) rfl aN_ok)) rfl (homes_ok B hp)) rfl
  have c1 := free_ok (v := 6) (rw := 4) (r := r) hI (homes_hou B p hp) (by omega) hr (fun d => rfl) (fun d => rfl)
  have q1 := sSetH_ok (i := 5) c1
  have fl : ((homes b p).filter fun h => !decide (h ∈ r)).length ≤ 5 := Nat.le_trans (List.length_filter_le _ _) hl
  have c2 := more_ok (v := 6) (rw := 4) (fr := 5) (r := r) (F := (homes b p).filter fun h => !decide (h ∈ r)) (ρ := showS (sE b f (imS p) (ownR m) (some (.im (encR r))) (some (.im (.lst (sDs ((homes b p).filter fun h => !decide (h ∈ r)))))))) (τ := τ) rfl (fun h hh => homes_hou B p hp h ((List.mem_filter.mp hh).1)) (by omega) hr.1 (fun d => rfl) (fun d => rfl)
  have q2 := sExt_ok (i := 3) (ds := rowsD m) rfl c2 (rows_imm _) (by rw [rowsD_len, rowsD_len, List.length_map, List.length_cons]; exact bK (by omega))
  refine ⟨some (.im (.lst (sDs ((homes b p).filter fun h => !decide (h ∈ r))))), (sc_nx q1).trans ((sc_nx q2).trans ?_)⟩
  rw [← rowsD_app]
  rfl
theorem sL_ok {p : Str} (hp : p ∈ named b.likes) {f : List (List Str)} : ∀ (l m : List (List Str)) (s4 s5 : Option Sl), (∀ r ∈ l, RowOk r) → m.length + 6 * l.length ≤ 100000 →
    ∃ s4' s5', loopS (.nm 4) sI (rowsD l) (sE b f (imS p) (ownR m) s4 s5) τ = .nx (sE b f (imS p) (ownR (m ++ stepR (homes b p) l)) s4' s5') τ
  | [], m, s4, s5, _, _ => ⟨s4, s5, by rw [show stepR (homes b p) [] = [] from rfl, List.append_nil]; rfl⟩
  | r :: l, m, s4, s5, hr, hb => by
    rw [List.length_cons] at hb
    obtain ⟨s5', e⟩ := sI_ok B hp (τ := τ) (f := f) (m := m) (s4 := s4) (s5 := s5) (hr r List.mem_cons_self) (by omega)
    have hl := homes_len B p hp
    have fl : ((homes b p).filter fun h => !decide (h ∈ r)).length ≤ 5 := Nat.le_trans (List.length_filter_le _ _) hl
    obtain ⟨t4, t5, e2⟩ := sL_ok hp l (m ++ ((eS :: (homes b p).filter fun h => !decide (h ∈ r)).map fun h => r ++ [h])) (some (.im (encR r))) s5' (fun q hq => hr q (List.mem_cons_of_mem _ hq)) (by
      rw [List.length_append, List.length_map, List.length_cons]; omega)
    refine ⟨t4, t5, ?_⟩
    show loopS (.nm 4) sI (encR r :: rowsD l) _ τ = _
    rw [loop_nx (l := [(4, encR r)]) rfl e, e2, stepR_cons, List.append_assoc]
omit B in
theorem good_step {H : List Str} {f : List (List Str)} {n : Nat} (hH : ∀ h ∈ H, h ∈ hou5) (hl : H.length ≤ 5) (h : (∀ r ∈ f, r.length = n ∧ ∀ x ∈ r, x = eS ∨ x ∈ hou5) ∧ f.length ≤ 6 ^ n) : (∀ r ∈ stepR H f, r.length = n + 1 ∧ ∀ x ∈ r, x = eS ∨ x ∈ hou5) ∧ (stepR H f).length ≤ 6 ^ (n + 1) := by
  constructor
  · intro r hr
    refine ⟨stepR_len (fun q hq => (h.1 q hq).1) r hr, ?_⟩
    unfold stepR at hr
    obtain ⟨q, hq, h2⟩ := List.mem_flatMap.mp hr
    obtain ⟨y, hy, rfl⟩ := List.mem_map.mp h2
    intro x hx
    rcases List.mem_append.mp hx with hx | hx
    · exact (h.1 q hq).2 x hx
    · rw [List.mem_singleton] at hx
      subst hx
      rcases List.mem_cons.mp hy with e | e
      · exact .inl e
      · exact .inr (hH x (List.mem_filter.mp e).1)
  · have key : ∀ f : List (List Str), (stepR H f).length ≤ 6 * f.length := by
      intro f
      induction f with
      | nil => exact Nat.le_refl _
      | cons r f ih =>
        rw [stepR_cons, List.length_append, List.length_map, List.length_cons, List.length_cons]
        have := Nat.le_trans (List.length_filter_le (fun h => !decide (h ∈ r)) H) hl
        omega
    have := key f
    rw [Nat.pow_succ]
    omega
def Good (n : Nat) (f : List (List Str)) : Prop := (∀ r ∈ f, r.length = n ∧ ∀ x ∈ r, x = eS ∨ x ∈ hou5) ∧ f.length ≤ 6 ^ n
omit B in
theorem Good.row {n : Nat} {f : List (List Str)} (g : Good n f) (hn : n ≤ 60) : ∀ r ∈ f, RowOk r := fun r hr => ⟨by rw [(g.1 r hr).1]; exact hn, (g.1 r hr).2⟩
omit B in
theorem pow6 {n : Nat} (h : n ≤ 5) : 6 ^ n ≤ 7776 := Nat.le_trans (Nat.pow_le_pow_right (by decide) h) (by decide)
theorem sO_ok {p : Str} (hp : p ∈ named b.likes) {f : List (List Str)} {n : Nat} (g : Good n f) (hn : n ≤ 5) (s2 s3 s4 s5 : Option Sl) : ∃ s3' s4' s5', sO (sE b f (imS p) s3 s4 s5) τ = .nx (sE b (stepR (homes b p) f) (imS p) s3' s4' s5') τ := by
  have gl := Nat.le_trans g.2 (pow6 hn)
  obtain ⟨s4', s5', e⟩ := sL_ok B hp (τ := τ) (f := f) f [] s4 s5 (g.row (by omega)) (by rw [List.length_nil]; omega)
  have q1 : sSetOH 3 (xLst aN) (sE b f (imS p) s3 s4 s5) τ = .nx (sE b f (imS p) (ownR []) s4 s5) τ := rfl
  have q2 : sFor (.nm 4) (iSeq (xV 1)) sI (sE b f (imS p) (ownR []) s4 s5) τ = .nx (sE b f (imS p) (ownR (stepR (homes b p) f)) s4' s5') τ := by
    rw [sFor_ok (ds := rowsD f) (τ1 := τ) rfl]; exact e
  exact ⟨some (.im (.lst (rowsD (stepR (homes b p) f)))), s4', s5', (sc_nx q1).trans ((sc_nx q2).trans rfl)⟩
theorem sP_ok : ∀ (ps : List Str) (f : List (List Str)) (n : Nat) (s2 s3 s4 s5 : Option Sl), (∀ p ∈ ps, p ∈ named b.likes) → Good n f → n + ps.length ≤ 5 →
    ∃ s2' s3' s4' s5', loopS (.nm 2) sO (sDs ps) (sE b f s2 s3 s4 s5) τ = .nx (sE b ((ps.map (homes b)).foldl (fun f H => stepR H f) f) s2' s3' s4' s5') τ ∧ Good (n + ps.length) ((ps.map (homes b)).foldl (fun f H => stepR H f) f)
  | [], f, n, s2, s3, s4, s5, _, g, _ => ⟨s2, s3, s4, s5, rfl, g⟩
  | p :: ps, f, n, s2, s3, s4, s5, hp, g, hn => by
    rw [List.length_cons] at hn
    have hp1 := hp p List.mem_cons_self
    obtain ⟨t3, t4, t5, e⟩ := sO_ok B hp1 (τ := τ) g (by omega) s2 s3 s4 s5
    have g2 : Good (n + 1) (stepR (homes b p) f) := good_step (homes_hou B p hp1) (homes_len B p hp1) g
    obtain ⟨u2, u3, u4, u5, e2, g3⟩ := sP_ok ps (stepR (homes b p) f) (n + 1) (imS p) t3 t4 t5 (fun q hq => hp q (List.mem_cons_of_mem _ hq)) g2 (by omega)
    refine ⟨u2, u3, u4, u5, ?_, ?_⟩
    · show loopS (.nm 2) sO (.str p :: sDs ps) _ τ = _
      rw [loop_nx (l := [(2, .str p)]) rfl e, e2]; rfl
    · rw [List.length_cons, show n + (ps.length + 1) = n + 1 + ps.length by omega]; exact g3
/-- the rows the program finds -/
def found (b : Book) : List (List Str) := ((named b.likes).map (homes b)).foldl (fun f H => stepR H f) [[]]
omit B in
theorem good0 : Good 0 [[]] := ⟨fun r hr => by rw [List.mem_singleton] at hr; subst hr; exact ⟨rfl, fun x hx => nomatch hx⟩, by decide⟩
theorem nlen : (named b.likes).length ≤ 5 := by unfold named; rw [List.length_map]; exact B.lp
theorem standings_ok : F_standings [bookD b] τ = .ok (.tup (rowsD ((found b).mergeSort rLe))) τ ∧ ∀ r ∈ found b, RowOk r := by
  have nl := nlen B
  obtain ⟨s2, s3, s4, s5, e, g⟩ := sP_ok B (τ := τ) (named b.likes) [[]] 0 none none none none (fun _ h => h) good0 (by omega)
  have g' := g.row (by omega)
  refine ⟨?_, g'⟩
  have gl : (found b).length ≤ 7776 := Nat.le_trans g.2 (pow6 (by omega))
  have q1 : sSetH 1 (xLst (aC (xTup aN) aN)) (startD 7 [bookD b]) τ = .nx (sE b [[]] none none none none) τ := rfl
  have q2 : sFor (.nm 2) (iSeq (xF (callF 1 F_people_of) (aC (xV 0) aN))) sO (sE b [[]] none none none none) τ = .nx (sE b (found b) s2 s3 s4 s5) τ := by
    exact (sFor_ok (ds := sDs (named b.likes)) (iSeq_ok (d := .lst (sDs (named b.likes))) (xF_ok (ds := [bookD b]) (aC_ok (d := bookD b) rfl aN_ok) rfl (people_ok B)) rfl)).trans e
  have q3 : (xP gTuple (aC (xSortK F_key_of (xV 1)) aN)) (showS (sE b (found b) s2 s3 s4 s5)) τ = .ok (.tup (rowsD ((found b).mergeSort rLe))) τ := by
    refine xP_ok (aC_ok (d := .lst (rowsD ((found b).mergeSort rLe))) (τ1 := τ) ?_ aN_ok) rfl
    exact sorted_rows g' (bK (by omega))
  unfold F_standings runF
  rw [stand_split, sc_nx q1, sc_nx q2, sc_rt (sRet_ok q3)]
/-! the law's standings -/
def aE (b : Book) (f : List (List Str)) (s2 s3 s4 s5 s6 : Option Sl) : EnvS := [some (.im (bookD b)), some (.im (.lst (rowsD f))), s2, s3, s4, s5, s6, none]
def aI : XS := sCons (sSetH 6 (xComp [7] (.nm 7) (iSeq (xP gSorted (aC (xF (callF 2 F__law_homes) (aC (xV 0) (aC (xV 2) aN))) aN))) (bP gNotIn (aC (xV 7) (aC (xV 5) aN))) (xV 7)))
 (sCons (sExt 4 (xComp [7] (.nm 7) (iSeq (xP gCat (aC (xLst (aC (xC .non) aN)) (aC (xV 6) aN)))) bYes (xP gAdd (aC (xV 5) (aC (xTup (aC (xV 7) aN)) aN))))) sNil)
def aO : XS := sCons (sSetOH 4 (xLst aN)) (sCons (sFor (.nm 5) (iSeq (xV 1)) aI) (sCons (sFrz 4 (sSetH 1 (xV 4))) sNil))
omit B in
theorem all_split : xb__law_all = sCons (sSetH 1 (xLst (aC (xTup aN) aN))) (sCons (sFor (.tp [(.nm 2), (.nm 3)]) (iSeqT (xPs gIx (aC (xV 0) (aC (xC (.int 1)) aN)))) aO) (sCons (sRet (xV 1)) sNil)) := rfl
def shomes (b : Book) (p : Str) : List Str := (homes b p).mergeSort sLe
theorem sh_mem {p h : Str} (hh : h ∈ shomes b p) : h ∈ homes b p := (List.mergeSort_perm _ _).mem_iff.mp hh
theorem sh_len (p : Str) : (shomes b p).length = (homes b p).length := (List.mergeSort_perm _ _).length_eq
theorem aI_ok {p : Str} (hp : p ∈ named b.likes) {f m : List (List Str)} {s3 s6 : Option Sl} {r : List Str} (hr : RowOk r) (hb : m.length + 6 ≤ 100000) :
    ∃ s6', aI (aE b f (imS p) s3 (ownR m) (some (.im (encR r))) s6) τ = .nx (aE b f (imS p) s3 (ownR (m ++ ((eS :: (shomes b p).filter fun h => !decide (h ∈ r)).map fun h => r ++ [h]))) (some (.im (encR r))) s6') τ := by
  have hl := homes_len B p hp
  have sl := sh_len B p
  have hI : (iSeq (xP gSorted (aC (xF (callF 2 F__law_homes) (aC (xV 0) (aC (xV 2) aN))) aN))) (hideS (aE b f (imS p) s3 (ownR m) (some (.im (encR r))) s6)) τ = .ok (sDs (shomes b p)) τ :=
    iSeq_ok (xP_ok (aC_ok (xF_ok (aC_ok (d := bookD b) rfl (aC_ok (d := .str p) rfl aN_ok)) rfl (lhomes_ok B hp)) aN_ok) (sorted_texts (fun x hx => hou_ok x (homes_hou B p hp x hx)) (b60 (by omega)))) rfl
  have c1 := free_ok (v := 7) (rw := 5) (r := r) hI (fun h hh => homes_hou B p hp h (sh_mem B hh)) (by omega) hr (fun d => rfl) (fun d => rfl)
  have q1 := sSetH_ok (i := 6) c1
  have fl : ((shomes b p).filter fun h => !decide (h ∈ r)).length ≤ 5 := Nat.le_trans (List.length_filter_le _ _) (by omega)
  have c2 := more_ok (v := 7) (rw := 5) (fr := 6) (r := r) (F := (shomes b p).filter fun h => !decide (h ∈ r)) (ρ := showS (aE b f (imS p) s3 (ownR m) (some (.im (encR r))) (some (.im (.lst (sDs ((shomes b p).filter fun h => !decide (h ∈ r)))))))) (τ := τ) rfl (fun h hh => homes_hou B p hp h (sh_mem B ((List.mem_filter.mp hh).1))) (by omega) hr.1 (fun d => rfl) (fun d => rfl)
  have q2 := sExt_ok (i := 4) (ds := rowsD m) rfl c2 (rows_imm _) (by rw [rowsD_len, rowsD_len, List.length_map, List.length_cons]; exact bK (by omega))
  refine ⟨some (.im (.lst (sDs ((shomes b p).filter fun h => !decide (h ∈ r))))), (sc_nx q1).trans ((sc_nx q2).trans ?_)⟩
  rw [← rowsD_app]
  rfl
theorem aL_ok {p : Str} (hp : p ∈ named b.likes) {f : List (List Str)} {s3 : Option Sl} : ∀ (l m : List (List Str)) (s4 s5 : Option Sl), (∀ r ∈ l, RowOk r) → m.length + 6 * l.length ≤ 100000 →
    ∃ s4' s5', loopS (.nm 5) aI (rowsD l) (aE b f (imS p) s3 (ownR m) s4 s5) τ = .nx (aE b f (imS p) s3 (ownR (m ++ stepR (shomes b p) l)) s4' s5') τ
  | [], m, s4, s5, _, _ => ⟨s4, s5, by rw [show stepR (shomes b p) [] = [] from rfl, List.append_nil]; rfl⟩
  | r :: l, m, s4, s5, hr, hb => by
    rw [List.length_cons] at hb
    obtain ⟨s5', e⟩ := aI_ok B hp (τ := τ) (f := f) (m := m) (s3 := s3) (s6 := s5) (hr r List.mem_cons_self) (by omega)
    have hl := homes_len B p hp
    have sl := sh_len B p
    have fl : ((shomes b p).filter fun h => !decide (h ∈ r)).length ≤ 5 := Nat.le_trans (List.length_filter_le _ _) (by omega)
    obtain ⟨t4, t5, e2⟩ := aL_ok hp l (m ++ ((eS :: (shomes b p).filter fun h => !decide (h ∈ r)).map fun h => r ++ [h])) (some (.im (encR r))) s5' (fun q hq => hr q (List.mem_cons_of_mem _ hq)) (by
      rw [List.length_append, List.length_map, List.length_cons]; omega)
    refine ⟨t4, t5, ?_⟩
    show loopS (.nm 5) aI (encR r :: rowsD l) _ τ = _
    rw [loop_nx (l := [(5, encR r)]) rfl e, e2, stepR_cons, List.append_assoc]
theorem aO_ok {p : Str} (hp : p ∈ named b.likes) {f : List (List Str)} {n : Nat} (g : Good n f) (hn : n ≤ 5) (s3 s4 s5 s6 : Option Sl) : ∃ s4' s5' s6', aO (aE b f (imS p) s3 s4 s5 s6) τ = .nx (aE b (stepR (shomes b p) f) (imS p) s3 s4' s5' s6') τ := by
  have gl := Nat.le_trans g.2 (pow6 hn)
  obtain ⟨s5', s6', e⟩ := aL_ok B hp (τ := τ) (f := f) (s3 := s3) f [] s5 s6 (g.row (by omega)) (by rw [List.length_nil]; omega)
  have q1 : sSetOH 4 (xLst aN) (aE b f (imS p) s3 s4 s5 s6) τ = .nx (aE b f (imS p) s3 (ownR []) s5 s6) τ := rfl
  have q2 : sFor (.nm 5) (iSeq (xV 1)) aI (aE b f (imS p) s3 (ownR []) s5 s6) τ = .nx (aE b f (imS p) s3 (ownR (stepR (shomes b p) f)) s5' s6') τ := by
    rw [sFor_ok (ds := rowsD f) (τ1 := τ) rfl]; exact e
  exact ⟨some (.im (.lst (rowsD (stepR (shomes b p) f)))), s5', s6', (sc_nx q1).trans ((sc_nx q2).trans rfl)⟩
theorem aP_ok : ∀ (ps : List (Str × List Str)) (f : List (List Str)) (n : Nat) (s2 s3 s4 s5 s6 : Option Sl), (∀ p ∈ ps, p.1 ∈ named b.likes) → Good n f → n + ps.length ≤ 5 →
    ∃ s2' s3' s4' s5' s6', loopS (.tp [(.nm 2), (.nm 3)]) aO (ps.map rowD) (aE b f s2 s3 s4 s5 s6) τ = .nx (aE b ((ps.map fun p => shomes b p.1).foldl (fun f H => stepR H f) f) s2' s3' s4' s5' s6') τ
  | [], f, n, s2, s3, s4, s5, s6, _, g, _ => ⟨s2, s3, s4, s5, s6, rfl⟩
  | p :: ps, f, n, s2, s3, s4, s5, s6, hp, g, hn => by
    rw [List.length_cons] at hn
    have hp1 := hp p List.mem_cons_self
    obtain ⟨t4, t5, t6, e⟩ := aO_ok B hp1 (τ := τ) g (by omega) (some (.im (.tup (sDs p.2)))) s4 s5 s6
    have g2 : Good (n + 1) (stepR (shomes b p.1) f) := good_step (fun h hh => homes_hou B p.1 hp1 h (sh_mem B hh)) (by rw [sh_len B]; exact homes_len B p.1 hp1) g
    obtain ⟨u2, u3, u4, u5, u6, e2⟩ := aP_ok ps (stepR (shomes b p.1) f) (n + 1) (imS p.1) (some (.im (.tup (sDs p.2)))) t4 t5 t6 (fun q hq => hp q (List.mem_cons_of_mem _ hq)) g2 (by omega)
    refine ⟨u2, u3, u4, u5, u6, ?_⟩
    show loopS (.tp [(.nm 2), (.nm 3)]) aO (rowD p :: ps.map rowD) _ τ = _
    rw [loop_nx (l := [(2, .str p.1), (3, .tup (sDs p.2))]) rfl e, e2]; rfl
theorem all_ok : F__law_all [bookD b] τ = .ok (.lst (rowsD ((found b).mergeSort rLe))) τ := by
  have nl := B.lp
  obtain ⟨s2, s3, s4, s5, s6, e⟩ := aP_ok B (τ := τ) b.likes [[]] 0 none none none none none (fun p hp => List.mem_map_of_mem hp) good0 (by omega)
  have key : (found b).mergeSort rLe = (b.likes.map fun p => shomes b p.1).foldl (fun f H => stepR H f) [[]] := by
    unfold found
    rw [stand_eq _ (fun H hH => ?_)]
    · unfold named
      rw [List.map_map, List.foldl_map, List.foldl_map]; rfl
    · obtain ⟨p, hp, rfl⟩ := List.mem_map.mp hH
      exact ⟨homes_nd B p hp, fun h => hou_ne _ (homes_hou B p hp _ h) rfl⟩
  have q1 : sSetH 1 (xLst (aC (xTup aN) aN)) (startD 8 [bookD b]) τ = .nx (aE b [[]] none none none none none) τ := rfl
  have q2 : sFor (.tp [(.nm 2), (.nm 3)]) (iSeqT (xPs gIx (aC (xV 0) (aC (xC (.int 1)) aN)))) aO (aE b [[]] none none none none none) τ = .nx (aE b ((found b).mergeSort rLe) s2 s3 s4 s5 s6) τ := by
    rw [key]
    refine (sFor_ok (ds := b.likes.map rowD) (τ1 := τ) (iSeqT_ok (d := .tup (b.likes.map rowD)) (xPs_ok (ds := [bookD b, .int 1]) (aC_ok (d := bookD b) rfl (aC_ok rfl aN_ok)) ix_b1) rfl ?_)).trans ?_
    rotate_left
    · exact e
    · rw [List.all_eq_true]; intro d hd
      obtain ⟨p, _, rfl⟩ := List.mem_map.mp hd
      rfl
  have q3 : (xV 1) (showS (aE b ((found b).mergeSort rLe) s2 s3 s4 s5 s6)) τ = .ok (.lst (rowsD ((found b).mergeSort rLe))) τ := rfl
  unfold F__law_all runF
  rw [all_split, sc_nx q1, sc_nx q2, sc_rt (sRet_ok q3)]
end
end Lk02
end
section
set_option Elab.async false
set_option linter.all false
set_option maxRecDepth 100000
namespace Lk02
open PySem PySem.Spec PyProof.Rows L2 Mv
/-! what the law hears of an error -/
theorem exc_at {τ : Sto} {n : Nat} {nm : Str} (h : τ[n]? = some (.exc nm none)) : excOf (.tok n) τ = some (nm, none) := by simp [excOf, h]
theorem hd_mem : ∀ m ∈ hdNames, ∀ m' ∈ hdNames, (m ∈ hdNames ∧ m' ∈ hdNames) := fun _ h _ h' => ⟨h, h'⟩
theorem isiX_at {τ : Sto} {n : Nat} {nm m : Str} (h : τ[n]? = some (.exc nm none)) (h1 : nm ∈ hdNames) (h2 : m ∈ hdNames) : gIsiX m [.tok n] τ = some (decide (nm = m)) := by
  show (excOf (.tok n) τ).bind _ = _
  rw [exc_at h, Option.bind_some, if_pos ⟨h1, h2⟩]
theorem isiV_at {τ : Sto} {n : Nat} {nm : Str} (h : τ[n]? = some (.exc nm none)) (h1 : nm ∈ hdNames) : gIsiV [.tok n] τ = some true := by
  show (excOf (.tok n) τ).bind _ = _
  rw [exc_at h, Option.bind_some, if_pos h1]
def hE (n : Nat) (a b c : Option Sl) : EnvS := [none, none, a, b, some (.im (.tok n)), none, c]
theorem bPs_ok {p : List Dv → Sto → Option Bool} {a : XL} {ρ : EnvD} {τ τ1 : Sto} {ds : List Dv} {b : Bool} (h1 : a ρ τ = .ok ds τ1) (h2 : p ds τ1 = some b) : bPs p a ρ τ = .ok b τ1 := by unfold bPs; rw [h1, ok_bind, h2]; rfl
theorem x4 {τ : Sto} {n : Nat} {nm m : Str} {a b c : Option Sl} (s : Option Sl → Option Dv) (hs : s (some (.im (.tok n))) = some (.tok n)) (h : τ[n]? = some (.exc nm none)) (h1 : nm ∈ hdNames) (h2 : m ∈ hdNames) : (xB (bPs (gIsiX m) (aC (xV 4) aN))) ((hE n a b c).map s) τ = .ok (.bl (decide (nm = m))) τ := by
  refine xB_ok (bPs_ok (ds := [.tok n]) (aC_ok (d := .tok n) ?_ aN_ok) (isiX_at h h1 h2))
  show (match ((hE n a b c).map s)[4]? with | some (some d) => Res.ok d τ | _ => .bad) = _
  rw [show ((hE n a b c).map s)[4]? = some (s (some (.im (.tok n)))) from rfl, hs]
theorem dct2 {x y : XD} {k1 k2 : Str} {u v : Dv} {ρ : EnvD} {τ : Sto} (hk : distD [.str k1, .str k2] = true) (hx : x ρ τ = .ok u τ) (hy : y ρ τ = .ok v τ) : xDct [k1, k2] (aC x (aC y aN)) ρ τ = .ok (.dct [.str k1, .str k2] [u, v]) τ := by
  unfold xDct
  rw [aC_ok hx (aC_ok hy aN_ok), ok_bind, if_pos ⟨hk, rfl⟩]; rfl
theorem sUpd_ok {i : Nat} {f : XD} {ρ : EnvS} {τ τ1 : Sto} {ks vs ks2 vs2 : List Dv} (h1 : ρ[i]? = some (some (.own (.dct ks vs)))) (hf : f (hideS ρ) τ = .ok (.dct ks2 vs2) τ1) (hd : distD (ks ++ ks2) = true) (hb : big (vs.length + vs2.length) = true) : sUpd i f ρ τ = .nx (ρ.set i (some (.own (.dct (ks ++ ks2) (vs ++ vs2))))) τ1 := by
  have o1 : ownDc i ρ = true := by simp [ownDc, h1]
  unfold sUpd
  rw [o1, if_neg (by simp), hf, bindS_ok]
  unfold updS
  rw [h1]
  simp only [hd, hb, and_self, if_true]
def K7 : List Str := ["no person", "no house", "no standing", "no move", "no names", "unsettled", "unfair", "no number", "unlike", "bad book", "no back", "no text"]
def C7 : List Str := ["NoPerson", "NoHouse", "NoStanding", "NoMove", "NoNames", "Unsettled", "Unfair", "NoNumber", "Unlike", "BadBook", "NoBack", "NoText"]
def vE (nm : Str) (l : List Str) : List Dv := l.map fun m => .bl (decide (nm = m))
theorem c7_in : ∀ m ∈ C7, m ∈ hdNames := by decide +kernel
theorem heard_ok {τ : Sto} {n : Nat} {nm : Str} {w : Str} (h : τ[n]? = some (.exc nm none)) (h1 : nm ∈ hdNames) (hl : nm ≠ "Lived") (hm : nm ≠ "Muddled")
    (hw : ∀ τ : Sto, compL [6] (.nm 6) (bT (xPs gIx (aC (xV 2) (aC (xV 6) aN)))) (xV 6) (hideS (hE n (some (.im (.fdct (sDs K7) (vE nm C7)))) none none)) (sDs K7) τ = .ok [.str w] τ) :
    finS (xr_heard (hE n none none none) τ) = .ok (.tup [.str w]) τ := by
  have m (a b c : Option Sl) (s) (hs) (m : Str) (h2 : m ∈ hdNames) := x4 (a := a) (b := b) (c := c) (τ := τ) s hs h h1 h2
  have t1 : sIf (bP gIsN (aC (xV 4) (aC (xC .non) aN))) (sCons (sRet (xTup (aC (xC (.str "told")) (aC (xV 5) aN)))) sNil) sNil (hE n none none none) τ = .nx (hE n none none none) τ := by
    rw [sIf_ok (b := false) (τ1 := τ) (bP_ok (aC_ok (d := .tok n) rfl (aC_ok (d := .non) rfl aN_ok)) rfl)]; rfl
  have t2 : sIf (bT (xB (bPs (gIsiX "Lived") (aC (xV 4) aN)))) (sCons (sRet (xTup (aC (xC (.str "lived")) (aC (xPs gPerson (aC (xV 4) aN)) aN)))) sNil) sNil (hE n none none none) τ = .nx (hE n none none none) τ := by
    rw [sIf_ok (b := false) (τ1 := τ) (bT_ok (m none none none show1 rfl "Lived" (by decide +kernel)) (by rw [decide_eq_false hl]; rfl))]; rfl
  have t3 : sIf (bT (xB (bPs (gIsiX "Muddled") (aC (xV 4) aN)))) (sCons (sRet (xTup (aC (xC (.str "muddled")) (aC (xPs gPerson (aC (xV 4) aN)) aN)))) sNil) sNil (hE n none none none) τ = .nx (hE n none none none) τ := by
    rw [sIf_ok (b := false) (τ1 := τ) (bT_ok (m none none none show1 rfl "Muddled" (by decide +kernel)) (by rw [decide_eq_false hm]; rfl))]; rfl
  have D (i : Nat) (k1 k2 m1 m2 : Str) (a : Option Sl) (hk : distD [.str k1, .str k2] = true) (h1 : m1 ∈ hdNames) (h2 : m2 ∈ hdNames) := dct2 (τ := τ) hk (m a none none hide1 rfl m1 h1) (m a none none hide1 rfl m2 h2)
  let own (k c : List Str) : Option Sl := some (.own (.dct (sDs k) (vE nm c)))
  have t4 : sSetOH 2 (xDct ["no person", "no house"] (aC (xB (bPs (gIsiX "NoPerson") (aC (xV 4) aN))) (aC (xB (bPs (gIsiX "NoHouse") (aC (xV 4) aN))) aN))) (hE n none none none) τ = .nx (hE n (own (K7.take 2) (C7.take 2)) none none) τ := by
    unfold sSetOH
    rw [show hideS (hE n none none none) = (hE n none none none).map hide1 from rfl, D 0 _ _ _ _ none (by decide +kernel) (by decide +kernel) (by decide +kernel)]; rfl
  have t5 : sUpd 2 (xDct ["no standing", "no move"] (aC (xB (bPs (gIsiX "NoStanding") (aC (xV 4) aN))) (aC (xB (bPs (gIsiX "NoMove") (aC (xV 4) aN))) aN))) (hE n (own (K7.take 2) (C7.take 2)) none none) τ = .nx (hE n (own (K7.take 4) (C7.take 4)) none none) τ :=
    sUpd_ok (ks := sDs (K7.take 2)) (vs := vE nm (C7.take 2)) rfl (D 0 "no standing" "no move" "NoStanding" "NoMove" _ (by decide +kernel) (by decide +kernel) (by decide +kernel)) (by decide +kernel) rfl
  have t6 : sUpd 2 (xDct ["no names", "unsettled"] (aC (xB (bPs (gIsiX "NoNames") (aC (xV 4) aN))) (aC (xB (bPs (gIsiX "Unsettled") (aC (xV 4) aN))) aN))) (hE n (own (K7.take 4) (C7.take 4)) none none) τ = .nx (hE n (own (K7.take 6) (C7.take 6)) none none) τ :=
    sUpd_ok (ks := sDs (K7.take 4)) (vs := vE nm (C7.take 4)) rfl (D 0 "no names" "unsettled" "NoNames" "Unsettled" _ (by decide +kernel) (by decide +kernel) (by decide +kernel)) (by decide +kernel) rfl
  have t7 : sUpd 2 (xDct ["unfair", "no number"] (aC (xB (bPs (gIsiX "Unfair") (aC (xV 4) aN))) (aC (xB (bPs (gIsiX "NoNumber") (aC (xV 4) aN))) aN))) (hE n (own (K7.take 6) (C7.take 6)) none none) τ = .nx (hE n (own (K7.take 8) (C7.take 8)) none none) τ :=
    sUpd_ok (ks := sDs (K7.take 6)) (vs := vE nm (C7.take 6)) rfl (D 0 "unfair" "no number" "Unfair" "NoNumber" _ (by decide +kernel) (by decide +kernel) (by decide +kernel)) (by decide +kernel) rfl
  have t8 : sUpd 2 (xDct ["unlike", "bad book"] (aC (xB (bPs (gIsiX "Unlike") (aC (xV 4) aN))) (aC (xB (bPs (gIsiX "BadBook") (aC (xV 4) aN))) aN))) (hE n (own (K7.take 8) (C7.take 8)) none none) τ = .nx (hE n (own (K7.take 10) (C7.take 10)) none none) τ :=
    sUpd_ok (ks := sDs (K7.take 8)) (vs := vE nm (C7.take 8)) rfl (D 0 "unlike" "bad book" "Unlike" "BadBook" _ (by decide +kernel) (by decide +kernel) (by decide +kernel)) (by decide +kernel) rfl
  have t9 : sUpd 2 (xDct ["no back", "no text"] (aC (xB (bPs (gIsiX "NoBack") (aC (xV 4) aN))) (aC (xB (bPs (gIsiX "NoText") (aC (xV 4) aN))) aN))) (hE n (own (K7.take 10) (C7.take 10)) none none) τ = .nx (hE n (own K7 C7) none none) τ :=
    sUpd_ok (ks := sDs (K7.take 10)) (vs := vE nm (C7.take 10)) rfl (D 0 "no back" "no text" "NoBack" "NoText" _ (by decide +kernel) (by decide +kernel) (by decide +kernel)) (by decide +kernel) rfl
  have t10 : sFrzD 2 (sSetH 3 (xComp [6] (.nm 6) (iKeysD (xV 2)) (bT (xPs gIx (aC (xV 2) (aC (xV 6) aN)))) (xV 6))) (hE n (own K7 C7) none none) τ = .nx (hE n (some (.im (.fdct (sDs K7) (vE nm C7)))) (some (.im (.lst [.str w]))) none) τ := by
    show sSetH 3 _ (hE n (some (.im (.fdct (sDs K7) (vE nm C7)))) none none) τ = _
    exact sSetH_ok (xComp_ok (τ1 := τ) (ds := sDs K7) rfl rfl (hw τ))
  have r : (xIf (bAnd (bP gEq (aC (xP gLen (aC (xV 3) aN)) (aC (xC (.int 1)) aN))) (bT (xB (bPs gIsiV (aC (xV 4) aN))))) (xTup (aC (xPs gIx (aC (xV 3) (aC (xC (.int 0)) aN))) aN)) (xTup (aC (xC (.str "is wrong")) aN))) (showS (hE n (some (.im (.fdct (sDs K7) (vE nm C7)))) (some (.im (.lst [.str w]))) none)) τ = .ok (.tup [.str w]) τ := by
    have c1 : (bP gEq (aC (xP gLen (aC (xV 3) aN)) (aC (xC (.int 1)) aN))) (showS (hE n (some (.im (.fdct (sDs K7) (vE nm C7)))) (some (.im (.lst [.str w]))) none)) τ = .ok true τ := bP_ok (aC_ok (d := .int 1) (xP_ok (aC_ok (d := .lst [.str w]) rfl aN_ok) rfl) (aC_ok (d := .int 1) rfl aN_ok)) rfl
    have c2 : (bT (xB (bPs gIsiV (aC (xV 4) aN)))) (showS (hE n (some (.im (.fdct (sDs K7) (vE nm C7)))) (some (.im (.lst [.str w]))) none)) τ = .ok true τ := bT_ok (xB_ok (bPs_ok (aC_ok (d := .tok n) rfl aN_ok) (isiV_at h h1))) rfl
    unfold xIf bAnd
    rw [c1]
    simp only [ok_bind, if_true, c2]
    exact xTup_ok (aC_ok (d := .str w) (xPs_ok (aC_ok (d := .lst [.str w]) rfl (aC_ok (d := .int 0) rfl aN_ok)) (show gIx [.lst [.str w], .int 0] τ = some (.str w) from atI_nat [Dv.str w] 0)) aN_ok) rfl
  unfold xr_heard
  rw [sc_nx t1, sc_nx t2, sc_nx t3, sc_nx t4, sc_nx t5, sc_nx t6, sc_nx t7, sc_nx t8, sc_nx t9, sc_nx t10, sc_rt (sRet_ok r)]
  rfl
/-- the word of an error -/
theorem word_ok {nm w : Str} {n : Nat} (hw : ∀ k ∈ K7, lookK (.str k) (sDs K7) (vE nm C7) = some (.bl (decide (k = w)))) (hf : K7.filter (fun k => decide (k = w)) = [w]) (τ : Sto) : compL [6] (.nm 6) (bT (xPs gIx (aC (xV 2) (aC (xV 6) aN)))) (xV 6) (hideS (hE n (some (.im (.fdct (sDs K7) (vE nm C7)))) none none)) (sDs K7) τ = .ok [.str w] τ := by
  have := compL_eq (own := [6]) (t := .nm 6) (c := bT (xPs gIx (aC (xV 2) (aC (xV 6) aN)))) (e := xV 6) (ρ := hideS (hE n (some (.im (.fdct (sDs K7) (vE nm C7)))) none none)) (τ := τ) Dv.str (fun k => decide (k = w)) Dv.str K7 fun k hk => ⟨_, rfl, bT_ok (xPs_ok (aC_ok (d := .fdct (sDs K7) (vE nm C7)) rfl (aC_ok (d := .str k) rfl aN_ok)) (hw k hk)) rfl, fun _ => rfl⟩
  rw [hf] at this
  exact this
def wordB (nm w : Str) : Bool := K7.all fun k => match lookK (.str k) (sDs K7) (vE nm C7) with
  | some (.bl v) => v == decide (k = w)
  | _ => false
theorem word_of {nm w : Str} (h : wordB nm w = true) : ∀ k ∈ K7, lookK (.str k) (sDs K7) (vE nm C7) = some (.bl (decide (k = w))) := by
  intro k hk
  have := List.all_eq_true.mp h k hk
  split at this
  · rename_i v e
    rw [e, show v = decide (k = w) from by simpa using this]
  · cases this
theorem word_p : wordB "NoPerson" "no person" = true := by decide +kernel
theorem word_h : wordB "NoHouse" "no house" = true := by decide +kernel
theorem hear {nm w : Str} {τ : Sto} {f : XD} {ρ : EnvD} (h1 : nm ∈ hdNames) (hl : nm ≠ "Lived") (hm : nm ≠ "Muddled") (hw : ∀ k ∈ K7, lookK (.str k) (sDs K7) (vE nm C7) = some (.bl (decide (k = w)))) (hf : K7.filter (fun k => decide (k = w)) = [w]) (he : f ρ τ = .err ⟨nm, none⟩ τ) :
    xHeard 7 4 5 xr_heard f ρ τ = .ok (.tup [.str w]) (τ ++ [.exc nm none]) := by
  unfold xHeard
  rw [he]
  simp only [hdR]
  rw [if_pos (show immEr ⟨nm, none⟩ = true ∧ nm ∈ hdNames from ⟨rfl, h1⟩)]
  exact heard_ok (n := τ.length) (by simp) h1 hl hm (word_ok hw hf)
theorem hear_p {τ : Sto} {f : XD} {ρ : EnvD} (he : f ρ τ = .err ⟨"NoPerson", none⟩ τ) : xHeard 7 4 5 xr_heard f ρ τ = .ok (.tup [.str "no person"]) (τ ++ [.exc "NoPerson" none]) :=
  hear (by decide +kernel) (by decide +kernel) (by decide +kernel) (word_of word_p) (by decide +kernel) he
theorem hear_h {τ : Sto} {f : XD} {ρ : EnvD} (he : f ρ τ = .err ⟨"NoHouse", none⟩ τ) : xHeard 7 4 5 xr_heard f ρ τ = .ok (.tup [.str "no house"]) (τ ++ [.exc "NoHouse" none]) :=
  hear (by decide +kernel) (by decide +kernel) (by decide +kernel) (word_of word_h) (by decide +kernel) he
end Lk02
end
section
set_option Elab.async false
set_option linter.all false
set_option maxRecDepth 100000
namespace Lk02
open PySem PySem.Spec PyProof.Rows L2 Mv
theorem Town.app {ns : List Int} {τ : Sto} {t : Nat} (T : Town ns τ t) (x : So) : Town ns (τ ++ [x]) t := by
  obtain ⟨r, c, ks, zs, h1, h2, h3, h4⟩ := T.ex
  have g (i : Nat) (y : So) (h : τ[i]? = some y) : (τ ++ [x])[i]? = some y := by
    rw [List.getElem?_append_left (List.getElem?_eq_some_iff.mp h).1]; exact h
  exact ⟨r, c, ks, zs, h1, g _ _ h2, g _ _ h3, h4⟩
theorem loop_inv {t : Tgt} {body : XS} {τ : Sto} (P : EnvS → Prop) : ∀ (ds : List Dv) (ρ : EnvS), (∀ d ∈ ds, ∀ ρ, P ρ → ∃ l, tset t d = some l ∧ ∃ ρ1, body (putsS ρ l) τ = .nx ρ1 τ ∧ P ρ1) → P ρ → ∃ ρ1, loopS t body ds ρ τ = .nx ρ1 τ ∧ P ρ1
  | [], ρ, _, h => ⟨ρ, rfl, h⟩
  | d :: ds, ρ, hb, h => by
    obtain ⟨l, h1, ρ1, h2, h3⟩ := hb d List.mem_cons_self ρ h
    obtain ⟨ρ2, h4, h5⟩ := loop_inv P ds ρ1 (fun e he => hb e (List.mem_cons_of_mem _ he)) h3
    exact ⟨ρ2, (loop_nx h1 h2).trans h4, h5⟩
def jE (ns : List Int) (t : Nat) (s2 s3 s4 s5 s6 s7 s8 s9 s10 : Option Sl) : EnvS := [some (.im (.scr ns)), some (.im (.tok t)), s2, s3, s4, s5, s6, s7, s8, s9, s10]
def j1 : XS := sSetH 3 (xF (callF 4 F__law_a_book) (aC (xV 0) (aC (xV 1) (aC (xC (.int 4)) (aC (xC (.int 4)) aN)))))
def j2 : XS := sIf (bP gNe (aC (xF (callF 1 F_standings) (aK 0 1 aN (aC (xV 3) aN))) (aC (xP gTuple (aC (xF (callF 1 F__law_all) (aC (xV 3) aN)) aN)) aN))) (sCons (sRet (xC (.bl false))) sNil) sNil
def j3 : XS := sSetH 4 (xComp [8] (.nm 8) (iSeq (xPs gIx (aC (xV 3) (aC (xC (.int 0)) aN)))) bYes (xPs gIx (aC (xV 8) (aC (xC (.int 0)) aN))))
def j4c : XS := sCons (sSetH 10 (xF (callF 3 F__law_better) (aC (xV 7) (aC (xV 8) (aC (xV 9) aN))))) (sCons (sIf (bNot (bT (xF (callF 2 F__law_is) (aC (xF (callF 4 F_likes_better) (aK 3 1 (aC (xV 3) (aC (xV 6) (aC (xV 8) aN))) (aC (xV 9) aN))) (aC (xV 10) aN))))) (sCons (sRet (xC (.bl false))) sNil) sNil) sNil)
def j4b : XS := sCons (sFor (.nm 9) (iSeq (xP gCat (aC (xLst (aC (xC .non) aN)) (aC (xV 4) aN)))) j4c) sNil
def j4a : XS := sCons (sFor (.nm 8) (iSeq (xV 4)) j4b) sNil
def j4 : XS := sFor (.tp [(.nm 6), (.nm 7)]) (iSeqT (xPs gIx (aC (xV 3) (aC (xC (.int 1)) aN)))) j4a
def h0X : XD := xPs gIx (aC (xV 4) (aC (xC (.int 0)) aN))
def o1 : XD := xF (callF 4 F_likes_better) (aC (xV 3) (aC (xC (.str "zz")) (aC (xC (.str "zz")) (aC (xC .non) aN))))
def o2 : XD := xF (callF 4 F_likes_better) (aC (xV 3) (aC (xC .non) (aC h0X (aC (xC .non) aN))))
def o3 : XD := xF (callF 4 F_likes_better) (aC (xV 3) (aC (xC (.str "ann")) (aC (xC .non) (aC (xC .non) aN))))
def o4 : XD := xF (callF 4 F_likes_better) (aC (xV 3) (aC (xC (.str "ann")) (aC (xC (.str "zz")) (aC h0X aN))))
def o5 : XD := xF (callF 4 F_likes_better) (aC (xV 3) (aC (xC (.str "ann")) (aC h0X (aC (xC (.str "zz")) aN))))
def j5 : XS := sSetOH 5 (xLst (aC (xHeard 7 4 5 xr_heard o1) aN))
def jA (o : XD) : XS := sAppH 5 (xHeard 7 4 5 xr_heard o)
def j6 : XS := sIf (bP gNe (aC (xV 5) (aC (xP gAdd (aC (xP gMul (aC (xLst (aC (xTup (aC (xC (.str "no person")) aN)) aN)) (aC (xC (.int 2)) aN))) (aC (xP gMul (aC (xLst (aC (xTup (aC (xC (.str "no house")) aN)) aN)) (aC (xC (.int 3)) aN))) aN))) aN))) (sCons (sRet (xC (.bl false))) sNil) sNil
def jB : XS := sCons j1 (sCons j2 (sCons j3 (sCons j4 (sCons j5 (sCons (jA o2) (sCons (jA o3) (sCons (jA o4) (sCons (jA o5) (sCons j6 sNil)))))))))
theorem law_split : xb_law = sCons (sSetH 1 (xF (callF 0 F__law_begun) aN)) (sCons (sFor (.nm 2) (iRng (xC (.int 5))) jB) (sCons (sRet (xC (.bl true))) sNil)) := rfl
theorem zz_hou : ("zz" : Str) ∉ hou5 := by decide +kernel
theorem zz_peo : ("zz" : Str) ∉ peo5 := by decide +kernel
theorem zz_ok : PyData.strOk "zz" = true := by decide +kernel
section
variable {b : Book} (B : BF b) {τ : Sto} {ns : List Int} {t : Nat} {s2 s3 s4 s5 s6 s7 s8 s9 s10 : Option Sl}
abbrev bkS (b : Book) : Option Sl := some (.im (bookD b))
abbrev hsS (b : Book) : Option Sl := some (.im (.lst (sDs (named b.rows))))
include B
theorem j2_ok : j2 (jE ns t s2 (bkS b) s4 s5 s6 s7 s8 s9 s10) τ = .nx (jE ns t s2 (bkS b) s4 s5 s6 s7 s8 s9 s10) τ := by
  obtain ⟨h1, h2⟩ := standings_ok B (τ := τ)
  have hk : ∀ r ∈ (found b).mergeSort rLe, RowOk r := fun r hr => h2 r ((List.mergeSort_perm _ _).mem_iff.mp hr)
  have c : (bP gNe (aC (xF (callF 1 F_standings) (aK 0 1 aN (aC (xV 3) aN))) (aC (xP gTuple (aC (xF (callF 1 F__law_all) (aC (xV 3) aN)) aN)) aN))) (showS (jE ns t s2 (bkS b) s4 s5 s6 s7 s8 s9 s10)) τ = .ok false τ := by
    refine bP_ok (aC_ok (xF_ok (ds := [bookD b]) (τ1 := τ) ?_ rfl h1) (aC_ok (xP_ok (aC_ok (xF_ok (ds := [bookD b]) (τ1 := τ) (aC_ok (d := bookD b) rfl aN_ok) rfl (all_ok B)) aN_ok) rfl) aN_ok)) ?_
    · rfl
    · rw [gNe_eq (rows_okq hk) (rows_okq hk)]
      show some (!Dv.eqv (.tup _) (.tup _)) = _
      rw [Dv.eqv, rows_self]; rfl
  unfold j2
  rw [sIf_ok c]; rfl
theorem j3_ok : j3 (jE ns t s2 (bkS b) s4 s5 s6 s7 s8 s9 s10) τ = .nx (jE ns t s2 (bkS b) (hsS b) s5 s6 s7 s8 s9 s10) τ := by
  have e : (xComp [8] (.nm 8) (iSeq (xPs gIx (aC (xV 3) (aC (xC (.int 0)) aN)))) bYes (xPs gIx (aC (xV 8) (aC (xC (.int 0)) aN)))) (hideS (jE ns t s2 (bkS b) s4 s5 s6 s7 s8 s9 s10)) τ = .ok (.lst (b.rows.map fun p => .str p.1)) τ := by
    refine xCompA_eq rowD (fun p => .str p.1) b.rows (iSeq_ok (xPs_ok (aC_ok (d := bookD b) rfl (aC_ok rfl aN_ok)) ix_b0) rfl) (b60 (Nat.le_trans B.lh (by decide))) fun p _ => ⟨_, rfl, ?_⟩
    exact xPs_ok (aC_ok (d := rowD p) rfl (aC_ok rfl aN_ok)) (ix_r0 p)
  have z : (.lst (b.rows.map fun p => .str p.1) : Dv) = .lst (sDs (named b.rows)) := by unfold sDs named; rw [List.map_map]; rfl
  rw [z] at e
  exact sSetH_ok e
theorem j4c_ok {x one : Str} {o : Option Str} (hx : x ∈ named b.likes) (h1 : one ∈ named b.rows) (ho : ∀ s, o = some s → s ∈ named b.rows) : ∃ s10', j4c (jE ns t s2 (bkS b) s4 s5 (imS x) (some (.im (.tup (sDs (rowOf b.likes x))))) (imS one) (some (.im (encO o))) s10) τ = .nx (jE ns t s2 (bkS b) s4 s5 (imS x) (some (.im (.tup (sDs (rowOf b.likes x))))) (imS one) (some (.im (encO o))) s10') τ := by
  have q1 := sSetH_ok (i := 10) (ρ := jE ns t s2 (bkS b) s4 s5 (imS x) (some (.im (.tup (sDs (rowOf b.likes x))))) (imS one) (some (.im (encO o))) s10) (τ := τ)
    (xF_ok (n := 3) (F := F__law_better) (aC_ok (f := xV 7) (d := .tup (sDs (rowOf b.likes x))) rfl (aC_ok (f := xV 8) (d := .str one) rfl (aC_ok (f := xV 9) (d := encO o) rfl aN_ok))) rfl (lbetter_ok B hx h1 fun s e => hok B (ho s e)))
  have c : (bNot (bT (xF (callF 2 F__law_is) (aC (xF (callF 4 F_likes_better) (aK 3 1 (aC (xV 3) (aC (xV 6) (aC (xV 8) aN))) (aC (xV 9) aN))) (aC (xV 10) aN))))) (showS (jE ns t s2 (bkS b) s4 s5 (imS x) (some (.im (.tup (sDs (rowOf b.likes x))))) (imS one) (some (.im (encO o))) (some (.im (.bl (bet (rowOf b.likes x) one o)))))) τ = .ok false τ := by
    refine bNot_ok (b := true) (bT_ok (d := .bl true) (xF_ok (ds := [.bl (bet (rowOf b.likes x) one o), .bl (bet (rowOf b.likes x) one o)]) (τ1 := τ) (aC_ok (xF_ok (ds := [bookD b, .str x, .str one, encO o]) (τ1 := τ) rfl rfl (lb_ok B hx h1 ho)) (aC_ok rfl aN_ok)) rfl (law_is_ok _)) rfl)
  have q2 : (sIf (bNot (bT (xF (callF 2 F__law_is) (aC (xF (callF 4 F_likes_better) (aK 3 1 (aC (xV 3) (aC (xV 6) (aC (xV 8) aN))) (aC (xV 9) aN))) (aC (xV 10) aN))))) (sCons (sRet (xC (.bl false))) sNil) sNil) (jE ns t s2 (bkS b) s4 s5 (imS x) (some (.im (.tup (sDs (rowOf b.likes x))))) (imS one) (some (.im (encO o))) (some (.im (.bl (bet (rowOf b.likes x) one o))))) τ = .nx (jE ns t s2 (bkS b) s4 s5 (imS x) (some (.im (.tup (sDs (rowOf b.likes x))))) (imS one) (some (.im (encO o))) (some (.im (.bl (bet (rowOf b.likes x) one o))))) τ := by
    rw [sIf_ok c]; rfl
  exact ⟨_, (sc_nx q1).trans ((sc_nx q2).trans rfl)⟩
theorem j4b_ok {x one : Str} (hx : x ∈ named b.likes) (h1 : one ∈ named b.rows) : ∃ s9' s10', j4b (jE ns t s2 (bkS b) (hsS b) s5 (imS x) (some (.im (.tup (sDs (rowOf b.likes x))))) (imS one) s9 s10) τ = .nx (jE ns t s2 (bkS b) (hsS b) s5 (imS x) (some (.im (.tup (sDs (rowOf b.likes x))))) (imS one) s9' s10') τ := by
  have hl : (named b.rows).length ≤ 5 := by unfold named; rw [List.length_map]; exact B.lh
  have it : (iSeq (xP gCat (aC (xLst (aC (xC .non) aN)) (aC (xV 4) aN)))) (hideS (jE ns t s2 (bkS b) (hsS b) s5 (imS x) (some (.im (.tup (sDs (rowOf b.likes x))))) (imS one) s9 s10)) τ = .ok (.non :: sDs (named b.rows)) τ := by
    refine iSeq_ok (xP_ok (r := .lst (.non :: sDs (named b.rows))) (aC_ok (xLst_ok (aC_ok (d := .non) rfl aN_ok) rfl) (aC_ok (d := .lst (sDs (named b.rows))) rfl aN_ok)) ?_) rfl
    show (if big (1 + (sDs (named b.rows)).length) = true then some (Dv.lst ([.non] ++ sDs (named b.rows))) else none) = _
    rw [if_pos (by rw [sDs_len]; exact b60 (by omega))]; rfl
  obtain ⟨ρ1, e, s9', s10', rfl⟩ := loop_inv (t := .nm 9) (body := j4c) (τ := τ) (fun ρ => ∃ s9 s10, ρ = jE ns t s2 (bkS b) (hsS b) s5 (imS x) (some (.im (.tup (sDs (rowOf b.likes x))))) (imS one) s9 s10) (.non :: sDs (named b.rows)) _ (fun d hd ρ hρ => by
    obtain ⟨s9, s10, rfl⟩ := hρ
    obtain ⟨o, rfl, ho⟩ : ∃ o : Option Str, d = encO o ∧ ∀ s, o = some s → s ∈ named b.rows := by
      rcases List.mem_cons.mp hd with rfl | hd
      · exact ⟨none, rfl, fun _ h => nomatch h⟩
      · obtain ⟨s, hs, rfl⟩ := List.mem_map.mp hd
        exact ⟨some s, rfl, fun _ h => by cases h; exact hs⟩
    obtain ⟨u, hu⟩ := j4c_ok B (τ := τ) (ns := ns) (t := t) (s2 := s2) (s4 := hsS b) (s5 := s5) (s10 := s10) hx h1 ho
    exact ⟨[(9, encO o)], rfl, _, hu, _, _, rfl⟩) ⟨s9, s10, rfl⟩
  exact ⟨s9', s10', (sc_nx ((sFor_ok it).trans e)).trans rfl⟩
theorem j4a_ok {x : Str} (hx : x ∈ named b.likes) : ∃ s8' s9' s10', j4a (jE ns t s2 (bkS b) (hsS b) s5 (imS x) (some (.im (.tup (sDs (rowOf b.likes x))))) s8 s9 s10) τ = .nx (jE ns t s2 (bkS b) (hsS b) s5 (imS x) (some (.im (.tup (sDs (rowOf b.likes x))))) s8' s9' s10') τ := by
  have it : (iSeq (xV 4)) (hideS (jE ns t s2 (bkS b) (hsS b) s5 (imS x) (some (.im (.tup (sDs (rowOf b.likes x))))) s8 s9 s10)) τ = .ok (sDs (named b.rows)) τ := rfl
  obtain ⟨ρ1, e, s8', s9', s10', rfl⟩ := loop_inv (t := .nm 8) (body := j4b) (τ := τ) (fun ρ => ∃ s8 s9 s10, ρ = jE ns t s2 (bkS b) (hsS b) s5 (imS x) (some (.im (.tup (sDs (rowOf b.likes x))))) s8 s9 s10) (sDs (named b.rows)) _ (fun d hd ρ hρ => by
    obtain ⟨s8, s9, s10, rfl⟩ := hρ
    obtain ⟨one, h1, rfl⟩ := List.mem_map.mp hd
    obtain ⟨u, v, hu⟩ := j4b_ok B (τ := τ) (ns := ns) (t := t) (s2 := s2) (s5 := s5) (s9 := s9) (s10 := s10) hx h1
    exact ⟨[(8, .str one)], rfl, _, hu, _, _, _, rfl⟩) ⟨s8, s9, s10, rfl⟩
  exact ⟨s8', s9', s10', (sc_nx ((sFor_ok it).trans e)).trans rfl⟩
theorem j4_ok : ∃ s6' s7' s8' s9' s10', j4 (jE ns t s2 (bkS b) (hsS b) s5 s6 s7 s8 s9 s10) τ = .nx (jE ns t s2 (bkS b) (hsS b) s5 s6' s7' s8' s9' s10') τ := by
  have it : (iSeqT (xPs gIx (aC (xV 3) (aC (xC (.int 1)) aN)))) (hideS (jE ns t s2 (bkS b) (hsS b) s5 s6 s7 s8 s9 s10)) τ = .ok (b.likes.map rowD) τ :=
    iSeqT_ok (d := .tup (b.likes.map rowD)) (xPs_ok (ds := [bookD b, .int 1]) (aC_ok (d := bookD b) rfl (aC_ok rfl aN_ok)) ix_b1) rfl (by
      rw [List.all_eq_true]; intro d hd
      obtain ⟨p, _, rfl⟩ := List.mem_map.mp hd
      rfl)
  obtain ⟨ρ1, e, s6', s7', s8', s9', s10', rfl⟩ := loop_inv (t := .tp [(.nm 6), (.nm 7)]) (body := j4a) (τ := τ) (fun ρ => ∃ s6 s7 s8 s9 s10, ρ = jE ns t s2 (bkS b) (hsS b) s5 s6 s7 s8 s9 s10) (b.likes.map rowD) _ (fun d hd ρ hρ => by
    obtain ⟨s6, s7, s8, s9, s10, rfl⟩ := hρ
    obtain ⟨p, hp, rfl⟩ := List.mem_map.mp hd
    obtain ⟨u, v, w, hu⟩ := j4a_ok B (τ := τ) (ns := ns) (t := t) (s2 := s2) (s5 := s5) (s8 := s8) (s9 := s9) (s10 := s10) (x := p.1) (List.mem_map_of_mem hp)
    rw [rowOf_mem B.np p hp] at hu
    exact ⟨[(6, .str p.1), (7, .tup (sDs p.2))], rfl, _, hu, _, _, _, _, _, rfl⟩) ⟨s6, s7, s8, s9, s10, rfl⟩
  exact ⟨s6', s7', s8', s9', s10', (sFor_ok it).trans e⟩
theorem h0_ok : ∃ h0, h0 ∈ named b.rows ∧ ∀ (s5 : Option Sl) (τ : Sto), h0X (hideS (jE ns t s2 (bkS b) (hsS b) s5 s6 s7 s8 s9 s10)) τ = .ok (.str h0) τ := by
  obtain ⟨h, hs, e⟩ := B.h0
  have e2 : named b.rows = h.1 :: named hs := by unfold named; rw [e]; rfl
  refine ⟨h.1, by rw [e2]; exact List.mem_cons_self, fun s5 τ => ?_⟩
  refine xPs_ok (aC_ok (d := .lst (sDs (named b.rows))) rfl (aC_ok (d := .int 0) rfl aN_ok)) ?_
  rw [e2]
  exact atI_nat (Dv.str h.1 :: sDs (named hs)) 0
theorem tail_ok : ∃ (es : List So) (s5' : Option Sl), (sCons j5 (sCons (jA o2) (sCons (jA o3) (sCons (jA o4) (sCons (jA o5) (sCons j6 sNil)))))) (jE ns t s2 (bkS b) (hsS b) s5 s6 s7 s8 s9 s10) τ = .nx (jE ns t s2 (bkS b) (hsS b) s5' s6 s7 s8 s9 s10) (τ ++ es) := by
  obtain ⟨h0, hh, hX⟩ := h0_ok B (ns := ns) (t := t) (s2 := s2) (s6 := s6) (s7 := s7) (s8 := s8) (s9 := s9) (s10 := s10)
  have nz1 : lookB (.str "zz") (named b.likes) = false := decide_eq_false fun h => zz_peo (B.p5 _ h)
  have nz2 : lookB (.str "zz") (named b.rows) = false := decide_eq_false fun h => zz_hou (B.h5 _ h)
  have an : lookB (.str "ann") (named b.likes) = true := decide_eq_true B.ann
  have ant : Txt (.str "ann") := .inr ⟨_, rfl, pok B B.ann⟩
  have zt : Txt (.str "zz") := .inr ⟨_, rfl, zz_ok⟩
  have ht : Txt (.str h0) := .inr ⟨_, rfl, hok B hh⟩
  have hl : lookB (.str h0) (named b.rows) = true := decide_eq_true hh
  let E (s5 : Option Sl) := jE ns t s2 (bkS b) (hsS b) s5 s6 s7 s8 s9 s10
  let P : Dv := .tup [.str "no person"]
  let Q : Dv := .tup [.str "no house"]
  have e1 (s5) (τ) : o1 (hideS (E s5)) τ = .err ⟨"NoPerson", none⟩ τ := xF_er (aC_ok (d := bookD b) rfl (aC_ok (d := .str "zz") rfl (aC_ok (d := .str "zz") rfl (aC_ok (d := .non) rfl aN_ok)))) rfl (lb_p B zt nz1)
  have e2 (s5) (τ) : o2 (hideS (E s5)) τ = .err ⟨"NoPerson", none⟩ τ := xF_er (aC_ok (d := bookD b) rfl (aC_ok (d := .non) rfl (aC_ok (hX s5 τ) (aC_ok (d := .non) rfl aN_ok)))) rfl (lb_p B (.inl rfl) rfl)
  have e3 (s5) (τ) : o3 (hideS (E s5)) τ = .err ⟨"NoHouse", none⟩ τ := xF_er (aC_ok (d := bookD b) rfl (aC_ok (d := .str "ann") rfl (aC_ok (d := .non) rfl (aC_ok (d := .non) rfl aN_ok)))) rfl (lb_h B ant (.inl rfl) an rfl)
  have e4 (s5) (τ) : o4 (hideS (E s5)) τ = .err ⟨"NoHouse", none⟩ τ := xF_er (aC_ok (d := bookD b) rfl (aC_ok (d := .str "ann") rfl (aC_ok (d := .str "zz") rfl (aC_ok (hX s5 τ) aN_ok)))) rfl (lb_h B ant zt an nz2)
  have e5 (s5) (τ) : o5 (hideS (E s5)) τ = .err ⟨"NoHouse", none⟩ τ := xF_er (aC_ok (d := bookD b) rfl (aC_ok (d := .str "ann") rfl (aC_ok (hX s5 τ) (aC_ok (d := .str "zz") rfl aN_ok)))) rfl (lb_o B ant ht zz_ok an hl nz2)
  let ow (l : List Dv) : Option Sl := some (.own (.lst l))
  have q1 (τ) : j5 (E s5) τ = .nx (E (ow [P])) (τ ++ [.exc "NoPerson" none]) := by
    have z := xLst_ok (aC_ok (hear_p (e1 s5 τ)) aN_ok) rfl
    unfold j5 sSetOH
    rw [z]; rfl
  have ap (o : XD) (l : List Dv) (d : Dv) (τ τ1 : Sto) (hb : l.length ≤ 60) (h : xHeard 7 4 5 xr_heard o (hideS (E (ow l))) τ = .ok d τ1) : jA o (E (ow l)) τ = .nx (E (ow (l ++ [d]))) τ1 := by
    unfold jA sAppH
    rw [show ownL 5 (E (ow l)) = true from rfl, if_neg (by simp), h, bindS_ok]
    show (if big (l.length + 1) = true then _ else _) = _
    rw [if_pos (big_b hb)]
    rfl
  have q2 (τ) := ap o2 [P] P τ _ (by decide) (hear_p (e2 _ τ))
  have q3 (τ) := ap o3 [P, P] Q τ _ (by decide) (hear_h (e3 _ τ))
  have q4 (τ) := ap o4 [P, P, Q] Q τ _ (by decide) (hear_h (e4 _ τ))
  have q5 (τ) := ap o5 [P, P, Q, Q] Q τ _ (by decide) (hear_h (e5 _ τ))
  have q6 (τ) : j6 (E (ow [P, P, Q, Q, Q])) τ = .nx (E (ow [P, P, Q, Q, Q])) τ := by
    have c : (bP gNe (aC (xV 5) (aC (xP gAdd (aC (xP gMul (aC (xLst (aC (xTup (aC (xC (.str "no person")) aN)) aN)) (aC (xC (.int 2)) aN))) (aC (xP gMul (aC (xLst (aC (xTup (aC (xC (.str "no house")) aN)) aN)) (aC (xC (.int 3)) aN))) aN))) aN))) (showS (E (ow [P, P, Q, Q, Q]))) τ = .ok false τ := by
      refine bP_ok (ds := [.lst [P, P, Q, Q, Q], .lst [P, P, Q, Q, Q]]) (τ1 := τ) (aC_ok rfl (aC_ok (d := .lst [P, P, Q, Q, Q]) ?_ aN_ok)) ?_
      · exact xP_ok (ds := [.lst [P, P], .lst [Q, Q, Q]]) (aC_ok (xP_ok (ds := [.lst [P], .int 2]) (τ1 := τ) rfl rfl) (aC_ok (xP_ok (ds := [.lst [Q], .int 3]) (τ1 := τ) rfl rfl) aN_ok)) rfl
      · rw [gNe_eq (by decide +kernel) (by decide +kernel)]
        decide +kernel
    unfold j6
    rw [sIf_ok c]; rfl
  refine ⟨[.exc "NoPerson" none] ++ [.exc "NoPerson" none] ++ [.exc "NoHouse" none] ++ [.exc "NoHouse" none] ++ [.exc "NoHouse" none], ow [P, P, Q, Q, Q], ?_⟩
  refine (sc_nx (q1 _)).trans ((sc_nx (q2 _)).trans ((sc_nx (q3 _)).trans ((sc_nx (q4 _)).trans ((sc_nx (q5 _)).trans ((sc_nx (q6 _)).trans ?_)))))
  simp only [List.append_assoc]
  rfl
end
theorem Town.apps {ns : List Int} {t : Nat} : ∀ {es : List So} {τ : Sto}, Town ns τ t → Town ns (τ ++ es) t
  | [], τ, T => by rw [List.append_nil]; exact T
  | x :: es, τ, T => by
    rw [show τ ++ x :: es = (τ ++ [x]) ++ es by simp]
    exact (T.app x).apps
theorem jB_ok {ns : List Int} {t : Nat} {τ : Sto} (hn : ns.length ≤ 63) (T : Town ns τ t) (s2 s3 s4 s5 s6 s7 s8 s9 s10 : Option Sl) : ∃ s3' s4' s5' s6' s7' s8' s9' s10' τ', jB (jE ns t s2 s3 s4 s5 s6 s7 s8 s9 s10) τ = .nx (jE ns t s2 s3' s4' s5' s6' s7' s8' s9' s10') τ' ∧ Town ns τ' t := by
  obtain ⟨b, τ1, e1, T1, bo⟩ := book_ok hn T
  have B := bo.bf
  have q1 : j1 (jE ns t s2 s3 s4 s5 s6 s7 s8 s9 s10) τ = .nx (jE ns t s2 (bkS b) s4 s5 s6 s7 s8 s9 s10) τ1 :=
    sSetH_ok (xF_ok (aC_ok (d := .scr ns) rfl (aC_ok (d := .tok t) rfl (aC_ok (d := .int 4) rfl (aC_ok (d := .int 4) rfl aN_ok)))) rfl e1)
  obtain ⟨u6, u7, u8, u9, u10, q4⟩ := j4_ok B (τ := τ1) (ns := ns) (t := t) (s2 := s2) (s5 := s5) (s6 := s6) (s7 := s7) (s8 := s8) (s9 := s9) (s10 := s10)
  obtain ⟨es, u5, q5⟩ := tail_ok B (τ := τ1) (ns := ns) (t := t) (s2 := s2) (s5 := s5) (s6 := u6) (s7 := u7) (s8 := u8) (s9 := u9) (s10 := u10)
  exact ⟨_, _, _, _, _, _, _, _, _, (sc_nx q1).trans ((sc_nx (j2_ok B)).trans ((sc_nx (j3_ok B)).trans ((sc_nx q4).trans q5))), T1.apps⟩
theorem jL_ok {ns : List Int} {t : Nat} (hn : ns.length ≤ 63) : ∀ (ds : List Dv) (τ : Sto) (s2 s3 s4 s5 s6 s7 s8 s9 s10 : Option Sl), Town ns τ t → ∃ s2' s3' s4' s5' s6' s7' s8' s9' s10' τ', loopS (.nm 2) jB ds (jE ns t s2 s3 s4 s5 s6 s7 s8 s9 s10) τ = .nx (jE ns t s2' s3' s4' s5' s6' s7' s8' s9' s10') τ'
  | [], τ, s2, s3, s4, s5, s6, s7, s8, s9, s10, _ => ⟨_, _, _, _, _, _, _, _, _, _, rfl⟩
  | d :: ds, τ, s2, s3, s4, s5, s6, s7, s8, s9, s10, T => by
    obtain ⟨u3, u4, u5, u6, u7, u8, u9, u10, τ1, e, T1⟩ := jB_ok hn T (some (.im d)) s3 s4 s5 s6 s7 s8 s9 s10
    obtain ⟨v2, v3, v4, v5, v6, v7, v8, v9, v10, τ2, e2⟩ := jL_ok hn ds τ1 (some (.im d)) u3 u4 u5 u6 u7 u8 u9 u10 T1
    exact ⟨v2, v3, v4, v5, v6, v7, v8, v9, v10, τ2, (loop_nx (l := [(2, d)]) rfl e).trans e2⟩
theorem begun_ok : F__law_begun [] [] = .ok (.tok 1) [.dct [] [], .dct [.str "count", .str "rests"] [.int 0, .tok 0]] := by rfl
theorem tru (ns : List Int) (h : ns.length ≤ 63) : ∃ τ, F_law [.scr ns] [] = .ok (.bl true) τ := by
  have T : Town ns [.dct [] [], .dct [.str "count", .str "rests"] [.int 0, .tok 0]] 1 := ⟨0, 0, [], [], by decide, rfl, rfl, List.nodup_nil, fun _ h => (nomatch h), rfl⟩
  obtain ⟨v2, v3, v4, v5, v6, v7, v8, v9, v10, τ2, e2⟩ := jL_ok h ((List.range 5).map fun i => .int (i : Nat)) _ none none none none none none none none none T
  have q1 : sSetH 1 (xF (callF 0 F__law_begun) aN) (startD 11 [.scr ns]) [] = .nx (jE ns 1 none none none none none none none none none) [.dct [] [], .dct [.str "count", .str "rests"] [.int 0, .tok 0]] :=
    sSetH_ok (xF_ok aN_ok rfl begun_ok)
  have q2 := (sFor_ok (t := .nm 2) (b := jB) (j := iRng (xC (.int 5))) (ρ := jE ns 1 none none none none none none none none none) (τ := [.dct [] [], .dct [.str "count", .str "rests"] [.int 0, .tok 0]]) (ds := (List.range 5).map fun i => .int (i : Nat)) rfl).trans e2
  refine ⟨τ2, ?_⟩
  unfold F_law runF
  rw [law_split, sc_nx q1, sc_nx q2, sc_rt (sRet_ok (d := .bl true) rfl)]
end Lk02
end
section
open PySem PySem.W PyProof.Rows
set_option maxHeartbeats 0 in
theorem PySem.Challenge.cw_movesup_k02_standings_holds : PySem.Challenge.rw_movesup_k02_standings.Holds := by
  w_on; o_law; k_head; (case hw => w_witness2)
  k_fill
  refine LamX.walk_ofTs (l := PySem.Challenge.rw_movesup_k02_standings) (n := 63) (k := 6) (x := "_law_script") (CX := fun w => L2.CX PySem.Challenge.rw_movesup_k02_standings.prog w) rfl (by decide) rfl ⟨rfl, by decide, by decide⟩ (fun w h Y => PySem.W.km_in_of Y) ?F (fun _ _ _ _ _ h => by obtain ⟨_, _, _, _, _, _, _, _, _, _, _, _, z⟩ := h; exact z)
  case F =>
    intro w mg fa h Y KX G hmg
    refine' Lk02.all_mk KX G hmg (PySem.W.km_tabs_of Y) ?a17 ?l17 ?k17 ?q17 ?a18 ?l18 ?k18 ?q18 ?a19 ?l19 ?k19 ?q19 ?a20 ?l20 ?k20 ?q20 ?a21 ?l21 ?k21 ?q21 ?a22 ?l22 ?k22 ?q22 ?a23 ?l23 ?k23 ?q23 ?a24 ?l24 ?k24 ?q24 ?a25 ?l25 ?k25 ?q25 ?a27 ?l27 ?k27 ?q27 ?a28 ?l28 ?k28 ?q28 ?a29 ?l29 ?k29 ?q29 ?a30 ?l30 ?k30 ?q30 ?a31 ?l31 ?k31 ?q31 ?a32 ?l32 ?k32 ?q32 ?a33 ?l33 ?k33 ?q33 ?a34 ?l34 ?k34 ?q34 ?a35 ?l35 ?k35 ?q35 ?a36 ?l36 ?k36 ?q36 ?m36 ?n36 ?o36 ?r36 ?s36 ?a11 ?a14 ?a15 ?a12 ?a3 ?b3 ?a5 ?a6 ?a9 ?a2 ?b2 ?a4 ?a13 ?a8 ?a10 ?a7 ?a1 ?hd ?z_ValueError ?z_bool ?z_dict ?z_isinstance ?z_len ?z_list ?z_range ?z_sorted ?z_str ?z_tuple Lk02.tru
    (case a17 => k_is)
    (case l17 => k_is)
    (case k17 => k_is)
    (case q17 => k_is)
    (case a18 => k_is)
    (case l18 => k_is)
    (case k18 => k_is)
    (case q18 => k_is)
    (case a19 => k_is)
    (case l19 => k_is)
    (case k19 => k_is)
    (case q19 => k_is)
    (case a20 => k_is)
    (case l20 => k_is)
    (case k20 => k_is)
    (case q20 => k_is)
    (case a21 => k_is)
    (case l21 => k_is)
    (case k21 => k_is)
    (case q21 => k_is)
    (case a22 => k_is)
    (case l22 => k_is)
    (case k22 => k_is)
    (case q22 => k_is)
    (case a23 => k_is)
    (case l23 => k_is)
    (case k23 => k_is)
    (case q23 => k_is)
    (case a24 => k_is)
    (case l24 => k_is)
    (case k24 => k_is)
    (case q24 => k_is)
    (case a25 => k_is)
    (case l25 => k_is)
    (case k25 => k_is)
    (case q25 => k_is)
    (case a27 => k_is)
    (case l27 => k_is)
    (case k27 => k_is)
    (case q27 => k_is)
    (case a28 => k_is)
    (case l28 => k_is)
    (case k28 => k_is)
    (case q28 => k_is)
    (case a29 => k_is)
    (case l29 => k_is)
    (case k29 => k_is)
    (case q29 => k_is)
    (case a30 => k_is)
    (case l30 => k_is)
    (case k30 => k_is)
    (case q30 => k_is)
    (case a31 => k_is)
    (case l31 => k_is)
    (case k31 => k_is)
    (case q31 => k_is)
    (case a32 => k_is)
    (case l32 => k_is)
    (case k32 => k_is)
    (case q32 => k_is)
    (case a33 => k_is)
    (case l33 => k_is)
    (case k33 => k_is)
    (case q33 => k_is)
    (case a34 => k_is)
    (case l34 => k_is)
    (case k34 => k_is)
    (case q34 => k_is)
    (case a35 => k_is)
    (case l35 => k_is)
    (case k35 => k_is)
    (case q35 => k_is)
    (case a36 => k_is)
    (case l36 => k_is)
    (case k36 => k_is)
    (case q36 => k_is)
    (case m36 => k_is)
    (case n36 => rfl)
    (case o36 => kernel_rfl)
    (case r36 => kernel_rfl)
    (case s36 => decide)
    (case a11 => k_is)
    (case a14 => k_is)
    (case a15 => k_is)
    (case a12 => k_is)
    (case a3 => k_is)
    (case b3 => kernel_rfl)
    (case a5 => k_is)
    (case a6 => k_is)
    (case a9 => k_is)
    (case a2 => k_is)
    (case b2 => kernel_rfl)
    (case a4 => k_is)
    (case a13 => k_is)
    (case a8 => k_is)
    (case a10 => k_is)
    (case a7 => k_is)
    (case a1 => k_is)
    (case hd => kernel_rfl)
    (case z_ValueError => k_is)
    (case z_bool => k_is)
    (case z_dict => k_is)
    (case z_isinstance => k_is)
    (case z_len => k_is)
    (case z_list => k_is)
    (case z_range => k_is)
    (case z_sorted => k_is)
    (case z_str => k_is)
    (case z_tuple => k_is)
end
