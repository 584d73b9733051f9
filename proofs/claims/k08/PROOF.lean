import PyProof.Rows.All
import Wide.All
import OpenK.AllK
import Wide.FinOn
import HandS.ForMost
import HandS.ForExc
import HandS.Evl
import HandS.Lambda
import HandS.IsInst
import HandS.TryMany
import HandS.CallSlots
import HandS.Head0
import HandS.Head1
import HandS.Head2
import HandS.HeadEnd
import HandS.HeadHook1
import HandS.HeadHook2
import HandS.HeadHook3
import HandS.HeadHook4
import HandS.HeadWalk
import HandS.TupMul
import HandS.Wide
import HandS.TupAny
import HandS.Style
import HandS.Deep
import HandS.Walk
import HandS.Zip
import HandS.ExcOwn
import KE.GoesEnum
import HandS.Dict
import HandS.Keys
import HandS.ExcIs
import KE.SortData
import HandS.Conv
import HandS.SortInts
import KE.KDictDisplayH
import HandS.Nested
import KE.DataCmp
import KE.DatumOrd
import PySem.Challenge.RW_shortcarry_k08_whole_rules_compared
set_option Elab.async false
set_option linter.all false
set_option maxRecDepth 100000
set_option maxHeartbeats 4000000
namespace DL
open PySem PySem.Spec PyProof.Rows L2
open Evl (Ex ex_l ex_t ex_rd)
abbrev St := L2.St

/-! ### no star -/
def nst : Expr → Bool
  | .Starred _ _ => false
  | _ => true
def nsts : List Expr → Bool
  | [] => true
  | e :: es => nst e && nsts es
theorem se1 {e : Expr} {es : List Expr} {env : Env} (h : nst e = true) : starEach (e :: es) env = (false, eval e env) :: starEach es env := by
  cases e <;> first | rfl | cases h
theorem se0 {env : Env} : starEach [] env = [] := rfl
theorem se2 {e : Expr} {env : Env} (h : nst e = true) : starEach [e] env = [(false, eval e env)] := by rw [se1 h, se0]
theorem se3 {a b : Expr} {env : Env} (h : nst a = true) (h2 : nst b = true) : starEach [a, b] env = [(false, eval a env), (false, eval b env)] := by rw [se1 h, se2 h2]
theorem sepl {pos : Pos} {env : Env} : ∀ {es : List Expr}, nsts es = true → (backTo pos (starEach es env)).any (·.1) = false
  | [], _ => rfl
  | e :: es, h => by
    obtain ⟨h1, h2⟩ := Bool.and_eq_true_iff.mp (show (nst e && nsts es) = true from h)
    have ih := sepl (pos := pos) (env := env) h2
    rw [se1 h1]
    unfold backTo at ih ⊢
    rw [List.map_cons, List.any_cons, ih]
    rfl

/-! ### results -/
structure Err where
  cls : Str
  pay : Option (Str × Int)
  deriving DecidableEq
inductive R (α : Type) where
  | ok (a : α) | err (e : Err) | ub
namespace R
def bind {α β : Type} (r : R α) (f : α → R β) : R β := match r with
  | ok a => f a
  | err e => err e
  | ub => ub
def map {α β : Type} (f : α → β) (r : R α) : R β := match r with
  | ok a => ok (f a)
  | err e => err e
  | ub => ub
def sat {α : Type} (r : R α) (P : α → Prop) (Q : Err → Prop) : Prop := match r with
  | ok a => P a
  | err e => Q e
  | ub => False
theorem sat_bind {α β : Type} {r : R α} {f : α → R β} {P : β → Prop} {Q : Err → Prop} (h : (r.bind f).sat P Q) : r.sat (fun a => (f a).sat P Q) Q := by
  cases r <;> exact h
theorem sat_map {α β : Type} {r : R α} {f : α → β} {P : β → Prop} {Q : Err → Prop} (h : (r.map f).sat P Q) : r.sat (fun a => P (f a)) Q := by
  cases r <;> exact h
theorem sat_mono {α : Type} {r : R α} {P P' : α → Prop} {Q Q' : Err → Prop} (h : r.sat P Q) (hp : ∀ a, P a → P' a) (hq : ∀ e, Q e → Q' e) : r.sat P' Q' := by
  cases r with
  | ok a => exact hp a h
  | err e => exact hq e h
  | ub => exact h
@[simp] theorem ok_bind {α β : Type} (a : α) (f : α → R β) : (R.ok a).bind f = f a := rfl
@[simp] theorem err_bind {α β : Type} (e : Err) (f : α → R β) : (R.err e : R α).bind f = .err e := rfl
@[simp] theorem ub_bind {α β : Type} (f : α → R β) : (R.ub : R α).bind f = .ub := rfl
@[simp] theorem ok_map {α β : Type} (a : α) (f : α → β) : (R.ok a).map f = .ok (f a) := rfl
@[simp] theorem err_map {α β : Type} (e : Err) (f : α → β) : (R.err e : R α).map f = .err e := rfl
@[simp] theorem ub_map {α β : Type} (f : α → β) : (R.ub : R α).map f = .ub := rfl
end R

/-! ### data -/
/-- a lambda's words -/
structure Lam where
  qual : Str
  params : Arguments
  body : Expr
  scope : Scope
inductive D where
  | non | bl (b : Bool) | int (i : Int) | str (x : Str) | ref (a : Addr)
  | tup (xs : List D) | lst (xs : List D) | dct (kvs : List (Key × D)) | dtt (kvs : List (List Key × D))
  | clo (l : Lam) (cs : List D)
/-- the object at f is the function that the lambda l made; the code object at c', the captured cells cl -/
def LamO (f c' : Addr) (l : Lam) (cl : List (Str × Addr)) : HO := .ext fun h => ∃ pm ctv, h.get? f = some (PySem.W.kla_obj "<lambda>" l.qual l.params l.body l.scope cl pm c' ctv)
/-- the cell at c holds v -/
def CellO (c : Addr) (v : V) : HO := .ext fun h => ∃ u, RelV v u ∧ h.IsCell c (some u)
def keyD : Key → D
  | .inl i => .int i
  | .inr x => .str x
def tkeyD (k : List Key) : D := .tup (k.map keyD)
mutual
inductive Rep (K : PySem.W.Frag) (B : Hp) : V → D → Prop
  | non : Rep K B .non .non
  | bl (b : Bool) : Rep K B (.bl b) (.bl b)
  | int (i : Int) : Rep K B (.int i) (.int i)
  | str (x : Str) : Rep K B (.str x) (.str x)
  | ref (a : Addr) : Rep K B (.ref a) (.ref a)
  | tup {a : Addr} {vs : List V} {ds : List D} : B a = some (.tup vs) → RepL K B vs ds → Rep K B (.ref a) (.tup ds)
  | lst {a : Addr} {vs : List V} {ds : List D} : Rd B a (.lst vs) → RepL K B vs ds → Rep K B (.ref a) (.lst ds)
  | dK {a : Addr} {od : Obj} {kvs : List (Key × V)} {kd : List (Key × D)} : B a = some (.frz od (.dK kvs)) → kvs.map (·.1) = kd.map (·.1) → RepL K B (kvs.map (·.2)) (kd.map (·.2)) → Rep K B (.ref a) (.dct kd)
  | dT {a : Addr} {od : Obj} {kvs : List (List Key × V)} {kd : List (List Key × D)} : B a = some (.frz od (.dT kvs)) → kvs.map (·.1) = kd.map (·.1) → RepL K B (kvs.map (·.2)) (kd.map (·.2)) → Rep K B (.ref a) (.dtt kd)
  | clo {f c' : Addr} {l : Lam} {cl : List (Str × Addr)} {vs : List V} {ds : List D} : B f = some (LamO f c' l cl) → B c' = some (LamX.CodeO c' l.qual) → cl.length = vs.length → (∀ (i : Nat) (p : Str × Addr) (v : V), cl[i]? = some p → vs[i]? = some v → B p.2 = some (CellO p.2 v)) → RepL K B vs ds → Rep K B (.ref f) (.clo l ds)
inductive RepL (K : PySem.W.Frag) (B : Hp) : List V → List D → Prop
  | nil : RepL K B [] []
  | cons {v : V} {vs : List V} {d : D} {ds : List D} : Rep K B v d → RepL K B vs ds → RepL K B (v :: vs) (d :: ds)
end
section
variable {K : PySem.W.Frag} {B B' : Hp}
mutual
theorem Rep.mono (e : Ex B B') : ∀ {v : V} {d : D}, Rep K B v d → Rep K B' v d
  | _, _, .non => .non
  | _, _, .bl b => .bl b
  | _, _, .int i => .int i
  | _, _, .str x => .str x
  | _, _, .ref a => .ref a
  | _, _, .tup h r => .tup (e _ _ h) (RepL.mono e r)
  | _, _, .lst h r => .lst (ex_rd e h) (RepL.mono e r)
  | _, _, .dK h q r => .dK (e _ _ h) q (RepL.mono e r)
  | _, _, .dT h q r => .dT (e _ _ h) q (RepL.mono e r)
  | _, _, .clo h1 h2 h3 h4 r => .clo (e _ _ h1) (e _ _ h2) h3 (fun i p v a b => e _ _ (h4 i p v a b)) (RepL.mono e r)
theorem RepL.mono (e : Ex B B') : ∀ {vs : List V} {ds : List D}, RepL K B vs ds → RepL K B' vs ds
  | _, _, .nil => .nil
  | _, _, .cons h r => .cons (Rep.mono e h) (RepL.mono e r)
end
theorem RepL.length : ∀ {vs : List V} {ds : List D}, RepL K B vs ds → vs.length = ds.length
  | _, _, .nil => rfl
  | _, _, .cons _ r => congrArg (· + 1) (RepL.length r)
theorem RepL.append : ∀ {vs ws : List V} {ds es : List D}, RepL K B vs ds → RepL K B ws es → RepL K B (vs ++ ws) (ds ++ es)
  | _, _, _, _, .nil, s => s
  | _, _, _, _, .cons h r, s => .cons h (RepL.append r s)
theorem RepL.get : ∀ {vs : List V} {ds : List D} {i : Nat} {d : D}, RepL K B vs ds → ds[i]? = some d → ∃ v, vs[i]? = some v ∧ Rep K B v d
  | _, _, _, _, .nil, e => by simp at e
  | _, _, 0, _, .cons h _, e => by simp at e; subst e; exact ⟨_, rfl, h⟩
  | _, _, i + 1, d, .cons _ r, e => by
    obtain ⟨v, h1, h2⟩ := RepL.get (i := i) (d := d) r (by simpa using e)
    exact ⟨v, by simpa using h1, h2⟩
theorem RepL.getV : ∀ {vs : List V} {ds : List D} {i : Nat} {v : V}, RepL K B vs ds → vs[i]? = some v → ∃ d, ds[i]? = some d ∧ Rep K B v d
  | _, _, _, _, .nil, e => by simp at e
  | _, _, 0, _, .cons h _, e => by simp at e; subst e; exact ⟨_, rfl, h⟩
  | _, _, i + 1, v, .cons _ r, e => by
    obtain ⟨d, h1, h2⟩ := RepL.getV (i := i) (v := v) r (by simpa using e)
    exact ⟨d, by simpa using h1, h2⟩
theorem RepL.set {v : V} {d : D} (h : Rep K B v d) : ∀ {vs : List V} {ds : List D} (i : Nat), RepL K B vs ds → RepL K B (vs.set i v) (ds.set i d)
  | _, _, _, .nil => .nil
  | _, _, 0, .cons _ r => .cons h r
  | _, _, i + 1, .cons q r => .cons q (RepL.set h i r)
theorem RepL.take : ∀ {vs : List V} {ds : List D} (n : Nat), RepL K B vs ds → RepL K B (vs.take n) (ds.take n)
  | _, _, 0, _ => .nil
  | _, _, _ + 1, .nil => .nil
  | _, _, n + 1, .cons h r => .cons h (RepL.take n r)
theorem RepL.drop : ∀ {vs : List V} {ds : List D} (n : Nat), RepL K B vs ds → RepL K B (vs.drop n) (ds.drop n)
  | _, _, 0, r => r
  | _, _, _ + 1, .nil => .nil
  | _, _, n + 1, .cons _ r => RepL.drop n r
theorem RepL.reverse : ∀ {vs : List V} {ds : List D}, RepL K B vs ds → RepL K B vs.reverse ds.reverse
  | _, _, .nil => .nil
  | _, _, .cons h r => by
    rw [List.reverse_cons, List.reverse_cons]
    exact (RepL.reverse r).append (.cons h .nil)
theorem RepL.rep {vs : List V} {ds : List D} (h : RepL K B vs ds) : ∀ k : Nat, RepL K B (List.replicate k vs).flatten (List.replicate k ds).flatten
  | 0 => .nil
  | k + 1 => by
    rw [List.replicate_succ, List.flatten_cons, List.replicate_succ, List.flatten_cons]
    exact h.append (RepL.rep h k)
theorem Rep.iint {v : V} {i : Int} (h : Rep K B v (.int i)) : v = .int i := by cases h; rfl
theorem Rep.ibl {v : V} {b : Bool} (h : Rep K B v (.bl b)) : v = .bl b := by cases h; rfl
theorem Rep.istr {v : V} {x : Str} (h : Rep K B v (.str x)) : v = .str x := by cases h; rfl
theorem Rep.inon {v : V} (h : Rep K B v .non) : v = .non := by cases h; rfl
theorem Rep.iref {v : V} {a : Addr} (h : Rep K B v (.ref a)) : v = .ref a := by cases h; rfl
theorem Rep.itup {v : V} {ds : List D} (h : Rep K B v (.tup ds)) : ∃ a vs, v = .ref a ∧ SqT K B a vs ∧ RepL K B vs ds := by
  cases h with
  | tup h r => exact ⟨_, _, rfl, SqT.of h, r⟩
theorem Rep.itupH {v : V} {ds : List D} (h : Rep K B v (.tup ds)) : ∃ a vs, v = .ref a ∧ B a = some (.tup vs) ∧ RepL K B vs ds := by
  cases h with
  | tup h r => exact ⟨_, _, rfl, h, r⟩
theorem Rep.idct {v : V} {kd : List (Key × D)} (h : Rep K B v (.dct kd)) : ∃ a od kvs, v = .ref a ∧ B a = some (.frz od (.dK kvs)) ∧ kvs.map (·.1) = kd.map (·.1) ∧ RepL K B (kvs.map (·.2)) (kd.map (·.2)) := by
  cases h with
  | dK h q r => exact ⟨_, _, _, rfl, h, q, r⟩
theorem Rep.idtt {v : V} {kd : List (List Key × D)} (h : Rep K B v (.dtt kd)) : ∃ a od kvs, v = .ref a ∧ B a = some (.frz od (.dT kvs)) ∧ kvs.map (·.1) = kd.map (·.1) ∧ RepL K B (kvs.map (·.2)) (kd.map (·.2)) := by
  cases h with
  | dT h q r => exact ⟨_, _, _, rfl, h, q, r⟩
theorem Rep.ilst {v : V} {ds : List D} (h : Rep K B v (.lst ds)) : ∃ a vs, v = .ref a ∧ Rd B a (.lst vs) ∧ RepL K B vs ds := by
  cases h with
  | lst h r => exact ⟨_, _, rfl, h, r⟩
theorem RepL.ints : ∀ {vs : List V} {ns : List Int}, RepL K B vs (ns.map D.int) → vs = ns.map V.int
  | _, [], .nil => rfl
  | _, n :: ns, .cons h r => by
    rw [h.iint, RepL.ints r]; rfl
theorem RepL.strs : ∀ {vs : List V} {ns : List Str}, RepL K B vs (ns.map D.str) → vs = ns.map V.str
  | _, [], .nil => rfl
  | _, n :: ns, .cons h r => by
    rw [h.istr, RepL.strs r]; rfl
theorem RepL.bls : ∀ {vs : List V} {ns : List Bool}, RepL K B vs (ns.map D.bl) → vs = ns.map V.bl
  | _, [], .nil => rfl
  | _, n :: ns, .cons h r => by
    rw [h.ibl, RepL.bls r]; rfl
end

/-! ### owned cells -/
inductive MO where
  | l (xs : List D)
  | d (kvs : List (Key × D))
  | t (kvs : List (List Key × D))
def MO.view : MO → D
  | .l xs => .lst xs
  | .d kvs => .dct kvs
  | .t kvs => .dtt kvs
def MoAt (K : PySem.W.Frag) (B H : Hp) (a : Addr) : MO → Prop
  | .l xs => ∃ vs, H a = some (.lst vs) ∧ RepL K B vs xs
  | .d kd => ∃ kvs : List (Key × V), H a = some (.dK kvs) ∧ kvs.map (·.1) = kd.map (·.1) ∧ RepL K B (kvs.map (·.2)) (kd.map (·.2))
  | .t kd => ∃ kvs : List (List Key × V), H a = some (.dT kvs) ∧ kvs.map (·.1) = kd.map (·.1) ∧ RepL K B (kvs.map (·.2)) (kd.map (·.2))
abbrev OM := List (Addr × MO)
abbrev Tb := List (Addr × Str)
theorem MoAt.mono {K : PySem.W.Frag} {B B' H H' : Hp} {a : Addr} {o : MO} (h : MoAt K B H a o) (e : Ex B B') (k : ∀ u, H a = some u → H' a = some u) : MoAt K B' H' a o := by
  cases o with
  | l xs => obtain ⟨vs, h1, h2⟩ := h; exact ⟨vs, k _ h1, h2.mono e⟩
  | d kd =>
    obtain ⟨kvs, h1, h2, h3⟩ := h
    exact ⟨kvs, k _ h1, h2, h3.mono e⟩
  | t kd =>
    obtain ⟨kvs, h1, h2, h3⟩ := h
    exact ⟨kvs, k _ h1, h2, h3.mono e⟩
theorem MoAt.there {K : PySem.W.Frag} {B H : Hp} {a : Addr} {o : MO} (h : MoAt K B H a o) : ∃ u, H a = some u ∧ ∀ ps, u ≠ .tbl ps := by
  cases o with
  | l xs => obtain ⟨vs, h1, h2⟩ := h; exact ⟨_, h1, fun ps z => nomatch z⟩
  | d kd =>
    obtain ⟨kvs, h1, h2, h3⟩ := h
    exact ⟨_, h1, fun ps z => nomatch z⟩
  | t kd =>
    obtain ⟨kvs, h1, h2, h3⟩ := h
    exact ⟨_, h1, fun ps z => nomatch z⟩
theorem MoAt.next {K : PySem.W.Frag} {B H : Hp} {a : Addr} {o : MO} (h : MoAt K B H a o) (φ : Heap → Prop) : H a ≠ some (.ext φ) := by
  cases o with
  | l ys => obtain ⟨vs, h1, h2⟩ := h; rw [h1]; exact fun z => nomatch z
  | d kd => obtain ⟨kvs, h1, h2, h3⟩ := h; rw [h1]; exact fun z => nomatch z
  | t kd => obtain ⟨kvs, h1, h2, h3⟩ := h; rw [h1]; exact fun z => nomatch z
theorem MoAt.ntup {K : PySem.W.Frag} {B H : Hp} {a : Addr} {o : MO} (h : MoAt K B H a o) (xs : List V) : H a ≠ some (.tup xs) := by
  cases o with
  | l ys => obtain ⟨vs, h1, h2⟩ := h; rw [h1]; exact fun z => nomatch z
  | d kd => obtain ⟨kvs, h1, h2, h3⟩ := h; rw [h1]; exact fun z => nomatch z
  | t kd => obtain ⟨kvs, h1, h2, h3⟩ := h; rw [h1]; exact fun z => nomatch z
structure Own (K : PySem.W.Frag) (T : Tb) (B : Hp) (m : OM) (H : Hp) : Prop where
  ex : Ex B H
  at_ : ∀ p ∈ m, B p.1 = none ∧ MoAt K B H p.1 p.2
  nd : (m.map (·.1)).Nodup
  tb : LamX.Tabs T H
  nt : ∀ a ps, B a ≠ some (.tbl ps)
/-- free, or a table of code objects -/
def Fre (H : Hp) (a : Addr) : Prop := ∀ o, H a = some o → ∃ ps, o = .tbl ps
theorem Fre.of {H : Hp} {a : Addr} (h : H a = none) : Fre H a := fun o e => by rw [h] at e; cases e
structure Go (K : PySem.W.Frag) (T : Tb) (B : Hp) (m : OM) (H B' : Hp) (m' : OM) (H' : Hp) : Prop where
  ex : Ex B B'
  own : Own K T B' m' H'
  frame : ∀ a o, H a = some o → (∀ ps, o ≠ .tbl ps) → a ∉ m.map (·.1) → H' a = some o
  fresh : ∀ a ∈ m'.map (·.1), a ∈ m.map (·.1) ∨ Fre H a
  grow : ∀ a o, B' a = some o → B a = some o ∨ a ∈ m.map (·.1) ∨ Fre H a ∨ (∃ xs, H a = some (.tup xs)) ∨ ∃ φ, H a = some (.ext φ)
section
variable {K : PySem.W.Frag} {T : Tb} {B B1 B2 H H1 H2 : Hp} {m m1 m2 : OM}
theorem Go.refl (o : Own K T B m H) : Go K T B m H B m H :=
  ⟨fun _ _ h => h, o, fun _ _ h _ _ => h, fun _ h => .inl h, fun _ _ h => .inl h⟩
theorem Go.trans (a : Go K T B m H B1 m1 H1) (b : Go K T B1 m1 H1 B2 m2 H2) : Go K T B m H B2 m2 H2 := by
  have key : ∀ x, Fre H1 x → x ∈ m.map (·.1) ∨ Fre H x := fun x f => by
    by_cases hx : x ∈ m.map (·.1)
    · exact .inl hx
    · refine .inr fun o e => ?_
      by_cases ht : ∃ ps, o = .tbl ps
      · exact ht
      · exact f o (a.frame x o e (fun ps z => ht ⟨ps, z⟩) hx)
  refine ⟨a.ex.trans b.ex, b.own, fun x o e nt hx => ?_, fun x hx => ?_, fun x o e => ?_⟩
  · have e1 := a.frame x o e nt hx
    refine b.frame x o e1 nt fun h1 => ?_
    rcases a.fresh x h1 with h2 | h2
    · exact hx h2
    · obtain ⟨ps, z⟩ := h2 o e
      exact nt ps z
  · rcases b.fresh x hx with h | h
    · exact a.fresh x h
    · exact key x h
  · rcases b.grow x o e with h | h | h | ⟨xs, h⟩ | ⟨xs, h⟩
    · exact a.grow x o h
    · rcases a.fresh x h with z | z
      · exact .inr (.inl z)
      · exact .inr (.inr (.inl z))
    · rcases key x h with z | z
      · exact .inr (.inl z)
      · exact .inr (.inr (.inl z))
    · by_cases hx : x ∈ m.map (·.1)
      · exact .inr (.inl hx)
      · refine .inr (.inr ?_)
        cases q : H x with
        | none => exact .inl (.of q)
        | some u =>
          by_cases ht : ∃ ps, u = .tbl ps
          · exact .inl fun o' e' => by rw [q] at e'; cases e'; exact ht
          · have z := a.frame x u q (fun ps z => ht ⟨ps, z⟩) hx
            rw [h] at z
            cases z
            exact .inr (.inl ⟨xs, rfl⟩)
    · by_cases hx : x ∈ m.map (·.1)
      · exact .inr (.inl hx)
      · refine .inr (.inr ?_)
        cases q : H x with
        | none => exact .inl (.of q)
        | some u =>
          by_cases ht : ∃ ps, u = .tbl ps
          · exact .inl fun o' e' => by rw [q] at e'; cases e'; exact ht
          · have z := a.frame x u q (fun ps z => ht ⟨ps, z⟩) hx
            rw [h] at z
            cases z
            exact .inr (.inr ⟨xs, rfl⟩)
/-- an object that no one knew is laid, and belongs to the ground from now on -/
theorem Own.lay {p : Addr} {o : HO} (w : Own K T B m H) (hp : H p = none) (nt : ∀ ps, o ≠ .tbl ps) : Own K T (upd B p o) m (upd H p o) := by
  have hB : B p = none := by
    cases q : B p with
    | none => rfl
    | some u => rw [w.ex p u q] at hp; cases hp
  have eB : Ex B (upd B p o) := Ex.new hB
  have eH : Ex H (upd H p o) := Ex.new hp
  refine ⟨fun a u e => ?_, fun q hq => ?_, w.nd, w.tb.ext fun b u e => eH b u e, fun a ps e => ?_⟩
  · by_cases ha : a = p
    · subst ha; rw [upd_same] at e ⊢; exact e
    · rw [upd_ne ha] at e ⊢; exact w.ex a u e
  · obtain ⟨h1, h2⟩ := w.at_ q hq
    obtain ⟨u, hu, _⟩ := h2.there
    have hne : q.1 ≠ p := fun z => by rw [z, hp] at hu; cases hu
    exact ⟨by rw [upd_ne hne]; exact h1, h2.mono eB fun u e => by rw [upd_ne hne]; exact e⟩
  · by_cases ha : a = p
    · subst ha; rw [upd_same] at e; exact nt ps (Option.some.inj e)
    · rw [upd_ne ha] at e; exact w.nt a ps e
theorem Go.lay {p : Addr} {o : HO} (w : Own K T B m H) (hp : H p = none) (nt : ∀ ps, o ≠ .tbl ps) : Go K T B m H (upd B p o) m (upd H p o) := by
  have hB : B p = none := by
    cases q : B p with
    | none => rfl
    | some u => rw [w.ex p u q] at hp; cases hp
  refine ⟨Ex.new hB, w.lay hp nt, fun a u e _ _ => Ex.new hp a u e, fun _ h => .inl h, fun a u e => ?_⟩
  by_cases ha : a = p
  · subst ha; exact .inr (.inr (.inl (.of hp)))
  · rw [upd_ne ha] at e; exact .inl e
/-- a new object, not of the ground -/
theorem Go.new {p : Addr} {o : HO} (w : Own K T B m H) (hp : H p = none) : Go K T B m H B m (upd H p o) := by
  have eH : Ex H (upd H p o) := Ex.new hp
  refine ⟨fun _ _ h => h, ⟨w.ex.trans eH, fun q hq => ?_, w.nd, w.tb.ext fun b u e => eH b u e, w.nt⟩, fun a u e _ _ => eH a u e, fun _ h => .inl h, fun _ _ h => .inl h⟩
  obtain ⟨h1, h2⟩ := w.at_ q hq
  exact ⟨h1, h2.mono (fun _ _ h => h) fun u e => eH _ u e⟩
/-- a new list kept as a cell -/
theorem Own.cell {p : Addr} {o : MO} (w : Own K T B m H) (hp : p ∉ m.map (·.1)) (hB : B p = none) (h : MoAt K B H p o) : Own K T B ((p, o) :: m) H :=
  ⟨w.ex, fun q hq => by
    rcases List.mem_cons.mp hq with rfl | hq
    · exact ⟨hB, h⟩
    · exact w.at_ q hq, by rw [List.map_cons]; exact List.nodup_cons.mpr ⟨hp, w.nd⟩, w.tb, w.nt⟩
theorem Own.notIn {p : Addr} (w : Own K T B m H) (hp : Fre H p) : p ∉ m.map (·.1) := fun hm => by
  obtain ⟨q, hq, rfl⟩ := List.mem_map.mp hm
  obtain ⟨_, h2⟩ := w.at_ q hq
  obtain ⟨u, hu, nt⟩ := h2.there
  obtain ⟨ps, z⟩ := hp u hu
  exact nt ps z
/-- cells are forgotten -/
theorem Own.sub {m' : OM} (w : Own K T B m H) (hs : m'.Sublist m) : Own K T B m' H :=
  ⟨w.ex, fun p hp => w.at_ p (hs.subset hp), w.nd.sublist (hs.map _), w.tb, w.nt⟩
theorem Go.sub {m' : OM} (g : Go K T B m H B1 m1 H1) (hs : m'.Sublist m1) : Go K T B m H B1 m' H1 :=
  ⟨g.ex, g.own.sub hs, g.frame, fun a h => g.fresh a ((hs.map _).subset h), g.grow⟩
theorem Own.perm {m' : OM} (w : Own K T B m H) (hs : m.Perm m') : Own K T B m' H :=
  ⟨w.ex, fun p hp => w.at_ p (hs.mem_iff.mpr hp), (hs.map _).nodup_iff.mp w.nd, w.tb, w.nt⟩
theorem Go.perm {m' : OM} (g : Go K T B m H B1 m1 H1) (hs : m1.Perm m') : Go K T B m H B1 m' H1 :=
  ⟨g.ex, g.own.perm hs, g.frame, fun a h => g.fresh a ((hs.map _).mem_iff.mpr h), g.grow⟩
end

/-! ### slots -/
abbrev DS := List (Option D)
structure Sl (K : PySem.W.Frag) (B : Hp) (σ : St) (ds : DS) : Prop where
  len : σ.length = ds.length
  at_ : ∀ (i : Nat) (d : D), ds[i]? = some (some d) → ∃ v, σ[i]? = some (some v) ∧ Rep K B v d
theorem Sl.mono {K : PySem.W.Frag} {B B' : Hp} {σ : St} {ds : DS} (s : Sl K B σ ds) (e : Ex B B') : Sl K B' σ ds :=
  ⟨s.len, fun i d h => let ⟨v, h1, h2⟩ := s.at_ i d h; ⟨v, h1, h2.mono e⟩⟩
theorem Sl.set {K : PySem.W.Frag} {B : Hp} {σ : St} {ds : DS} (s : Sl K B σ ds) (i : Nat) {v : V} {d : D} (r : Rep K B v d) : Sl K B (σ.set i (some v)) (ds.set i (some d)) :=
  ⟨by rw [List.length_set, List.length_set]; exact s.len, fun j e h => by
    by_cases hj : i = j
    · subst hj
      have hi : i < ds.length := by
        by_cases hi : i < ds.length
        · exact hi
        · rw [List.getElem?_eq_none (by rw [List.length_set]; omega)] at h; cases h
      rw [List.getElem?_set_self hi] at h
      cases h
      exact ⟨v, List.getElem?_set_self (by rw [s.len]; exact hi), r⟩
    · rw [List.getElem?_set_ne hj] at h
      obtain ⟨v', h1, h2⟩ := s.at_ j e h
      exact ⟨v', by rw [List.getElem?_set_ne hj]; exact h1, h2⟩⟩
/-- what is known of slots is forgotten -/
def Fgt (ds ds' : DS) : Prop := ds.length = ds'.length ∧ ∀ (i : Nat) (d : D), ds'[i]? = some (some d) → ds[i]? = some (some d)
theorem Sl.fgt {K : PySem.W.Frag} {B : Hp} {σ : St} {ds ds' : DS} (s : Sl K B σ ds) (f : Fgt ds ds') : Sl K B σ ds' :=
  ⟨s.len.trans f.1, fun i d h => s.at_ i d (f.2 i d h)⟩
theorem Fgt.refl (ds : DS) : Fgt ds ds := ⟨rfl, fun _ _ h => h⟩
theorem Fgt.nil : Fgt [] [] := Fgt.refl _
theorem Fgt.keep {ds ds' : DS} {d : Option D} (f : Fgt ds ds') : Fgt (d :: ds) (d :: ds') :=
  ⟨by simp [f.1], fun i e h => by
    cases i with
    | zero => exact h
    | succ i => simpa using f.2 i e (by simpa using h)⟩
theorem Fgt.drop {ds ds' : DS} {d : Option D} (f : Fgt ds ds') : Fgt (d :: ds) (none :: ds') :=
  ⟨by simp [f.1], fun i e h => by
    cases i with
    | zero => simp at h
    | succ i => simpa using f.2 i e (by simpa using h)⟩

/-! ### the judgements -/
structure wpE (X : Cx) (e : Expr) (σ : St) (H : Hp) (Q : VK) : Prop where
  run : ∀ (pins : List (Addr × Obj)) (s : Shared), Inv X pins σ H s → wpAny (model X.prog X.w) X.A (eval e X.env) (EP X pins σ Q) X.xe s
theorem pe_wp (X : Cx) (e : Expr) : PE X e (wpE X e) := ⟨fun pins s _ _ _ I h => h.run pins s I⟩
theorem wpE.of {X : Cx} {e : Expr} {t : TE} (h : PE X e t) {σ : St} {H : Hp} {Q : VK} (q : t σ H Q) : wpE X e σ H Q := ⟨fun pins s I => h.run pins s σ H Q I q⟩
structure wpT (X : Cx) (e : Expr) (σ : St) (H : Hp) (Q : Bool → Hp → Prop) : Prop where
  run : ∀ (pins : List (Addr × Obj)) (s : Shared), Inv X pins σ H s → wpAny (model X.prog X.w) X.A (isTrue e X.env (eval e X.env)) (TP X pins σ Q) X.xe s
theorem pt_wp (X : Cx) (e : Expr) : PT X e (wpT X e) := ⟨fun pins s _ _ _ I h => h.run pins s I⟩
theorem wpT.of {X : Cx} {e : Expr} {t : TT} (h : PT X e t) {σ : St} {H : Hp} {Q : Bool → Hp → Prop} (q : t σ H Q) : wpT X e σ H Q := ⟨fun pins s I => h.run pins s σ H Q I q⟩
structure wpA (X : Cx) (es : List Expr) (σ : St) (H : Hp) (Q : List V → Hp → Prop) : Prop where
  run : ∀ (pos : Pos) (pins : List (Addr × Obj)) (s : Shared), Inv X pins σ H s → wpAny (model X.prog X.w) X.A (spliced (backTo pos (starEach es X.env))) (AP X pins σ Q) X.xe s
theorem pa_wp (X : Cx) (es : List Expr) : PA X es (wpA X es) := ⟨fun pos pins s _ _ _ I h => h.run pos pins s I⟩
theorem wpA.of {X : Cx} {es : List Expr} {t : TA} (h : PA X es t) {σ : St} {H : Hp} {Q : List V → Hp → Prop} (q : t σ H Q) : wpA X es σ H Q := ⟨fun pos pins s I => h.run pos pins s σ H Q I q⟩
structure wpS (X : Cx) (st : Stmt) (D : Ends) (σ : St) (H : Hp) : Prop where
  run : ∀ (pins : List (Addr × Obj)) (s : Shared), Inv X pins σ H s → wpAny (model X.prog X.w) X.A (exec st X.env) (SP X pins D) X.xe s
theorem ps_wp (X : Cx) (st : Stmt) : PS X st (wpS X st) := ⟨fun pins s _ _ _ I h => h.run pins s I⟩
theorem wpS.of {X : Cx} {st : Stmt} {t : TS} (h : PS X st t) {D : Ends} {σ : St} {H : Hp} (q : t D σ H) : wpS X st D σ H := ⟨fun pins s I => h.run pins s σ H D I q⟩
structure wpSs (X : Cx) (ss : List Stmt) (D : Ends) (σ : St) (H : Hp) : Prop where
  run : ∀ (pins : List (Addr × Obj)) (s : Shared), Inv X pins σ H s → wpAny (model X.prog X.w) X.A (execs ss X.env) (SP X pins D) X.xe s
theorem pss_wp (X : Cx) (ss : List Stmt) : PSs X ss (wpSs X ss) := ⟨fun pins s _ _ _ I h => h.run pins s I⟩
theorem wpSs.of {X : Cx} {ss : List Stmt} {t : TS} (h : PSs X ss t) {D : Ends} {σ : St} {H : Hp} (q : t D σ H) : wpSs X ss D σ H := ⟨fun pins s I => h.run pins s σ H D I q⟩

/-- an exception as the heap has it -/
def ErrAt (mg : Str → Option Value) (H : Hp) (er : Err) (cls : Value) (dd : Option Addr) : Prop :=
  ∃ C, mg er.cls = some (.ref C) ∧ cls = .ref C ∧ (match er.pay with
    | none => dd = none
    | some (f, i) => ∃ a, dd = some a ∧ H a = some (.xd [(f, .int i)]))
section
variable (T : Tb) (X : Cx)
/-- what is wished of an exception (cells are kept | lost) -/
def EK (W : WX) (B : Hp) (m : OM) (σ : St) (H : Hp) (m' : OM) (er : Err) : Prop :=
  ∀ B' H' cls dd, Go X.K T B m H B' m' H' → ErrAt X.mg H' er cls dd → W cls dd σ H'
/-- a value: cells as they were -/
def EV (ds : DS) (m : OM) (e : Expr) (r : R D) : Prop :=
  ∀ (W : WX), Takes X W → ∀ (B : Hp) (σ : St) (H : Hp), Sl X.K B σ ds → Own X.K T B m H → ∀ Q : VK,
    r.sat (fun d => ∀ B' v H', Go X.K T B m H B' m H' → Rep X.K B' v d → Q v H') (EK T X W B m σ H m) → wpE X e σ H Q
/-- a value: cells may change -/
def EX (ds : DS) (m : OM) (e : Expr) (r : R (D × OM)) : Prop :=
  ∀ (W : WX), Takes X W → ∀ (B : Hp) (σ : St) (H : Hp), Sl X.K B σ ds → Own X.K T B m H → ∀ Q : VK,
    r.sat (fun p => ∀ B' v H', Go X.K T B m H B' p.2 H' → Rep X.K B' v p.1 → Q v H') (EK T X W B m σ H []) → wpE X e σ H Q
/-- a new list -/
def EL (ds : DS) (m : OM) (e : Expr) (r : R (List D × OM)) : Prop :=
  ∀ (W : WX), Takes X W → ∀ (B : Hp) (σ : St) (H : Hp), Sl X.K B σ ds → Own X.K T B m H → ∀ Q : VK,
    r.sat (fun q => ∀ B' p vs H', Go X.K T B m H B' q.2 H' → B' p = none → (p ∈ m.map (·.1) ∨ Fre H p) → p ∉ q.2.map (·.1) → H' p = some (.lst vs) → RepL X.K B' vs q.1 → Q (.ref p) H') (EK T X W B m σ H []) → wpE X e σ H Q
/-- a test -/
def ET (ds : DS) (m : OM) (e : Expr) (r : R (Bool × OM)) : Prop :=
  ∀ (W : WX), Takes X W → ∀ (B : Hp) (σ : St) (H : Hp), Sl X.K B σ ds → Own X.K T B m H → ∀ Q : Bool → Hp → Prop,
    r.sat (fun p => ∀ B' H', Go X.K T B m H B' p.2 H' → Q p.1 H') (EK T X W B m σ H []) → wpT X e σ H Q
/-- arguments -/
def EA (ds : DS) (m : OM) (es : List Expr) (r : R (List D × OM)) : Prop :=
  ∀ (W : WX), Takes X W → ∀ (B : Hp) (σ : St) (H : Hp), Sl X.K B σ ds → Own X.K T B m H → ∀ Q : List V → Hp → Prop,
    r.sat (fun p => ∀ B' vs H', Go X.K T B m H B' p.2 H' → RepL X.K B' vs p.1 → Q vs H') (EK T X W B m σ H []) → wpA X es σ H Q
end

/-! ### blocks -/
inductive Fl (S L γ : Type) where
  | nx (s : S) | rt (g : γ) | bk (l : L) | ct (l : L)
/-- what is returned: a value, or a new list that no one else holds -/
inductive RD where
  | val (d : D) | new (xs : List D)
structure Exits (S L γ : Type) where
  nx : S → DS → OM → Prop
  lp : L → DS → OM → Prop
  rt : γ → RD × OM
/-- one state -/
def fnx {S : Type} (n : S → DS × OM) : S → DS → OM → Prop := fun s ds m => ds = (n s).1 ∧ m = (n s).2
theorem fnxE {S : Type} {n : S → DS × OM} {s : S} {C : DS → OM → Prop} (h : C (n s).1 (n s).2) : ∀ ds m, fnx n s ds m → C ds m := by
  rintro _ _ ⟨rfl, rfl⟩
  exact h
def RtP (K : PySem.W.Frag) (T : Tb) (B : Hp) (m : OM) (H : Hp) (t : RD × OM) (N : V → Hp → Prop) : Prop := match t.1 with
  | .val d => ∀ B' v H', Go K T B m H B' t.2 H' → Rep K B' v d → N v H'
  | .new xs => ∀ B' p vs H', Go K T B m H B' t.2 H' → B' p = none → (p ∈ m.map (·.1) ∨ Fre H p) → p ∉ t.2.map (·.1) → H' p = some (.lst vs) → RepL K B' vs xs → N (.ref p) H'
theorem Go.pull {K : PySem.W.Frag} {T : Tb} {B B1 H H1 : Hp} {m m1 : OM} (a : Go K T B m H B1 m1 H1) {x : Addr} (h : x ∈ m1.map (·.1) ∨ Fre H1 x) : x ∈ m.map (·.1) ∨ Fre H x := by
  rcases h with h | f
  · exact a.fresh x h
  · by_cases hx : x ∈ m.map (·.1)
    · exact .inl hx
    · refine .inr fun o e => ?_
      by_cases ht : ∃ ps, o = .tbl ps
      · exact ht
      · exact f o (a.frame x o e (fun ps z => ht ⟨ps, z⟩) hx)
theorem RtP.go {K : PySem.W.Frag} {T : Tb} {B B1 H H1 : Hp} {m m1 : OM} {t : RD × OM} {N : V → Hp → Prop} (g : Go K T B m H B1 m1 H1) (h : RtP K T B m H t N) : RtP K T B1 m1 H1 t N := by
  obtain ⟨r, m2⟩ := t
  cases r with
  | val d => exact fun B' v H' g' r => h B' v H' (g.trans g') r
  | new xs => exact fun B' p vs H' g' hB hf hm hp r => h B' p vs H' (g.trans g') hB (g.pull hf) hm hp r
theorem RtP.mono {K : PySem.W.Frag} {T : Tb} {B H : Hp} {m : OM} {t : RD × OM} {N N' : V → Hp → Prop} (h : RtP K T B m H t N) (k : ∀ v H', N v H' → N' v H') : RtP K T B m H t N' := by
  obtain ⟨r, m2⟩ := t
  cases r with
  | val d => exact fun B' v H' g' r => k _ _ (h B' v H' g' r)
  | new xs => exact fun B' p vs H' g' hB hf hm hp r => k _ _ (h B' p vs H' g' hB hf hm hp r)
def Lands (K : PySem.W.Frag) (T : Tb) (B : Hp) (m : OM) (H : Hp) (t : DS → OM → Prop) (N : St → Hp → Prop) : Prop :=
  ∀ ds' m', t ds' m' → ∀ B' σ' H', Go K T B m H B' m' H' → Sl K B' σ' ds' → N σ' H'
def SBpost {S L γ : Type} (K : PySem.W.Frag) (T : Tb) (B : Hp) (m : OM) (H : Hp) (E : Exits S L γ) (D : Ends) : Fl S L γ → Prop
  | .nx s => Lands K T B m H (E.nx s) D.nx
  | .bk l => Lands K T B m H (E.lp l) D.bk
  | .ct l => Lands K T B m H (E.lp l) D.ct
  | .rt g => RtP K T B m H (E.rt g) D.rt
/-- what is wished of an exception that leaves a block -/
def EB (X : Cx) (T : Tb) (W : WX) (B : Hp) (m : OM) (H : Hp) (er : Err) : Prop :=
  ∀ B' σ' H' cls dd, Go X.K T B m H B' [] H' → ErrAt X.mg H' er cls dd → W cls dd σ' H'
def SB (T : Tb) (X : Cx) (ds : DS) (m : OM) (ss : List Stmt) {S L γ : Type} (E : Exits S L γ) (r : R (Fl S L γ)) : Prop :=
  ∀ (W : WX), Takes X W → ∀ (B : Hp) (σ : St) (H : Hp), Sl X.K B σ ds → Own X.K T B m H → ∀ D : Ends,
    r.sat (SBpost X.K T B m H E D) (EB X T W B m H) → wpSs X ss D σ H
end DL
namespace DL
open PySem PySem.Spec PyProof.Rows L2
open Evl (Ex ex_l ex_t ex_rd)

/-! ### views -/
inductive VRep (K : PySem.W.Frag) (B : Hp) (m : OM) : V → D → Prop
  | st {v : V} {d : D} : Rep K B v d → VRep K B m v d
  | own {p : Addr} {o : MO} : (p, o) ∈ m → VRep K B m (.ref p) o.view
section
variable {K : PySem.W.Frag} {T : Tb} {B B' H H' : Hp} {m m' : OM} {v : V}
theorem VRep.go {d : D} (r : VRep K B m v d) (g : Go K T B m H B' m H') : VRep K B' m v d := by
  cases r with
  | st h => exact .st (h.mono g.ex)
  | own h => exact .own h
theorem VRep.iint {i : Int} (r : VRep K B m v (.int i)) : v = .int i := by
  generalize e : D.int i = d at r
  cases r with
  | st h => subst e; exact h.iint
  | @own p o h => cases o <;> cases e
theorem VRep.ibl {b : Bool} (r : VRep K B m v (.bl b)) : v = .bl b := by
  generalize e : D.bl b = d at r
  cases r with
  | st h => subst e; exact h.ibl
  | @own p o h => cases o <;> cases e
theorem VRep.istr {x : Str} (r : VRep K B m v (.str x)) : v = .str x := by
  generalize e : D.str x = d at r
  cases r with
  | st h => subst e; exact h.istr
  | @own p o h => cases o <;> cases e
theorem VRep.inon (r : VRep K B m v .non) : v = .non := by
  generalize e : D.non = d at r
  cases r with
  | st h => subst e; exact h.inon
  | @own p o h => cases o <;> cases e
theorem VRep.itup {ds : List D} (w : Own K T B m H) (r : VRep K B m v (.tup ds)) : ∃ a vs, v = .ref a ∧ SqT K H a vs ∧ RepL K B vs ds := by
  generalize e : D.tup ds = d at r
  cases r with
  | st h =>
    subst e
    obtain ⟨a, vs, h1, h2, h3⟩ := h.itup
    exact ⟨a, vs, h1, ex_t w.ex h2, h3⟩
  | @own p o h => cases o <;> cases e
theorem VRep.ilst {ds : List D} (w : Own K T B m H) (r : VRep K B m v (.lst ds)) : ∃ a vs, v = .ref a ∧ Rd H a (.lst vs) ∧ RepL K B vs ds := by
  generalize e : D.lst ds = d at r
  cases r with
  | st h =>
    subst e
    obtain ⟨a, vs, h1, h2, h3⟩ := h.ilst
    exact ⟨a, vs, h1, ex_rd w.ex h2, h3⟩
  | @own p o h =>
    cases o with
    | l xs =>
      cases e
      obtain ⟨_, vs, h1, h2⟩ := w.at_ _ h
      exact ⟨p, vs, rfl, Rd.of h1, h2⟩
    | d kd => cases e
    | t kd => cases e
theorem Rep.up (w : Own K T B m H) {d : D} (r : Rep K B v d) : Rep K H v d := r.mono w.ex
end

/-! ### equality -/
mutual
def D.toPy : D → PyData
  | .non => .none
  | .bl b => .bool b
  | .int i => .int i
  | .str x => .str x
  | .tup xs => .tuple (D.toPyL xs)
  | .lst xs => .list (D.toPyL xs)
  | .ref _ => .dict []
  | .dct _ => .dict []
  | .dtt _ => .dict []
  | .clo _ _ => .dict []
def D.toPyL : List D → List PyData
  | [] => []
  | x :: xs => D.toPy x :: D.toPyL xs
end
mutual
theorem dp_of {K : PySem.W.Frag} {H : Hp} : ∀ (d : D) (v : V), Rep K H v d → d.toPy.canLay0 = true → Dp K H v d.toPy
  | .non, v, r, _ => by rw [r.inon]; exact .non
  | .bl b, v, r, _ => by rw [r.ibl]; exact .bl b
  | .int i, v, r, _ => by rw [r.iint]; exact .int i
  | .str x, v, r, _ => by rw [r.istr]; exact .str x
  | .tup xs, v, r, h => by
    obtain ⟨a, vs, rfl, h1, h2⟩ := r.itup
    exact .tup h1 (dps_of xs vs h2 (by simpa only [D.toPy, PyData.canLay0] using h))
  | .lst xs, v, r, h => by
    obtain ⟨a, vs, rfl, h1, h2⟩ := r.ilst
    exact .lst (.inl h1) (dps_of xs vs h2 (by simpa only [D.toPy, PyData.canLay0] using h))
  | .ref a, v, r, h => by simp [D.toPy, PyData.canLay0] at h
  | .dct kd, v, r, h => by simp [D.toPy, PyData.canLay0] at h
  | .dtt kd, v, r, h => by simp [D.toPy, PyData.canLay0] at h
  | .clo l cs, v, r, h => by simp [D.toPy, PyData.canLay0] at h
theorem dps_of {K : PySem.W.Frag} {H : Hp} : ∀ (ds : List D) (vs : List V), RepL K H vs ds → PyData.canLayAll0 (D.toPyL ds) = true → DpAll K H vs (D.toPyL ds)
  | [], vs, r, _ => by cases r; exact .nil
  | d :: ds, vs, r, h => by
    cases r with
    | cons r1 r2 =>
      simp only [D.toPyL, PyData.canLayAll0, Bool.and_eq_true] at h
      exact .cons (dp_of d _ r1 h.1) (dps_of ds _ r2 h.2)
end
theorem VRep.dp {K : PySem.W.Frag} {T : Tb} {B H : Hp} {m : OM} {v : V} {d : D} (w : Own K T B m H) (r : VRep K B m v d) (h : d.toPy.canLay0 = true) : Dp K H v d.toPy := by
  cases r with
  | st r => exact dp_of d v (r.up w) h
  | @own p o hm =>
    cases o with
    | l xs =>
      obtain ⟨_, vs, h1, h2⟩ := w.at_ _ hm
      exact .lst (SqL.of h1) (dps_of xs vs (h2.mono w.ex) (by simpa only [MO.view, D.toPy, PyData.canLay0] using h))
    | d kd => simp [MO.view, D.toPy, PyData.canLay0] at h
    | t kd => simp [MO.view, D.toPy, PyData.canLay0] at h
def D.shp (d : D) : Bool := SeqAt.shaped d.toPy
def D.eqv (d e : D) : Bool := PyData.eqv d.toPy e.toPy
def D.eq (d e : D) : R D := if d.shp && e.shp then .ok (.bl (d.eqv e)) else .ub
def D.ne (d e : D) : R D := if d.shp && e.shp then .ok (.bl (!d.eqv e)) else .ub

/-! ### value operations -/
def OpD (K : PySem.W.Frag) (T : Tb) (r : R2) (g : D → D → R D) : Prop :=
  ∀ (B : Hp) (m : OM) (H : Hp) (x y : V) (dx dy : D), Own K T B m H → VRep K B m x dx → VRep K B m y dy → ∀ (Q : VK) (Ee : Err → Prop),
    (g dx dy).sat (fun d => ∀ B' v H', Go K T B m H B' m H' → Rep K B' v d → Q v H') Ee → r x y H Q
section
variable {K : PySem.W.Frag} {T : Tb}
theorem opd_eq : OpD K T (rEqD K) D.eq := by
  intro B m H x y dx dy w rx ry Q Ee h
  unfold D.eq at h
  by_cases hs : (dx.shp && dy.shp) = true
  · rw [if_pos hs] at h
    obtain ⟨h1, h2⟩ := Bool.and_eq_true_iff.mp hs
    exact ⟨_, _, rx.dp w (SeqAt.canLay_of_shaped h1), ry.dp w (SeqAt.canLay_of_shaped h2), h1, h2, h B _ H (.refl w) (.bl _)⟩
  · rw [if_neg hs] at h; exact h.elim
theorem opd_ne : OpD K T (rNeD K) D.ne := by
  intro B m H x y dx dy w rx ry Q Ee h
  unfold D.ne at h
  by_cases hs : (dx.shp && dy.shp) = true
  · rw [if_pos hs] at h
    obtain ⟨h1, h2⟩ := Bool.and_eq_true_iff.mp hs
    exact ⟨_, _, rx.dp w (SeqAt.canLay_of_shaped h1), ry.dp w (SeqAt.canLay_of_shaped h2), h1, h2, h B _ H (.refl w) (.bl _)⟩
  · rw [if_neg hs] at h; exact h.elim
end

/-! + on ints, texts, tuples, lists -/
theorem sqRd {K : PySem.W.Frag} {H : Hp} {a : Addr} {xs : List V} (h : Rd H a (.lst xs)) : SqL K H a xs := .inl h
theorem lstRd {X : Cx} {pins : List (Addr × Obj)} {σ : St} {H : Hp} {s : Shared} {a : Addr} {xs : List V} (I : Inv X pins σ H s) (h : Rd H a (.lst xs)) :
    xs.length ≤ sizeLine ∧ ∃ (its : List Value) (n : Nat), Vals xs its ∧ xs.length = its.length ∧ s.heap.get? a = some { cls := .type "list", data := .seq its.toArray n } := by
  obtain ⟨z, its, n, r, e⟩ := h.ok I.hok
  exact ⟨z, its, n, r, r.length, e⟩
def rCatL : R2 := fun x y H Q => ∃ l b xs zs, x = .ref l ∧ y = .ref b ∧ Rd H l (.lst xs) ∧ Rd H b (.lst zs) ∧ xs.length + zs.length ≤ sizeLine ∧ ∀ p, H p = none → Q (.ref p) (upd H p (.lst (xs ++ zs)))
theorem op_catL {X : Cx} : OpR X (binaryOp .Add) rCatL := by
  intro pins s σ H x y v u Q I rx ry h
  obtain ⟨l, b, xs, zs, rfl, rfl, hH, hB, hz, q⟩ := h
  cases rx
  cases ry
  obtain ⟨z, its, n, r, hl, e⟩ := lstRd I hH
  obtain ⟨z2, its2, n2, r2, hl2, e2⟩ := lstRd I hB
  refine PySem.P.add_list e e2 ?_ (by rw [List.size_toArray, List.size_toArray]; omega)
  have ea : its.toArray ++ its2.toArray = (its ++ its2).toArray := by simp
  rw [ea]
  exact ⟨.ref _, _, I.lnew (t' := s.toks) (r.append r2) (by rw [List.length_append]; omega), rfl, q _ I.fresh⟩
theorem cat_tup0 {prog : Program} {w : World} {A : Around} {E : Value → Shared → Prop} {s : Shared} {t b : Addr} {ws : List Value} {Q : Value → Shared → Prop} (ht : IsTup s.heap t ([] : List Value).toArray) (hb : IsTup s.heap b ws.toArray)
    (h1 : Q (.ref b) s) : wpAny (model prog w) A (binaryOp .Add (.ref t) (.ref b)) Q E s := by
  obtain ⟨⟨cls, dd, data, sl⟩, ho, hc, n, hd⟩ := id ht
  obtain ⟨⟨cls2, dd2, data2, sl2⟩, ho2, hc2, n2, hd2⟩ := id hb
  simp only at hc hd hc2 hd2
  subst hc hd hc2 hd2
  exact concat_meets ⟨_, ho, rfl⟩ ⟨_, ho2, rfl⟩ noFill_tuple_add seq_tuple_add PySem.F.slot_tuple_add PySem.F.entry_tuple_add (PySem.F.args_tuple_add_2 _ _)
      (tuple_addW0 t b _ ws.toArray n n2 dd dd2 sl sl2 (by simp)) ⟨ho, ho2, h1⟩

theorem tuple_mulS (l : Addr) (items : Array Value) (n : Nat) (dd : Option Addr) (sl : Array (Option Value)) (x : Int) (u : Tok) (c0 : (decide (x < -(2 ^ 63)) || decide (x ≥ 2 ^ 63)) = false) (c1 : (items.isEmpty || x == 1) = true) :
    Meets (Builtin.«tuple.__mul__» ⟨[.ref l, .int x u], []⟩) (fun _ R s => s.heap.get? l = some { cls := .type "tuple", dict := dd, data := .seq items n, slots := sl } ∧
      R (.ok (.ret (Value.ref l))) s) :=
  .of_wp fun prog w A R s h => by
    obtain ⟨hp, g, d, tk, os⟩ := s
    obtain ⟨hl, h⟩ := h
    have f1 := AutoSeq1.idx_int
    wp_walk using wpAny_loadPart' hl
    repeat (first
      | (refine wpAny_ite_false (decide_eq_false (by rw [c0]; exact Bool.false_ne_true)) ?_; wp_walk using wpAny_loadPart' hl)
      | (refine wpAny_ite_true (decide_eq_true c1) ?_; wp_walk using wpAny_loadPart' hl))
    exact ⟨_, rfl, h⟩
theorem tuple_mulZ (l : Addr) (items : Array Value) (n : Nat) (dd : Option Addr) (sl : Array (Option Value)) (x : Int) (u : Tok) (c0 : (decide (x < -(2 ^ 63)) || decide (x ≥ 2 ^ 63)) = false) (c1 : (items.isEmpty || x == 1) = false) (c2 : (decide (x ≤ 0) || items.isEmpty) = true) :
    Meets (Builtin.«tuple.__mul__» ⟨[.ref l, .int x u], []⟩) (fun _ R s => s.heap.get? l = some { cls := .type "tuple", dict := dd, data := .seq items n, slots := sl } ∧
      R (.ok (.ret (Value.ref s.heap.objs.size))) { s with heap := s.heap.push { cls := Value.type "tuple", data := Data.seq #[] }, toks := s.toks }) :=
  .of_wp fun prog w A R s h => by
    obtain ⟨hp, g, d, tk, os⟩ := s
    obtain ⟨hl, h⟩ := h
    have f1 := AutoSeq1.idx_int
    wp_walk using wpAny_loadPart' hl
    repeat (first
      | (refine wpAny_ite_false (decide_eq_false (by rw [c0]; exact Bool.false_ne_true)) ?_; wp_walk using wpAny_loadPart' hl)
      | (refine wpAny_ite_false (decide_eq_false (by rw [c1]; exact Bool.false_ne_true)) ?_; wp_walk using wpAny_loadPart' hl)
      | (refine wpAny_ite_true (decide_eq_true c2) ?_; wp_walk using wpAny_loadPart' hl)
      | (refine wpAny_ite_false (decide_eq_false (Nat.not_lt.mpr (by show 0 ≤ sizeLine; decide))) ?_; wp_walk using wpAny_loadPart' hl))
    exact ⟨_, rfl, h⟩
/-- tuple * int, all ways -/
def rMulT (K : PySem.W.Frag) : R2 := fun x y H Q => ∃ l k xs, x = .ref l ∧ y = .int k ∧ SqT K H l xs ∧ -(2 ^ 63) ≤ k ∧ k ≤ 1000 ∧ xs.length ≤ 1000 ∧
  ((xs = [] ∨ k = 1) → Q (.ref l) H) ∧ (xs ≠ [] → k ≠ 1 → ∀ p, H p = none → Q (.ref p) (upd H p (.tup (List.replicate k.toNat xs).flatten)))
theorem op_mulT {X : Cx} : OpR X (binaryOp .Mult) (rMulT X.K) := by
  intro pins s σ H x y v u Q I rx ry h
  obtain ⟨l, k, xs, rfl, rfl, hT, h0, h2, hz, q1, q2⟩ := h
  by_cases big : xs ≠ [] ∧ 2 ≤ k
  · exact op_repT pins s σ H _ _ v u Q I rx ry ⟨l, k, xs, rfl, rfl, hT, big.1, big.2, h2, hz, q2 big.1 (by omega)⟩
  cases rx
  obtain ⟨t, rfl⟩ := ry
  obtain ⟨its, r, ⟨⟨cls, dd, data, sl⟩, ho, hc, n, hd⟩, hs⟩ := I.tuple hT
  simp only at hc hd
  subst hc hd
  have hle : its.length = xs.length := r.length.symm
  have c0 : (decide (k < -(2 ^ 63)) || decide (k ≥ 2 ^ 63)) = false := by
    rw [decide_eq_false (by omega), decide_eq_false (by omega)] <;> rfl
  have emp : its.toArray.isEmpty = xs.isEmpty := by
    cases its with
    | nil => cases xs with
      | nil => rfl
      | cons a b => cases hle
    | cons a b => cases xs with
      | nil => cases hle
      | cons a b => rfl
  by_cases sm : xs = [] ∨ k = 1
  · have c1 : (its.toArray.isEmpty || k == 1) = true := by
      rcases sm with e | e
      · rw [emp, e] <;> rfl
      · rw [e, Bool.or_eq_true]
        exact .inr rfl
    refine wpAny_binaryOp_repeat_ref (T := "tuple") (U := "int") (by decide) ⟨_, ho, rfl⟩ (fun s' => typeIs_int s' k t) noFill_tuple_mul F.fills_int_mul F.slot_int_rmul repeat_tuple F.slot_int_index.lookup
      (call_meets F.slot_int_rmul (typeIs_int s k t) F.entry_int_rmul (F.args_int_rmul_2 _ _) (int_rmul_tuple k t l its.toArray n dd sl)
        ⟨ho, rfl, ⟨_, ho, rfl⟩, call_meets F.slot_tuple_mul ⟨_, ho, rfl⟩ F.entry_tuple_mul (F.args_tuple_mul_2 _ _) (tuple_mulS l its.toArray n dd sl k t c0 c1) ⟨ho, ?_⟩⟩)
    exact ⟨.ref l, H, I, rfl, q1 sm⟩
  · have hx : xs ≠ [] := fun z => sm (.inl z)
    have hk1 : k ≠ 1 := fun z => sm (.inr z)
    have hk0 : k ≤ 0 := by
      by_cases hk : 2 ≤ k
      · exact absurd ⟨hx, hk⟩ big
      · omega
    have hi : its.toArray.isEmpty = false := by
      rw [emp]
      cases xs with
      | nil => exact absurd rfl hx
      | cons a b => rfl
    have c1 : (its.toArray.isEmpty || k == 1) = false := by
      rw [hi, Bool.false_or]
      exact beq_eq_false_iff_ne.mpr hk1
    have c2 : (decide (k ≤ 0) || its.toArray.isEmpty) = true := by
      rw [decide_eq_true hk0] <;> rfl
    refine wpAny_binaryOp_repeat_ref (T := "tuple") (U := "int") (by decide) ⟨_, ho, rfl⟩ (fun s' => typeIs_int s' k t) noFill_tuple_mul F.fills_int_mul F.slot_int_rmul repeat_tuple F.slot_int_index.lookup
      (call_meets F.slot_int_rmul (typeIs_int s k t) F.entry_int_rmul (F.args_int_rmul_2 _ _) (int_rmul_tuple k t l its.toArray n dd sl)
        ⟨ho, rfl, ⟨_, ho, rfl⟩, call_meets F.slot_tuple_mul ⟨_, ho, rfl⟩ F.entry_tuple_mul (F.args_tuple_mul_2 _ _) (tuple_mulZ l its.toArray n dd sl k t c0 c1 c2) ⟨ho, ?_⟩⟩)
    have ek : k.toNat = 0 := by omega
    have q3 := q2 hx hk1 _ (I.hok.fresh (Nat.le_refl _))
    rw [ek] at q3
    refine ⟨.ref s.heap.objs.size, _, I.laid (t' := s.toks) (o := .tup []) (fun b ob q => Heap.get?_push_of_some _ q) (Nat.le_refl _) ?_, rfl, q3⟩
    exact ⟨Nat.zero_le _, [], .nil, IsTup.new _ _⟩
/-- list * int -/
def rMulL : R2 := fun x y H Q => ∃ l k xs, x = .ref l ∧ y = .int k ∧ Rd H l (.lst xs) ∧ -(2 ^ 63) ≤ k ∧ k < 2 ^ 63 ∧ xs.length * k.toNat ≤ sizeLine ∧
  ∀ p, H p = none → Q (.ref p) (upd H p (.lst (List.replicate k.toNat xs).flatten))
theorem op_mulL {X : Cx} : OpR X (binaryOp .Mult) rMulL := by
  intro pins s σ H x y v u Q I rx ry h
  obtain ⟨l, k, xs, rfl, rfl, hH, h1, h2, hz, q⟩ := h
  cases rx
  obtain ⟨t, rfl⟩ := ry
  obtain ⟨z, its, n, r, hl, e⟩ := lstRd I hH
  have hlen : its.toArray.size * k.toNat ≤ sizeLine := by rw [List.size_toArray, ← hl]; exact hz
  have hcap : ¬ its.toArray.size * k.toNat > (2 ^ 63 - 1) / 8 := by
    have : (sizeLine : Nat) ≤ (2 ^ 63 - 1) / 8 := by decide
    omega
  have hfit : ¬ (!Builtin.List.listFitsIndex k) = true := by
    rw [fitsIndex_both h1 h2]
    exact Bool.false_ne_true
  have hlong : ¬ Builtin.List.listTooLong (its.toArray.size * k.toNat) = true := by
    rw [notLongL hlen]
    exact Bool.false_ne_true
  have hnew : List.foldl (fun x1 x2 => x1 ++ x2) #[] (List.replicate (if its.toArray.isEmpty = true then 0 else k.toNat) its.toArray) = (List.replicate k.toNat its).flatten.toArray := by
    have f0 : ∀ m : Nat, List.foldl (fun x1 x2 => x1 ++ x2) #[] (List.replicate m its.toArray) = (List.replicate m its).flatten.toArray := fun m => by
      have := foldl_rep its m []
      rw [List.nil_append] at this
      exact this
    rw [f0]
    cases its with
    | nil => simp
    | cons a r' => rw [if_neg (by simp)]
  refine wpAny_binaryOp_repeat_ref (T := "list") (U := "int") (by decide) ⟨_, e, rfl⟩ (fun s' => typeIs_int s' k t) noFill_list_mul F.fills_int_mul F.slot_int_rmul repeat_list F.slot_int_index.lookup
    (call_meets F.slot_int_rmul (typeIs_int s k t) F.entry_int_rmul (F.args_int_rmul_2 _ _) (int___rmul___int_list k t l its.toArray n)
      ⟨e, rfl, ⟨_, e, rfl⟩, call_meets F.slot_list_mul ⟨_, e, rfl⟩ F.entry_list_mul (F.args_list_mul_2 _ _) (AutoListH.list___mul___list_int_3 l its.toArray n k t hfit hcap hlong) ⟨e, ?_⟩⟩)
  rw [hnew]
  exact ⟨.ref _, _, I.lnew (t' := s.toks) (r.rep k.toNat) (by rw [PyProof.Rows.lm_len_rep_flat, Nat.mul_comm]; exact hz), rfl, q _ I.fresh⟩
/-- tuple + tuple, the left one empty -/
def rCatT0 (K : PySem.W.Frag) : R2 := fun x y H Q => ∃ a b ys, x = .ref a ∧ y = .ref b ∧ SqT K H a [] ∧ SqT K H b ys ∧ Q (.ref b) H
theorem op_catT0 {X : Cx} : OpR X (binaryOp .Add) (rCatT0 X.K) := by
  intro pins s σ H x y v u Q I rx ry h
  obtain ⟨a, b, ys, rfl, rfl, ha, hb, q⟩ := h
  cases rx
  cases ry
  obtain ⟨its, r1, p1, _⟩ := I.tuple ha
  obtain ⟨its2, r2, p2, _⟩ := I.tuple hb
  cases r1
  exact cat_tup0 p1 p2 ⟨.ref b, H, I, rfl, q⟩

/-! ### new objects of the ground -/
section
variable {K : PySem.W.Frag} {T : Tb} {B H : Hp} {m : OM}
theorem fin_tup (w : Own K T B m H) {vs : List V} {ds : List D} (r : RepL K B vs ds) {Q : VK} (hQ : ∀ B' v H', Go K T B m H B' m H' → Rep K B' v (.tup ds) → Q v H') :
    ∀ p, H p = none → Q (.ref p) (upd H p (.tup vs)) := fun p hp =>
  hQ _ _ _ (Go.lay w hp fun _ z => nomatch z) (.tup upd_same (r.mono (Go.lay (o := .tup vs) w hp fun _ z => nomatch z).ex))
theorem fin_lst (w : Own K T B m H) {vs : List V} {ds : List D} (r : RepL K B vs ds) {Q : VK} (hQ : ∀ B' v H', Go K T B m H B' m H' → Rep K B' v (.lst ds) → Q v H') :
    ∀ p, H p = none → Q (.ref p) (upd H p (.lst vs)) := fun p hp =>
  hQ _ _ _ (Go.lay w hp fun _ z => nomatch z) (.lst (Rd.of upd_same) (r.mono (Go.lay (o := .lst vs) w hp fun _ z => nomatch z).ex))
theorem fin_new (w : Own K T B m H) {vs : List V} {ds : List D} (r : RepL K B vs ds) {Q : VK}
    (hQ : ∀ B' p vs H', Go K T B m H B' m H' → B' p = none → Fre H p → p ∉ m.map (·.1) → H' p = some (.lst vs) → RepL K B' vs ds → Q (.ref p) H') :
    ∀ p, H p = none → Q (.ref p) (upd H p (.lst vs)) := fun p hp =>
  have hB : B p = none := by
    cases q : B p with
    | none => rfl
    | some u => rw [w.ex p u q] at hp; cases hp
  hQ _ _ _ _ (Go.new w hp) hB (.of hp) (w.notIn (.of hp)) upd_same r
theorem tup_st {vs : List V} {ds : List D} {a : Addr} (w : Own K T B m H) (h : VRep K B m (.ref a) (.tup ds)) : Rep K B (.ref a) (.tup ds) := by
  generalize e : D.tup ds = d at h ⊢
  generalize e2 : V.ref a = v at h ⊢
  cases h with
  | st h => exact h
  | @own p o hm => cases o <;> cases e
end

/-! ### arithmetic -/
def D.add : D → D → R D
  | .int i, .int j => .ok (.int (i + j))
  | .str x, .str y => if x.length + y.length ≤ sizeLine then .ok (.str (x ++ y)) else .ub
  | .tup xs, .tup ys => if xs.length + ys.length ≤ sizeLine then .ok (.tup (xs ++ ys)) else .ub
  | .lst xs, .lst ys => if xs.length + ys.length ≤ sizeLine then .ok (.lst (xs ++ ys)) else .ub
  | _, _ => .ub
def D.sub : D → D → R D
  | .int i, .int j => .ok (.int (i - j))
  | _, _ => .ub
noncomputable def D.mul : D → D → R D
  | .int i, .int j => @ite _ ((-(2 ^ 64) < i ∧ i < 2 ^ 64) ∨ (-(2 ^ 64) < j ∧ j < 2 ^ 64)) (Classical.propDecidable _) (.ok (.int (i * j))) .ub
  | .tup xs, .int k => @ite _ (-(2 ^ 63) ≤ k ∧ k ≤ 1000 ∧ xs.length ≤ 1000) (Classical.propDecidable _) (.ok (.tup (List.replicate k.toNat xs).flatten)) .ub
  | .lst xs, .int k => @ite _ (-(2 ^ 63) ≤ k ∧ k < 2 ^ 63 ∧ xs.length * k.toNat ≤ sizeLine) (Classical.propDecidable _) (.ok (.lst (List.replicate k.toNat xs).flatten)) .ub
  | _, _ => .ub
noncomputable def D.fdiv : D → D → R D
  | .int i, .int j => @ite _ ((j ≠ 0 ∧ j.natAbs < 1073741824) ∨ CDivW i j) (Classical.propDecidable _) (.ok (.int (i.fdiv j))) .ub
  | _, _ => .ub
def D.mod : D → D → R D
  | .int i, .int j => if j ≠ 0 then .ok (.int (i.fmod j)) else .ub
  | _, _ => .ub
noncomputable def D.pow : D → D → R D
  | .int i, .int j => @ite _ (0 ≤ j ∧ j ≤ 1000000 ∧ i.natAbs < 2 ^ 64) (Classical.propDecidable _) (.ok (.int (i ^ j.toNat))) .ub
  | _, _ => .ub
def rAddD (K : PySem.W.Frag) : R2 := fun x y H Q => rI0 (fun i j => .int (i + j)) x y H Q ∨ (∃ i j, x = .str i ∧ y = .str j ∧ i.length + j.length ≤ sizeLine ∧ Q (.str (i ++ j)) H) ∨ rCatT K x y H Q ∨ rCatT0 K x y H Q ∨ rCatL x y H Q
def rMulD (K : PySem.W.Frag) : R2 := fun x y H Q => rI CMul (fun i j => .int (i * j)) x y H Q ∨ rMulT K x y H Q ∨ rMulL x y H Q
theorem op_addD {X : Cx} : OpR X (binaryOp .Add) (rAddD X.K) := op_add.or (op_add_str.or (op_catT.or (op_catT0.or op_catL)))
theorem op_mulD {X : Cx} : OpR X (binaryOp .Mult) (rMulD X.K) := op_mul.or (op_mulT.or op_mulL)
section
variable {K : PySem.W.Frag} {T : Tb}
theorem opd_add : OpD K T (rAddD K) D.add := by
  intro B m H x y dx dy w rx ry Q Ee h
  unfold D.add at h
  split at h
  · exact .inl ⟨_, _, rx.iint, ry.iint, h B _ H (.refl w) (.int _)⟩
  · split at h
    · rename_i hz
      exact .inr (.inl ⟨_, _, rx.istr, ry.istr, hz, h B _ H (.refl w) (.str _)⟩)
    · exact h.elim
  · rename_i xs ys
    split at h
    · rename_i hz
      have rx' := rx
      have ry' := ry
      obtain ⟨a, vs, rfl, h1, h2⟩ := rx.itup w
      obtain ⟨b, us, rfl, h3, h4⟩ := ry.itup w
      have l1 := h2.length
      have l2 := h4.length
      cases vs with
      | nil =>
        cases h2
        refine .inr (.inr (.inr (.inl ⟨a, b, us, rfl, rfl, h1, h3, ?_⟩)))
        exact h B _ H (.refl w) (tup_st (vs := us) w ry')
      | cons v0 vr =>
        refine .inr (.inr (.inl ⟨a, b, v0 :: vr, us, rfl, rfl, h1, h3, List.cons_ne_nil _ _, by omega, fun e => ?_, fun _ => ?_⟩))
        · subst e
          cases h4
          rw [List.append_nil] at h
          exact h B _ H (.refl w) (tup_st (vs := v0 :: vr) w rx')
        · exact fin_tup w (h2.append h4) h
    · exact h.elim
  · split at h
    · rename_i hz
      obtain ⟨a, vs, rfl, h1, h2⟩ := rx.ilst w
      obtain ⟨b, us, rfl, h3, h4⟩ := ry.ilst w
      have l1 := h2.length
      have l2 := h4.length
      exact .inr (.inr (.inr (.inr ⟨a, b, vs, us, rfl, rfl, h1, h3, by omega, fin_lst w (h2.append h4) h⟩)))
    · exact h.elim
  · exact h.elim
theorem opd_sub : OpD K T (rI0 fun i j => .int (i - j)) D.sub := by
  intro B m H x y dx dy w rx ry Q Ee h
  unfold D.sub at h
  split at h
  · exact ⟨_, _, rx.iint, ry.iint, h B _ H (.refl w) (.int _)⟩
  · exact h.elim
theorem opd_mul : OpD K T (rMulD K) D.mul := by
  intro B m H x y dx dy w rx ry Q Ee h
  unfold D.mul at h
  split at h
  · split at h
    · rename_i hz
      exact .inl ⟨_, _, rx.iint, ry.iint, hz, h B _ H (.refl w) (.int _)⟩
    · exact h.elim
  · split at h
    · rename_i hz
      have rx' := rx
      obtain ⟨a, vs, rfl, h1, h2⟩ := rx.itup w
      have l1 := h2.length
      refine .inr (.inl ⟨a, _, vs, rfl, ry.iint, h1, hz.1, hz.2.1, by omega, fun e => ?_, fun _ _ => fin_tup w (h2.rep _) h⟩)
      rcases e with e | e
      · subst e
        cases h2
        refine h B _ H (.refl w) ?_
        have e2 : ∀ n : Nat, (List.replicate n ([] : List D)).flatten = [] := fun n => by simp
        rw [e2]
        exact tup_st (vs := []) w rx'
      · rw [e] at h
        have e2 : ∀ l : List D, (List.replicate (Int.toNat 1) l).flatten = l := fun l => by simp
        rw [e2] at h
        exact h B _ H (.refl w) (tup_st (vs := vs) w rx')
    · exact h.elim
  · split at h
    · rename_i hz
      obtain ⟨a, vs, rfl, h1, h2⟩ := rx.ilst w
      have l1 := h2.length
      exact .inr (.inr ⟨a, _, vs, rfl, ry.iint, h1, hz.1, hz.2.1, by rw [l1]; exact hz.2.2, fin_lst w (h2.rep _) h⟩)
    · exact h.elim
  · exact h.elim
def rFdivA : R2 := fun x y H Q => rI CDivN (fun i j => .int (i.fdiv j)) x y H Q ∨ rI CDivW (fun i j => .int (i / j)) x y H Q
theorem op_fdivA {X : Cx} : OpR X (binaryOp .FloorDiv) rFdivA := op_fdivN.or op_fdivW
theorem opd_fdiv : OpD K T rFdivA D.fdiv := by
  intro B m H x y dx dy w rx ry Q Ee h
  unfold D.fdiv at h
  split at h
  · split at h
    · rename_i i j hz
      rcases hz with hz | hz
      · exact .inl ⟨_, _, rx.iint, ry.iint, hz, h B _ H (.refl w) (.int _)⟩
      · refine .inr ⟨_, _, rx.iint, ry.iint, hz, ?_⟩
        have e : i.fdiv j = i / j := Int.fdiv_eq_ediv_of_nonneg _ (Int.le_of_lt hz.1)
        show Q (.int (i / j)) H
        rw [← e]
        exact h B _ H (.refl w) (.int _)
    · exact h.elim
  · exact h.elim
theorem opd_mod : OpD K T (rI (fun _ j => j ≠ 0) fun i j => .int (i.fmod j)) D.mod := by
  intro B m H x y dx dy w rx ry Q Ee h
  unfold D.mod at h
  split at h
  · split at h
    · rename_i hz
      exact ⟨_, _, rx.iint, ry.iint, hz, h B _ H (.refl w) (.int _)⟩
    · exact h.elim
  · exact h.elim
theorem opd_pow : OpD K T (rI CPow fun i j => .int (i ^ j.toNat)) D.pow := by
  intro B m H x y dx dy w rx ry Q Ee h
  unfold D.pow at h
  split at h
  · split at h
    · rename_i hz
      exact ⟨_, _, rx.iint, ry.iint, hz, h B _ H (.refl w) (.int _)⟩
    · exact h.elim
  · exact h.elim
end
end DL
namespace DL
open PySem PySem.Spec PyProof.Rows L2
open Evl (Ex ex_l ex_t ex_rd)

/-! ### order -/
def asInts : List D → Option (List Int)
  | [] => some []
  | .int i :: r => (asInts r).map (i :: ·)
  | _ :: _ => none
theorem asInts_eq : ∀ {xs : List D} {ns : List Int}, asInts xs = some ns → xs = ns.map D.int
  | [], ns, h => by cases h; rfl
  | .int i :: r, ns, h => by
    unfold asInts at h
    cases e : asInts r with
    | none => rw [e] at h; cases h
    | some ms => rw [e] at h; cases h; rw [asInts_eq e]; rfl
  | .non :: _, _, h => by cases h
  | .bl _ :: _, _, h => by cases h
  | .str _ :: _, _, h => by cases h
  | .ref _ :: _, _, h => by cases h
  | .tup _ :: _, _, h => by cases h
  | .lst _ :: _, _, h => by cases h
  | .dct _ :: _, _, h => by cases h
  | .dtt _ :: _, _, h => by cases h
  | .clo _ _ :: _, _, h => by cases h
@[simp] theorem asInts_map : ∀ ns : List Int, asInts (ns.map D.int) = some ns
  | [] => rfl
  | n :: ns => by
    rw [List.map_cons]
    unfold asInts
    rw [asInts_map ns]; rfl
def D.lt : D → D → R D
  | .int i, .int j => .ok (.bl (decide (i < j)))
  | .str x, .str y => .ok (.bl (decide (x.cps.toList < y.cps.toList)))
  | .tup xs, .tup ys => match asInts xs, asInts ys with
    | some ns, some ms => .ok (.bl (HT.lexLt ns ms))
    | _, _ => .ub
  | _, _ => .ub
def D.le : D → D → R D
  | .int i, .int j => .ok (.bl (decide (i ≤ j)))
  | _, _ => .ub
def D.gt : D → D → R D
  | .int i, .int j => .ok (.bl (decide (j < i)))
  | _, _ => .ub
def D.ge : D → D → R D
  | .int i, .int j => .ok (.bl (decide (j ≤ i)))
  | _, _ => .ub
def rLtS : R2 := fun x y H Q => ∃ i j, x = .str i ∧ y = .str j ∧ Q (.bl (decide (i.cps.toList < j.cps.toList))) H
def rLtD (K : PySem.W.Frag) : R2 := fun x y H Q => rI0 (fun i j => .bl (decide (i < j))) x y H Q ∨ rLtS x y H Q ∨ rLtT K x y H Q
theorem op_ltD {X : Cx} (hu : X.A.units < cLine) : OpR X (compareOp .Lt) (rLtD X.K) := op_lt.or (OpR.or (r := rLtS) op_lt_str (op_ltT hu))
section
variable {K : PySem.W.Frag} {T : Tb}
theorem opd_lt : OpD K T (rLtD K) D.lt := by
  intro B m H x y dx dy w rx ry Q Ee h
  unfold D.lt at h
  split at h
  · exact .inl ⟨_, _, rx.iint, ry.iint, h B _ H (.refl w) (.bl _)⟩
  · exact .inr (.inl ⟨_, _, rx.istr, ry.istr, h B _ H (.refl w) (.bl _)⟩)
  · split at h
    · rename_i ns ms e1 e2
      cases asInts_eq e1
      cases asInts_eq e2
      obtain ⟨a, vs, rfl, h1, h2⟩ := rx.itup w
      obtain ⟨b, us, rfl, h3, h4⟩ := ry.itup w
      cases h2.ints
      cases h4.ints
      exact .inr (.inr ⟨a, b, _, _, rfl, rfl, h1, h3, h B _ H (.refl w) (.bl _)⟩)
    · exact h.elim
  · exact h.elim
theorem opd_le : OpD K T (rI0 fun i j => .bl (decide (i ≤ j))) D.le := by
  intro B m H x y dx dy w rx ry Q Ee h
  unfold D.le at h
  split at h
  · exact ⟨_, _, rx.iint, ry.iint, h B _ H (.refl w) (.bl _)⟩
  · exact h.elim
theorem opd_gt : OpD K T (rI0 fun i j => .bl (decide (j < i))) D.gt := by
  intro B m H x y dx dy w rx ry Q Ee h
  unfold D.gt at h
  split at h
  · exact ⟨_, _, rx.iint, ry.iint, h B _ H (.refl w) (.bl _)⟩
  · exact h.elim
theorem opd_ge : OpD K T (rI0 fun i j => .bl (decide (j ≤ i))) D.ge := by
  intro B m H x y dx dy w rx ry Q Ee h
  unfold D.ge at h
  split at h
  · exact ⟨_, _, rx.iint, ry.iint, h B _ H (.refl w) (.bl _)⟩
  · exact h.elim
end

/-! ### is None -/
def D.isNon : D → Bool
  | .non => true
  | _ => false
def D.isN : D → D → R D
  | d, .non => .ok (.bl d.isNon)
  | _, _ => .ub
def D.notN : D → D → R D
  | d, .non => .ok (.bl (!d.isNon))
  | _, _ => .ub
section
variable {K : PySem.W.Frag} {T : Tb} {B : Hp} {m : OM}
theorem VRep.isNon {v : V} {d : D} (r : VRep K B m v d) : decide (v = .non) = d.isNon := by
  cases r with
  | st r => cases r <;> first | rfl | exact decide_eq_false (fun z => nomatch z)
  | @own p o hm => cases o <;> exact decide_eq_false (fun z => nomatch z)
theorem opd_isN : OpD K T (fun x y H Q => y = .non ∧ Q (.bl (decide (x = .non))) H) D.isN := by
  intro B m H x y dx dy w rx ry Q Ee h
  unfold D.isN at h
  split at h
  · refine ⟨ry.inon, ?_⟩
    rw [rx.isNon]
    exact h B _ H (.refl w) (.bl _)
  · exact h.elim
theorem opd_notN : OpD K T (fun x y H Q => y = .non ∧ Q (.bl (!decide (x = .non))) H) D.notN := by
  intro B m H x y dx dy w rx ry Q Ee h
  unfold D.notN at h
  split at h
  · refine ⟨ry.inon, ?_⟩
    rw [rx.isNon]
    exact h B _ H (.refl w) (.bl _)
  · exact h.elim
end

/-! ### in, not in -/
def D.inSq (d : D) (xs : List D) : Bool := xs.any fun z => z.eqv d
def D.sqShp (xs : List D) : Bool := SeqAt.shaped (.list (D.toPyL xs))
def D.isIn : D → D → R D
  | d, .tup xs => if d.shp && D.sqShp xs then .ok (.bl (d.inSq xs)) else .ub
  | d, .lst xs => if d.shp && D.sqShp xs then .ok (.bl (d.inSq xs)) else .ub
  | .str x, .str y => if x.length = 1 then .ok (.bl (decide (x.cps.getD 0 0 ∈ y.cps.toList))) else .ub
  | _, _ => .ub
def D.notIn (d e : D) : R D := (D.isIn d e).bind fun r => match r with
  | .bl b => .ok (.bl (!b))
  | _ => .ub
def rInT (K : PySem.W.Frag) (neg : Bool) : R2 := fun x y H Q => ∃ d ds, Dp K H x d ∧ (Dp K H y (.list ds) ∨ Dp K H y (.tuple ds)) ∧ SeqAt.shaped d = true ∧ SeqAt.shaped (.list ds) = true ∧ Q (.bl (if neg then !(ds.any fun z => PyData.eqv z d) else ds.any fun z => PyData.eqv z d)) H
def rInS1 (neg : Bool) : R2 := fun x y H Q => ∃ c z, x = .str ⟨#[c]⟩ ∧ y = .str z ∧ Q (.bl (if neg then !decide (c ∈ z.cps.toList) else decide (c ∈ z.cps.toList))) H
theorem op_inT {X : Cx} (hu : X.A.units + 65 < cLine) : OpR X (compareOp .In) (rInT X.K false) := by
  intro pins s σ H x y v u Q I rx ry h
  obtain ⟨d, ds, hd, he, sd, se, q⟩ := h
  obtain ⟨as, r1⟩ := Dp.reads I d x v hd rx
  rcases he with he | he
  · obtain ⟨bs, r2⟩ := Dp.reads I (.list ds) y u he ry
    exact SeqAt.in_list_reads r2 r1 (SeqAt.canLay_of_shaped se) (SeqAt.canLay_of_shaped sd) (room_in_shaped sd hu) ⟨.bl _, H, I, rfl, q⟩
  · obtain ⟨bs, r2⟩ := Dp.reads I (.tuple ds) y u he ry
    exact SeqAt.in_tuple_reads r2 r1 (SeqAt.canLay_of_shaped se) (SeqAt.canLay_of_shaped sd) (room_in_shaped sd hu) ⟨.bl _, H, I, rfl, q⟩
theorem op_notInT {X : Cx} (hu : X.A.units + 65 < cLine) : OpR X (compareOp .NotIn) (rInT X.K true) := by
  intro pins s σ H x y v u Q I rx ry h
  obtain ⟨d, ds, hd, he, sd, se, q⟩ := h
  obtain ⟨as, r1⟩ := Dp.reads I d x v hd rx
  rcases he with he | he
  · obtain ⟨bs, r2⟩ := Dp.reads I (.list ds) y u he ry
    exact SeqAt.notIn_list_reads r2 r1 (SeqAt.canLay_of_shaped se) (SeqAt.canLay_of_shaped sd) (room_in_shaped sd hu) ⟨.bl _, H, I, rfl, q⟩
  · obtain ⟨bs, r2⟩ := Dp.reads I (.tuple ds) y u he ry
    exact SeqAt.notIn_tuple_reads r2 r1 (SeqAt.canLay_of_shaped se) (SeqAt.canLay_of_shaped sd) (room_in_shaped sd hu) ⟨.bl _, H, I, rfl, q⟩
def rInD2 (K : PySem.W.Frag) (neg : Bool) : R2 := fun x y H Q => rInT K neg x y H Q ∨ rInS1 neg x y H Q
theorem op_inA {X : Cx} (hu : X.A.units + 65 < cLine) : OpR X (compareOp .In) (rInD2 X.K false) := (op_inT hu).or (r' := rInS1 false) op_in_sign
theorem op_notInA {X : Cx} (hu : X.A.units + 65 < cLine) : OpR X (compareOp .NotIn) (rInD2 X.K true) := (op_notInT hu).or (r' := rInS1 true) op_notIn_sign
theorem toPyL_any (d : D) : ∀ xs : List D, ((D.toPyL xs).any fun z => PyData.eqv z d.toPy) = d.inSq xs
  | [] => rfl
  | x :: xs => by
    unfold D.inSq
    rw [D.toPyL, List.any_cons, List.any_cons, toPyL_any d xs]
    rfl
theorem str1 {x : Str} (h : x.length = 1) : x = ⟨#[x.cps.getD 0 0]⟩ := by
  obtain ⟨⟨l⟩⟩ := x
  match l, h with
  | [c], _ => rfl
section
variable {K : PySem.W.Frag} {T : Tb}
theorem in_core {B : Hp} {m : OM} {H : Hp} {x y : V} {d : D} {xs : List D} {neg : Bool} {Q : VK} (w : Own K T B m H) (rx : VRep K B m x d) (ry : VRep K B m y (.tup xs) ∨ VRep K B m y (.lst xs)) (hs : (d.shp && D.sqShp xs) = true)
    (q : Q (.bl (if neg then !d.inSq xs else d.inSq xs)) H) : rInT K neg x y H Q := by
  obtain ⟨h1, h2⟩ := Bool.and_eq_true_iff.mp hs
  refine ⟨d.toPy, D.toPyL xs, rx.dp w (SeqAt.canLay_of_shaped h1), ?_, h1, h2, by rw [toPyL_any]; exact q⟩
  have hc : PyData.canLayAll0 (D.toPyL xs) = true := by
    have := SeqAt.canLay_of_shaped h2
    simpa only [PyData.canLay0] using this
  rcases ry with r | r
  · exact .inr (r.dp (d := .tup xs) w (by simpa only [D.toPy, PyData.canLay0] using hc))
  · exact .inl (r.dp (d := .lst xs) w (by simpa only [D.toPy, PyData.canLay0] using hc))
theorem opd_in : OpD K T (rInD2 K false) D.isIn := by
  intro B m H x y dx dy w rx ry Q Ee h
  unfold D.isIn at h
  split at h
  · split at h
    · rename_i hs
      exact .inl (in_core w rx (.inl ry) hs (h B _ H (.refl w) (.bl _)))
    · exact h.elim
  · split at h
    · rename_i hs
      exact .inl (in_core w rx (.inr ry) hs (h B _ H (.refl w) (.bl _)))
    · exact h.elim
  · split at h
    · rename_i hs
      exact .inr ⟨_, _, rx.istr.trans (by rw [← str1 hs]), ry.istr, h B _ H (.refl w) (.bl _)⟩
    · exact h.elim
  · exact h.elim
theorem opd_notIn : OpD K T (rInD2 K true) D.notIn := by
  intro B m H x y dx dy w rx ry Q Ee h
  unfold D.notIn D.isIn at h
  split at h
  · split at h
    · rename_i hs
      exact .inl (in_core w rx (.inl ry) hs (h B _ H (.refl w) (.bl _)))
    · exact h.elim
  · split at h
    · rename_i hs
      exact .inl (in_core w rx (.inr ry) hs (h B _ H (.refl w) (.bl _)))
    · exact h.elim
  · split at h
    · rename_i hs
      exact .inr ⟨_, _, rx.istr.trans (by rw [← str1 hs]), ry.istr, h B _ H (.refl w) (.bl _)⟩
    · exact h.elim
  · exact h.elim
end

/-! ### subscripts -/
def D.ix : D → D → R D
  | .tup xs, .int i => match atI xs i with
    | some d => .ok d
    | none => .ub
  | .lst xs, .int i => match atI xs i with
    | some d => .ok d
    | none => .ub
  | .str x, .int i => if x.length ≤ sizeLine then (match atI x.cps.toList i with
    | some c => .ok (.str ⟨#[c]⟩)
    | none => .ub) else .ub
  | _, _ => .ub
theorem RepL.atI {K : PySem.W.Frag} {B : Hp} {vs : List V} {ds : List D} {i : Int} {d : D} (r : RepL K B vs ds) (h : L2.atI ds i = some d) : ∃ v, L2.atI vs i = some v ∧ Rep K B v d := by
  unfold L2.atI at h ⊢
  rw [r.length]
  cases e : ixN ds.length i with
  | none => rw [e] at h; cases h
  | some j =>
    rw [e] at h
    exact r.get h
section
variable {K : PySem.W.Frag} {T : Tb}
theorem opd_ix : OpD K T (rIx K) D.ix := by
  intro B m H x y dx dy w rx ry Q Ee h
  unfold D.ix at h
  split at h
  · split at h
    · rename_i d e
      obtain ⟨a, vs, rfl, h1, h2⟩ := rx.itup w
      obtain ⟨v, h3, h4⟩ := h2.atI e
      exact .inr (.inl ⟨a, vs, _, v, rfl, ry.iint, h1, h3, h B _ H (.refl w) h4⟩)
    · exact h.elim
  · split at h
    · rename_i d e
      obtain ⟨a, vs, rfl, h1, h2⟩ := rx.ilst w
      obtain ⟨v, h3, h4⟩ := h2.atI e
      exact .inl ⟨a, vs, _, v, rfl, ry.iint, .inl h1, h3, h B _ H (.refl w) h4⟩
    · exact h.elim
  · split at h
    · rename_i hz
      split at h
      · rename_i c e
        exact .inr (.inr ⟨_, _, c, rx.istr, ry.iint, hz, e, h B _ H (.refl w) (.str _)⟩)
      · exact h.elim
    · exact h.elim
  · exact h.elim
end
end DL
namespace DL
open PySem PySem.Spec PyProof.Rows L2
open Evl (Ex ex_l ex_t ex_rd)

def D.asB : D → R Bool
  | .bl b => .ok b
  | _ => .ub
section
variable (T : Tb) (X : Cx)
/-- a value that is read at once: also an owned cell's content -/
def EVw (ds : DS) (m : OM) (e : Expr) (r : R D) : Prop :=
  ∀ (W : WX), Takes X W → ∀ (B : Hp) (σ : St) (H : Hp), Sl X.K B σ ds → Own X.K T B m H → ∀ Q : VK,
    r.sat (fun d => ∀ B' v H', Go X.K T B m H B' m H' → VRep X.K B' m v d → Q v H') (EK T X W B m σ H m) → wpE X e σ H Q
/-- a test, cells as they were -/
def ETp (ds : DS) (m : OM) (e : Expr) (r : R Bool) : Prop :=
  ∀ (W : WX), Takes X W → ∀ (B : Hp) (σ : St) (H : Hp), Sl X.K B σ ds → Own X.K T B m H → ∀ Q : Bool → Hp → Prop,
    r.sat (fun b => ∀ B' H', Go X.K T B m H B' m H' → Q b H') (EK T X W B m σ H m) → wpT X e σ H Q
/-- arguments, cells as they were -/
def EAp (ds : DS) (m : OM) (es : List Expr) (r : R (List D)) : Prop :=
  ∀ (W : WX), Takes X W → ∀ (B : Hp) (σ : St) (H : Hp), Sl X.K B σ ds → Own X.K T B m H → ∀ Q : List V → Hp → Prop,
    r.sat (fun xs => ∀ B' vs H', Go X.K T B m H B' m H' → RepL X.K B' vs xs → Q vs H') (EK T X W B m σ H m) → wpA X es σ H Q
/-- a new list, cells as they were -/
def ELp (ds : DS) (m : OM) (e : Expr) (r : R (List D)) : Prop :=
  ∀ (W : WX), Takes X W → ∀ (B : Hp) (σ : St) (H : Hp), Sl X.K B σ ds → Own X.K T B m H → ∀ Q : VK,
    r.sat (fun xs => ∀ B' p vs H', Go X.K T B m H B' m H' → B' p = none → Fre H p → p ∉ m.map (·.1) → H' p = some (.lst vs) → RepL X.K B' vs xs → Q (.ref p) H') (EK T X W B m σ H m) → wpE X e σ H Q
/-- with effects: the cells are M t -/
abbrev EXt {τ : Type} (ds : DS) (M : τ → OM) (t : τ) (e : Expr) (r : R (D × τ)) : Prop := EX T X ds (M t) e (r.map fun p => (p.1, M p.2))
abbrev ETt {τ : Type} (ds : DS) (M : τ → OM) (t : τ) (e : Expr) (r : R (Bool × τ)) : Prop := ET T X ds (M t) e (r.map fun p => (p.1, M p.2))
abbrev EAt {τ : Type} (ds : DS) (M : τ → OM) (t : τ) (es : List Expr) (r : R (List D × τ)) : Prop := EA T X ds (M t) es (r.map fun p => (p.1, M p.2))
abbrev ELt {τ : Type} (ds : DS) (M : τ → OM) (t : τ) (e : Expr) (r : R (List D × τ)) : Prop := EL T X ds (M t) e (r.map fun p => (p.1, M p.2))
end
section
variable {T : Tb} {X : Cx} {ds : DS} {m m' m1 : OM} {W : WX} {B B1 H H1 : Hp} {σ : St}
theorem EK.go {er : Err} (g : Go X.K T B m H B1 m1 H1) (h : EK T X W B m σ H m' er) : EK T X W B1 m1 σ H1 m' er := fun B' H' cls dd g' => h B' H' cls dd (g.trans g')
theorem EK.lost {er : Err} (h : EK T X W B m σ H [] er) : EK T X W B m σ H m' er := fun B' H' cls dd g' => h B' H' cls dd (g'.sub (List.nil_sublist _))
theorem R.sat_map' {α β : Type} {r : R α} {f : α → β} {P : β → Prop} {Q : Err → Prop} (h : r.sat (fun a => P (f a)) Q) : (r.map f).sat P Q := by
  cases r <;> exact h
theorem R.sat_bind' {α β : Type} {r : R α} {f : α → R β} {P : β → Prop} {Q : Err → Prop} (h : r.sat (fun a => (f a).sat P Q) Q) : (r.bind f).sat P Q := by
  cases r <;> exact h

/-! ### passages -/
variable {e : Expr} {r : R D}
theorem EV.w (h : EV T X ds m e r) : EVw T X ds m e r := fun W tk B σ H hs w Q q =>
  h W tk B σ H hs w Q (R.sat_mono q (fun d hd B' v H' g rv => hd B' v H' g (.st rv)) fun _ z => z)
theorem EV.x {τ : Type} {M : τ → OM} {t : τ} (h : EV T X ds (M t) e r) : EXt T X ds M t e (r.map fun d => (d, t)) := fun W tk B σ H hs w Q q =>
  h W tk B σ H hs w Q (R.sat_mono (R.sat_map (R.sat_map q)) (fun d hd => hd) fun _ z => z.lost)
theorem ETp.x {τ : Type} {M : τ → OM} {t : τ} {r : R Bool} (h : ETp T X ds (M t) e r) : ETt T X ds M t e (r.map fun d => (d, t)) := fun W tk B σ H hs w Q q =>
  h W tk B σ H hs w Q (R.sat_mono (R.sat_map (R.sat_map q)) (fun d hd => hd) fun _ z => z.lost)
theorem EAp.x {τ : Type} {M : τ → OM} {t : τ} {es : List Expr} {r : R (List D)} (h : EAp T X ds (M t) es r) : EAt T X ds M t es (r.map fun d => (d, t)) := fun W tk B σ H hs w Q q =>
  h W tk B σ H hs w Q (R.sat_mono (R.sat_map (R.sat_map q)) (fun d hd => hd) fun _ z => z.lost)
theorem ELp.x {τ : Type} {M : τ → OM} {t : τ} {r : R (List D)} (h : ELp T X ds (M t) e r) : ELt T X ds M t e (r.map fun d => (d, t)) := fun W tk B σ H hs w Q q =>
  h W tk B σ H hs w Q (R.sat_mono (R.sat_map (R.sat_map q)) (fun d hd B' p vs H' g hB hf hm => hd B' p vs H' g hB (.inr hf) hm) fun _ z => z.lost)
theorem Go.freeze {K : PySem.W.Frag} {p : Addr} {o : HO} {B' H' : Hp} (g : Go K T B m H B' m' H') (hB : B' p = none) (hf : p ∈ m.map (·.1) ∨ Fre H p) (hm : p ∉ m'.map (·.1)) (hp : H' p = some o) (nt : ∀ ps, o ≠ .tbl ps) : Go K T B m H (upd B' p o) m' H' := by
  have eB : Ex B' (upd B' p o) := Evl.Ex.new hB
  refine ⟨g.ex.trans eB, ⟨fun a u e => ?_, fun q hq => ?_, g.own.nd, g.own.tb, fun a ps e => ?_⟩, g.frame, g.fresh, fun a u e => ?_⟩
  · by_cases ha : a = p
    · subst ha; rw [upd_same] at e; rw [hp]; exact e
    · rw [upd_ne ha] at e; exact g.own.ex a u e
  · obtain ⟨h1, h2⟩ := g.own.at_ q hq
    have hne : q.1 ≠ p := fun z => hm (List.mem_map.mpr ⟨q, hq, z⟩)
    exact ⟨by rw [upd_ne hne]; exact h1, h2.mono eB fun u e => e⟩
  · by_cases ha : a = p
    · subst ha; rw [upd_same] at e; exact nt ps (Option.some.inj e)
    · rw [upd_ne ha] at e; exact g.own.nt a ps e
  · by_cases ha : a = p
    · subst ha
      rcases hf with z | z
      · exact .inr (.inl z)
      · exact .inr (.inr (.inl z))
    · rw [upd_ne ha] at e; exact g.grow a u e
theorem ELp.ev {r : R (List D)} (h : ELp T X ds m e r) : EV T X ds m e (r.map D.lst) := fun W tk B σ H hs w Q q =>
  h W tk B σ H hs w Q (R.sat_mono (R.sat_map q) (fun xs hx B' p vs H' g hB hf hm hp rv =>
    hx _ _ _ (g.freeze hB (.inr hf) hm hp fun _ z => nomatch z) (.lst (Rd.of upd_same) (rv.mono (Evl.Ex.new hB)))) fun _ z => z)
theorem EL.ex {τ : Type} {M : τ → OM} {t : τ} {r : R (List D × τ)} (h : ELt T X ds M t e r) : EXt T X ds M t e (r.map fun p => (.lst p.1, p.2)) := fun W tk B σ H hs w Q q =>
  h W tk B σ H hs w Q (R.sat_map' (R.sat_mono (R.sat_map (R.sat_map q)) (fun xs hx B' p vs H' g hB hf hm hp rv =>
    hx _ _ _ (g.freeze hB hf hm hp fun _ z => nomatch z) (.lst (Rd.of upd_same) (rv.mono (Evl.Ex.new hB)))) fun _ z => z))

/-! ### names, constants -/
variable {pos : Pos}
theorem ev_name {i : Nat} {x : Str} {d : D} (h : ds[i]? = some (some d)) (hN : X.N[i]? = some x := by rfl) (hv : Vis X.env.scope x := by first | exact Or.inl rfl | exact Or.inr (Or.inl rfl) | exact Or.inr (Or.inr rfl)) (hd : (x == ("__debug__" : Str)) = false := by decide)
    (hcd : (x == ("__classdict__" : Str)) = false := by decide) : EV T X ds m (.Name x pos) (.ok d) := fun W tk B σ H hs w Q q => by
  obtain ⟨v, h1, h2⟩ := hs.at_ i d h
  exact wpE.of (pe_var hN hv hd hcd) ⟨v, h1, q B v H (.refl w) h2⟩
theorem ev_own {i : Nat} {x : Str} {p : Addr} {o : MO} (h : ds[i]? = some (some (.ref p))) (hm : (p, o) ∈ m) (hN : X.N[i]? = some x := by rfl) (hv : Vis X.env.scope x := by first | exact Or.inl rfl | exact Or.inr (Or.inl rfl) | exact Or.inr (Or.inr rfl)) (hd : (x == ("__debug__" : Str)) = false := by decide)
    (hcd : (x == ("__classdict__" : Str)) = false := by decide) : EVw T X ds m (.Name x pos) (.ok o.view) := fun W tk B σ H hs w Q q => by
  obtain ⟨v, h1, h2⟩ := hs.at_ i _ h
  cases h2.iref
  exact wpE.of (pe_var hN hv hd hcd) ⟨_, h1, q B _ H (.refl w) (.own hm)⟩
theorem ev_c {d : D} {v : V} (h : PE X e (tC v)) (r : ∀ B, Rep X.K B v d) : EV T X ds m e (.ok d) := fun W tk B σ H hs w Q q => wpE.of h (q B v H (.refl w) (r B))
theorem ev_int {i : Int} {j : Nat} : EV T X ds m (.Constant (.int i) j pos) (.ok (.int i)) := ev_c pe_int fun _ => .int i
theorem ev_bl {b : Bool} {j : Nat} : EV T X ds m (.Constant (.bool b) j pos) (.ok (.bl b)) := ev_c pe_bl fun _ => .bl b
theorem ev_non {j : Nat} : EV T X ds m (.Constant .none j pos) (.ok .non) := ev_c pe_non fun _ => .non
theorem ev_str {x : Str} {j : Nat} : EV T X ds m (.Constant (.str x) j pos) (.ok (.str x)) := ev_c pe_str fun _ => .str x
/-- a module's constant -/
theorem ev_glob {x : Str} {v : V} {u : Value} {d : D} (hm : X.mg x = some u) (rv : RelV v u) (r : ∀ B, Rep X.K B v d) (hg : Gl X x := by rfl) (hd : (x == ("__debug__" : Str)) = false := by decide) : EV T X ds m (.Name x pos) (.ok d) := ev_c (pe_glob hg hm rv hd) r

/-! ### operators -/
variable {a b c : Expr} {ra rb rc : R D} {rr r2 : R2} {g g2 : D → D → R D}
theorem op_core (hg : OpD X.K T rr g) (tk : Takes X W) (hs : Sl X.K B σ ds) (w : Own X.K T B m H) (ha : EVw T X ds m a ra) (hb : EVw T X ds m b rb) {P : D → Prop} {Q : VK} (hP : ∀ d, P d → ∀ B' v H', Go X.K T B m H B' m H' → Rep X.K B' v d → Q v H')
    (h : (ra.bind fun x => rb.bind fun y => g x y).sat P (EK T X W B m σ H m)) : tOp rr (wpE X a) (wpE X b) σ H Q := by
  refine ha W tk B σ H hs w _ (R.sat_mono (R.sat_bind h) (fun x hx B1 v1 H1 g1 r1 => ?_) fun _ z => z)
  refine hb W tk B1 σ H1 (hs.mono g1.ex) g1.own _ (R.sat_mono (R.sat_bind hx) (fun y hy B2 v2 H2 g2 r2 => ?_) fun _ z => z.go g1)
  exact hg B2 m H2 v1 v2 x y g2.own (r1.go g2) r2 Q _ (R.sat_mono hy (fun d hd B3 v3 H3 g3 r3 => hP d hd B3 v3 H3 ((g1.trans g2).trans g3) r3) fun _ z => z)
theorem ev_bin {op : Operator} (ho : OpR X (binaryOp op) rr) (hg : OpD X.K T rr g) (ha : EVw T X ds m a ra) (hb : EVw T X ds m b rb) : EV T X ds m (.BinOp a op b pos) (ra.bind fun x => rb.bind fun y => g x y) :=
  fun W tk B σ H hs w Q q => wpE.of (pe_op ho (pe_wp X a) (pe_wp X b)) (op_core hg tk hs w ha hb (fun d hd => hd) q)
theorem ev_cmp {op : CmpOp} (ho : OpR X (compareOp op) rr) (hg : OpD X.K T rr g) (ha : EVw T X ds m a ra) (hb : EVw T X ds m b rb) (hm : behindInMarks op b = false := by first | rfl | exact nomark _) : EV T X ds m (.Compare a [op] [b] pos) (ra.bind fun x => rb.bind fun y => g x y) :=
  fun W tk B σ H hs w Q q => wpE.of (pe_cmpR ho (pe_wp X a) (pe_wp X b) hm) (op_core hg tk hs w ha hb (fun d hd => hd) q)
theorem ev_sub (ho : IxR X rr) (hg : OpD X.K T rr g) (ha : EVw T X ds m a ra) (hb : EVw T X ds m b rb) (hs : PlainIx b := by exact fun _ _ => rfl) : EV T X ds m (.Subscript a b pos) (ra.bind fun x => rb.bind fun y => g x y) :=
  fun W tk B σ H hs' w Q q => wpE.of (pe_ix ho (pe_wp X a) (pe_wp X b) hs) (op_core hg tk hs' w ha hb (fun d hd => hd) q)
/-- a test of one comparison -/
theorem et_cmp {op : CmpOp} (ho : OpR X (compareOp op) rr) (hg : OpD X.K T rr g) (ha : EVw T X ds m a ra) (hb : EVw T X ds m b rb) (hm : behindInMarks op b = false := by first | rfl | exact nomark _) : ETp T X ds m (.Compare a [op] [b] pos) (ra.bind fun x => rb.bind fun y => (g x y).bind D.asB) :=
  fun W tk B σ H hs w Q q => wpT.of (pt_cmpR ho (pe_wp X a) (pe_wp X b) hm) (op_core (P := fun d => d.asB.sat (fun b => ∀ B' H', Go X.K T B m H B' m H' → Q b H') fun _ => True) hg tk hs w ha hb
    (fun d hd B' v H' g rv => by
      cases d with
      | bl b => exact ⟨b, rv.ibl, hd B' H' g⟩
      | _ => exact False.elim hd)
    (by
      have q1 := R.sat_bind q
      refine R.sat_bind' (R.sat_mono q1 (fun x hx => ?_) fun _ z => z)
      refine R.sat_bind' (R.sat_mono (R.sat_bind hx) (fun y hy => ?_) fun _ z => z)
      exact R.sat_mono (R.sat_bind hy) (fun d hd => R.sat_mono hd (fun _ z => z) fun _ _ => True.intro) fun _ z => z))
/-- a value that is a truth, as a test -/
theorem et_ev (h : EV T X ds m e r) (he : ∀ whole, isTrue e X.env whole = (do let v ← whole; standAt e.pos; holding [v] (truthy v)) := by intro _; rfl) : ETp T X ds m e (r.bind D.asB) :=
  fun W tk B σ H hs w Q q => wpT.of (pt_val (pe_wp X e) he) (h W tk B σ H hs w _ (R.sat_mono (R.sat_bind q) (fun d hd B' v H' g rv => by
    cases d with
    | bl b => exact ⟨b, rv.ibl, hd B' H' g⟩
    | _ => exact False.elim hd) fun _ z => z))
theorem et_not {r : R Bool} (h : ETp T X ds m a r) : ETp T X ds m (.UnaryOp .Not a pos) (r.map fun b => !b) :=
  fun W tk B σ H hs w Q q => wpT.of (pt_not (pt_wp X a)) (h W tk B σ H hs w _ (R.sat_map q))
/-- a < b < c -/
theorem ev_chain {op op' : CmpOp} (ho : OpR X (compareOp op) rr) (hg : OpD X.K T rr g) (ho' : OpR X (compareOp op') r2) (hg' : OpD X.K T r2 g2) (ha : EVw T X ds m a ra) (hb : EVw T X ds m b rb) (hc : EVw T X ds m c rc)
    (hm : lastMarks [op, op'] [b, c] = false := by with_unfolding_all rfl) :
    EV T X ds m (.Compare a [op, op'] [b, c] pos) (ra.bind fun x => rb.bind fun y => (g x y).bind fun z => z.asB.bind fun k => if k then (rc.bind fun u => g2 y u) else .ok (.bl false)) := by
  intro W tk B σ H hs w Q q
  refine wpE.of (pe_chain ho ho' (pe_wp X a) (pe_wp X b) (pe_wp X c) hm) ?_
  refine ha W tk B σ H hs w _ (R.sat_mono (R.sat_bind q) (fun x hx B1 v1 H1 g1 r1 => ?_) fun _ z => z)
  refine hb W tk B1 σ H1 (hs.mono g1.ex) g1.own _ (R.sat_mono (R.sat_bind hx) (fun y hy B2 v2 H2 g2 r2 => ?_) fun _ z => z.go g1)
  have g12 := g1.trans g2
  refine hg B2 m H2 v1 v2 x y g2.own (r1.go g2) r2 _ _ (R.sat_mono (R.sat_bind hy) (fun d hd B3 v3 H3 g3 r3 => ?_) fun _ z => z)
  have g13 := g12.trans g3
  cases d with
  | bl k =>
    refine ⟨k, r3.ibl, ?_⟩
    cases k with
    | true =>
      rw [if_pos rfl]
      refine hc W tk B3 σ H3 (hs.mono g13.ex) g13.own _ (R.sat_mono (R.sat_bind hd) (fun u hu B4 v4 H4 g4 r4 => ?_) fun _ z => z.go g13)
      exact hg' B4 m H4 v2 v4 y u g4.own ((r2.go g3).go g4) r4 Q _ (R.sat_mono hu (fun d hd B5 v5 H5 g5 r5 => hd B5 v5 H5 ((g13.trans g4).trans g5) r5) fun _ z => z)
    | false =>
      rw [if_neg Bool.false_ne_true]
      exact hd B3 _ H3 g13 (.bl false)
  | _ => exact False.elim hd
end
end DL
namespace DL
open PySem PySem.Spec PyProof.Rows L2
open Evl (Ex ex_l ex_t ex_rd)
section
variable {T : Tb} {X : Cx} {ds : DS} {m m' m1 : OM} {W : WX} {B B1 H H1 : Hp} {σ : St} {pos p : Pos}
variable {a b c e : Expr} {es : List Expr} {ra rb rc r : R D} {rr r2 : R2} {g g2 : D → D → R D}
theorem et_chain {op op' : CmpOp} (ho : OpR X (compareOp op) rr) (hg : OpD X.K T rr g) (ho' : OpR X (compareOp op') r2) (hg' : OpD X.K T r2 g2) (ha : EVw T X ds m a ra) (hb : EVw T X ds m b rb) (hc : EVw T X ds m c rc)
    (hm : lastMarks [op, op'] [b, c] = false := by with_unfolding_all rfl) :
    ETp T X ds m (.Compare a [op, op'] [b, c] pos) (ra.bind fun x => rb.bind fun y => (g x y).bind fun z => z.asB.bind fun k => if k then (rc.bind fun u => (g2 y u).bind D.asB) else .ok false) := by
  intro W tk B σ H hs w Q q
  refine wpT.of (pt_chain ho ho' (pe_wp X a) (pe_wp X b) (pe_wp X c) hm) ?_
  refine ha W tk B σ H hs w _ (R.sat_mono (R.sat_bind q) (fun x hx B1 v1 H1 g1 r1 => ?_) fun _ z => z)
  refine hb W tk B1 σ H1 (hs.mono g1.ex) g1.own _ (R.sat_mono (R.sat_bind hx) (fun y hy B2 v2 H2 g2 r2 => ?_) fun _ z => z.go g1)
  have g12 := g1.trans g2
  refine hg B2 m H2 v1 v2 x y g2.own (r1.go g2) r2 _ _ (R.sat_mono (R.sat_bind hy) (fun d hd B3 v3 H3 g3 r3 => ?_) fun _ z => z)
  have g13 := g12.trans g3
  cases d with
  | bl k =>
    refine ⟨k, r3.ibl, ?_⟩
    cases k with
    | true =>
      rw [if_pos rfl]
      refine hc W tk B3 σ H3 (hs.mono g13.ex) g13.own _ (R.sat_mono (R.sat_bind hd) (fun u hu B4 v4 H4 g4 r4 => ?_) fun _ z => z.go g13)
      refine hg' B4 m H4 v2 v4 y u g4.own ((r2.go g3).go g4) r4 _ _ (R.sat_mono (R.sat_bind hu) (fun d hd B5 v5 H5 g5 r5 => ?_) fun _ z => z)
      cases d with
      | bl k' => exact ⟨k', r5.ibl, hd B5 H5 ((g13.trans g4).trans g5)⟩
      | _ => exact False.elim hd
    | false =>
      rw [if_neg Bool.false_ne_true]
      exact ⟨false, rfl, hd B3 H3 g13⟩
  | _ => exact False.elim hd

/-! ### and, or -/
theorem ev_one {op} (h : EV T X ds m a r) : EV T X ds m (.BoolOp op [a] pos) r := fun W tk B σ H hs w Q q => wpE.of (pe_one (pe_wp X a)) (h W tk B σ H hs w Q q)
theorem ev_and (ha : EV T X ds m a ra) (hb : EV T X ds m (.BoolOp .And (b :: es) pos) rb) : EV T X ds m (.BoolOp .And (a :: b :: es) pos) (ra.bind fun x => x.asB.bind fun k => if k then rb else .ok (.bl false)) := by
  intro W tk B σ H hs w Q q
  refine wpE.of (pe_and (pe_wp X a) (pe_wp X _)) (ha W tk B σ H hs w _ (R.sat_mono (R.sat_bind q) (fun d hd B1 v1 H1 g1 r1 => ?_) fun _ z => z))
  cases d with
  | bl k =>
    refine ⟨k, r1.ibl, ?_⟩
    cases k with
    | true =>
      rw [if_pos rfl]
      exact hb W tk B1 σ H1 (hs.mono g1.ex) g1.own Q (R.sat_mono hd (fun d hd B2 v2 H2 g2 r2 => hd B2 v2 H2 (g1.trans g2) r2) fun _ z => z.go g1)
    | false =>
      rw [if_neg Bool.false_ne_true]
      exact hd B1 _ H1 g1 (.bl false)
  | _ => exact False.elim hd
theorem ev_or (ha : EV T X ds m a ra) (hb : EV T X ds m (.BoolOp .Or (b :: es) pos) rb) : EV T X ds m (.BoolOp .Or (a :: b :: es) pos) (ra.bind fun x => x.asB.bind fun k => if k then .ok (.bl true) else rb) := by
  intro W tk B σ H hs w Q q
  refine wpE.of (pe_or (pe_wp X a) (pe_wp X _)) (ha W tk B σ H hs w _ (R.sat_mono (R.sat_bind q) (fun d hd B1 v1 H1 g1 r1 => ?_) fun _ z => z))
  cases d with
  | bl k =>
    refine ⟨k, r1.ibl, ?_⟩
    cases k with
    | false =>
      rw [if_neg Bool.false_ne_true]
      exact hb W tk B1 σ H1 (hs.mono g1.ex) g1.own Q (R.sat_mono hd (fun d hd B2 v2 H2 g2 r2 => hd B2 v2 H2 (g1.trans g2) r2) fun _ z => z.go g1)
    | true =>
      rw [if_pos rfl]
      exact hd B1 _ H1 g1 (.bl true)
  | _ => exact False.elim hd
theorem ev_not (ha : EV T X ds m a ra) : EV T X ds m (.UnaryOp .Not a pos) (ra.bind fun x => x.asB.map fun k => .bl (!k)) := by
  intro W tk B σ H hs w Q q
  refine wpE.of (pe_not (pe_wp X a)) (ha W tk B σ H hs w _ (R.sat_mono (R.sat_bind q) (fun d hd B1 v1 H1 g1 r1 => ?_) fun _ z => z))
  cases d with
  | bl k => exact ⟨k, r1.ibl, hd B1 _ H1 g1 (.bl _)⟩
  | _ => exact False.elim hd
structure wpW (X : Cx) (e : Expr) (σ : St) (H : Hp) (Q : Bool → Hp → Prop) : Prop where
  run : ∀ (whole : Sem Value) (pins : List (Addr × Obj)) (s : Shared), Inv X pins σ H s → wpAny (model X.prog X.w) X.A (isTrue e X.env whole) (TP X pins σ Q) X.xe s
theorem pw_wp (X : Cx) (e : Expr) : PW X e (wpW X e) := ⟨fun wh pins s _ _ _ I h => h.run wh pins s I⟩
theorem wpW.of {X : Cx} {e : Expr} {t : TT} (h : PW X e t) {σ : St} {H : Hp} {Q : Bool → Hp → Prop} (q : t σ H Q) : wpW X e σ H Q := ⟨fun wh pins s I => h.run wh pins s σ H Q I q⟩
def EWp (T : Tb) (X : Cx) (ds : DS) (m : OM) (e : Expr) (r : R Bool) : Prop :=
  ∀ (W : WX), Takes X W → ∀ (B : Hp) (σ : St) (H : Hp), Sl X.K B σ ds → Own X.K T B m H → ∀ Q : Bool → Hp → Prop,
    r.sat (fun b => ∀ B' H', Go X.K T B m H B' m H' → Q b H') (EK T X W B m σ H m) → wpW X e σ H Q
def EWx (T : Tb) (X : Cx) (ds : DS) (m : OM) (e : Expr) (r : R (Bool × OM)) : Prop :=
  ∀ (W : WX), Takes X W → ∀ (B : Hp) (σ : St) (H : Hp), Sl X.K B σ ds → Own X.K T B m H → ∀ Q : Bool → Hp → Prop,
    r.sat (fun p => ∀ B' H', Go X.K T B m H B' p.2 H' → Q p.1 H') (EK T X W B m σ H []) → wpW X e σ H Q
variable {ta tb : R Bool}
theorem et_w (h : EWp T X ds m e ta) : ETp T X ds m e ta := fun W tk B σ H hs w Q q => wpT.of (pw_wp X e).pt (h W tk B σ H hs w Q q)
theorem ew_and1 (h : ETp T X ds m a ta) : EWp T X ds m (.BoolOp .And [a] pos) ta := fun W tk B σ H hs w Q q => wpW.of (pw_and1 (pt_wp X a)) (h W tk B σ H hs w Q q)
theorem ew_or1 (h : ETp T X ds m a ta) : EWp T X ds m (.BoolOp .Or [a] pos) ta := fun W tk B σ H hs w Q q => wpW.of (pw_or1 (pt_wp X a)) (h W tk B σ H hs w Q q)
theorem ew_and (ha : ETp T X ds m a ta) (hb : EWp T X ds m (.BoolOp .And (b :: es) pos) tb) : EWp T X ds m (.BoolOp .And (a :: b :: es) pos) (ta.bind fun k => if k then tb else .ok false) := by
  intro W tk B σ H hs w Q q
  refine wpW.of (pw_and (pt_wp X a) (pw_wp X _)) (ha W tk B σ H hs w _ (R.sat_mono (R.sat_bind q) (fun k hd B1 H1 g1 => ?_) fun _ z => z))
  cases k with
  | true =>
    show wpW X _ σ H1 Q
    exact hb W tk B1 σ H1 (hs.mono g1.ex) g1.own Q (R.sat_mono hd (fun d hd B2 H2 g2 => hd B2 H2 (g1.trans g2)) fun _ z => z.go g1)
  | false => exact hd B1 H1 g1
theorem ew_or (ha : ETp T X ds m a ta) (hb : EWp T X ds m (.BoolOp .Or (b :: es) pos) tb) : EWp T X ds m (.BoolOp .Or (a :: b :: es) pos) (ta.bind fun k => if k then .ok true else tb) := by
  intro W tk B σ H hs w Q q
  refine wpW.of (pw_or (pt_wp X a) (pw_wp X _)) (ha W tk B σ H hs w _ (R.sat_mono (R.sat_bind q) (fun k hd B1 H1 g1 => ?_) fun _ z => z))
  cases k with
  | false =>
    show wpW X _ σ H1 Q
    exact hb W tk B1 σ H1 (hs.mono g1.ex) g1.own Q (R.sat_mono hd (fun d hd B2 H2 g2 => hd B2 H2 (g1.trans g2)) fun _ z => z.go g1)
  | true => exact hd B1 H1 g1
/-- a if c else b -/
theorem ev_if (hc : ETp T X ds m c ta) (ha : EV T X ds m a ra) (hb : EV T X ds m b rb) : EV T X ds m (.IfExp c a b pos) (ta.bind fun k => if k then ra else rb) := by
  intro W tk B σ H hs w Q q
  refine wpE.of (pe_ifExp (pt_wp X c) (pe_wp X a) (pe_wp X b)) (hc W tk B σ H hs w _ (R.sat_mono (R.sat_bind q) (fun k hd B1 H1 g1 => ?_) fun _ z => z))
  cases k with
  | true =>
    show wpE X a σ H1 Q
    exact ha W tk B1 σ H1 (hs.mono g1.ex) g1.own Q (R.sat_mono hd (fun d hd B2 v2 H2 g2 r2 => hd B2 v2 H2 (g1.trans g2) r2) fun _ z => z.go g1)
  | false =>
    show wpE X b σ H1 Q
    exact hb W tk B1 σ H1 (hs.mono g1.ex) g1.own Q (R.sat_mono hd (fun d hd B2 v2 H2 g2 r2 => hd B2 v2 H2 (g1.trans g2) r2) fun _ z => z.go g1)

/-! ### unary minus -/
def D.neg : D → R D
  | .int i => .ok (.int (-i))
  | _ => .ub
theorem ev_neg (ha : EV T X ds m a ra) : EV T X ds m (.UnaryOp .USub a pos) (ra.bind D.neg) := by
  intro W tk B σ H hs w Q q
  refine wpE.of (pe_un un_neg (pe_wp X a)) (ha W tk B σ H hs w _ (R.sat_mono (R.sat_bind q) (fun d hd B1 v1 H1 g1 r1 => ?_) fun _ z => z))
  cases d with
  | int i => exact ⟨i, r1.iint, hd B1 _ H1 g1 (.int _)⟩
  | _ => exact False.elim hd

/-! ### arguments, tuples, lists -/
theorem ea_nil : EAp T X ds m [] (.ok []) := fun W tk B σ H hs w Q q => wpA.of pa_nil (q B [] H (.refl w) .nil)
theorem ea_cons {rs : R (List D)} (ha : EV T X ds m e r) (hb : EAp T X ds m es rs) (hst : starEach (e :: es) X.env = (false, eval e X.env) :: starEach es X.env := by exact se1 rfl) : EAp T X ds m (e :: es) (r.bind fun x => rs.bind fun xs => .ok (x :: xs)) := by
  intro W tk B σ H hs w Q q
  refine wpA.of (pa_cons (pe_wp X e) (pa_wp X es) hst) (ha W tk B σ H hs w _ (R.sat_mono (R.sat_bind q) (fun d hd B1 v1 H1 g1 r1 => ?_) fun _ z => z))
  exact hb W tk B1 σ H1 (hs.mono g1.ex) g1.own _ (R.sat_mono (R.sat_bind hd) (fun xs hx B2 vs H2 g2 r2 => hx B2 _ H2 (g1.trans g2) (.cons (r1.mono g2.ex) r2)) fun _ z => z.go g1)
def D.mkT (xs : List D) : R D := if xs.length ≤ sizeLine then .ok (.tup xs) else .ub
def D.mkL (xs : List D) : R (List D) := if xs.length ≤ sizeLine then .ok xs else .ub
theorem ev_tup {rs : R (List D)} {k} (h : EAp T X ds m es rs) : EV T X ds m (.Tuple es k pos) (rs.bind D.mkT) := by
  intro W tk B σ H hs w Q q
  refine wpE.of (pe_tup (pa_wp X es)) (h W tk B σ H hs w _ (R.sat_mono (R.sat_bind q) (fun xs hx B1 vs H1 g1 r1 => ?_) fun _ z => z))
  unfold D.mkT at hx
  split at hx
  · rename_i hz
    refine ⟨by rw [r1.length]; exact hz, fin_tup g1.own r1 fun B2 v H2 g2 r2 => hx B2 v H2 (g1.trans g2) r2⟩
  · exact False.elim hx
theorem el_lst {rs : R (List D)} (h : EAp T X ds m es rs) : ELp T X ds m (.List es pos) (rs.bind D.mkL) := by
  intro W tk B σ H hs w Q q
  refine wpE.of (pe_lst (pa_wp X es)) (h W tk B σ H hs w _ (R.sat_mono (R.sat_bind q) (fun xs hx B1 vs H1 g1 r1 => ?_) fun _ z => z))
  unfold D.mkL at hx
  split at hx
  · rename_i hz
    refine ⟨by rw [r1.length]; exact hz, fin_new g1.own r1 fun B2 p vs' H2 g2 hB hf hm hp r2 => hx B2 p vs' H2 (g1.trans g2) hB ?_ hm hp r2⟩
    intro o ho
    by_cases ht : ∃ ps, o = .tbl ps
    · exact ht
    · by_cases hx : p ∈ m.map (·.1)
      · exact absurd hx hm
      · exact hf o (g1.frame p o ho (fun ps z => ht ⟨ps, z⟩) hx)
  · exact False.elim hx

/-! ### built-in functions of one argument -/
/-- by values -/
def CallD (K : PySem.W.Frag) (T : Tb) (rr : List V → Hp → VK → Prop) (g : D → R D) : Prop :=
  ∀ (B : Hp) (m : OM) (H : Hp) (x : V) (dx : D), Own K T B m H → VRep K B m x dx → ∀ (Q : VK) (Ee : Err → Prop),
    (g dx).sat (fun d => ∀ B' v H', Go K T B m H B' m H' → Rep K B' v d → Q v H') Ee → rr [x] H Q
def CallD2 (K : PySem.W.Frag) (T : Tb) (rr : List V → Hp → VK → Prop) (g : D → D → R D) : Prop :=
  ∀ (B : Hp) (m : OM) (H : Hp) (x y : V) (dx dy : D), Own K T B m H → VRep K B m x dx → VRep K B m y dy → ∀ (Q : VK) (Ee : Err → Prop),
    (g dx dy).sat (fun d => ∀ B' v H', Go K T B m H B' m H' → Rep K B' v d → Q v H') Ee → rr [x, y] H Q
/-- the answer a new list -/
def CallL (K : PySem.W.Frag) (T : Tb) (rr : List V → Hp → VK → Prop) (g : D → R (List D)) : Prop :=
  ∀ (B : Hp) (m : OM) (H : Hp) (x : V) (dx : D), Own K T B m H → VRep K B m x dx → ∀ (Q : VK) (Ee : Err → Prop),
    (g dx).sat (fun xs => ∀ B' p vs H', Go K T B m H B' m H' → B' p = none → Fre H p → p ∉ m.map (·.1) → H' p = some (.lst vs) → RepL K B' vs xs → Q (.ref p) H') Ee → rr [x] H Q
variable {x : Str} {id TT : String} {gr : List V → Hp → VK → Prop} {g1 : D → R D} {gl : D → R (List D)}
theorem ev_callB (hc : CallR X (.builtin id) gr) (hg : CallD X.K T gr g1) (hm : X.mg x = none) (hv : bootBuiltins x = some (.builtin id)) (ha : EVw T X ds m e r) (hgl : Gl X x := by rfl) (hst : starEach [e] X.env = (false, eval e X.env) :: starEach [] X.env := by exact se1 rfl)
    (hn : x ≠ "__name__" := by decide) (hdb : (x == ("__debug__" : Str)) = false := by decide) : EV T X ds m (.Call (.Name x p) [e] [] pos) (r.bind g1) := by
  intro W tk B σ H hs w Q q
  refine wpE.of (pe_callB hc hgl hm hv (pa_cons (pe_wp X e) pa_nil hst) hn hdb hst) (ha W tk B σ H hs w _ (R.sat_mono (R.sat_bind q) (fun d hd B1 v1 H1 g1 r1 => ?_) fun _ z => z))
  exact hg B1 m H1 v1 d g1.own r1 Q _ (R.sat_mono hd (fun d hd B2 v2 H2 g2 r2 => hd B2 v2 H2 (g1.trans g2) r2) fun _ z => z)
theorem ev_callTy (hc : CallR X (.type TT) gr) (hg : CallD X.K T gr g1) (hm : X.mg x = none) (hv : bootBuiltins x = some (.type TT)) (ha : EVw T X ds m e r) (hgl : Gl X x := by rfl) (hst : starEach [e] X.env = (false, eval e X.env) :: starEach [] X.env := by exact se1 rfl)
    (hn : x ≠ "__name__" := by decide) (hdb : (x == ("__debug__" : Str)) = false := by decide) : EV T X ds m (.Call (.Name x p) [e] [] pos) (r.bind g1) := by
  intro W tk B σ H hs w Q q
  refine wpE.of (pe_callTy hc hgl hm hv (pa_cons (pe_wp X e) pa_nil hst) hn hdb hst) (ha W tk B σ H hs w _ (R.sat_mono (R.sat_bind q) (fun d hd B1 v1 H1 g1 r1 => ?_) fun _ z => z))
  exact hg B1 m H1 v1 d g1.own r1 Q _ (R.sat_mono hd (fun d hd B2 v2 H2 g2 r2 => hd B2 v2 H2 (g1.trans g2) r2) fun _ z => z)
theorem ev_callB2 (hc : CallR X (.builtin id) gr) (hg : CallD2 X.K T gr g) (hm : X.mg x = none) (hv : bootBuiltins x = some (.builtin id)) (ha : EVw T X ds m a ra) (hb : EVw T X ds m b rb) (hgl : Gl X x := by rfl)
    (hst : starEach [a, b] X.env = (false, eval a X.env) :: starEach [b] X.env := by exact se1 rfl) (hst2 : starEach [b] X.env = (false, eval b X.env) :: starEach [] X.env := by exact se1 rfl) (hpl : (backTo pos (starEach [b] X.env)).any (·.1) = false := by exact sepl rfl)
    (hn : x ≠ "__name__" := by decide) (hdb : (x == ("__debug__" : Str)) = false := by decide) : EV T X ds m (.Call (.Name x p) [a, b] [] pos) (ra.bind fun u => rb.bind fun v => g u v) := by
  intro W tk B σ H hs w Q q
  refine wpE.of (pe_callB hc hgl hm hv (pa_cons (pe_wp X a) (pa_cons (pe_wp X b) pa_nil hst2) hst) hn hdb hst hpl) (ha W tk B σ H hs w _ (R.sat_mono (R.sat_bind q) (fun d hd B1 v1 H1 g1 r1 => ?_) fun _ z => z))
  refine hb W tk B1 σ H1 (hs.mono g1.ex) g1.own _ (R.sat_mono (R.sat_bind hd) (fun d2 hd2 B2 v2 H2 g2 r2 => ?_) fun _ z => z.go g1)
  exact hg B2 m H2 v1 v2 d d2 g2.own (r1.go g2) r2 Q _ (R.sat_mono hd2 (fun d hd B3 v3 H3 g3 r3 => hd B3 v3 H3 ((g1.trans g2).trans g3) r3) fun _ z => z)
theorem Fre.back {B' H' : Hp} (gg : Go X.K T B m H B' m H') {q : Addr} (hf : Fre H' q) (hm : q ∉ m.map (·.1)) : Fre H q := fun o ho => by
  by_cases ht : ∃ ps, o = .tbl ps
  · exact ht
  · exact hf o (gg.frame q o ho (fun ps z => ht ⟨ps, z⟩) hm)
theorem el_callTy (hc : CallR X (.type TT) gr) (hg : CallL X.K T gr gl) (hm : X.mg x = none) (hv : bootBuiltins x = some (.type TT)) (ha : EVw T X ds m e r) (hgl : Gl X x := by rfl) (hst : starEach [e] X.env = (false, eval e X.env) :: starEach [] X.env := by exact se1 rfl)
    (hn : x ≠ "__name__" := by decide) (hdb : (x == ("__debug__" : Str)) = false := by decide) : ELp T X ds m (.Call (.Name x p) [e] [] pos) (r.bind gl) := by
  intro W tk B σ H hs w Q q
  refine wpE.of (pe_callTy hc hgl hm hv (pa_cons (pe_wp X e) pa_nil hst) hn hdb hst) (ha W tk B σ H hs w _ (R.sat_mono (R.sat_bind q) (fun d hd B1 v1 H1 g1 r1 => ?_) fun _ z => z))
  exact hg B1 m H1 v1 d g1.own r1 Q _ (R.sat_mono hd (fun xs hx B2 p vs H2 g2 hB hf hm hp rv => hx B2 p vs H2 (g1.trans g2) hB (Fre.back g1 hf hm) hm hp rv) fun _ z => z)
theorem el_callB (hc : CallR X (.builtin id) gr) (hg : CallL X.K T gr gl) (hm : X.mg x = none) (hv : bootBuiltins x = some (.builtin id)) (ha : EVw T X ds m e r) (hgl : Gl X x := by rfl) (hst : starEach [e] X.env = (false, eval e X.env) :: starEach [] X.env := by exact se1 rfl)
    (hn : x ≠ "__name__" := by decide) (hdb : (x == ("__debug__" : Str)) = false := by decide) : ELp T X ds m (.Call (.Name x p) [e] [] pos) (r.bind gl) := by
  intro W tk B σ H hs w Q q
  refine wpE.of (pe_callB hc hgl hm hv (pa_cons (pe_wp X e) pa_nil hst) hn hdb hst) (ha W tk B σ H hs w _ (R.sat_mono (R.sat_bind q) (fun d hd B1 v1 H1 g1 r1 => ?_) fun _ z => z))
  exact hg B1 m H1 v1 d g1.own r1 Q _ (R.sat_mono hd (fun xs hx B2 p vs H2 g2 hB hf hm hp rv => hx B2 p vs H2 (g1.trans g2) hB (Fre.back g1 hf hm) hm hp rv) fun _ z => z)
end
end DL
namespace DL
open PySem PySem.Spec PyProof.Rows L2
open Evl (Ex ex_l ex_t ex_rd)

/-! ### len, abs, int, min, max, sum, all, any, tuple, list, sorted, isinstance -/
def D.len : D → R D
  | .tup xs => .ok (.int xs.length)
  | .lst xs => .ok (.int xs.length)
  | .str x => if x.length ≤ sizeLine then .ok (.int x.length) else .ub
  | _ => .ub
def D.abs : D → R D
  | .int i => .ok (.int (if i < 0 then -i else i))
  | _ => .ub
def D.toInt : D → R D
  | .int i => .ok (.int i)
  | .bl b => .ok (.int (if b then 1 else 0))
  | .str x => (match PySem.intText? x with
    | some n => if x.length ≤ 640 then .ok (.int n) else .ub
    | none => .ub)
  | _ => .ub
def D.toBool : D → R D
  | .int i => .ok (.bl (i != 0))
  | .bl b => .ok (.bl b)
  | _ => .ub
def D.toStr : D → R D
  | .int i => if i.natAbs.log2 < 1920 then .ok (.str (toString i)) else .ub
  | _ => .ub
def D.max2 : D → D → R D
  | .int i, .int j => .ok (.int (if j > i then j else i))
  | _, _ => .ub
def D.min2 : D → D → R D
  | .int i, .int j => .ok (.int (if j < i then j else i))
  | _, _ => .ub
def asBools : List D → Option (List Bool)
  | [] => some []
  | .bl i :: r => (asBools r).map (i :: ·)
  | _ :: _ => none
theorem asBools_eq : ∀ {xs : List D} {ns : List Bool}, asBools xs = some ns → xs = ns.map D.bl
  | [], ns, h => by cases h; rfl
  | .bl i :: r, ns, h => by
    unfold asBools at h
    cases e : asBools r with
    | none => rw [e] at h; cases h
    | some ms => rw [e] at h; cases h; rw [asBools_eq e]; rfl
  | .non :: _, _, h => by cases h
  | .int _ :: _, _, h => by cases h
  | .str _ :: _, _, h => by cases h
  | .ref _ :: _, _, h => by cases h
  | .tup _ :: _, _, h => by cases h
  | .lst _ :: _, _, h => by cases h
  | .dct _ :: _, _, h => by cases h
  | .dtt _ :: _, _, h => by cases h
  | .clo _ _ :: _, _, h => by cases h
@[simp] theorem asBools_map : ∀ ns : List Bool, asBools (ns.map D.bl) = some ns
  | [] => rfl
  | n :: ns => by
    rw [List.map_cons]
    unfold asBools
    rw [asBools_map ns]; rfl
def D.sum : D → R D
  | .lst xs => (match asInts xs with
    | some ns => .ok (.int ns.sum)
    | none => .ub)
  | _ => .ub
def D.all : D → R D
  | .lst xs => (match asBools xs with
    | some ns => .ok (.bl (ns.all id))
    | none => .ub)
  | _ => .ub
def D.any : D → R D
  | .lst xs => (match asBools xs with
    | some ns => .ok (.bl (ns.any id))
    | none => .ub)
  | _ => .ub
def minI : List Int → Int
  | [] => 0
  | [x] => x
  | x :: r => if x ≤ minI r then x else minI r
def maxI : List Int → Int
  | [] => 0
  | [x] => x
  | x :: r => if maxI r ≤ x then x else maxI r
theorem minI_mem : ∀ {l : List Int}, 0 < l.length → minI l ∈ l ∧ ∀ y ∈ l, minI l ≤ y
  | [], h => absurd h (by simp)
  | [x], _ => ⟨by simp [minI], fun y hy => by simp at hy; subst hy; simp [minI]⟩
  | x :: z :: r, _ => by
    obtain ⟨h1, h2⟩ := minI_mem (l := z :: r) (by simp)
    unfold minI
    by_cases c : x ≤ minI (z :: r)
    · rw [if_pos c]
      refine ⟨by simp, fun y hy => ?_⟩
      rcases List.mem_cons.mp hy with rfl | hy
      · exact Int.le_refl _
      · exact Int.le_trans c (h2 y hy)
    · rw [if_neg c]
      refine ⟨List.mem_cons_of_mem _ h1, fun y hy => ?_⟩
      rcases List.mem_cons.mp hy with rfl | hy
      · omega
      · exact h2 y hy
theorem maxI_mem : ∀ {l : List Int}, 0 < l.length → maxI l ∈ l ∧ ∀ y ∈ l, y ≤ maxI l
  | [], h => absurd h (by simp)
  | [x], _ => ⟨by simp [maxI], fun y hy => by simp at hy; subst hy; simp [maxI]⟩
  | x :: z :: r, _ => by
    obtain ⟨h1, h2⟩ := maxI_mem (l := z :: r) (by simp)
    unfold maxI
    by_cases c : maxI (z :: r) ≤ x
    · rw [if_pos c]
      refine ⟨by simp, fun y hy => ?_⟩
      rcases List.mem_cons.mp hy with rfl | hy
      · exact Int.le_refl _
      · exact Int.le_trans (h2 y hy) c
    · rw [if_neg c]
      refine ⟨List.mem_cons_of_mem _ h1, fun y hy => ?_⟩
      rcases List.mem_cons.mp hy with rfl | hy
      · omega
      · exact h2 y hy
def D.minL : D → R D
  | .lst xs => (match asInts xs with
    | some (n :: ns) => .ok (.int (minI (n :: ns)))
    | _ => .ub)
  | _ => .ub
def D.maxL : D → R D
  | .lst xs => (match asInts xs with
    | some (n :: ns) => .ok (.int (maxI (n :: ns)))
    | _ => .ub)
  | _ => .ub
def D.toTup : D → R D
  | .lst xs => .ok (.tup xs)
  | .tup xs => .ok (.tup xs)
  | _ => .ub
def D.toLst : D → R (List D)
  | .lst xs => .ok xs
  | .tup xs => .ok xs
  | _ => .ub
def sortI (ns : List Int) : List Int := ns.mergeSort fun a b => decide (a ≤ b)
def D.sortedI : D → R (List D)
  | .lst xs => (match asInts xs with
    | some ns => if ns.length < 64 then .ok ((sortI ns).map D.int) else .ub
    | none => .ub)
  | _ => .ub
theorem sort_uniq : ∀ {a b : List Int}, a.Perm b → a.Pairwise (· ≤ ·) → b.Pairwise (· ≤ ·) → a = b := fun {a b} p ha hb =>
  p.eq_of_pairwise (fun x y _ _ h1 h2 => Int.le_antisymm h1 h2) ha hb
theorem sortI_eq {ns ns' : List Int} (p : ns'.Perm ns) (h : ns'.Pairwise (· ≤ ·)) : ns' = sortI ns := by
  refine sort_uniq (p.trans (List.mergeSort_perm ns _).symm) h ?_
  have := List.pairwise_mergeSort (le := fun a b : Int => decide (a ≤ b)) (fun a b c h1 h2 => by simp at *; omega) (fun a b => by simp; omega) ns
  exact this.imp fun h => by simpa using h
/-- isinstance(x, T) -/
def D.isi (t : String) : D → R D
  | .non => .ok (.bl (t == "NoneType"))
  | .bl _ => .ok (.bl (t == "bool" || t == "int"))
  | .int _ => .ok (.bl (t == "int"))
  | .str _ => .ok (.bl (t == "str"))
  | .tup _ => .ok (.bl (t == "tuple"))
  | .lst _ => .ok (.bl (t == "list"))
  | _ => .ub
section
variable {X : Cx} {K : PySem.W.Frag} {T : Tb}
theorem cd_len : CallD K T (fun xs H Q => ∃ x n, xs = [x] ∧ LenV K x H n ∧ Q (.int n) H) D.len := by
  intro B m H x dx w rx Q Ee h
  unfold D.len at h
  split at h
  · obtain ⟨a, vs, rfl, h1, h2⟩ := rx.itup w
    exact ⟨_, vs.length, rfl, .inr ⟨vs, h1, rfl⟩, h B _ H (.refl w) (by rw [h2.length]; exact .int _)⟩
  · obtain ⟨a, vs, rfl, h1, h2⟩ := rx.ilst w
    exact ⟨_, vs.length, rfl, .inl ⟨vs, .inl h1, rfl⟩, h B _ H (.refl w) (by rw [h2.length]; exact .int _)⟩
  · split at h
    · rename_i x hz
      cases rx.istr
      exact ⟨_, x.length, rfl, ⟨hz, rfl⟩, h B _ H (.refl w) (.int _)⟩
    · exact h.elim
  · exact h.elim
theorem cd_abs : CallD K T (fun xs H Q => ∃ i, xs = [.int i] ∧ Q (.int (if i < 0 then -i else i)) H) D.abs := by
  intro B m H x dx w rx Q Ee h
  unfold D.abs at h
  split at h
  · cases rx.iint
    exact ⟨_, rfl, h B _ H (.refl w) (.int _)⟩
  · exact h.elim
def rIntT : List V → Hp → VK → Prop := fun xs H Q => ((∃ i, xs = [.int i] ∧ Q (.int i) H) ∨ ∃ k, xs = [.bl k] ∧ Q (.int (if k then 1 else 0)) H) ∨ ∃ (a : Str) (n : Int), xs = [.str a] ∧ PySem.intText? a = some n ∧ a.length ≤ 640 ∧ Q (.int n) H
theorem cr_intT : CallR X (.type "int") rIntT := by
  refine call_int1.or ?_
  intro pins s σ H xs us Q I r h
  obtain ⟨a, n, rfl, h1, h2, q⟩ := h
  exact call_int_str pins s σ H _ us Q I r ⟨a, n, rfl, h1, h2, q⟩
theorem cd_int : CallD K T rIntT D.toInt := by
  intro B m H x dx w rx Q Ee h
  unfold D.toInt at h
  split at h
  · cases rx.iint
    exact .inl (.inl ⟨_, rfl, h B _ H (.refl w) (.int _)⟩)
  · cases rx.ibl
    exact .inl (.inr ⟨_, rfl, h B _ H (.refl w) (.int _)⟩)
  · split at h
    · split at h
      · rename_i x _ n e hz
        cases rx.istr
        exact .inr ⟨x, n, rfl, e, hz, h B _ H (.refl w) (.int _)⟩
      · exact h.elim
    · exact h.elim
  · exact h.elim
theorem cd_bool : CallD K T (fun xs H Q => (∃ i, xs = [.int i] ∧ Q (.bl (i != 0)) H) ∨ ∃ k, xs = [.bl k] ∧ Q (.bl k) H) D.toBool := by
  intro B m H x dx w rx Q Ee h
  unfold D.toBool at h
  split at h
  · cases rx.iint
    exact .inl ⟨_, rfl, h B _ H (.refl w) (.bl _)⟩
  · cases rx.ibl
    exact .inr ⟨_, rfl, h B _ H (.refl w) (.bl _)⟩
  · exact h.elim
theorem cd_str : CallD K T (fun xs H Q => ∃ i : Int, xs = [.int i] ∧ i.natAbs.log2 < 1920 ∧ Q (.str (toString i)) H) D.toStr := by
  intro B m H x dx w rx Q Ee h
  unfold D.toStr at h
  split at h
  · split at h
    · rename_i hz
      cases rx.iint
      exact ⟨_, rfl, hz, h B _ H (.refl w) (.str _)⟩
    · exact h.elim
  · exact h.elim
theorem cd_max2 : CallD2 K T (fun xs H Q => ∃ i j, xs = [.int i, .int j] ∧ Q (.int (if j > i then j else i)) H) D.max2 := by
  intro B m H x y dx dy w rx ry Q Ee h
  unfold D.max2 at h
  split at h
  · cases rx.iint
    cases ry.iint
    exact ⟨_, _, rfl, h B _ H (.refl w) (.int _)⟩
  · exact h.elim
theorem cd_min2 : CallD2 K T (fun xs H Q => ∃ i j, xs = [.int i, .int j] ∧ Q (.int (if j < i then j else i)) H) D.min2 := by
  intro B m H x y dx dy w rx ry Q Ee h
  unfold D.min2 at h
  split at h
  · cases rx.iint
    cases ry.iint
    exact ⟨_, _, rfl, h B _ H (.refl w) (.int _)⟩
  · exact h.elim
theorem cd_sum : CallD K T (rSum K) D.sum := by
  intro B m H x dx w rx Q Ee h
  unfold D.sum at h
  split at h
  · split at h
    · rename_i ns e
      cases asInts_eq e
      obtain ⟨a, vs, rfl, h1, h2⟩ := rx.ilst w
      cases h2.ints
      exact ⟨a, ns, rfl, .inl h1, h B _ H (.refl w) (.int _)⟩
    · exact h.elim
  · exact h.elim
theorem cd_all : CallD K T (rAll K) D.all := by
  intro B m H x dx w rx Q Ee h
  unfold D.all at h
  split at h
  · split at h
    · rename_i ns e
      cases asBools_eq e
      obtain ⟨a, vs, rfl, h1, h2⟩ := rx.ilst w
      cases h2.bls
      exact ⟨a, ns, rfl, .inl h1, h B _ H (.refl w) (.bl _)⟩
    · exact h.elim
  · exact h.elim
theorem cd_any : CallD K T (rAny K) D.any := by
  intro B m H x dx w rx Q Ee h
  unfold D.any at h
  split at h
  · split at h
    · rename_i ns e
      cases asBools_eq e
      obtain ⟨a, vs, rfl, h1, h2⟩ := rx.ilst w
      cases h2.bls
      exact ⟨a, ns, rfl, .inl h1, h B _ H (.refl w) (.bl _)⟩
    · exact h.elim
  · exact h.elim
theorem cd_min : CallD K T (rMin K) D.minL := by
  intro B m H x dx w rx Q Ee h
  unfold D.minL at h
  split at h
  · split at h
    · rename_i n ns e
      cases asInts_eq e
      obtain ⟨a, vs, rfl, h1, h2⟩ := rx.ilst w
      cases h2.ints
      refine ⟨a, n :: ns, rfl, .inl h1, by simp, fun k hk hy => ?_⟩
      obtain ⟨m1, m2⟩ := minI_mem (l := n :: ns) (by simp)
      have : k = minI (n :: ns) := Int.le_antisymm (hy _ m1) (m2 _ hk)
      rw [this]
      exact h B _ H (.refl w) (.int _)
    · exact h.elim
  · exact h.elim
theorem cd_max : CallD K T (rMax K) D.maxL := by
  intro B m H x dx w rx Q Ee h
  unfold D.maxL at h
  split at h
  · split at h
    · rename_i n ns e
      cases asInts_eq e
      obtain ⟨a, vs, rfl, h1, h2⟩ := rx.ilst w
      cases h2.ints
      refine ⟨a, n :: ns, rfl, .inl h1, by simp, fun k hk hy => ?_⟩
      obtain ⟨m1, m2⟩ := maxI_mem (l := n :: ns) (by simp)
      have : k = maxI (n :: ns) := Int.le_antisymm (m2 _ hk) (hy _ m1)
      rw [this]
      exact h B _ H (.refl w) (.int _)
    · exact h.elim
  · exact h.elim
theorem lst_st {vs : List V} {xs : List D} {B H : Hp} {m : OM} {a : Addr} (w : Own K T B m H) (h : VRep K B m (.ref a) (.tup xs)) : Rep K B (.ref a) (.tup xs) := tup_st (vs := vs) w h
theorem cd_tuple : CallD K T (fun xs H Q => ∃ p ys, xs = [.ref p] ∧ ((SqL K H p ys ∧ ∀ l, H l = none → Q (.ref l) (upd H l (.tup ys))) ∨ (SqT K H p ys ∧ Q (.ref p) H))) D.toTup := by
  intro B m H x dx w rx Q Ee h
  unfold D.toTup at h
  split at h
  · obtain ⟨a, vs, rfl, h1, h2⟩ := rx.ilst w
    exact ⟨a, vs, rfl, .inl ⟨.inl h1, fin_tup w h2 h⟩⟩
  · have rx' := rx
    obtain ⟨a, vs, rfl, h1, h2⟩ := rx.itup w
    exact ⟨a, vs, rfl, .inr ⟨h1, h B _ H (.refl w) (tup_st (vs := vs) w rx')⟩⟩
  · exact h.elim
theorem cl_list : CallL K T (fun xs H Q => ∃ p ys, xs = [.ref p] ∧ (SqL K H p ys ∨ SqT K H p ys) ∧ ∀ l, H l = none → Q (.ref l) (upd H l (.lst ys))) D.toLst := by
  intro B m H x dx w rx Q Ee h
  unfold D.toLst at h
  split at h
  · obtain ⟨a, vs, rfl, h1, h2⟩ := rx.ilst w
    exact ⟨a, vs, rfl, .inl (.inl h1), fin_new w h2 h⟩
  · obtain ⟨a, vs, rfl, h1, h2⟩ := rx.itup w
    exact ⟨a, vs, rfl, .inr h1, fin_new w h2 h⟩
  · exact h.elim
theorem RepL.ofInts {B : Hp} : ∀ ns : List Int, RepL K B (ns.map V.int) (ns.map D.int)
  | [] => .nil
  | n :: ns => .cons (.int n) (RepL.ofInts ns)
theorem cl_sorted : CallL K T (rSorted K) D.sortedI := by
  intro B m H x dx w rx Q Ee h
  unfold D.sortedI at h
  split at h
  · split at h
    · split at h
      · rename_i ns e hz
        cases asInts_eq e
        obtain ⟨a, vs, rfl, h1, h2⟩ := rx.ilst w
        cases h2.ints
        refine ⟨a, ns, rfl, .inl h1, hz, fun ns' p hp hs hn => ?_⟩
        cases sortI_eq hp hs
        exact fin_new w (RepL.ofInts _) h p hn
      · exact h.elim
    · exact h.elim
  · exact h.elim
theorem ty_tup {B H : Hp} {m : OM} {a : Addr} {vs : List V} (h : SqT K H a vs) : TyX K H (.ref a) (.type "tuple") := by
  rcases h with (h | ⟨o, h⟩) | ⟨o, its, n, h1, h2, _⟩
  · exact .base (.tup h)
  · exact .fTuple h
  · exact .kTuple h1 h2
theorem ty_lst {H : Hp} {a : Addr} {vs : List V} (h : Rd H a (.lst vs)) : TyX K H (.ref a) (.type "list") := by
  rcases h with h | ⟨o, h⟩
  · exact .base (.lst h)
  · exact .base (.frz h)
theorem isi_core {B H : Hp} {m : OM} {x : V} {d : D} {t : String} (w : Own K T B m H) (rx : VRep K B m x d) (ht : t = "int" ∨ t = "bool" ∨ t = "tuple" ∨ t = "str" ∨ t = "list") {P : D → Prop} {Ee : Err → Prop} (h : (D.isi t d).sat P Ee) :
    ∃ (u : Value) (b : Bool), TyX K H x u ∧ PySem.W.kitOne K u (.type t) = some b ∧ P (.bl b) := by
  unfold D.isi at h
  split at h
  · cases rx.inon
    rcases ht with rfl | rfl | rfl | rfl | rfl <;> exact ⟨_, _, .base .non, kit_ty (by decide +kernel), h⟩
  · cases rx.ibl
    rcases ht with rfl | rfl | rfl | rfl | rfl <;> exact ⟨_, _, .base (.bl _), kit_ty (by decide +kernel), h⟩
  · cases rx.iint
    rcases ht with rfl | rfl | rfl | rfl | rfl <;> exact ⟨_, _, .base (.int _), kit_ty (by decide +kernel), h⟩
  · cases rx.istr
    rcases ht with rfl | rfl | rfl | rfl | rfl <;> exact ⟨_, _, .base (.str _), kit_ty (by decide +kernel), h⟩
  · obtain ⟨a, vs, rfl, h1, h2⟩ := rx.itup w
    rcases ht with rfl | rfl | rfl | rfl | rfl <;> exact ⟨_, _, ty_tup (B := B) (m := m) h1, kit_ty (by decide +kernel), h⟩
  · obtain ⟨a, vs, rfl, h1, h2⟩ := rx.ilst w
    rcases ht with rfl | rfl | rfl | rfl | rfl <;> exact ⟨_, _, ty_lst h1, kit_ty (by decide +kernel), h⟩
  · exact h.elim
end
section
variable {T : Tb} {X : Cx} {ds : DS} {m m' m1 : OM} {pos p p2 : Pos} {a b c e : Expr} {es : List Expr} {ra rb rc r : R D}
theorem ev_isi {x : Str} {t : String} (hm : X.mg "isinstance" = none) (hmt : X.mg x = none) (hvt : bootBuiltins x = some (.type t)) (ha : EVw T X ds m e r) (ht : t = "int" ∨ t = "bool" ∨ t = "tuple" ∨ t = "str" ∨ t = "list" := by first | exact .inl rfl | exact .inr (.inl rfl) | exact .inr (.inr (.inl rfl)) | exact .inr (.inr (.inr (.inl rfl))) | exact .inr (.inr (.inr (.inr rfl))))
    (hg : Gl X "isinstance" := by rfl) (hgt : Gl X x := by rfl) (hn : x ≠ "__name__" := by decide) (hdb : (x == ("__debug__" : Str)) = false := by decide)
    (hst : starEach [e, .Name x p2] X.env = (false, eval e X.env) :: starEach [.Name x p2] X.env := by exact se1 rfl) (hpl : (backTo pos (starEach [.Name x p2] X.env)).any (·.1) = false := by exact sepl rfl) :
    EV T X ds m (.Call (.Name "isinstance" p) [e, .Name x p2] [] pos) (r.bind (D.isi t)) := by
  intro W tk B σ H hs w Q q
  refine wpE.of (pe_callB call_isi hg hm (by decide +kernel) (pa_cons (pe_wp X e) (pa_cons (pe_bltn (v := .ty t) hgt hmt hvt rfl hn hdb) pa_nil) hst) (by decide) (by decide) hst hpl) (ha W tk B σ H hs w _ (R.sat_mono (R.sat_bind q) (fun d hd B1 v1 H1 g1 r1 => ?_) fun _ z => z))
  obtain ⟨u, k, h1, h2, h3⟩ := isi_core g1.own r1 ht hd
  exact ⟨v1, .ty t, u, .type t, k, rfl, .ty t, h1, h2, h3 B1 _ H1 g1 (.bl _)⟩
end
end DL
namespace DL
open PySem PySem.Spec PyProof.Rows L2
open Evl (Ex ex_l ex_t ex_rd)

theorem Go.frameR {K : PySem.W.Frag} {T : Tb} {B B' H H' : Hp} {mf mf' mr : OM} (g : Go K T B mf H B' mf' H') (w : Own K T B (mf ++ mr) H) : Go K T B (mf ++ mr) H B' (mf' ++ mr) H' := by
  have nd := w.nd
  rw [List.map_append, List.nodup_append] at nd
  obtain ⟨n1, n2, n3⟩ := nd
  have cell : ∀ q ∈ mr, ∃ u, H q.1 = some u ∧ (∀ ps, u ≠ .tbl ps) ∧ H' q.1 = some u ∧ q.1 ∉ mf.map (·.1) ∧ B q.1 = none ∧ MoAt K B H q.1 q.2 := fun q hq => by
    obtain ⟨h1, h2⟩ := w.at_ q (List.mem_append_right _ hq)
    obtain ⟨u, hu, nt⟩ := h2.there
    have hn : q.1 ∉ mf.map (·.1) := fun z => n3 _ z _ (List.mem_map.mpr ⟨q, hq, rfl⟩) rfl
    exact ⟨u, hu, nt, g.frame _ u hu nt hn, hn, h1, h2⟩
  refine ⟨g.ex, ⟨g.own.ex, fun q hq => ?_, ?_, g.own.tb, g.own.nt⟩, fun a o e nt ha => ?_, fun a ha => ?_, fun a o e => ?_⟩
  · rcases List.mem_append.mp hq with hq | hq
    · exact g.own.at_ q hq
    · obtain ⟨u, hu, nt, hu', hn, hB, hm⟩ := cell q hq
      refine ⟨?_, hm.mono g.ex fun u2 e2 => ?_⟩
      · cases e : B' q.1 with
        | none => rfl
        | some o =>
          rcases g.grow _ o e with z | z | z | ⟨xs, z⟩ | ⟨xs, z⟩
          · rw [hB] at z; cases z
          · exact absurd z hn
          · obtain ⟨ps, e2⟩ := z u hu
            exact absurd e2 (nt ps)
          · exact absurd z (hm.ntup xs)
          · exact absurd z (hm.next xs)
      · rw [hu] at e2; cases e2; exact hu'
  · rw [List.map_append, List.nodup_append]
    refine ⟨g.own.nd, n2, fun a ha b hb e => ?_⟩
    subst e
    obtain ⟨q, hq, rfl⟩ := List.mem_map.mp hb
    obtain ⟨u, hu, nt, hu', hn, hB, hm⟩ := cell q hq
    rcases g.fresh _ ha with z | z
    · exact hn z
    · obtain ⟨ps, e2⟩ := z u hu
      exact nt ps e2
  · rw [List.map_append, List.mem_append] at ha
    exact g.frame a o e nt fun z => ha (.inl z)
  · rw [List.map_append, List.mem_append] at ha ⊢
    rcases ha with ha | ha
    · rcases g.fresh a ha with z | z
      · exact .inl (.inl z)
      · exact .inr z
    · exact .inl (.inr ha)
  · rcases g.grow a o e with z | z | z
    · exact .inl z
    · rw [List.map_append, List.mem_append]; exact .inr (.inl (.inl z))
    · exact .inr (.inr z)

/-! ### a def's promise -/
def spD (K : PySem.W.Frag) (T : Tb) (mg : Str → Option Value) (Tr : List D → OM → R (RD × OM) → Prop) : Sp := fun vs H Q E =>
  ∃ (B : Hp) (m : OM) (ds : List D) (r : R (RD × OM)), RepL K B vs ds ∧ Own K T B m H ∧ Tr ds m r ∧
    r.sat (fun p => RtP K T B m H p Q) fun er => ∀ B' H' cls dd, Go K T B m H B' [] H' → ErrAt mg H' er cls dd → E cls dd H'
/-- no owned argument -/
def trP (n : Nat) (rf : List D → R D) : List D → OM → R (RD × OM) → Prop := fun ds m r => ds.length = n ∧ m = [] ∧ r = (rf ds).map fun d => (.val d, [])
/-- .. the answer a new list -/
def trL (n : Nat) (rf : List D → R (List D)) : List D → OM → R (RD × OM) → Prop := fun ds m r => ds.length = n ∧ m = [] ∧ r = (rf ds).map fun d => (.new d, [])
/-- the first argument an owned list -/
def trC (n : Nat) (rf : List D → List D → R (D × List D)) : List D → OM → R (RD × OM) → Prop := fun ds m r => ∃ p xs rest, ds = .ref p :: rest ∧ rest.length + 1 = n ∧ m = [(p, .l xs)] ∧ r = (rf xs rest).map fun q => (.val q.1, [(p, .l q.2)])
/-- .. the answer a new list -/
def trCL (n : Nat) (rf : List D → List D → R (List D × List D)) : List D → OM → R (RD × OM) → Prop := fun ds m r => ∃ p xs rest, ds = .ref p :: rest ∧ rest.length + 1 = n ∧ m = [(p, .l xs)] ∧ r = (rf xs rest).map fun q => (.new q.1, [(p, .l q.2)])
abbrev FnP (P : Program) (w : World) (K : PySem.W.Frag) (mg : Str → Option Value) (base : Heap) (T : Tb) (k : Nat) (f : Addr) (fd : FuncData) (ps : List Str) (rf : List D → R D) : Prop := FnOk P w K mg base (L2.CX P w) k f fd ps (spD K T mg (trP ps.length rf))
abbrev FnC (P : Program) (w : World) (K : PySem.W.Frag) (mg : Str → Option Value) (base : Heap) (T : Tb) (k : Nat) (f : Addr) (fd : FuncData) (ps : List Str) (rf : List D → List D → R (D × List D)) : Prop := FnOk P w K mg base (L2.CX P w) k f fd ps (spD K T mg (trC ps.length rf))
abbrev FnL (P : Program) (w : World) (K : PySem.W.Frag) (mg : Str → Option Value) (base : Heap) (T : Tb) (k : Nat) (f : Addr) (fd : FuncData) (ps : List Str) (rf : List D → R (List D)) : Prop := FnOk P w K mg base (L2.CX P w) k f fd ps (spD K T mg (trL ps.length rf))
abbrev FnCL (P : Program) (w : World) (K : PySem.W.Frag) (mg : Str → Option Value) (base : Heap) (T : Tb) (k : Nat) (f : Addr) (fd : FuncData) (ps : List Str) (rf : List D → List D → R (List D × List D)) : Prop := FnOk P w K mg base (L2.CX P w) k f fd ps (spD K T mg (trCL ps.length rf))
/-- what a caller needs of a def -/
structure Cal (K : PySem.W.Frag) (mg : Str → Option Value) (A : Around) (x : Str) (f : Addr) (fd : FuncData) (ps : List Str) (k : Nat) : Prop where
  mg : mg x = some (.ref f)
  kp : PySem.W.keepIn K (.ref f) = true
  bi : Binds K fd ps []
  hr : Room k A
section
variable {T : Tb} {X : Cx} {ds : DS} {m m' m1 : OM} {pos p p2 : Pos} {a b c e : Expr} {es : List Expr} {ra rb rc r : R D} {x : Str} {f : Addr} {fd : FuncData} {ps : List Str} {k : Nat}
theorem sp_pure {W : WX} {B H : Hp} {σ : St} {n : Nat} {rf : List D → R D} {vs : List V} {xs : List D} {Q : VK} (w : Own X.K T B m H) (rv : RepL X.K B vs xs) (hn : xs.length = n)
    (h : (rf xs).sat (fun d => ∀ B' v H', Go X.K T B m H B' m H' → Rep X.K B' v d → Q v H') (EK T X W B m σ H m)) : spD X.K T X.mg (trP n rf) vs H Q (WE W σ) := by
  refine ⟨B, [], xs, _, rv, w.sub (List.nil_sublist _), ⟨hn, rfl, rfl⟩, R.sat_map' (R.sat_mono h (fun d hd B' v H' g r => hd B' v H' (g.frameR (mr := m) w) r) fun er he B' H' cls dd g ea => he B' H' cls dd (g.frameR (mr := m) w) ea)⟩
theorem len_of {rf : List D → R D} {n : Nat} (hrf : ∀ xs : List D, xs.length ≠ n → rf xs = .ub) {xs : List D} {P : D → Prop} {Qe : Err → Prop} (h : (rf xs).sat P Qe) : xs.length = n := by
  by_cases e : xs.length = n
  · exact e
  · rw [hrf xs e] at h; exact False.elim h
theorem ev_call {rf : List D → R D} {rs : R (List D)} (F : FnP X.prog X.w X.K X.mg X.base T k f fd ps rf) (C : Cal X.K X.mg X.A x f fd ps k) (hrf : ∀ xs : List D, xs.length ≠ ps.length → rf xs = .ub) (ha : EAp T X ds m (e :: es) rs) (hg : Gl X x := by rfl) (hdb : (x == ("__debug__" : Str)) = false := by decide)
    (hst : starEach (e :: es) X.env = (false, eval e X.env) :: starEach es X.env := by exact se1 rfl) (hpl : (backTo pos (starEach es X.env)).any (·.1) = false := by exact sepl rfl) : EV T X ds m (.Call (.Name x p) (e :: es) [] pos) (rs.bind rf) := by
  intro W tk B σ H hs w Q q
  refine wpE.of (pe_callS F C.hr hg C.mg C.kp C.bi (fun σ => passAt tk σ) (pa_wp X (e :: es)) hdb hst hpl) ?_
  refine ha W tk B σ H hs w _ (R.sat_mono (R.sat_bind q) (fun xs hx B1 vs H1 g1 r1 => ?_) fun _ z => z)
  exact sp_pure (W := W) g1.own r1 (len_of hrf hx) (R.sat_mono hx (fun d hd B' v H' g r => hd B' v H' (g1.trans g) r) fun _ z => z.go g1)
theorem pe_call0S {CX : CXT} {sp : Sp} {E : St → XK} (F : FnOk X.prog X.w X.K X.mg X.base CX k f fd ps sp) (hr : Room k X.A) (hg : Gl X x) (hm : X.mg x = some (.ref f)) (hk : PySem.W.keepIn X.K (.ref f) = true) (hb : Binds X.K fd ps []) (hx : ∀ σ, PassesAt CX X σ (E σ))
    (hdb : (x == ("__debug__" : Str)) = false := by decide) : PE X (.Call (.Name x p) [] [] pos) (fun σ H Q => sp [] H Q (E σ)) := by
  refine ⟨fun pins s σ H Q I h => ?_⟩
  refine wpAny_Call_Name_kw (ld_glob I hg hm ?_ hdb)
  exact PySem.W.callWith_K0 I.kIn hk (run_fnS (us := []) F hr hb (hx σ) I .nil h)
theorem ev_call0 {rf : List D → R D} (F : FnP X.prog X.w X.K X.mg X.base T k f fd ps rf) (C : Cal X.K X.mg X.A x f fd ps k) (hrf : ∀ xs : List D, xs.length ≠ ps.length → rf xs = .ub) (hg : Gl X x := by rfl) (hdb : (x == ("__debug__" : Str)) = false := by decide) : EV T X ds m (.Call (.Name x p) [] [] pos) (rf []) := by
  intro W tk B σ H hs w Q q
  refine wpE.of (pe_call0S F C.hr hg C.mg C.kp C.bi (fun σ => passAt tk σ) hdb) ?_
  exact sp_pure (W := W) w .nil (len_of hrf q) q
theorem sp_pureL {W : WX} {B H : Hp} {σ : St} {n : Nat} {rf : List D → R (List D)} {vs : List V} {xs : List D} {Q : VK} (w : Own X.K T B m H) (rv : RepL X.K B vs xs) (hn : xs.length = n)
    (h : (rf xs).sat (fun d => ∀ B' p vs H', Go X.K T B m H B' m H' → B' p = none → Fre H p → p ∉ m.map (·.1) → H' p = some (.lst vs) → RepL X.K B' vs d → Q (.ref p) H') (EK T X W B m σ H m)) : spD X.K T X.mg (trL n rf) vs H Q (WE W σ) := by
  refine ⟨B, [], xs, _, rv, w.sub (List.nil_sublist _), ⟨hn, rfl, rfl⟩, R.sat_map' (R.sat_mono h (fun d hd B' p vs H' g hB hf hm hp r => ?_) fun er he B' H' cls dd g ea => he B' H' cls dd (g.frameR (mr := m) w) ea)⟩
  rcases hf with z | hf
  · cases z
  · exact hd B' p vs H' (g.frameR (mr := m) w) hB hf (w.notIn hf) hp r
theorem len_ofL {rf : List D → R (List D)} {n : Nat} (hrf : ∀ xs : List D, xs.length ≠ n → rf xs = .ub) {xs : List D} {P : List D → Prop} {Qe : Err → Prop} (h : (rf xs).sat P Qe) : xs.length = n := by
  by_cases e : xs.length = n
  · exact e
  · rw [hrf xs e] at h; exact False.elim h
theorem el_call {rf : List D → R (List D)} {rs : R (List D)} (F : FnL X.prog X.w X.K X.mg X.base T k f fd ps rf) (C : Cal X.K X.mg X.A x f fd ps k) (hrf : ∀ xs : List D, xs.length ≠ ps.length → rf xs = .ub) (ha : EAp T X ds m (e :: es) rs) (hg : Gl X x := by rfl) (hdb : (x == ("__debug__" : Str)) = false := by decide)
    (hst : starEach (e :: es) X.env = (false, eval e X.env) :: starEach es X.env := by exact se1 rfl) (hpl : (backTo pos (starEach es X.env)).any (·.1) = false := by exact sepl rfl) : ELp T X ds m (.Call (.Name x p) (e :: es) [] pos) (rs.bind rf) := by
  intro W tk B σ H hs w Q q
  refine wpE.of (pe_callS F C.hr hg C.mg C.kp C.bi (fun σ => passAt tk σ) (pa_wp X (e :: es)) hdb hst hpl) ?_
  refine ha W tk B σ H hs w _ (R.sat_mono (R.sat_bind q) (fun xs hx B1 vs H1 g1 r1 => ?_) fun _ z => z)
  exact sp_pureL (W := W) g1.own r1 (len_ofL hrf hx) (R.sat_mono hx (fun d hd B' p vs H' g hB hf hm hp r => hd B' p vs H' (g1.trans g) hB (Fre.back g1 hf hm) hm hp r) fun _ z => z.go g1)
/-- the first argument is the cell in front -/
theorem ex_callC {τ : Type} {M : τ → OM} {pc : Addr} {t : List D × τ} {rf : List D → List D → R (D × List D)} {rs : R (List D)} (F : FnC X.prog X.w X.K X.mg X.base T k f fd ps rf) (C : Cal X.K X.mg X.A x f fd ps k) (hrf : ∀ c xs : List D, xs.length + 1 ≠ ps.length → rf c xs = .ub)
    (he : EV T X ds ((pc, .l t.1) :: M t.2) e (.ok (.ref pc))) (ha : EAp T X ds ((pc, .l t.1) :: M t.2) es rs) (hg : Gl X x := by rfl) (hdb : (x == ("__debug__" : Str)) = false := by decide)
    (hst : starEach (e :: es) X.env = (false, eval e X.env) :: starEach es X.env := by exact se1 rfl) (hpl : (backTo pos (starEach es X.env)).any (·.1) = false := by exact sepl rfl) :
    EXt T X ds (fun t : List D × τ => (pc, .l t.1) :: M t.2) t (.Call (.Name x p) (e :: es) [] pos) (rs.bind fun xs => (rf t.1 xs).map fun q => (q.1, (q.2, t.2))) := by
  intro W tk B σ H hs w Q q
  refine wpE.of (pe_callS F C.hr hg C.mg C.kp C.bi (fun σ => passAt tk σ) (pa_cons (pe_wp X e) (pa_wp X es) hst) hdb hst hpl) ?_
  have q := R.sat_bind (R.sat_map q)
  refine he W tk B σ H hs w _ fun B0 v0 H0 g0 r0 => ?_
  cases r0.iref
  refine ha W tk B0 σ H0 (hs.mono g0.ex) g0.own _ (R.sat_mono q (fun xs hx B1 vs H1 g1 r1 => ?_) fun _ z => z.lost.go g0)
  have g01 := g0.trans g1
  have hx := R.sat_map hx
  have hn : xs.length + 1 = ps.length := by
    by_cases e : xs.length + 1 = ps.length
    · exact e
    · rw [hrf _ xs e] at hx; exact False.elim hx
  refine ⟨B1, [(pc, .l t.1)], .ref pc :: xs, _, .cons (.ref pc) r1, g1.own.sub (.cons₂ _ (List.nil_sublist _)), ⟨pc, t.1, xs, rfl, hn, rfl, rfl⟩, R.sat_map' (R.sat_mono hx (fun d hd B' v H' g r => ?_) fun er he B' H' cls dd g ea => ?_)⟩
  · exact hd B' v H' (g01.trans (g.frameR (mr := M t.2) g1.own)) r
  · exact he B' H' cls dd ((g01.trans (g.frameR (mr := M t.2) g1.own)).sub (List.nil_sublist _)) ea
end

/-! ### a def's body -/
def FBody (T : Tb) (X : Cx) (ds : DS) (m : OM) (ss : List Stmt) (r : R (RD × OM)) : Prop :=
  ∀ (W : WX), Takes X W → ∀ (B : Hp) (σ : St) (H : Hp), Sl X.K B σ ds → Own X.K T B m H → ∀ Q : VK,
    r.sat (fun p => RtP X.K T B m H p Q) (EB X T W B m H) → wpSs X ss { nx := fun _ H' => Q .non H', rt := Q } σ H
def startD (N : List Str) (ds : List D) : DS := ds.map some ++ List.replicate (N.length - ds.length) none
theorem sl_start {K : PySem.W.Frag} {B : Hp} {N : List Str} {vs : List V} {ds : List D} (r : RepL K B vs ds) : Sl K B (L2.start N vs) (startD N ds) := by
  refine ⟨?_, fun i d h => ?_⟩
  · unfold L2.start startD
    rw [List.length_append, List.length_append, List.length_map, List.length_map, List.length_replicate, List.length_replicate, r.length]
  · unfold startD at h
    by_cases hi : i < ds.length
    · rw [List.getElem?_append_left (by simpa using hi), List.getElem?_map] at h
      have e : ds[i]? = some d := by
        cases q : ds[i]? with
        | none => rw [q] at h; cases h
        | some u => rw [q] at h; cases h; rfl
      obtain ⟨v, h1, h2⟩ := r.get e
      refine ⟨v, ?_, h2⟩
      unfold L2.start
      have hl := r.length
      rw [List.getElem?_append_left (by rw [List.length_map]; omega), List.getElem?_map, h1]
      rfl
    · rw [List.getElem?_append_right (by simpa using hi), List.getElem?_replicate] at h
      split at h <;> cases h
theorem fn_body {P : Program} {w : World} {K : PySem.W.Frag} {mg : Str → Option Value} {base : Heap} {T : Tb} {x qual : Str} {st : Stmt} {f : Addr} {fd : FuncData} {N ps : List Str} {k : Nat} {Tr : List D → OM → R (RD × OM) → Prop} (F : Fun K x qual st f fd) (S : FnScope N ps (defScope st))
    (len : ∀ ds m r, Tr ds m r → ds.length = ps.length)
    (hb : ∀ (cdv : Value) (A : Around) (outer : List Env) (s : Shared) (H : Hp) (E : XK), Room k (A.deeper (envOfC qual (defScope st) s.heap.objs.size f cdv)) → ∀ ds m r, Tr ds m r →
      FBody T (cxOf (L2.CX P w) P w K mg base N qual (defScope st) f cdv A outer s H E) (startD N ds) m (defBody st) r) : FnOk P w K mg base (L2.CX P w) (k + 1) f fd ps (spD K T mg Tr) := by
  refine F.okX S (fun vs H Q E h => ?_) (fun cdv A outer s H vs Q E hr h => ?_)
  · obtain ⟨B, m, ds, r, h1, _, h3, _⟩ := h
    rw [h1.length]
    exact len ds m r h3
  · obtain ⟨B, m, ds, r, h1, h2, h3, h4⟩ := h
    refine ⟨_, pss_wp _ _, hb cdv A outer s H E hr ds m r h3 (fun cls d σ H => E cls d H) (takes_of rfl rfl rfl rfl) B _ H (sl_start h1) h2 Q (R.sat_mono h4 (fun p hp => hp) fun er he B' σ' H' cls dd g ea => he B' H' cls dd g ea)⟩
end DL
namespace DL
open PySem PySem.Spec PyProof.Rows L2
open Evl (Ex ex_l ex_t ex_rd)

namespace Fl
variable {S S' L γ : Type}
/-- a block that does not fall through, in the place of one that may -/
def up : Fl Empty L γ → Fl S L γ
  | .nx s => nomatch s
  | .rt g => .rt g
  | .bk l => .bk l
  | .ct l => .ct l
/-- what follows -/
def next (k : S' → R (Fl S L γ)) : Fl S' L γ → R (Fl S L γ)
  | .nx s => k s
  | .rt g => .ok (.rt g)
  | .bk l => .ok (.bk l)
  | .ct l => .ok (.ct l)
/-- behind a loop -/
def after (k : S' → R (Fl S L γ)) : Fl S' Empty γ → R (Fl S L γ)
  | .nx s => k s
  | .rt g => .ok (.rt g)
  | .bk l => nomatch l
  | .ct l => nomatch l
/-- a def's answer -/
def val : Fl Unit Empty D → R D
  | .nx _ => .ok .non
  | .rt d => .ok d
  | .bk l => nomatch l
  | .ct l => nomatch l
def valL : Fl Unit Empty (List D) → R (List D)
  | .nx _ => .ub
  | .rt d => .ok d
  | .bk l => nomatch l
  | .ct l => nomatch l
def valCL {τ : Type} : Fl τ Empty (List D × τ) → R (List D × τ)
  | .nx _ => .ub
  | .rt d => .ok d
  | .bk l => nomatch l
  | .ct l => nomatch l
def valC {τ : Type} : Fl τ Empty (D × τ) → R (D × τ)
  | .nx s => .ok (.non, s)
  | .rt d => .ok d
  | .bk l => nomatch l
  | .ct l => nomatch l
end Fl
/-- the exits of a def -/
abbrev exP (n : Nat) : Exits Unit Empty D := ⟨fnx fun _ => (List.replicate n none, []), fun l => l.elim, fun d => (.val d, [])⟩
abbrev exL (n : Nat) : Exits Unit Empty (List D) := ⟨fnx fun _ => (List.replicate n none, []), fun l => l.elim, fun d => (.new d, [])⟩
abbrev exC (n : Nat) (p : Addr) : Exits (List D) Empty (D × List D) := ⟨fnx fun xs => (List.replicate n none, [(p, .l xs)]), fun l => l.elim, fun q => (.val q.1, [(p, .l q.2)])⟩
abbrev exCL (n : Nat) (p : Addr) : Exits (List D) Empty (List D × List D) := ⟨fnx fun xs => (List.replicate n none, [(p, .l xs)]), fun l => l.elim, fun q => (.new q.1, [(p, .l q.2)])⟩

section
variable {T : Tb} {X : Cx} {ds : DS} {m m' m1 : OM} {W : WX} {B B1 H H1 : Hp} {σ σ1 : St}
variable {S S' L γ : Type} {E : Exits S L γ}
theorem EB.go {er : Err} (g : Go X.K T B m H B1 m1 H1) (h : EB X T W B m H er) : EB X T W B1 m1 H1 er := fun B' σ' H' cls dd g' => h B' σ' H' cls dd (g.trans g')
theorem EB.ek {er : Err} (h : EB X T W B m H er) : EK T X W B m σ H m' er := fun B' H' cls dd g' => h B' σ H' cls dd (g'.sub (List.nil_sublist _))
theorem Lands.go {t : DS → OM → Prop} {N : St → Hp → Prop} (g : Go X.K T B m H B1 m1 H1) (h : Lands X.K T B m H t N) : Lands X.K T B1 m1 H1 t N := fun ds' m' ht B' σ' H' g' s => h ds' m' ht B' σ' H' (g.trans g') s
theorem SBpost.go {D : Ends} {fl : Fl S L γ} (g : Go X.K T B m H B1 m1 H1) (h : SBpost X.K T B m H E D fl) : SBpost X.K T B1 m1 H1 E D fl := by
  cases fl with
  | nx s => exact Lands.go g h
  | bk l => exact Lands.go g h
  | ct l => exact Lands.go g h
  | rt q => exact RtP.go g h
theorem SB.cont {ds1 : DS} {rest : List Stmt} {r : R (Fl S L γ)} {D : Ends} (h : SB T X ds1 m1 rest E r) (tk : Takes X W) (g : Go X.K T B m H B1 m1 H1) (hs : Sl X.K B1 σ1 ds1) (q : r.sat (SBpost X.K T B m H E D) (EB X T W B m H)) : wpSs X rest D σ1 H1 :=
  h W tk B1 σ1 H1 hs g.own D (R.sat_mono q (fun _ z => z.go g) fun _ z => z.go g)
variable {st : Stmt} {rest : List Stmt} {pos pos' p p2 : Pos} {e a b c : Expr} {re : R D} {rl : R (List D)} {τ : Type} {M : τ → OM} {t : τ} {rx : R (D × τ)}

/-! ### ends -/
theorem sb_end {s : S} {ds' : DS} {m' : OM} (he : E.nx s ds' m') (hf : Fgt ds ds') (hm : m'.Sublist m) : SB T X ds m [] E (.ok (.nx s)) := fun W tk B σ H hs w D q =>
  wpSs.of pss_nil (q _ _ he B σ H ((Go.refl w).sub hm) (hs.fgt hf))
theorem sb_break {l : L} {ds' : DS} {m' : OM} (he : E.lp l ds' m') (hf : Fgt ds ds') (hm : m'.Sublist m) : SB T X ds m (.Break pos :: rest) E (.ok (.bk l)) := fun W tk B σ H hs w D q =>
  wpSs.of (pss_cons ps_break (pss_wp X rest)) (q _ _ he B σ H ((Go.refl w).sub hm) (hs.fgt hf))
theorem sb_continue {l : L} {ds' : DS} {m' : OM} (he : E.lp l ds' m') (hf : Fgt ds ds') (hm : m'.Sublist m) : SB T X ds m (.Continue pos :: rest) E (.ok (.ct l)) := fun W tk B σ H hs w D q =>
  wpSs.of (pss_cons ps_continue (pss_wp X rest)) (q _ _ he B σ H ((Go.refl w).sub hm) (hs.fgt hf))
theorem sb_pass {r : R (Fl S L γ)} (h : SB T X ds m rest E r) : SB T X ds m (.Pass pos :: rest) E r := fun W tk B σ H hs w D q =>
  wpSs.of (pss_cons ps_pass (pss_wp X rest)) (h W tk B σ H hs w D q)
theorem rt_val {B B' H H' : Hp} {m1 : OM} {mk : γ} {d : D} {v : V} {N : V → Hp → Prop} (hd : RtP X.K T B m H (E.rt mk) N) (h1 : (E.rt mk).1 = .val d) (h2 : (E.rt mk).2.Sublist m1) (g : Go X.K T B m H B' m1 H') (r : Rep X.K B' v d) : N v H' := by
  generalize E.rt mk = t at hd h1 h2
  obtain ⟨a, b⟩ := t
  cases h1
  exact hd B' v H' (g.sub h2) r
theorem rt_new {B B' H H' : Hp} {m1 : OM} {mk : γ} {xs : List D} {p : Addr} {vs : List V} {N : V → Hp → Prop} (hd : RtP X.K T B m H (E.rt mk) N) (h1 : (E.rt mk).1 = .new xs) (h2 : (E.rt mk).2.Sublist m1) (g : Go X.K T B m H B' m1 H') (hB : B' p = none) (hf : p ∈ m.map (·.1) ∨ Fre H p) (hm : p ∉ (E.rt mk).2.map (·.1)) (hp : H' p = some (.lst vs)) (r : RepL X.K B' vs xs) : N (.ref p) H' := by
  generalize E.rt mk = t at hd h1 h2 hm
  obtain ⟨a, b⟩ := t
  cases h1
  exact hd B' p vs H' (g.sub h2) hB hf hm hp r
theorem sb_ret (mk : D → γ) (he : EV T X ds m e re) (h1 : ∀ d, (E.rt (mk d)).1 = .val d := by intro _; rfl) (h2 : ∀ d, (E.rt (mk d)).2.Sublist m := by intro _; exact List.nil_sublist _) : SB T X ds m (.Return (some e) pos :: rest) E (re.bind fun d => .ok (.rt (mk d))) := fun W tk B σ H hs w D q =>
  wpSs.of (pss_cons (ps_ret (pe_wp X e)) (pss_wp X rest)) (he W tk B σ H hs w _ (R.sat_mono (R.sat_bind q) (fun d hd B' v H' g r => rt_val hd (h1 d) (h2 d) g r) fun _ z => z.ek))
theorem sb_retL (mk : List D → γ) (he : ELp T X ds m e rl) (h1 : ∀ d, (E.rt (mk d)).1 = .new d := by intro _; rfl) (h2 : ∀ d, (E.rt (mk d)).2.Sublist m := by intro _; exact List.nil_sublist _) : SB T X ds m (.Return (some e) pos :: rest) E (rl.bind fun d => .ok (.rt (mk d))) := fun W tk B σ H hs w D q =>
  wpSs.of (pss_cons (ps_ret (pe_wp X e)) (pss_wp X rest)) (he W tk B σ H hs w _ (R.sat_mono (R.sat_bind q) (fun d hd B' p vs H' g hB hf hm hp r => rt_new hd (h1 d) (h2 d) g hB (.inr hf) (fun z => hm (((h2 d).map _).subset z)) hp r) fun _ z => z.ek))
theorem sb_retLX {rx : R (List D × τ)} (mk : List D → τ → γ) (he : ELt T X ds M t e rx) (h1 : ∀ d u, (E.rt (mk d u)).1 = .new d := by intro _ _; rfl) (h2 : ∀ d u, (E.rt (mk d u)).2.Sublist (M u)) : SB T X ds (M t) (.Return (some e) pos :: rest) E (rx.bind fun q => .ok (.rt (mk q.1 q.2))) := fun W tk B σ H hs w D q =>
  wpSs.of (pss_cons (ps_ret (pe_wp X e)) (pss_wp X rest)) (he W tk B σ H hs w _ (R.sat_map' (R.sat_mono (R.sat_bind q) (fun d hd B' p vs H' g hB hf hm hp r => rt_new hd (h1 d.1 d.2) (h2 d.1 d.2) g hB hf (fun z => hm (((h2 d.1 d.2).map _).subset z)) hp r) fun _ z => z.ek)))
/-- an owned list is returned -/
theorem sb_retO (i : Nat) {x : Str} {pl : Addr} {xs : List D} {pre post : OM} (mk : γ) (h : ds[i]? = some (some (.ref pl))) (h1 : (E.rt mk).1 = .new xs := by rfl) (h2 : (E.rt mk).2.Sublist (pre ++ post) := by exact List.nil_sublist _) (hN : X.N[i]? = some x := by rfl) (hv : Vis X.env.scope x := by first | exact Or.inl rfl | exact Or.inr (Or.inl rfl) | exact Or.inr (Or.inr rfl)) (hd : (x == ("__debug__" : Str)) = false := by decide)
    (hcd : (x == ("__classdict__" : Str)) = false := by decide) : SB T X ds (pre ++ (pl, .l xs) :: post) (.Return (some (.Name x pos')) pos :: rest) E (.ok (.rt mk)) := fun W tk B σ H hs w D q => by
  refine wpSs.of (pss_cons (ps_ret (pe_var hN hv hd hcd)) (pss_wp X rest)) ?_
  obtain ⟨v, h3, h4⟩ := hs.at_ i _ h
  cases h4.iref
  obtain ⟨hB, vs, hp, rv⟩ := w.at_ (pl, .l xs) (by simp)
  have ndd : (pre.map (·.1) ++ pl :: post.map (·.1)).Nodup := by simpa using w.nd
  have hn : pl ∉ (pre ++ post).map (·.1) := by
    rw [List.map_append, List.mem_append]
    rintro (z | z)
    · exact (List.nodup_append.mp ndd).2.2 _ z pl (by simp) rfl
    · exact (List.nodup_cons.mp (List.nodup_append.mp ndd).2.1).1 z
  exact ⟨_, h3, rt_new (m1 := pre ++ post) q h1 h2 ((Go.refl w).sub (List.Sublist.append (List.Sublist.refl _) (List.sublist_cons_self _ _))) hB (.inl (by simp)) (fun z => hn ((h2.map _).subset z)) hp rv⟩
theorem sb_retX (mk : D → τ → γ) (he : EXt T X ds M t e rx) (h1 : ∀ d u, (E.rt (mk d u)).1 = .val d := by intro _ _; rfl) (h2 : ∀ d u, (E.rt (mk d u)).2.Sublist (M u)) : SB T X ds (M t) (.Return (some e) pos :: rest) E (rx.bind fun q => .ok (.rt (mk q.1 q.2))) := fun W tk B σ H hs w D q =>
  wpSs.of (pss_cons (ps_ret (pe_wp X e)) (pss_wp X rest)) (he W tk B σ H hs w _ (R.sat_map' (R.sat_mono (R.sat_bind q) (fun d hd B' v H' g r => rt_val hd (h1 d.1 d.2) (h2 d.1 d.2) g r) fun _ z => z.ek)))
theorem sb_retN (mk : γ) (h1 : (E.rt mk).1 = .val .non := by rfl) (h2 : (E.rt mk).2.Sublist m := by exact List.nil_sublist _) : SB T X ds m (.Return none pos :: rest) E (.ok (.rt mk)) := fun W tk B σ H hs w D q =>
  wpSs.of (pss_cons ps_retN (pss_wp X rest)) (rt_val (m1 := m) q h1 h2 (Go.refl w) .non)
theorem fn_P {n : Nat} {ss : List Stmt} {r : R (Fl Unit Empty D)} (h : SB T X ds m ss (exP n) r) : FBody T X ds m ss ((r.bind Fl.val).map fun d => (.val d, [])) := fun W tk B σ H hs w Q q =>
  h W tk B σ H hs w _ (R.sat_mono (R.sat_bind (R.sat_map q)) (fun fl hfl => by
    cases fl with
    | nx s =>
      rintro _ _ ⟨rfl, rfl⟩ B' σ' H' g _
      exact hfl B' .non H' g .non
    | rt d => exact hfl
    | bk l => cases l
    | ct l => cases l) fun _ z => z)
theorem fn_C {n : Nat} {pc : Addr} {ss : List Stmt} {r : R (Fl (List D) Empty (D × List D))} (h : SB T X ds m ss (exC n pc) r) : FBody T X ds m ss ((r.bind Fl.valC).map fun q => (.val q.1, [(pc, .l q.2)])) := fun W tk B σ H hs w Q q =>
  h W tk B σ H hs w _ (R.sat_mono (R.sat_bind (R.sat_map q)) (fun fl hfl => by
    cases fl with
    | nx s =>
      rintro _ _ ⟨rfl, rfl⟩ B' σ' H' g _
      exact hfl B' .non H' g .non
    | rt d => exact hfl
    | bk l => cases l
    | ct l => cases l) fun _ z => z)

theorem fn_L {n : Nat} {ss : List Stmt} {r : R (Fl Unit Empty (List D))} (h : SB T X ds m ss (exL n) r) : FBody T X ds m ss ((r.bind Fl.valL).map fun d => (.new d, [])) := fun W tk B σ H hs w Q q =>
  h W tk B σ H hs w _ (R.sat_mono (R.sat_bind (R.sat_map q)) (fun fl hfl => by
    cases fl with
    | nx s => exact hfl.elim
    | rt d => exact hfl
    | bk l => cases l
    | ct l => cases l) fun _ z => z)
theorem fn_CL {n : Nat} {pc : Addr} {ss : List Stmt} {r : R (Fl (List D) Empty (List D × List D))} (h : SB T X ds m ss (exCL n pc) r) : FBody T X ds m ss ((r.bind Fl.valCL).map fun q => (.new q.1, [(pc, .l q.2)])) := fun W tk B σ H hs w Q q =>
  h W tk B σ H hs w _ (R.sat_mono (R.sat_bind (R.sat_map q)) (fun fl hfl => by
    cases fl with
    | nx s => exact hfl.elim
    | rt d => exact hfl
    | bk l => cases l
    | ct l => cases l) fun _ z => z)

/-! ### names are stored -/
theorem sb_asg (i : Nat) {x : Str} {K : D → R (Fl S L γ)} (hN : X.N.Nodup) (he : EV T X ds m e re) (k : ∀ d, SB T X (ds.set i (some d)) m rest E (K d)) (hi : X.N[i]? = some x := by rfl) (hx : Loc X.env.scope x := by first | exact Or.inl rfl | exact Or.inr rfl)
    (hsw : swapsWith e (some (.Name x pos')) pos.line X.env = pure false := by rfl) (hf : X.fn x = true ∨ X.env.scope.names.lookup x = some .local := by first | exact .inl rfl | exact .inr rfl) : SB T X ds m (.Assign [.Name x pos'] e pos :: rest) E (re.bind K) := fun W tk B σ H hs w D q =>
  wpSs.of (pss_cons (ps_set hN hi hx (pe_wp X e) hsw hf) (pss_wp X rest)) (he W tk B σ H hs w _ (R.sat_mono (R.sat_bind q) (fun d hd B' v H' g r => (k d).cont tk g ((hs.mono g.ex).set i r) hd) fun _ z => z.ek))
theorem sb_asgX (i : Nat) {x : Str} {K : D × τ → R (Fl S L γ)} (hN : X.N.Nodup) (he : EXt T X ds M t e rx) (k : ∀ d u, SB T X (ds.set i (some d)) (M u) rest E (K (d, u))) (hi : X.N[i]? = some x := by rfl) (hx : Loc X.env.scope x := by first | exact Or.inl rfl | exact Or.inr rfl)
    (hsw : swapsWith e (some (.Name x pos')) pos.line X.env = pure false := by rfl) (hf : X.fn x = true ∨ X.env.scope.names.lookup x = some .local := by first | exact .inl rfl | exact .inr rfl) : SB T X ds (M t) (.Assign [.Name x pos'] e pos :: rest) E (rx.bind K) := fun W tk B σ H hs w D q =>
  wpSs.of (pss_cons (ps_set hN hi hx (pe_wp X e) hsw hf) (pss_wp X rest)) (he W tk B σ H hs w _ (R.sat_map' (R.sat_mono (R.sat_bind q) (fun d hd B' v H' g r => (k d.1 d.2).cont tk g ((hs.mono g.ex).set i r) hd) fun _ z => z.ek)))
theorem Go.cell {K : PySem.W.Frag} {p : Addr} {o : MO} {B' H' : Hp} (g : Go K T B m H B' m' H') (hB : B' p = none) (hf : p ∈ m.map (·.1) ∨ Fre H p) (hm : p ∉ m'.map (·.1)) (h : MoAt K B' H' p o) : Go K T B m H B' (m' ++ [(p, o)]) H' :=
  ⟨g.ex, (g.own.cell hm hB h).perm (List.perm_append_singleton _ _).symm, g.frame, fun a ha => by
    rw [List.map_append, List.mem_append] at ha
    rcases ha with ha | ha
    · exact g.fresh a ha
    · have e : a = p := by simpa using ha
      subst e
      exact hf, g.grow⟩
/-- a new list, owned by the name -/
theorem sb_asgL (i : Nat) {x : Str} {K : List D → R (Fl S L γ)} (hN : X.N.Nodup) (he : ELp T X ds m e rl) (k : ∀ pl xs, SB T X (ds.set i (some (.ref pl))) (m ++ [(pl, .l xs)]) rest E (K xs)) (hi : X.N[i]? = some x := by rfl) (hx : Loc X.env.scope x := by first | exact Or.inl rfl | exact Or.inr rfl)
    (hsw : swapsWith e (some (.Name x pos')) pos.line X.env = pure false := by rfl) (hf : X.fn x = true ∨ X.env.scope.names.lookup x = some .local := by first | exact .inl rfl | exact .inr rfl) : SB T X ds m (.Assign [.Name x pos'] e pos :: rest) E (rl.bind K) := fun W tk B σ H hs w D q =>
  wpSs.of (pss_cons (ps_set hN hi hx (pe_wp X e) hsw hf) (pss_wp X rest)) (he W tk B σ H hs w _ (R.sat_mono (R.sat_bind q) (fun xs hd B' pl vs H' g hB hfr hm hp r =>
    (k pl xs).cont tk (g.cell (o := .l xs) hB (.inr hfr) hm ⟨vs, hp, r⟩) ((hs.mono g.ex).set i (.ref pl)) hd) fun _ z => z.ek))
theorem sb_asgLX (i : Nat) {x : Str} {rx : R (List D × τ)} {K : List D × τ → R (Fl S L γ)} (hN : X.N.Nodup) (he : ELt T X ds M t e rx) (k : ∀ pl xs u, SB T X (ds.set i (some (.ref pl))) (M u ++ [(pl, .l xs)]) rest E (K (xs, u))) (hi : X.N[i]? = some x := by rfl) (hx : Loc X.env.scope x := by first | exact Or.inl rfl | exact Or.inr rfl)
    (hsw : swapsWith e (some (.Name x pos')) pos.line X.env = pure false := by rfl) (hf : X.fn x = true ∨ X.env.scope.names.lookup x = some .local := by first | exact .inl rfl | exact .inr rfl) : SB T X ds (M t) (.Assign [.Name x pos'] e pos :: rest) E (rx.bind K) := fun W tk B σ H hs w D q =>
  wpSs.of (pss_cons (ps_set hN hi hx (pe_wp X e) hsw hf) (pss_wp X rest)) (he W tk B σ H hs w _ (R.sat_map' (R.sat_mono (R.sat_bind q) (fun xs hd B' pl vs H' g hB hfr hm hp r =>
    (k pl xs.1 xs.2).cont tk (g.cell (o := .l xs.1) hB hfr hm ⟨vs, hp, r⟩) ((hs.mono g.ex).set i (.ref pl)) hd) fun _ z => z.ek)))
/-- a value is dropped -/
theorem sb_expr {r : R (Fl S L γ)} (he : EV T X ds m e re) (k : SB T X ds m rest E r) (hsw : swapsWith e none pos.line X.env = pure false := by rfl) : SB T X ds m (.Expr e pos :: rest) E (re.bind fun _ => r) := fun W tk B σ H hs w D q =>
  wpSs.of (pss_cons (ps_expr (pe_wp X e) hsw) (pss_wp X rest)) (he W tk B σ H hs w _ (R.sat_mono (R.sat_bind q) (fun d hd B' v H' g r => k.cont tk g (hs.mono g.ex) hd) fun _ z => z.ek))
theorem sb_exprX {K : τ → R (Fl S L γ)} (he : EXt T X ds M t e rx) (k : ∀ u, SB T X ds (M u) rest E (K u)) (hsw : swapsWith e none pos.line X.env = pure false := by rfl) : SB T X ds (M t) (.Expr e pos :: rest) E (rx.bind fun q => K q.2) := fun W tk B σ H hs w D q =>
  wpSs.of (pss_cons (ps_expr (pe_wp X e) hsw) (pss_wp X rest)) (he W tk B σ H hs w _ (R.sat_map' (R.sat_mono (R.sat_bind q) (fun d hd B' v H' g r => (k d.2).cont tk g (hs.mono g.ex) hd) fun _ z => z.ek)))

/-! ### owned lists are changed -/
theorem Go.upd {K : PySem.W.Frag} {pre post : OM} {p : Addr} {o o' : MO} {u : HO} (w : Own K T B (pre ++ (p, o) :: post) H) (nt : ∀ ps, u ≠ .tbl ps) (h : MoAt K B (upd H p u) p o') : Go K T B (pre ++ (p, o) :: post) H B (pre ++ (p, o') :: post) (upd H p u) := by
  have hp := w.at_ (p, o) (by simp)
  have nd := w.nd
  have em : (pre ++ (p, o) :: post).map (·.1) = (pre ++ (p, o') :: post).map (·.1) := by simp
  obtain ⟨u0, hu0, nt0⟩ := hp.2.there
  refine ⟨fun _ _ h => h, ⟨fun a v e => ?_, fun q hq => ?_, by rw [← em]; exact nd, fun q hq => ?_, w.nt⟩, fun a v e ntv ha => ?_, fun a ha => .inl (by rw [em]; exact ha), fun _ _ h => .inl h⟩
  · have hne : a ≠ p := fun z => by rw [z, hp.1] at e; cases e
    rw [upd_ne hne]
    exact w.ex a v e
  · have ndd : (pre.map (·.1) ++ p :: post.map (·.1)).Nodup := by simpa using nd
    rcases List.mem_append.mp hq with hq | hq
    · obtain ⟨h1, h2⟩ := w.at_ q (by simp [hq])
      have hne : q.1 ≠ p := fun z => (List.nodup_append.mp ndd).2.2 q.1 (List.mem_map.mpr ⟨q, hq, rfl⟩) p (by simp) z
      exact ⟨h1, h2.mono (fun _ _ h => h) fun v e => by rw [upd_ne hne]; exact e⟩
    · rcases List.mem_cons.mp hq with rfl | hq
      · exact ⟨hp.1, h⟩
      · obtain ⟨h1, h2⟩ := w.at_ q (by simp [hq])
        have hne : q.1 ≠ p := fun z => (List.nodup_cons.mp (List.nodup_append.mp ndd).2.1).1 (z ▸ List.mem_map.mpr ⟨q, hq, rfl⟩)
        exact ⟨h1, h2.mono (fun _ _ h => h) fun v e => by rw [upd_ne hne]; exact e⟩
  · obtain ⟨ps, h1, h2, h3⟩ := w.tb q hq
    have ne : ∀ b w2, H b = some w2 → (∃ ps, w2 = .tbl ps) ∨ (∃ c q, w2 = LamX.CodeO c q) → b ≠ p := fun b w2 e z hb => by
      subst hb
      rw [hu0] at e
      cases e
      rcases z with ⟨ps, z⟩ | ⟨c, q, z⟩
      · exact nt0 ps z
      · cases o with
        | l xs =>
          obtain ⟨vs, hv, _⟩ := hp.2
          rw [hu0] at hv
          cases hv
          cases z
        | d kd =>
          obtain ⟨kvs, hv, _⟩ := hp.2
          rw [hu0] at hv; cases hv; cases z
        | t kd =>
          obtain ⟨kvs, hv, _⟩ := hp.2
          rw [hu0] at hv; cases hv; cases z
    refine ⟨ps, by rw [upd_ne (ne _ _ h1 (.inl ⟨ps, rfl⟩))]; exact h1, h2, fun pos cv hc => ?_⟩
    obtain ⟨c, hc1, hc2⟩ := h3 pos cv hc
    exact ⟨c, hc1, by rw [upd_ne (ne _ _ hc2 (.inr ⟨c, _, rfl⟩))]; exact hc2⟩
  · have hne : a ≠ p := fun z => ha (by simp [z])
    rw [upd_ne hne]
    exact e
def D.room (xs : List D) : R Unit := if xs.length < sizeLine then .ok () else .ub
/-- x.append(e) -/
theorem sb_append (i : Nat) {x : Str} {pl : Addr} {xs : List D} {pre post : OM} {K : D → R (Fl S L γ)} {apos cpos : Pos} (h : ds[i]? = some (some (.ref pl))) (he : EV T X ds (pre ++ (pl, .l xs) :: post) e re) (k : ∀ d, SB T X ds (pre ++ (pl, .l (xs ++ [d])) :: post) rest E (K d))
    (pb : PE X (.Call (.Attribute (.Name x p) "append" apos) [e] [] cpos) (tBM X.K "list" rAppend (tVar i) (tCons (wpE X e) tNil))) (hsw : swapsWith (.Call (.Attribute (.Name x p) "append" apos) [e] [] cpos) none pos.line X.env = pure false := by rfl) :
    SB T X ds (pre ++ (pl, .l xs) :: post) (.Expr (.Call (.Attribute (.Name x p) "append" apos) [e] [] cpos) pos :: rest) E (re.bind fun d => (D.room xs).bind fun _ => K d) := fun W tk B σ H hs w D q => by
  refine wpSs.of (pss_cons (ps_expr pb hsw) (pss_wp X rest)) ?_
  obtain ⟨v, h1, h2⟩ := hs.at_ i _ h
  cases h2.iref
  obtain ⟨_, vs, hp, rv⟩ := w.at_ (pl, .l xs) (by simp)
  refine ⟨_, h1, .inl ⟨rfl, vs, SqL.of hp⟩, ?_⟩
  refine he W tk B σ H hs w _ (R.sat_mono (R.sat_bind q) (fun d hd B' v' H' g r => ?_) fun _ z => z.ek)
  obtain ⟨_, vs', hp', rv'⟩ := g.own.at_ (pl, .l xs) (by simp)
  unfold DL.D.room at hd
  split at hd
  · rename_i hz
    refine ⟨pl, vs', v', rfl, rfl, hp', by rw [rv'.length]; exact hz, ?_⟩
    have g2 := Go.upd (o' := .l (xs ++ [d])) (u := .lst (vs' ++ [v'])) g.own (fun _ z => nomatch z) ⟨_, upd_same, rv'.append (.cons r .nil)⟩
    exact (k d).cont tk (g.trans g2) (hs.mono g.ex) hd
  · exact False.elim hd
/-- x[j] = e -/
def D.setAt (xs : List D) (j d : D) : R (List D) := match j with
  | .int i => (match ixN xs.length i with
    | some n => .ok (xs.set n d)
    | none => .ub)
  | _ => .ub
theorem sb_setL (i : Nat) {x : Str} {pl : Addr} {xs : List D} {pre post : OM} {K : List D → R (Fl S L γ)} {rj : R D} {j : Expr} (h : ds[i]? = some (some (.ref pl))) (he : EV T X ds (pre ++ (pl, .l xs) :: post) e re) (hj : EV T X ds (pre ++ (pl, .l xs) :: post) j rj)
    (k : ∀ ys, SB T X ds (pre ++ (pl, .l ys) :: post) rest E (K ys))
    (ps : PS X (.Assign [.Subscript (.Name x p) j p2] e pos) (tAsg (wpE X e) (gSub (tVar i) (wpE X j) rSetL))) :
    SB T X ds (pre ++ (pl, .l xs) :: post) (.Assign [.Subscript (.Name x p) j p2] e pos :: rest) E (re.bind fun d => rj.bind fun n => (D.setAt xs n d).bind K) := fun W tk B σ H hs w D q => by
  refine wpSs.of (pss_cons ps (pss_wp X rest)) ?_
  refine he W tk B σ H hs w _ (R.sat_mono (R.sat_bind q) (fun d hd B1 v1 H1 g1 r1 => ?_) fun _ z => z.ek)
  obtain ⟨v, h1, h2⟩ := (hs.mono g1.ex).at_ i _ h
  cases h2.iref
  refine ⟨_, h1, ?_⟩
  refine hj W tk B1 σ H1 (hs.mono g1.ex) g1.own _ (R.sat_mono (R.sat_bind hd) (fun n hn B2 v2 H2 g2 r2 => ?_) fun _ z => (z.go g1).ek)
  obtain ⟨_, vs', hp', rv'⟩ := g2.own.at_ (pl, .l xs) (by simp)
  unfold DL.D.setAt at hn
  split at hn
  · split at hn
    · rename_i i' j' e'
      refine ⟨pl, vs', _, j', rfl, r2.iint, hp', by rw [rv'.length]; exact e', ?_⟩
      have g3 := Go.upd (o' := .l (xs.set j' d)) (u := .lst (vs'.set j' v1)) g2.own (fun _ z => nomatch z) ⟨_, upd_same, RepL.set (r1.mono g2.ex) j' rv'⟩
      exact (k _).cont tk ((g1.trans g2).trans g3) (hs.mono ((g1.trans g2).ex)) hn
    · exact False.elim hn
  · exact False.elim hn

/-! ### if -/
variable {body orelse : List Stmt} {rt : R Bool}
theorem SBpost.upE {E' : Exits Empty L γ} {D : Ends} {N : St → Hp → Prop} (h1 : E'.lp = E.lp) (h2 : E'.rt = E.rt) {fl : Fl Empty L γ} (h : SBpost X.K T B m H E D fl.up) : SBpost X.K T B m H E' { D with nx := N } fl := by
  cases fl with
  | nx s => cases s
  | bk l => show Lands X.K T B m H (E'.lp l) D.bk; rw [h1]; exact h
  | ct l => show Lands X.K T B m H (E'.lp l) D.ct; rw [h1]; exact h
  | rt q => show RtP X.K T B m H (E'.rt q) D.rt; rw [h2]; exact h
abbrev Exits.dead (E : Exits S L γ) : Exits Empty L γ := ⟨fun s => s.elim, E.lp, E.rt⟩
/-- if c: body (no way falls through); rest -/
theorem sb_ifT {r1 : R (Fl Empty L γ)} {r2 : R (Fl S L γ)} (hc : ETp T X ds m c rt) (h1 : SB T X ds m body E.dead r1) (h2 : SB T X ds m rest E r2) : SB T X ds m (.If c body [] pos :: rest) E (rt.bind fun k => if k then r1.map Fl.up else r2) := fun W tk B σ H hs w D q => by
  refine wpSs.of (pss_cons (ps_if (pt_wp X c) (pss_wp X body) pss_nil) (pss_wp X rest)) (hc W tk B σ H hs w _ (R.sat_mono (R.sat_bind q) (fun k hk B1 H1 g1 => ?_) fun _ z => z.ek))
  cases k with
  | true =>
    rw [if_pos rfl]
    exact h1 W tk B1 σ H1 (hs.mono g1.ex) g1.own _ (R.sat_mono (R.sat_map hk) (fun fl z => SBpost.upE (E := E) (E' := E.dead) rfl rfl (z.go g1)) fun _ z => z.go g1)
  | false =>
    rw [if_neg Bool.false_ne_true]
    exact h2.cont tk g1 (hs.mono g1.ex) hk
/-- if c: body else: orelse; both may fall through to E' -/
theorem SBpost.nextE {E' : Exits S' L γ} {D : Ends} {K : S' → R (Fl S L γ)} (h1 : E'.lp = E.lp) (h2 : E'.rt = E.rt) (tk : Takes X W) (hk : ∀ s ds' m', E'.nx s ds' m' → SB T X ds' m' rest E (K s)) {fl : Fl S' L γ}
    (h : (fl.next K).sat (SBpost X.K T B m H E D) (EB X T W B m H)) : SBpost X.K T B m H E' { D with nx := wpSs X rest D } fl := by
  cases fl with
  | nx s => exact fun ds' m' ht B' σ' H' g hs => (hk s ds' m' ht).cont tk g hs h
  | bk l => show Lands X.K T B m H (E'.lp l) D.bk; rw [h1]; exact h
  | ct l => show Lands X.K T B m H (E'.lp l) D.ct; rw [h1]; exact h
  | rt q => show RtP X.K T B m H (E'.rt q) D.rt; rw [h2]; exact h
abbrev Exits.via (E : Exits S L γ) (n : S' → DS → OM → Prop) : Exits S' L γ := ⟨n, E.lp, E.rt⟩
theorem sb_ifJ (n : S' → DS → OM → Prop) {r1 r2 : R (Fl S' L γ)} {K : S' → R (Fl S L γ)} (hc : ETp T X ds m c rt) (h1 : SB T X ds m body (E.via n) r1) (h2 : SB T X ds m orelse (E.via n) r2) (h3 : ∀ s ds' m', n s ds' m' → SB T X ds' m' rest E (K s)) :
    SB T X ds m (.If c body orelse pos :: rest) E ((rt.bind fun k => if k then r1 else r2).bind (Fl.next K)) := fun W tk B σ H hs w D q => by
  refine wpSs.of (pss_cons (ps_if (pt_wp X c) (pss_wp X body) (pss_wp X orelse)) (pss_wp X rest)) (hc W tk B σ H hs w _ (R.sat_mono (R.sat_bind (R.sat_bind q)) (fun k hk B1 H1 g1 => ?_) fun _ z => z.ek))
  cases k with
  | true =>
    rw [if_pos rfl]
    exact h1 W tk B1 σ H1 (hs.mono g1.ex) g1.own _ (R.sat_mono hk (fun fl z => SBpost.nextE (E := E) (E' := E.via n) rfl rfl tk h3 (R.sat_mono z (fun _ z => z.go g1) fun _ z => z.go g1)) fun _ z => z.go g1)
  | false =>
    rw [if_neg Bool.false_ne_true]
    exact h2 W tk B1 σ H1 (hs.mono g1.ex) g1.own _ (R.sat_mono hk (fun fl z => SBpost.nextE (E := E) (E' := E.via n) rfl rfl tk h3 (R.sat_mono z (fun _ z => z.go g1) fun _ z => z.go g1)) fun _ z => z.go g1)
/-- .. with a test that changes cells -/
theorem sb_ifTX {r1 : τ → R (Fl Empty L γ)} {r2 : τ → R (Fl S L γ)} {rt : R (Bool × τ)} (hc : ETt T X ds M t c rt) (h1 : ∀ u, SB T X ds (M u) body E.dead (r1 u)) (h2 : ∀ u, SB T X ds (M u) rest E (r2 u)) : SB T X ds (M t) (.If c body [] pos :: rest) E (rt.bind fun k => if k.1 then (r1 k.2).map Fl.up else r2 k.2) := fun W tk B σ H hs w D q => by
  refine wpSs.of (pss_cons (ps_if (pt_wp X c) (pss_wp X body) pss_nil) (pss_wp X rest)) (hc W tk B σ H hs w _ (R.sat_map' (R.sat_mono (R.sat_bind q) (fun k hk B1 H1 g1 => ?_) fun _ z => z.ek)))
  obtain ⟨k, u⟩ := k
  cases k with
  | true =>
    rw [if_pos rfl]
    exact h1 u W tk B1 σ H1 (hs.mono g1.ex) g1.own _ (R.sat_mono (R.sat_map hk) (fun fl z => SBpost.upE (E := E) (E' := E.dead) rfl rfl (z.go g1)) fun _ z => z.go g1)
  | false =>
    rw [if_neg Bool.false_ne_true]
    exact (h2 u).cont tk g1 (hs.mono g1.ex) hk
theorem sb_ifJX (n : S' → DS → OM → Prop) {r1 r2 : τ → R (Fl S' L γ)} {K : S' → R (Fl S L γ)} {rt : R (Bool × τ)} (hc : ETt T X ds M t c rt) (h1 : ∀ u, SB T X ds (M u) body (E.via n) (r1 u)) (h2 : ∀ u, SB T X ds (M u) orelse (E.via n) (r2 u)) (h3 : ∀ s ds' m', n s ds' m' → SB T X ds' m' rest E (K s)) :
    SB T X ds (M t) (.If c body orelse pos :: rest) E ((rt.bind fun k => if k.1 then r1 k.2 else r2 k.2).bind (Fl.next K)) := fun W tk B σ H hs w D q => by
  refine wpSs.of (pss_cons (ps_if (pt_wp X c) (pss_wp X body) (pss_wp X orelse)) (pss_wp X rest)) (hc W tk B σ H hs w _ (R.sat_map' (R.sat_mono (R.sat_bind (R.sat_bind q)) (fun k hk B1 H1 g1 => ?_) fun _ z => z.ek)))
  obtain ⟨k, u⟩ := k
  cases k with
  | true =>
    rw [if_pos rfl]
    exact h1 u W tk B1 σ H1 (hs.mono g1.ex) g1.own _ (R.sat_mono hk (fun fl z => SBpost.nextE (E := E) (E' := E.via n) rfl rfl tk h3 (R.sat_mono z (fun _ z => z.go g1) fun _ z => z.go g1)) fun _ z => z.go g1)
  | false =>
    rw [if_neg Bool.false_ne_true]
    exact h2 u W tk B1 σ H1 (hs.mono g1.ex) g1.own _ (R.sat_mono hk (fun fl z => SBpost.nextE (E := E) (E' := E.via n) rfl rfl tk h3 (R.sat_mono z (fun _ z => z.go g1) fun _ z => z.go g1)) fun _ z => z.go g1)
/-- an owned list is owned no more: it stands still from now on -/
theorem sb_freeze (i : Nat) {pl : Addr} {xs : List D} {pre post : OM} {ss : List Stmt} {r : R (Fl S L γ)} (h : ds[i]? = some (some (.ref pl))) (k : SB T X (ds.set i (some (.lst xs))) (pre ++ post) ss E r) : SB T X ds (pre ++ (pl, .l xs) :: post) ss E r := fun W tk B σ H hs w D q => by
  obtain ⟨hB, vs, hp, rv⟩ := w.at_ (pl, .l xs) (by simp)
  have sub : (pre ++ post).Sublist (pre ++ (pl, .l xs) :: post) := List.Sublist.append (List.Sublist.refl _) (List.sublist_cons_self _ _)
  have nd := w.nd
  have ndd : (pre.map (·.1) ++ pl :: post.map (·.1)).Nodup := by simpa using nd
  have hn : pl ∉ (pre ++ post).map (·.1) := by
    rw [List.map_append, List.mem_append]
    rintro (z | z)
    · exact (List.nodup_append.mp ndd).2.2 _ z pl (by simp) rfl
    · exact (List.nodup_cons.mp (List.nodup_append.mp ndd).2.1).1 z
  have g0 : Go X.K T B (pre ++ (pl, .l xs) :: post) H B (pre ++ post) H := (Go.refl w).sub sub
  have eB : Ex B (upd B pl (.lst vs)) := Evl.Ex.new hB
  have g : Go X.K T B (pre ++ (pl, .l xs) :: post) H (upd B pl (.lst vs)) (pre ++ post) H := by
    refine ⟨eB, ⟨fun a u e => ?_, fun q hq => ?_, g0.own.nd, g0.own.tb, fun a ps e => ?_⟩, g0.frame, g0.fresh, fun a u e => ?_⟩
    · by_cases ha : a = pl
      · subst ha; rw [upd_same] at e; cases e; exact hp
      · rw [upd_ne ha] at e; exact w.ex a u e
    · obtain ⟨h1, h2⟩ := g0.own.at_ q hq
      have hne : q.1 ≠ pl := fun z => hn (List.mem_map.mpr ⟨q, hq, z⟩)
      exact ⟨by rw [upd_ne hne]; exact h1, h2.mono eB fun u e => e⟩
    · by_cases ha : a = pl
      · subst ha; rw [upd_same] at e; cases e
      · rw [upd_ne ha] at e; exact w.nt a ps e
    · by_cases ha : a = pl
      · subst ha; exact .inr (.inl (by simp))
      · rw [upd_ne ha] at e; exact .inl e
  obtain ⟨v, h1, h2⟩ := hs.at_ i _ h
  cases h2.iref
  refine k.cont tk g ?_ q
  have := (hs.mono eB).set i (v := .ref pl) (d := .lst xs) (.lst (Rd.of upd_same) (rv.mono eB))
  have e2 : σ.set i (some (.ref pl)) = σ := by
    apply List.ext_getElem?
    intro j
    by_cases hj : i = j
    · subst hj
      obtain ⟨hlt, _⟩ := List.getElem?_eq_some_iff.mp h1
      rw [List.getElem?_set_self hlt, h1]
    · rw [List.getElem?_set_ne hj]
  rw [e2] at this
  exact this
end
end DL
namespace DL
open PySem PySem.Spec PyProof.Rows L2
open Evl (Ex ex_l ex_t ex_rd)

/-! ### what is walked -/
structure DW (K : PySem.W.Frag) (T : Tb) (J : It) (B : Hp) (xs : List D) : Prop where
  goes : ∀ i H, i < xs.length → Ex B H → J.go i H
  stops : ∀ H, Ex B H → J.stop xs.length H
  yields : ∀ i H v H' B2 m d, xs[i]? = some d → Ex B B2 → Own K T B2 m H → J.yld i H v H' → ∃ B3, Go K T B2 m H B3 m H' ∧ Rep K B3 v d
structure wpI (X : Cx) (tg iter : Expr) (σ : St) (H : Hp) (R : It → Hp → Prop) : Prop where
  run : ∀ (pins : List (Addr × Obj)) (s : Shared), Inv X pins σ H s →
  wpAny (model X.prog X.w) X.A (eval iter X.env) (fun v s1 => wpAny (model X.prog X.w) X.A (pyIter v) (PIE X pins σ tg R) X.xe s1) X.xe s
theorem pi_wp (X : Cx) (tg iter : Expr) : PI X tg iter (wpI X tg iter) := ⟨fun pins s _ _ _ I h => h.run pins s I⟩
theorem wpI.of {X : Cx} {tg iter : Expr} {t : TI} (h : PI X tg iter t) {σ : St} {H : Hp} {R : It → Hp → Prop} (q : t σ H R) : wpI X tg iter σ H R := ⟨fun pins s I => h.run pins s σ H R I q⟩
def EI (T : Tb) (X : Cx) (ds : DS) (m : OM) (tg iter : Expr) (r : R (List D)) : Prop :=
  ∀ (W : WX), Takes X W → ∀ (B : Hp) (σ : St) (H : Hp), Sl X.K B σ ds → Own X.K T B m H → ∀ Q : It → Hp → Prop,
    r.sat (fun xs => ∀ B' J H', Go X.K T B m H B' m H' → DW X.K T J B' xs → Q J H') (EK T X W B m σ H m) → wpI X tg iter σ H Q
def EIt {τ : Type} (T : Tb) (X : Cx) (ds : DS) (M : τ → OM) (t : τ) (tg iter : Expr) (r : R (List D × τ)) : Prop :=
  ∀ (W : WX), Takes X W → ∀ (B : Hp) (σ : St) (H : Hp), Sl X.K B σ ds → Own X.K T B (M t) H → ∀ Q : It → Hp → Prop,
    r.sat (fun p => ∀ B' J H', Go X.K T B (M t) H B' (M p.2) H' → DW X.K T J B' p.1 → Q J H') (EK T X W B (M t) σ H []) → wpI X tg iter σ H Q
def D.items : D → R (List D)
  | .tup xs => .ok xs
  | .lst xs => .ok xs
  | _ => .ub
def iSeq (K : PySem.W.Frag) (tl : TE) : TI := fun σ H R => tl σ H fun x H1 => (∃ a, x = .ref a ∧ (∃ xs, SqL K H1 a xs) ∧ R (Itl K a) H1) ∨ ∃ a, x = .ref a ∧ (∃ xs, SqT K H1 a xs) ∧ R (Itt K a) H1
theorem pi_seq {X : Cx} {tg l : Expr} {tl : TE} (hl : PE X l tl) : PI X tg l (iSeq X.K tl) := by
  refine ⟨fun pins s σ H R I h => ?_⟩
  refine thn (hl.run pins s σ H (fun x H1 => (∃ a, x = .ref a ∧ (∃ xs, SqL X.K H1 a xs) ∧ R (Itl X.K a) H1) ∨ ∃ a, x = .ref a ∧ (∃ xs, SqT X.K H1 a xs) ∧ R (Itt X.K a) H1) I h) fun v s1 ⟨x, H1, I1, r1, q1⟩ => ?_
  rcases q1 with ⟨a, e, ⟨xs, hq⟩, q⟩ | ⟨a, e, ⟨xs, hq⟩, q⟩
  · subst e
    cases r1
    obtain ⟨its, rv, p, hz⟩ := I1.list hq
    refine wpAny_pyIter_list p.isList ?_
    refine ⟨s1.heap.objs.size, [s1.heap.objs.size], _, _, H1, rfl, I1.kept (t' := s1.toks) fun b o e => Heap.get?_push_of_some _ e, turn_list a _, ⟨_, Heap.get?_push_size _ rfl, rfl, rfl⟩, fun b hb => ?_, q⟩
    have e : b = s1.heap.objs.size := by simpa using hb
    subst e
    exact I1.fpOk (Nat.le_refl _) (I1.hok.fresh (Nat.le_refl _))
  · subst e
    cases r1
    obtain ⟨its, rv, p, hz⟩ := I1.tuple hq
    refine wpAny_pyIter_tuple (show s1.heap.IsTuple a its.toArray from p) ?_
    refine ⟨s1.heap.objs.size, [s1.heap.objs.size], _, _, H1, rfl, I1.kept (t' := s1.toks) fun b o e => Heap.get?_push_of_some _ e, turn_tuple a _, ⟨_, Heap.get?_push_size _ rfl, rfl, rfl⟩, fun b hb => ?_, q⟩
    have e : b = s1.heap.objs.size := by simpa using hb
    subst e
    exact I1.fpOk (Nat.le_refl _) (I1.hok.fresh (Nat.le_refl _))
section
variable {K : PySem.W.Frag} {T : Tb} {B : Hp} {a b : Addr} {vs us : List V} {xs ys : List D}
theorem dw_list (h : Rd B a (.lst vs)) (r : RepL K B vs xs) : DW K T (Itl K a) B xs := by
  have hl := r.length
  refine ⟨fun i H hi e => (walk_list (K := K) (a := a) (xs := vs)).goes i H (by omega) (ex_l e (.inl h)), fun H e => ?_, fun i H v H' B2 m d hd e w y => ?_⟩
  · rw [← hl]
    exact (walk_list (K := K) (a := a) (xs := vs)).stops H (ex_l e (.inl h))
  · have hi : i < xs.length := (List.getElem?_eq_some_iff.mp hd).1
    obtain ⟨e1, e2⟩ := (walk_list (K := K) (a := a) (xs := vs)).yields i H v H' (by omega) (ex_l (e.trans w.ex) (.inl h)) y
    subst e1
    obtain ⟨v', h1, h2⟩ := r.get hd
    rw [h1] at e2
    cases e2
    exact ⟨B2, .refl w, h2.mono e⟩
theorem dw_tup (h : SqT K B a vs) (r : RepL K B vs xs) : DW K T (Itt K a) B xs := by
  have hl := r.length
  refine ⟨fun i H hi e => (walk_tup (K := K) (a := a) (xs := vs)).goes i H (by omega) (ex_t e h), fun H e => ?_, fun i H v H' B2 m d hd e w y => ?_⟩
  · rw [← hl]
    exact (walk_tup (K := K) (a := a) (xs := vs)).stops H (ex_t e h)
  · have hi : i < xs.length := (List.getElem?_eq_some_iff.mp hd).1
    obtain ⟨e1, e2⟩ := (walk_tup (K := K) (a := a) (xs := vs)).yields i H v H' (by omega) (ex_t (e.trans w.ex) h) y
    subst e1
    obtain ⟨v', h1, h2⟩ := r.get hd
    rw [h1] at e2
    cases e2
    exact ⟨B2, .refl w, h2.mono e⟩
def rangeD (lo : Int) (n : Nat) : List D := (List.range n).map fun (i : Nat) => D.int (lo + i)
theorem dw_range {lo : Int} {n : Nat} : DW K T (Itr lo n) B (rangeD lo n) := by
  have hl : (rangeD lo n).length = n := by unfold rangeD; simp
  refine ⟨fun i H hi e => ?_, fun H e => ?_, fun i H v H' B2 m d hd e w y => ?_⟩
  · rw [hl] at hi; exact (walk_range (lo := lo) (n := n)).goes i H hi True.intro
  · rw [hl]; exact (walk_range (lo := lo) (n := n)).stops H True.intro
  · have hi : i < (rangeD lo n).length := (List.getElem?_eq_some_iff.mp hd).1
    rw [hl] at hi
    obtain ⟨e1, e2⟩ := (walk_range (lo := lo) (n := n)).yields i H v H' hi True.intro y
    subst e1 e2
    have : (rangeD lo n)[i]? = some (.int (lo + i)) := by unfold rangeD; simp [hi]
    rw [this] at hd
    cases hd
    exact ⟨B2, .refl w, .int _⟩
def pairD : List D → List D → List D
  | x :: xs, y :: ys => .tup [x, y] :: pairD xs ys
  | _, _ => []
theorem pairD_length : ∀ xs ys : List D, (pairD xs ys).length = min xs.length ys.length
  | [], ys => by simp [pairD]
  | x :: xs, [] => by simp [pairD]
  | x :: xs, y :: ys => by simp [pairD, pairD_length xs ys]
theorem pairD_get : ∀ {xs ys : List D} {i : Nat} {d : D}, (pairD xs ys)[i]? = some d → ∃ x y, xs[i]? = some x ∧ ys[i]? = some y ∧ d = .tup [x, y]
  | [], ys, i, d, h => by simp [pairD] at h
  | x :: xs, [], i, d, h => by simp [pairD] at h
  | x :: xs, y :: ys, 0, d, h => by simp [pairD] at h; exact ⟨x, y, rfl, rfl, h.symm⟩
  | x :: xs, y :: ys, i + 1, d, h => by
    simp [pairD] at h
    obtain ⟨x', y', h1, h2, h3⟩ := pairD_get h
    exact ⟨x', y', by simpa using h1, by simpa using h2, h3⟩
theorem dw_pair {J : It} {G : Hp → Prop} {n : Nat} {f g : Nat → Option V} (W : Walk J n G (YPair f g)) (hG : ∀ H, Ex B H → G H) (hn : n = (pairD xs ys).length)
    (hf : ∀ i v x, f i = some v → xs[i]? = some x → Rep K B v x) (hg : ∀ i v y, g i = some v → ys[i]? = some y → Rep K B v y) : DW K T J B (pairD xs ys) := by
  subst hn
  refine ⟨fun i H hi e => W.goes i H hi (hG H e), fun H e => W.stops H (hG H e), fun i H v H' B2 m d hd e w y => ?_⟩
  have hi : i < (pairD xs ys).length := (List.getElem?_eq_some_iff.mp hd).1
  obtain ⟨Ta, vx, vy, rfl, hT, rfl, h1, h2⟩ := W.yields i H v H' hi (hG H (e.trans w.ex)) y
  obtain ⟨x, y', hx, hy, rfl⟩ := pairD_get hd
  have rx := (hf i vx x h1 hx).mono e
  have ry := (hg i vy y' h2 hy).mono e
  have g0 := Go.lay (o := .tup [vx, vy]) w hT fun _ z => nomatch z
  exact ⟨_, g0, .tup upd_same (.cons (rx.mono g0.ex) (.cons (ry.mono g0.ex) .nil))⟩
theorem dw_zipL (h1 : Rd B a (.lst vs)) (r1 : RepL K B vs xs) (h2 : Rd B b (.lst us)) (r2 : RepL K B us ys) : DW K T (Itz K a b) B (pairD xs ys) :=
  dw_pair (walk_zip rfl) (fun H e => ⟨ex_l e (.inl h1), ex_l e (.inl h2)⟩) (by rw [pairD_length, r1.length, r2.length])
    (fun i v x e1 e2 => by
      obtain ⟨v', q1, q2⟩ := r1.get e2
      rw [q1] at e1; cases e1; exact q2)
    (fun i v x e1 e2 => by
      obtain ⟨v', q1, q2⟩ := r2.get e2
      rw [q1] at e1; cases e1; exact q2)
theorem walk_zipT {n : Nat} (hn : n = min vs.length us.length) : Walk (RZ.ItzT K a b) n (fun H => SqT K H a vs ∧ SqT K H b us) (YPair (fun i => vs[i]?) (fun i => us[i]?)) := by
  subst hn
  refine ⟨fun i _ hi q => ?_, fun _ q => ⟨vs, us, q.1, q.2, by omega⟩, fun i H v H' _ q y => ?_⟩
  · have h1 : i < vs.length := by omega
    have h2 : i < us.length := by omega
    exact ⟨vs, us, vs[i], us[i], q.1, q.2, by simp [h1], by simp [h2]⟩
  · obtain ⟨Ta, x, z, h1, h2, h3, h4, h5⟩ := y
    exact ⟨Ta, x, z, h1, h2, h3, h4 vs q.1, h5 us q.2⟩
theorem dw_zipT (h1 : SqT K B a vs) (r1 : RepL K B vs xs) (h2 : SqT K B b us) (r2 : RepL K B us ys) : DW K T (RZ.ItzT K a b) B (pairD xs ys) :=
  dw_pair (walk_zipT rfl) (fun H e => ⟨ex_t e h1, ex_t e h2⟩) (by rw [pairD_length, r1.length, r2.length])
    (fun i v x e1 e2 => by
      obtain ⟨v', q1, q2⟩ := r1.get e2
      rw [q1] at e1; cases e1; exact q2)
    (fun i v x e1 e2 => by
      obtain ⟨v', q1, q2⟩ := r2.get e2
      rw [q1] at e1; cases e1; exact q2)
theorem dw_enumL (h1 : Rd B a (.lst vs)) (r1 : RepL K B vs xs) : DW K T (Ite K a) B (pairD (rangeD 0 xs.length) xs) := by
  refine dw_pair (walk_enum (xs := vs)) (fun H e => ex_l e (.inl h1)) ?_ (fun i v x e1 e2 => ?_) (fun i v x e1 e2 => ?_)
  · rw [pairD_length, r1.length]; unfold rangeD; simp
  · have hi : i < (rangeD 0 xs.length).length := (List.getElem?_eq_some_iff.mp e2).1
    unfold rangeD at hi e2
    rw [List.getElem?_eq_getElem (by simpa using hi)] at e2
    simp at e2
    cases e1
    rw [← e2]
    exact .int _
  · obtain ⟨v', q1, q2⟩ := r1.get e2
    rw [q1] at e1; cases e1; exact q2
end
section
variable {T : Tb} {X : Cx} {ds : DS} {m : OM} {tg : Expr} {e a b : Expr} {r ra rb : R D} {pos p tpos : Pos} {elts : List Expr} {kk : Nat} {τ : Type} {M : τ → OM} {t : τ}
theorem EI.x {r : R (List D)} (h : EI T X ds (M t) tg e r) : EIt T X ds M t tg e (r.map fun xs => (xs, t)) := fun W tk B σ H hs w Q q =>
  h W tk B σ H hs w Q (R.sat_mono (R.sat_map q) (fun xs hx => hx) fun _ z => z.lost)
theorem seq_core {B H : Hp} {v : V} {d : D} (w : Own X.K T B m H) (rv : Rep X.K B v d) {Q : It → Hp → Prop} {Ee : Err → Prop} (h : d.items.sat (fun xs => ∀ J, DW X.K T J B xs → Q J H) Ee) :
    (∃ a, v = .ref a ∧ (∃ xs, SqL X.K H a xs) ∧ Q (Itl X.K a) H) ∨ ∃ a, v = .ref a ∧ (∃ xs, SqT X.K H a xs) ∧ Q (Itt X.K a) H := by
  cases d with
  | tup xs =>
    obtain ⟨a, vs, rfl, h1, h2⟩ := rv.itup
    exact .inr ⟨a, rfl, ⟨vs, ex_t w.ex h1⟩, h _ (dw_tup h1 h2)⟩
  | lst xs =>
    obtain ⟨a, vs, rfl, h1, h2⟩ := rv.ilst
    exact .inl ⟨a, rfl, ⟨vs, ex_l w.ex (.inl h1)⟩, h _ (dw_list h1 h2)⟩
  | _ => exact False.elim h
theorem ei_seq (h : EV T X ds m e r) : EI T X ds m tg e (r.bind D.items) := fun W tk B σ H hs w Q q =>
  wpI.of (pi_seq (pe_wp X e)) (h W tk B σ H hs w _ (R.sat_mono (R.sat_bind q) (fun d hd B' v H' g rv => seq_core g.own rv (R.sat_mono hd (fun xs hx J dw => hx B' J H' g dw) fun _ z => z)) fun _ z => z))
theorem ei_seqX {rx : R (D × τ)} (h : EXt T X ds M t e rx) : EIt T X ds M t tg e (rx.bind fun q => q.1.items.map fun xs => (xs, q.2)) := fun W tk B σ H hs w Q q =>
  wpI.of (pi_seq (pe_wp X e)) (h W tk B σ H hs w _ (R.sat_map' (R.sat_mono (R.sat_bind q) (fun d hd B' v H' g rv => seq_core g.own rv (R.sat_mono (R.sat_map hd) (fun xs hx J dw => hx B' J H' g dw) fun _ z => z)) fun _ z => z)))
noncomputable def D.range1 : D → R (List D)
  | .int n => @ite _ (-(2 ^ 62) ≤ n ∧ n < 2 ^ 62) (Classical.propDecidable _) (.ok (rangeD 0 n.toNat)) .ub
  | _ => .ub
noncomputable def D.range2 : D → D → R (List D)
  | .int a, .int b => @ite _ (-(2 ^ 62) ≤ a ∧ a < 2 ^ 62 ∧ -(2 ^ 62) ≤ b ∧ b < 2 ^ 62) (Classical.propDecidable _) (.ok (rangeD a (b - a).toNat)) .ub
  | _, _ => .ub
theorem ei_range1 (hm : X.mg "range" = none) (h : EV T X ds m e r) (hg : Gl X "range" := by rfl) (hst : starEach [e] X.env = [(false, eval e X.env)] := by exact se2 rfl) : EI T X ds m tg (.Call (.Name "range" p) [e] [] pos) (r.bind D.range1) := fun W tk B σ H hs w Q q =>
  wpI.of (pi_range1 hg hm (pa_cons (pe_wp X e) pa_nil hst) hst) (h W tk B σ H hs w _ (R.sat_mono (R.sat_bind q) (fun d hd B' v H' g rv => by
    unfold DL.D.range1 at hd
    split at hd
    · split at hd
      · rename_i hz
        exact ⟨_, by rw [rv.iint], hz.1, hz.2, hd B' _ H' g dw_range⟩
      · exact False.elim hd
    · exact False.elim hd) fun _ z => z))
theorem ei_range2 (hm : X.mg "range" = none) (h : EV T X ds m a ra) (h2 : EV T X ds m b rb) (hg : Gl X "range" := by rfl) (hst : starEach [a, b] X.env = [(false, eval a X.env), (false, eval b X.env)] := by exact se3 rfl rfl) (hst2 : starEach [b] X.env = [(false, eval b X.env)] := by exact se2 rfl) :
    EI T X ds m tg (.Call (.Name "range" p) [a, b] [] pos) (ra.bind fun x => rb.bind fun y => D.range2 x y) := fun W tk B σ H hs w Q q =>
  wpI.of (pi_range2 hg hm (pa_cons (pe_wp X a) (pa_cons (pe_wp X b) pa_nil hst2) (by rw [hst, hst2])) hst hst2) (h W tk B σ H hs w _ (R.sat_mono (R.sat_bind q) (fun d hd B' v H' g rv => by
    refine h2 W tk B' σ H' (hs.mono g.ex) g.own _ (R.sat_mono (R.sat_bind hd) (fun d2 hd2 B2 v2 H2 g2 rv2 => ?_) fun _ z => z.go g)
    unfold DL.D.range2 at hd2
    split at hd2
    · split at hd2
      · rename_i hz
        exact ⟨_, _, by rw [rv.iint, rv2.iint], hz, hd2 B2 _ H2 (g.trans g2) dw_range⟩
      · exact False.elim hd2
    · exact False.elim hd2) fun _ z => z))
/-- for a, b in zip(x, y) -/
def D.zip : D → D → R (List D)
  | .tup xs, .tup ys => .ok (pairD xs ys)
  | .lst xs, .lst ys => .ok (pairD xs ys)
  | _, _ => .ub
theorem ei_zip (hm : X.mg "zip" = none) (h : EV T X ds m a ra) (h2 : EV T X ds m b rb) (hg : Gl X "zip" := by rfl) (hst : starEach [a, b] X.env = (false, eval a X.env) :: starEach [b] X.env := by exact se1 rfl) (hst2 : starEach [b] X.env = (false, eval b X.env) :: starEach [] X.env := by exact se1 rfl)
    (hpl : (backTo pos (starEach [b] X.env)).any (·.1) = false := by exact sepl rfl) : EI T X ds m (.Tuple elts kk tpos) (.Call (.Name "zip" p) [a, b] [] pos) (ra.bind fun x => rb.bind fun y => D.zip x y) := fun W tk B σ H hs w Q q =>
  wpI.of (RZ.pi_zipA hg hm (pa_cons (pe_wp X a) (pa_cons (pe_wp X b) pa_nil hst2) hst) hst hpl) (h W tk B σ H hs w _ (R.sat_mono (R.sat_bind q) (fun d hd B' v H' g rv => by
    refine h2 W tk B' σ H' (hs.mono g.ex) g.own _ (R.sat_mono (R.sat_bind hd) (fun d2 hd2 B2 v2 H2 g2 rv2 => ?_) fun _ z => z.go g)
    have rv := rv.mono g2.ex
    unfold DL.D.zip at hd2
    split at hd2
    · obtain ⟨a1, vs, rfl, h1, h3⟩ := rv.itup
      obtain ⟨b1, us, rfl, h4, h5⟩ := rv2.itup
      exact ⟨a1, b1, vs, us, rfl, .inr ⟨ex_t g2.own.ex h1, ex_t g2.own.ex h4, hd2 B2 _ H2 (g.trans g2) (dw_zipT h1 h3 h4 h5)⟩⟩
    · obtain ⟨a1, vs, rfl, h1, h3⟩ := rv.ilst
      obtain ⟨b1, us, rfl, h4, h5⟩ := rv2.ilst
      exact ⟨a1, b1, vs, us, rfl, .inl ⟨ex_l g2.own.ex (.inl h1), ex_l g2.own.ex (.inl h4), hd2 B2 _ H2 (g.trans g2) (dw_zipL h1 h3 h4 h5)⟩⟩
    · exact False.elim hd2) fun _ z => z))
/-- enumerate(list) -/
def D.enumL : D → R (List D)
  | .lst xs => .ok (pairD (rangeD 0 xs.length) xs)
  | _ => .ub
theorem ei_enumL (hm : X.mg "enumerate" = none) (h : EV T X ds m a ra) (hg : Gl X "enumerate" := by rfl) (hst : starEach [a] X.env = [(false, eval a X.env)] := by exact se2 rfl) : EI T X ds m (.Tuple elts kk tpos) (.Call (.Name "enumerate" p) [a] [] pos) (ra.bind D.enumL) := fun W tk B σ H hs w Q q =>
  wpI.of (pi_enum hg hm (pa_cons (pe_wp X a) pa_nil hst) hst) (h W tk B σ H hs w _ (R.sat_mono (R.sat_bind q) (fun d hd B' v H' g rv => by
    unfold DL.D.enumL at hd
    split at hd
    · obtain ⟨a1, vs, rfl, h1, h3⟩ := rv.ilst
      exact ⟨a1, vs, rfl, ex_l g.own.ex (.inl h1), hd B' _ H' g (dw_enumL h1 h3)⟩
    · exact False.elim hd) fun _ z => z))

/-! ### targets -/
def Kpt (is : List Nat) (σ σ' : St) : Prop := σ'.length = σ.length ∧ ∀ j, j ∉ is → σ'[j]? = σ[j]?
theorem Kpt.trans {i1 i2 : List Nat} {σ σ1 σ2 : St} (a : Kpt i1 σ σ1) (b : Kpt i2 σ1 σ2) : Kpt (i1 ++ i2) σ σ2 := ⟨b.1.trans a.1, fun j hj => by
  rw [List.mem_append] at hj
  exact (b.2 j fun z => hj (.inr z)).trans (a.2 j fun z => hj (.inl z))⟩
/-- a target: what it asks of the value, the slots that it sets, what is known behind it -/
def TgD (K : PySem.W.Frag) (T : Tb) (g : TG) (is : List Nat) {α : Type} (un : D → R α) (put : DS → α → DS) : Prop :=
  ∀ (B : Hp) (m : OM) (H : Hp) (v : V) (d : D) (σ : St) (ds : DS), Own K T B m H → Sl K B σ ds → Rep K B v d → ∀ (Q : St → Hp → Prop) (Ee : Err → Prop),
    (un d).sat (fun a => ∀ B' σ' H', Go K T B m H B' m H' → Sl K B' σ' (put ds a) → Kpt is σ σ' → Q σ' H') Ee → g v σ H Q
theorem tgd_name {K : PySem.W.Frag} (i : Nat) : TgD K T (gName i) [i] R.ok (fun ds d => ds.set i (some d)) := fun B m H v d σ ds w hs rv Q Ee q => q B _ H (.refl w) (hs.set i rv) ⟨List.length_set .., fun j hj => List.getElem?_set_ne (fun z => hj (by simp [z]))⟩
def D.unp2 : D → R (D × D)
  | .tup [a, b] => .ok (a, b)
  | _ => .ub
theorem tgd_tup2 {K : PySem.W.Frag} {g1 g2 : TG} {i1 i2 : List Nat} {α β : Type} {u1 : D → R α} {u2 : D → R β} {p1 : DS → α → DS} {p2 : DS → β → DS} (h1 : TgD K T g1 i1 u1 p1) (h2 : TgD K T g2 i2 u2 p2) :
    TgD K T (gTup K 2 (gCons g1 (gCons g2 gNil))) (i1 ++ i2) (fun d => (D.unp2 d).bind fun q => (u1 q.1).bind fun a => (u2 q.2).bind fun b => .ok (a, b)) (fun ds q => p2 (p1 ds q.1) q.2) := fun B m H v d σ ds w hs rv Q Ee q => by
  have q1 := R.sat_bind q
  unfold DL.D.unp2 at q1
  split at q1
  · rename_i a b
    obtain ⟨ad, vs, rfl, h3, h4⟩ := rv.itup
    cases h4 with
    | cons ra r =>
      cases r with
      | cons rb r =>
        cases r
        refine ⟨ad, _, rfl, ex_t w.ex h3, rfl, ?_⟩
        refine ⟨_, _, rfl, ?_⟩
        refine h1 B m H _ a σ ds w hs ra _ Ee (R.sat_mono (R.sat_bind q1) (fun x hx B1 σ1 H1 g1 hs1 k1 => ?_) fun _ z => z)
        refine ⟨_, _, rfl, ?_⟩
        refine h2 B1 m H1 _ b σ1 _ g1.own hs1 (rb.mono g1.ex) _ Ee (R.sat_mono (R.sat_bind hx) (fun y hy B2 σ2 H2 g2 hs2 k2 => ?_) fun _ z => z)
        exact ⟨rfl, hy B2 σ2 H2 (g1.trans g2) hs2 (k1.trans k2)⟩
  · exact False.elim q1
def D.unp3 : D → R (D × D × D)
  | .tup [a, b, c] => .ok (a, b, c)
  | _ => .ub
theorem tgd_tup3 {K : PySem.W.Frag} {g1 g2 g3 : TG} {i1 i2 i3 : List Nat} {α β δ : Type} {u1 : D → R α} {u2 : D → R β} {u3 : D → R δ} {p1 : DS → α → DS} {p2 : DS → β → DS} {p3 : DS → δ → DS} (h1 : TgD K T g1 i1 u1 p1) (h2 : TgD K T g2 i2 u2 p2) (h3 : TgD K T g3 i3 u3 p3) :
    TgD K T (gTup K 3 (gCons g1 (gCons g2 (gCons g3 gNil)))) (i1 ++ (i2 ++ i3)) (fun d => (D.unp3 d).bind fun q => (u1 q.1).bind fun a => (u2 q.2.1).bind fun b => (u3 q.2.2).bind fun c => .ok (a, b, c)) (fun ds q => p3 (p2 (p1 ds q.1) q.2.1) q.2.2) := fun B m H v d σ ds w hs rv Q Ee q => by
  have q1 := R.sat_bind q
  unfold DL.D.unp3 at q1
  split at q1
  · rename_i a b c
    obtain ⟨ad, vs, rfl, h5, h4⟩ := rv.itup
    cases h4 with
    | cons ra r =>
      cases r with
      | cons rb r =>
        cases r with
        | cons rc r =>
          cases r
          refine ⟨ad, _, rfl, ex_t w.ex h5, rfl, ?_⟩
          refine ⟨_, _, rfl, ?_⟩
          refine h1 B m H _ a σ ds w hs ra _ Ee (R.sat_mono (R.sat_bind q1) (fun x hx B1 σ1 H1 g1 hs1 k1 => ?_) fun _ z => z)
          refine ⟨_, _, rfl, ?_⟩
          refine h2 B1 m H1 _ b σ1 _ g1.own hs1 (rb.mono g1.ex) _ Ee (R.sat_mono (R.sat_bind hx) (fun y hy B2 σ2 H2 g2 hs2 k2 => ?_) fun _ z => z)
          refine ⟨_, _, rfl, ?_⟩
          refine h3 B2 m H2 _ c σ2 _ g2.own hs2 ((rc.mono g1.ex).mono g2.ex) _ Ee (R.sat_mono (R.sat_bind hy) (fun z hz B3 σ3 H3 g3 hs3 k3 => ?_) fun _ z => z)
          exact ⟨rfl, hz B3 σ3 H3 ((g1.trans g2).trans g3) hs3 (k1.trans (k2.trans k3))⟩
  · exact False.elim q1
def D.unp4 : D → R (D × D × D × D)
  | .tup [a, b, c, d] => .ok (a, b, c, d)
  | _ => .ub
theorem tgd_tup4 {K : PySem.W.Frag} {g1 g2 g3 g4 : TG} {i1 i2 i3 i4 : List Nat} {α β δ ε : Type} {u1 : D → R α} {u2 : D → R β} {u3 : D → R δ} {u4 : D → R ε} {p1 : DS → α → DS} {p2 : DS → β → DS} {p3 : DS → δ → DS} {p4 : DS → ε → DS} (h1 : TgD K T g1 i1 u1 p1) (h2 : TgD K T g2 i2 u2 p2) (h3 : TgD K T g3 i3 u3 p3) (h4 : TgD K T g4 i4 u4 p4) :
    TgD K T (gTup K 4 (gCons g1 (gCons g2 (gCons g3 (gCons g4 gNil))))) (i1 ++ (i2 ++ (i3 ++ i4))) (fun d => (D.unp4 d).bind fun q => (u1 q.1).bind fun a => (u2 q.2.1).bind fun b => (u3 q.2.2.1).bind fun c => (u4 q.2.2.2).bind fun d => .ok (a, b, c, d)) (fun ds q => p4 (p3 (p2 (p1 ds q.1) q.2.1) q.2.2.1) q.2.2.2) := fun B m H v d σ ds w hs rv Q Ee q => by
  have q1 := R.sat_bind q
  unfold DL.D.unp4 at q1
  split at q1
  · rename_i a b c d
    obtain ⟨ad, vs, rfl, h5, h6⟩ := rv.itup
    cases h6 with
    | cons ra r =>
      cases r with
      | cons rb r =>
        cases r with
        | cons rc r =>
          cases r with
          | cons rd r =>
            cases r
            refine ⟨ad, _, rfl, ex_t w.ex h5, rfl, ?_⟩
            refine ⟨_, _, rfl, ?_⟩
            refine h1 B m H _ a σ ds w hs ra _ Ee (R.sat_mono (R.sat_bind q1) (fun x hx B1 σ1 H1 g1 hs1 k1 => ?_) fun _ z => z)
            refine ⟨_, _, rfl, ?_⟩
            refine h2 B1 m H1 _ b σ1 _ g1.own hs1 (rb.mono g1.ex) _ Ee (R.sat_mono (R.sat_bind hx) (fun y hy B2 σ2 H2 g2 hs2 k2 => ?_) fun _ z => z)
            refine ⟨_, _, rfl, ?_⟩
            refine h3 B2 m H2 _ c σ2 _ g2.own hs2 ((rc.mono g1.ex).mono g2.ex) _ Ee (R.sat_mono (R.sat_bind hy) (fun z hz B3 σ3 H3 g3 hs3 k3 => ?_) fun _ z => z)
            refine ⟨_, _, rfl, ?_⟩
            refine h4 B3 m H3 _ d σ3 _ g3.own hs3 (((rd.mono g1.ex).mono g2.ex).mono g3.ex) _ Ee (R.sat_mono (R.sat_bind hz) (fun z' hz' B4 σ4 H4 g4 hs4 k4 => ?_) fun _ z => z)
            exact ⟨rfl, hz' B4 σ4 H4 (((g1.trans g2).trans g3).trans g4) hs4 (k1.trans (k2.trans (k3.trans k4)))⟩
  · exact False.elim q1
end
end DL
namespace DL
open PySem PySem.Spec PyProof.Rows L2
open Evl (Ex ex_l ex_t ex_rd)

def turnK {S γ : Type} (k : S → R (Fl S Empty γ)) : Fl S S γ → R (Fl S Empty γ)
  | .nx s => k s
  | .ct s => k s
  | .bk s => .ok (.nx s)
  | .rt g => .ok (.rt g)
def forL {S α γ : Type} (un : D → R α) (f : S → α → R (Fl S S γ)) : List D → S → R (Fl S Empty γ)
  | [], s => .ok (.nx s)
  | x :: xs, s => (un x).bind fun a => (f s a).bind (turnK (forL un f xs))
def whileR {S γ : Type} (c : S → R Bool) (f : S → R (Fl S S γ)) : Nat → S → R (Fl S Empty γ)
  | 0, _ => .ub
  | n + 1, s => (c s).bind fun b => if b then (f s).bind (turnK (whileR c f n)) else .ok (.nx s)
abbrev Exits.loop {S L S' γ : Type} (E : Exits S L γ) (n : S' → DS → OM → Prop) : Exits S' S' γ := ⟨n, n, E.rt⟩
section
variable {T : Tb} {X : Cx} {ds : DS} {m : OM} {S S' L γ α : Type} {E : Exits S L γ} {rest body : List Stmt} {pos : Pos} {tg iter c : Expr}
/-- one turn's end -/
theorem turn_post {W : WX} {B B3 H H3 : Hp} {m3 : OM} {En : S' → DS → OM → Prop} {K : S' → R (Fl S L γ)} {k : S' → R (Fl S' Empty γ)} {D0 : Ends} {N : St → Hp → Prop} (tk : Takes X W) (g3 : Go X.K T B m H B3 m3 H3)
    (hr : ∀ s ds' m', En s ds' m' → SB T X ds' m' rest E (K s))
    (hN : ∀ s ds' m', En s ds' m' → ∀ B' σ' H', Go X.K T B m H B' m' H' → Ex B3 B' → Sl X.K B' σ' ds' → ((k s).bind (Fl.after K)).sat (SBpost X.K T B m H E D0) (EB X T W B m H) → N σ' H') {fl : Fl S' S' γ}
    (h : ((turnK k fl).bind (Fl.after K)).sat (SBpost X.K T B m H E D0) (EB X T W B m H)) :
    SBpost X.K T B3 m3 H3 (E.loop En) { nx := N, rt := D0.rt, bk := wpSs X rest D0, ct := N } fl := by
  cases fl with
  | nx s => exact fun ds' m' ht B' σ' H' g' hs => hN s ds' m' ht B' σ' H' (g3.trans g') g'.ex hs h
  | ct s => exact fun ds' m' ht B' σ' H' g' hs => hN s ds' m' ht B' σ' H' (g3.trans g') g'.ex hs h
  | bk s => exact fun ds' m' ht B' σ' H' g' hs => (hr s ds' m' ht).cont tk (g3.trans g') hs h
  | rt q => exact RtP.go g3 h
theorem R.bind_assoc {α β γ : Type} (r : R α) (f : α → R β) (g : β → R γ) : (r.bind f).bind g = r.bind fun a => (f a).bind g := by cases r <;> rfl
theorem for_core {W : WX} {B B0 H H0 : Hp} {m0 m00 : OM} {ds0 : DS} {σ0 : St} {J : It} {xs : List D} {g : TG} {is : List Nat} {un : D → R α} {put : DS → α → DS} {En : S' → DS → OM → Prop} {f : S' → α → R (Fl S' S' γ)} {K : S' → R (Fl S L γ)} {s0 : S'} {D0 : Ends} (tk : Takes X W)
    (g0 : Go X.K T B m H B0 m0 H0) (hs0 : Sl X.K B0 σ0 ds) (dw : DW X.K T J B0 xs) (ht : TgD X.K T g is un put) (he : En s0 ds0 m00) (h0 : Fgt ds ds0) (h1 : m00.Sublist m0)
    (hb : ∀ s a ds' m', En s ds' m' → SB T X (put ds' a) m' body (E.loop En) (f s a)) (hr : ∀ s ds' m', En s ds' m' → SB T X ds' m' rest E (K s))
    (q : ((forL un f xs s0).bind (Fl.after K)).sat (SBpost X.K T B m H E D0) (EB X T W B m H)) :
    ∃ W' : Nat → Nat → St → Hp → Prop, (∃ n, W' 0 n σ0 H0) ∧ ∀ i n σ H, W' i n σ H →
      (J.stop i H ∧ wpSs X rest D0 σ H) ∨ (J.go i H ∧ ∃ N : St → Hp → Prop, (∀ σ' H', N σ' H' → ∃ n', n' < n ∧ W' (i + 1) n' σ' H') ∧ ∀ x H', J.yld i H x H' → g x σ H' fun σ2 H2 => wpSs X body { nx := N, rt := D0.rt, bk := wpSs X rest D0, ct := N } σ2 H2) := by
  refine ⟨fun i n σ1 H1 => n = xs.length - i ∧ i ≤ xs.length ∧ ∃ s ds1 m1 B1, En s ds1 m1 ∧ Go X.K T B m H B1 m1 H1 ∧ Ex B0 B1 ∧ Sl X.K B1 σ1 ds1 ∧ ((forL un f (xs.drop i) s).bind (Fl.after K)).sat (SBpost X.K T B m H E D0) (EB X T W B m H),
    ⟨xs.length, by simp, Nat.zero_le _, s0, ds0, m00, B0, he, g0.sub h1, fun _ _ h => h, hs0.fgt h0, q⟩, ?_⟩
  rintro i n σ1 H1 ⟨rfl, hi, s, ds1, m1, B1, en1, g1, e1, hs1, q1⟩
  by_cases hlt : i < xs.length
  · have hx : xs[i]? = some xs[i] := List.getElem?_eq_getElem hlt
    have hd : xs.drop i = xs[i] :: xs.drop (i + 1) := List.drop_eq_getElem_cons hlt
    rw [hd] at q1
    refine .inr ⟨dw.goes i H1 hlt (e1.trans g1.own.ex), fun σ' H' => ∃ s ds2 m2 B2, En s ds2 m2 ∧ Go X.K T B m H B2 m2 H' ∧ Ex B0 B2 ∧ Sl X.K B2 σ' ds2 ∧ ((forL un f (xs.drop (i + 1)) s).bind (Fl.after K)).sat (SBpost X.K T B m H E D0) (EB X T W B m H),
      fun σ' H' ⟨s', ds2, m2, B2, z0, z1, z2, z3, z4⟩ => ⟨xs.length - (i + 1), by omega, rfl, hlt, s', ds2, m2, B2, z0, z1, z2, z3, z4⟩, fun v H2 hy => ?_⟩
    obtain ⟨B2, g2, rv⟩ := dw.yields i H1 v H2 B1 m1 _ hx e1 g1.own hy
    have q2 : ((un xs[i]).bind fun a => (f s a).bind fun fl => (turnK (forL un f (xs.drop (i + 1))) fl).bind (Fl.after K)).sat (SBpost X.K T B m H E D0) (EB X T W B m H) := by
      have : ((forL un f (xs[i] :: xs.drop (i + 1)) s).bind (Fl.after K)) = ((un xs[i]).bind fun a => (f s a).bind fun fl => (turnK (forL un f (xs.drop (i + 1))) fl).bind (Fl.after K)) := by
        show (((un xs[i]).bind fun a => (f s a).bind (turnK (forL un f (xs.drop (i + 1))))).bind (Fl.after K)) = _
        rw [R.bind_assoc]
        congr 1
        funext a
        rw [R.bind_assoc]
      rw [← this]
      exact q1
    refine ht B2 m1 H2 v xs[i] σ1 ds1 g2.own (hs1.mono g2.ex) rv _ _ (R.sat_mono (R.sat_bind q2) (fun a ha B3 σ3 H3 g3 hs3 _ => ?_) fun _ z => z)
    have g13 := (g1.trans g2).trans g3
    refine hb s a ds1 m1 en1 W tk B3 σ3 H3 hs3 g13.own _ (R.sat_mono (R.sat_bind ha) (fun fl hfl => ?_) fun _ z => z.go g13)
    exact turn_post tk g13 hr (fun s' ds2 m2 z0 B' σ' H' z1 z2 z3 z4 => ⟨s', ds2, m2, B', z0, z1, ((e1.trans g2.ex).trans g3.ex).trans z2, z3, z4⟩) hfl
  · have e : i = xs.length := by omega
    subst e
    rw [List.drop_length] at q1
    exact .inl ⟨dw.stops H1 (e1.trans g1.own.ex), (hr s ds1 m1 en1).cont tk g1 hs1 q1⟩
/-- for target in iter: body; rest -/
theorem sb_for {ri : R (List D)} {g : TG} {is : List Nat} {un : D → R α} {put : DS → α → DS} {f : S' → α → R (Fl S' S' γ)} {K : S' → R (Fl S L γ)} {ds0 : DS} {m0 : OM} (En : S' → DS → OM → Prop) (s0 : S') (hp : PassesOwn (model X.prog X.w) X.A X.env X.xe) (hc : X.calm = true) (hi : EI T X ds m tg iter ri) (hg : PG X tg g) (ht : TgD X.K T g is un put)
    (he : En s0 ds0 m0) (h0 : Fgt ds ds0) (h1 : m0.Sublist m) (hb : ∀ s a ds' m', En s ds' m' → SB T X (put ds' a) m' body (E.loop En) (f s a)) (hr : ∀ s ds' m', En s ds' m' → SB T X ds' m' rest E (K s)) (hst : ∀ x, foldedSetIterable iter X.env x = pure x := by intro _; rfl) :
    SB T X ds m (.For tg iter body [] pos :: rest) E (ri.bind fun xs => (forL un f xs s0).bind (Fl.after K)) := fun W tk B σ H hs w D q =>
  wpSs.of (pss_cons (ps_for hp hc (pi_wp X tg iter) hg (pss_wp X body) hst) (pss_wp X rest)) (hi W tk B σ H hs w _ (R.sat_mono (R.sat_bind q) (fun xs hx B0 J H0 g0 dw => for_core tk g0 (hs.mono g0.ex) dw ht he h0 h1 hb hr hx) fun _ z => z.ek))
theorem sb_forX {τ : Type} {M : τ → OM} {t : τ} {ri : R (List D × τ)} {g : TG} {is : List Nat} {un : D → R α} {put : DS → α → DS} {f : S' → α → R (Fl S' S' γ)} {K : S' → R (Fl S L γ)} {ds0 : τ → DS} {m0 : τ → OM} (En : S' → DS → OM → Prop) (s0 : τ → S') (hp : PassesOwn (model X.prog X.w) X.A X.env X.xe) (hc : X.calm = true) (hi : EIt T X ds M t tg iter ri) (hg : PG X tg g) (ht : TgD X.K T g is un put)
    (he : ∀ u, En (s0 u) (ds0 u) (m0 u)) (h0 : ∀ u, Fgt ds (ds0 u)) (h1 : ∀ u, (m0 u).Sublist (M u)) (hb : ∀ s a ds' m', En s ds' m' → SB T X (put ds' a) m' body (E.loop En) (f s a)) (hr : ∀ s ds' m', En s ds' m' → SB T X ds' m' rest E (K s)) (hst : ∀ x, foldedSetIterable iter X.env x = pure x := by intro _; rfl) :
    SB T X ds (M t) (.For tg iter body [] pos :: rest) E (ri.bind fun p => (forL un f p.1 (s0 p.2)).bind (Fl.after K)) := fun W tk B σ H hs w D q =>
  wpSs.of (pss_cons (ps_for hp hc (pi_wp X tg iter) hg (pss_wp X body) hst) (pss_wp X rest)) (hi W tk B σ H hs w _ (R.sat_mono (R.sat_bind q) (fun p hx B0 J H0 g0 dw => for_core tk g0 (hs.mono g0.ex) dw ht (he p.2) (h0 p.2) (h1 p.2) hb hr hx) fun _ z => z.ek))
/-- while c: body; rest -/
theorem sb_while {cR : S' → R Bool} {f : S' → R (Fl S' S' γ)} {K : S' → R (Fl S L γ)} {ds0 : DS} {m0 : OM} (En : S' → DS → OM → Prop) (s0 : S') (fuel : Nat) (hp : PassesOwn (model X.prog X.w) X.A X.env X.xe) (he : En s0 ds0 m0) (h0 : Fgt ds ds0) (h1 : m0.Sublist m)
    (hc : ∀ s ds' m', En s ds' m' → ETp T X ds' m' c (cR s)) (hb : ∀ s ds' m', En s ds' m' → SB T X ds' m' body (E.loop En) (f s)) (hr : ∀ s ds' m', En s ds' m' → SB T X ds' m' rest E (K s)) :
    SB T X ds m (.While c body [] pos :: rest) E ((whileR cR f fuel s0).bind (Fl.after K)) := fun W tk B σ H hs w D q => by
  refine wpSs.of (pss_cons (ps_while hp (pt_wp X c) (pss_wp X body)) (pss_wp X rest)) ?_
  refine ⟨fun n σ1 H1 => ∃ s ds1 m1 B1, En s ds1 m1 ∧ Go X.K T B m H B1 m1 H1 ∧ Sl X.K B1 σ1 ds1 ∧ ((whileR cR f n s).bind (Fl.after K)).sat (SBpost X.K T B m H E D) (EB X T W B m H), ⟨fuel, s0, ds0, m0, B, he, (Go.refl w).sub h1, hs.fgt h0, q⟩, ?_⟩
  rintro n σ1 H1 ⟨s, ds1, m1, B1, en1, g1, hs1, q1⟩
  cases n with
  | zero => exact False.elim q1
  | succ n =>
    have q2 : ((cR s).bind fun b => (if b then (f s).bind (turnK (whileR cR f n)) else .ok (.nx s) : R (Fl S' Empty γ)).bind (Fl.after K)).sat (SBpost X.K T B m H E D) (EB X T W B m H) := by
      rw [← R.bind_assoc]; exact q1
    refine hc s ds1 m1 en1 W tk B1 σ1 H1 hs1 g1.own _ (R.sat_mono (R.sat_bind q2) (fun b hb' B2 H2 g2 => ?_) fun _ z => (z.go g1).ek)
    have g12 := g1.trans g2
    cases b with
    | true =>
      rw [if_pos rfl] at hb' ⊢
      rw [R.bind_assoc] at hb'
      refine ⟨fun σ' H' => ∃ s ds2 m2 B3, En s ds2 m2 ∧ Go X.K T B m H B3 m2 H' ∧ Sl X.K B3 σ' ds2 ∧ ((whileR cR f n s).bind (Fl.after K)).sat (SBpost X.K T B m H E D) (EB X T W B m H), fun σ' H' z => ⟨n, Nat.lt_succ_self n, z⟩, ?_⟩
      refine hb s ds1 m1 en1 W tk B2 σ1 H2 (hs1.mono g2.ex) g2.own _ (R.sat_mono (R.sat_bind hb') (fun fl hfl => ?_) fun _ z => z.go g12)
      exact turn_post tk g12 hr (fun s' ds2 m2 z0 B' σ' H' z1 _ z3 z4 => ⟨s', ds2, m2, B', z0, z1, z3, z4⟩) hfl
    | false =>
      rw [if_neg Bool.false_ne_true] at hb' ⊢
      exact (hr s ds1 m1 en1).cont tk g12 (hs1.mono g2.ex) hb'
end
end DL
namespace DL
open PySem PySem.Spec PyProof.Rows L2
open Evl (Ex ex_l ex_t ex_rd)

def R.quiet {α : Type} : R α → R α
  | .ok a => .ok a
  | .err _ => .ub
  | .ub => .ub
@[simp] theorem R.quiet_ok {α : Type} (a : α) : (R.ok a).quiet = .ok a := rfl
/-- one item's turn -/
def lcG {α : Type} (un : D → R α) (ft : α → R Bool) (fe : α → R D) (x : D) : R (List D) :=
  ((un x).bind fun a => (ft a).bind fun b => if b then (fe a).bind fun d => .ok [d] else .ok []).quiet
def lcL (f : D → R (List D)) : List D → R (List D)
  | [] => .ok []
  | x :: xs => (f x).bind fun o => (lcL f xs).bind fun r => .ok (o ++ r)
def lcR {α : Type} (un : D → R α) (ft : α → R Bool) (fe : α → R D) (xs : List D) : R (List D) := if xs.length ≤ sizeLine then lcL (lcG un ft fe) xs else .ub
def wipeD (ds : DS) : List Nat → DS
  | [] => ds
  | v :: vs => (wipeD ds vs).set v none
theorem Sl.wipe {K : PySem.W.Frag} {B : Hp} {σ : St} {ds : DS} (s : Sl K B σ ds) : ∀ vs : List Nat, Sl K B (wipe σ vs) (wipeD ds vs)
  | [] => s
  | v :: vs => by
    have ih := Sl.wipe s vs
    unfold L2.wipe wipeD
    refine ⟨by rw [List.length_set, List.length_set]; exact ih.len, fun i d h => ?_⟩
    by_cases hi : v = i
    · subst hi
      by_cases hl : v < (wipeD ds vs).length
      · rw [List.getElem?_set_self hl] at h; cases h
      · rw [List.getElem?_eq_none (by rw [List.length_set]; omega)] at h; cases h
    · rw [List.getElem?_set_ne hi] at h ⊢
      exact ih.at_ i d h
theorem wipe_get (σ : St) (j : Nat) : ∀ vs : List Nat, (wipe σ vs)[j]? = if j ∈ vs ∧ j < σ.length then some none else σ[j]?
  | [] => by simp [L2.wipe]
  | v :: vs => by
    unfold L2.wipe
    have ih := wipe_get σ j vs
    have hl := wipe_length σ vs
    by_cases hv : v = j
    · subst hv
      by_cases hj : v < σ.length
      · rw [List.getElem?_set_self (by omega)]
        simp [hj]
      · rw [List.getElem?_eq_none (by rw [List.length_set]; omega)]
        simp [hj]
    · rw [List.getElem?_set_ne hv, ih]
      have : j ≠ v := Ne.symm hv
      simp [this]
theorem wipe_eq {σ σ' : St} {is vs : List Nat} (hl : σ'.length = (wipe σ vs).length) (h : ∀ j, j ∉ is → σ'[j]? = (wipe σ vs)[j]?) (hs : ∀ j ∈ is, j ∈ vs) : wipe σ' vs = wipe σ vs := by
  apply List.ext_getElem?
  intro j
  rw [wipe_get, wipe_get σ]
  rw [wipe_length] at hl
  by_cases hj : j ∈ vs
  · by_cases hlt : j < σ.length
    · rw [if_pos ⟨hj, by omega⟩, if_pos ⟨hj, hlt⟩]
    · rw [if_neg (fun z => hlt (by omega)), if_neg (fun z => hlt z.2), List.getElem?_eq_none (by omega), List.getElem?_eq_none (by omega)]
  · rw [if_neg (fun z => hj z.1), if_neg (fun z => hj z.1), h j fun z => hj (hs j z), wipe_get]
    rw [if_neg (fun z => hj z.1)]
theorem Go.poke {K : PySem.W.Frag} {T : Tb} {B B1 H H1 : Hp} {m m1 : OM} {p : Addr} {vs us : List V} (g : Go K T B m H B1 m1 H1) (hf : Fre H p) (hm : p ∉ m1.map (·.1)) (hB : B1 p = none) (hp : H1 p = some (.lst vs)) : Go K T B m H B1 m1 (L2.upd H1 p (.lst us)) := by
  refine ⟨g.ex, ⟨fun a u e => ?_, fun q hq => ?_, g.own.nd, fun q hq => ?_, g.own.nt⟩, fun a o e nt ha => ?_, g.fresh, g.grow⟩
  · have hne : a ≠ p := fun z => by rw [z, hB] at e; cases e
    rw [upd_ne hne]; exact g.own.ex a u e
  · obtain ⟨h1, h2⟩ := g.own.at_ q hq
    have hne : q.1 ≠ p := fun z => hm (z ▸ List.mem_map.mpr ⟨q, hq, rfl⟩)
    exact ⟨h1, h2.mono (fun _ _ h => h) fun u e => by rw [upd_ne hne]; exact e⟩
  · obtain ⟨ps, h1, h2, h3⟩ := g.own.tb q hq
    have ne1 : q.1 ≠ p := fun z => by rw [z, hp] at h1; cases h1
    refine ⟨ps, by rw [upd_ne ne1]; exact h1, h2, fun pos cv hc => ?_⟩
    obtain ⟨c, hc1, hc2⟩ := h3 pos cv hc
    have ne2 : c ≠ p := fun z => by rw [z, hp] at hc2; cases hc2
    exact ⟨c, hc1, by rw [upd_ne ne2]; exact hc2⟩
  · have hne : a ≠ p := fun z => by
      subst z
      obtain ⟨ps, z⟩ := hf o e
      exact nt ps z
    rw [upd_ne hne]
    exact g.frame a o e nt ha
theorem Go.back {K : PySem.W.Frag} {T : Tb} {B B1 H H1 : Hp} {m m1 : OM} {p : Addr} (g : Go K T B m H B1 m1 H1) (h : H1 p = none) : p ∈ m.map (·.1) ∨ Fre H p := by
  by_cases hx : p ∈ m.map (·.1)
  · exact .inl hx
  · refine .inr fun o e => ?_
    by_cases ht : ∃ ps, o = .tbl ps
    · exact ht
    · have z := g.frame p o e (fun ps z => ht ⟨ps, z⟩) hx
      rw [h] at z; cases z
theorem R.sat_quiet {α : Type} {r : R α} {P : α → Prop} {Ee : Err → Prop} (h : r.quiet.sat P Ee) : r.sat P fun _ => False := by
  cases r with
  | ok a => exact h
  | err e => exact h
  | ub => exact h
section
variable {T : Tb} {X : Cx} {ds : DS} {m : OM} {α : Type} {pos : Pos} {tg iter elt c : Expr} {ifs : List Expr} {scope : Scope} {own : List (Str × Nat)}
structure wpC (X : Cx) (ifs : List Expr) (σ : St) (H : Hp) (Q : Bool → Hp → Prop) : Prop where
  run : ∀ (pins : List (Addr × Obj)) (s : Shared), Inv X pins σ H s →
  wpAny (model X.prog X.w) X.A (forIn ifs true fun c r => if r = true then do let ok ← isTrue c X.env (eval c X.env); pure (ForInStep.yield ok) else pure (ForInStep.yield r)) (TP X pins σ Q) X.xe s
theorem wpC.of {ifs : List Expr} {t : TT} (h : PTs X ifs t) {σ : St} {H : Hp} {Q : Bool → Hp → Prop} (q : t σ H Q) : wpC X ifs σ H Q := ⟨fun pins s I => h.run pins s σ H Q I q⟩
def EC (T : Tb) (X : Cx) (ds : DS) (m : OM) (ifs : List Expr) (r : R Bool) : Prop :=
  ∀ (W : WX), Takes X W → ∀ (B : Hp) (σ : St) (H : Hp), Sl X.K B σ ds → Own X.K T B m H → ∀ Q : Bool → Hp → Prop,
    r.sat (fun b => ∀ B' H', Go X.K T B m H B' m H' → Q b H') (EK T X W B m σ H m) → wpC X ifs σ H Q
theorem ec_nil : EC T X ds m [] (.ok true) := fun W tk B σ H hs w Q q => wpC.of pts_nil (q B H (.refl w))
theorem ec_one {r : R Bool} (h : ETp T X ds m c r) : EC T X ds m [c] r := fun W tk B σ H hs w Q q => wpC.of (pts_one (pt_wp X c)) (h W tk B σ H hs w Q q)
abbrev Bk (X : Cx) (scope : Scope) (s : Shared) (H : Hp) (C : Addr) (cl : List (Str × Addr)) (fp : List Addr) : Cx := X.blk s H scope (compEnvC scope cl C X.env) fp
def ttAll (X : Cx) (scope : Scope) (ifs : List Expr) : TT := fun σ H Q => ∀ s H' C cl fp, wpC (Bk X scope s H' C cl fp) ifs σ H Q
def teAll (X : Cx) (scope : Scope) (elt : Expr) : TE := fun σ H Q => ∀ s H' C cl fp, wpE (Bk X scope s H' C cl fp) elt σ H Q
theorem lc_core' {B B0 H H0 : Hp} {σ : St} {J : It} {xs : List D} {g : TG} {is : List Nat} {un : D → R α} {put : DS → α → DS} {ft : α → R Bool} {fe : α → R D} {vs : List Nat} {Dl : Addr} {P : List D → Prop} {Qd : Hp → Prop} {tt : TT} {te : TE}
    (g0 : Go X.K T B m H B0 m H0) (hs0 : Sl X.K B0 σ ds) (dw : DW X.K T J B0 xs) (hT : TgD X.K T g is un put) (hsub : ∀ j ∈ is, j ∈ vs) (hD : H0 Dl = none) (hz : xs.length ≤ sizeLine)
    (htt : ∀ (a : α) B1 σ1 H1, Sl X.K B1 σ1 (put (wipeD ds vs) a) → Own X.K T B1 m H1 → ∀ Q : Bool → Hp → Prop, (ft a).sat (fun b => ∀ B' H', Go X.K T B1 m H1 B' m H' → Q b H') (fun _ => False) → tt σ1 H1 Q)
    (hte : ∀ (a : α) B1 σ1 H1, Sl X.K B1 σ1 (put (wipeD ds vs) a) → Own X.K T B1 m H1 → ∀ Q : VK, (fe a).sat (fun d => ∀ B' v H', Go X.K T B1 m H1 B' m H' → Rep X.K B' v d → Q v H') (fun _ => False) → te σ1 H1 Q)
    (hP : ∀ ys B' vs' H', P ys → Go X.K T B m H B' m H' → B' Dl = none → H' Dl = some (.lst vs') → RepL X.K B' vs' ys → Qd H') {Ee : Err → Prop}
    (q : (lcL (lcG un ft fe) xs).sat P Ee) :
    ∃ W' : Nat → Nat → Hp → Prop, (∃ n, W' 0 n (upd H0 Dl (.lst []))) ∧ ∀ i n H, W' i n H →
      (J.stop i H ∧ Qd H) ∨ (J.go i H ∧ ∃ Nx : Hp → Prop, (∀ H', Nx H' → ∃ n', n' < n ∧ W' (i + 1) n' H') ∧ ∀ x H', J.yld i H x H' → g x (wipe σ vs) H' fun σ2 H2 => wipe σ2 vs = wipe σ vs ∧ tt σ2 H2 fun b H3 =>
        if b = true then te σ2 H3 fun y H4 => ∃ acc, H4 Dl = some (.lst acc) ∧ acc.length < sizeLine ∧ Nx (upd H4 Dl (.lst (acc ++ [y]))) else Nx H3) := by
  have hB0 : B0 Dl = none := by
    cases e : B0 Dl with
    | none => rfl
    | some u => rw [g0.own.ex Dl u e] at hD; cases hD
  have hm : Dl ∉ m.map (·.1) := g0.own.notIn (.of hD)
  have hf : Fre H Dl := Fre.back g0 (.of hD) hm
  refine ⟨fun i n H1 => n = xs.length - i ∧ i ≤ xs.length ∧ ∃ B1 acc done, Go X.K T B m H B1 m H1 ∧ Ex B0 B1 ∧ B1 Dl = none ∧ H1 Dl = some (.lst acc) ∧ RepL X.K B1 acc done ∧ acc.length ≤ i ∧ ((lcL (lcG un ft fe) (xs.drop i)).bind fun r => .ok (done ++ r)).sat P Ee,
    ⟨xs.length, by simp, Nat.zero_le _, B0, [], [], g0.trans (Go.new g0.own hD), fun _ _ h => h, hB0, upd_same, .nil, Nat.le_refl _, ?_⟩, ?_⟩
  · show ((lcL (lcG un ft fe) xs).bind fun r => .ok ([] ++ r)).sat P Ee
    exact R.sat_bind' (R.sat_mono q (fun ys h => h) fun _ z => z)
  rintro i n H1 ⟨rfl, hi, B1, acc, done, g1, e1, hB1, hD1, ra, hl, q1⟩
  by_cases hlt : i < xs.length
  · have hx : xs[i]? = some xs[i] := List.getElem?_eq_getElem hlt
    have hd : xs.drop i = xs[i] :: xs.drop (i + 1) := List.drop_eq_getElem_cons hlt
    rw [hd] at q1
    refine .inr ⟨dw.goes i H1 hlt (e1.trans g1.own.ex), fun H' => ∃ B2 acc2 done2, Go X.K T B m H B2 m H' ∧ Ex B0 B2 ∧ B2 Dl = none ∧ H' Dl = some (.lst acc2) ∧ RepL X.K B2 acc2 done2 ∧ acc2.length ≤ i + 1 ∧ ((lcL (lcG un ft fe) (xs.drop (i + 1))).bind fun r => .ok (done2 ++ r)).sat P Ee,
      fun H' ⟨B2, acc2, done2, z1, z2, z3, z4, z5, z6, z7⟩ => ⟨xs.length - (i + 1), by omega, rfl, hlt, B2, acc2, done2, z1, z2, z3, z4, z5, z6, z7⟩, fun v H2 hy => ?_⟩
    obtain ⟨B2, g2, rv⟩ := dw.yields i H1 v H2 B1 m _ hx e1 g1.own hy
    -- what stays of the list at Dl
    have stay : ∀ {B3 H3 : Hp}, Go X.K T B1 m H1 B3 m H3 → H3 Dl = some (.lst acc) ∧ B3 Dl = none := fun {B3 H3} g3 => by
      refine ⟨g3.frame Dl _ hD1 (fun _ z => nomatch z) hm, ?_⟩
      cases e : B3 Dl with
      | none => rfl
      | some u =>
        rcases g3.grow Dl u e with z | z | z | ⟨xs, z⟩ | ⟨xs, z⟩
        · rw [hB1] at z; cases z
        · exact absurd z hm
        · obtain ⟨ps, z⟩ := z _ hD1; cases z
        · rw [hD1] at z; cases z
        · rw [hD1] at z; cases z
    have q2 : (lcG un ft fe xs[i]).sat (fun o => ((lcL (lcG un ft fe) (xs.drop (i + 1))).bind fun r => .ok ((done ++ o) ++ r)).sat P Ee) Ee := by
      have q3 := R.sat_bind (R.sat_bind q1)
      refine R.sat_mono q3 (fun o ho => ?_) fun _ z => z
      have ho := R.sat_bind ho
      refine R.sat_bind' (R.sat_mono ho (fun r hr => ?_) fun _ z => z)
      have hr : P (done ++ (o ++ r)) := hr
      show P ((done ++ o) ++ r)
      rw [List.append_assoc]
      exact hr
    have q4 := R.sat_quiet q2
    refine hT B2 m H2 v xs[i] (wipe σ vs) (wipeD ds vs) g2.own ((hs0.mono (e1.trans g2.ex)).wipe vs) rv _ _ (R.sat_mono (R.sat_bind q4) (fun a ha B3 σ3 H3 g3 hs3 k3 => ?_) fun _ z => z)
    refine ⟨wipe_eq k3.1 k3.2 hsub, ?_⟩
    have g13 := g2.trans g3
    refine htt a B3 σ3 H3 hs3 g3.own _ (R.sat_mono (R.sat_bind ha) (fun b hb B4 H4 g4 => ?_) fun _ z => z)
    have g14 := g13.trans g4
    cases b with
    | true =>
      rw [if_pos rfl] at hb ⊢
      refine hte a B4 σ3 H4 (hs3.mono g4.ex) g4.own _ (R.sat_mono (R.sat_bind hb) (fun d hd' B5 y H5 g5 ry => ?_) fun _ z => z)
      have g15 := g14.trans g5
      obtain ⟨k1, k2⟩ := stay g15
      exact ⟨acc, k1, by omega, B5, acc ++ [y], done ++ [d], (g1.trans g15).poke hf hm k2 k1, e1.trans g15.ex, k2, upd_same, (ra.mono g15.ex).append (.cons ry .nil), by rw [List.length_append]; show acc.length + 1 ≤ i + 1; omega, hd'⟩
    | false =>
      rw [if_neg Bool.false_ne_true] at hb ⊢
      obtain ⟨k1, k2⟩ := stay g14
      have hb : ((lcL (lcG un ft fe) (xs.drop (i + 1))).bind fun r => .ok ((done ++ []) ++ r)).sat P Ee := hb
      rw [List.append_nil] at hb
      exact ⟨B4, acc, done, g1.trans g14, e1.trans g14.ex, k2, k1, ra.mono g14.ex, by omega, hb⟩
  · have e : i = xs.length := by omega
    subst e
    rw [List.drop_length] at q1
    have q1 : P (done ++ []) := q1
    rw [List.append_nil] at q1
    exact .inl ⟨dw.stops H1 (e1.trans g1.own.ex), hP done B1 acc H1 q1 g1 hB1 hD1 ra⟩
/-- [elt for tg in iter if c] -/
theorem el_lcT {ri : R (List D)} {g : TG} {is : List Nat} {un : D → R α} {put : DS → α → DS} {ft : α → R Bool} {fe : α → R D} {W : WX} {B H : Hp} {σ : St} {Q : VK} (tk : Takes X W) (hi : EI T X ds m tg iter ri) (hT : TgD X.K T g is un put) (ht : ∀ s H C cl fp (a : α), EC T (Bk X scope s H C cl fp) (put (wipeD ds (own.map (·.2))) a) m ifs (ft a)) (he : ∀ s H C cl fp (a : α), EV T (Bk X scope s H C cl fp) (put (wipeD ds (own.map (·.2))) a) m elt (fe a))
    (hsub : ∀ j ∈ is, j ∈ own.map (·.2)) (hs : Sl X.K B σ ds) (w : Own X.K T B m H)
    (q : (ri.bind (lcR un ft fe)).sat (fun xs => ∀ B' p vs H', Go X.K T B m H B' m H' → B' p = none → Fre H p → p ∉ m.map (·.1) → H' p = some (.lst vs) → RepL X.K B' vs xs → Q (.ref p) H') (EK T X W B m σ H m)) :
    tLc (wpI X tg iter) g (ttAll X scope ifs) (teAll X scope elt) (own.map (·.2)) σ H Q := by
  refine hi W tk B σ H hs w _ (R.sat_mono (R.sat_bind q) (fun xs hx B0 J H0 g0 dw Dl hD => ?_) fun _ z => z)
  unfold lcR at hx
  split at hx
  · rename_i hz
    refine lc_core' (tt := ttAll X scope ifs) (te := teAll X scope elt) g0 (hs.mono g0.ex) dw hT hsub hD hz (fun a B1 σ1 H1 hs1 w1 Q1 q1 s H' C cl fp => ?_) (fun a B1 σ1 H1 hs1 w1 Q1 q1 s H' C cl fp => ?_) (fun ys B' vs' H' hp g hB hd r => ?_) hx
    · exact ht s H' C cl fp a _ LamX.takes0 B1 σ1 H1 hs1 w1 Q1 (R.sat_mono q1 (fun _ z => z) fun _ z => z.elim)
    · exact he s H' C cl fp a _ LamX.takes0 B1 σ1 H1 hs1 w1 Q1 (R.sat_mono q1 (fun _ z => z) fun _ z => z.elim)
    · have hm : Dl ∉ m.map (·.1) := g0.own.notIn (.of hD)
      exact hp B' Dl vs' H' g hB (Fre.back g0 (.of hD) hm) hm hd r
  · exact False.elim hx
theorem el_lc {ri : R (List D)} {g : TG} {is : List Nat} {un : D → R α} {put : DS → α → DS} {ft : α → R Bool} {fe : α → R D} (hc : X.calm = true) (hN : X.N.Nodup) (hi : EI T X ds m tg iter ri) (ok : BlkOk X.N X.env.scope scope own)
    (hg : ∀ s H C cl fp, PG (Bk X scope s H C cl fp) tg g) (hT : TgD X.K T g is un put) (ht : ∀ s H C cl fp (a : α), EC T (Bk X scope s H C cl fp) (put (wipeD ds (own.map (·.2))) a) m ifs (ft a)) (he : ∀ s H C cl fp (a : α), EV T (Bk X scope s H C cl fp) (put (wipeD ds (own.map (·.2))) a) m elt (fe a))
    (hsub : ∀ j ∈ is, j ∈ own.map (·.2) := by decide) (hst : ∀ x, foldedSetIterable iter X.env x = pure x := by intro _; rfl) : ELp T X ds m (.ListComp elt [⟨tg, iter, ifs, 0⟩] scope pos) (ri.bind (lcR un ft fe)) := fun W tk B σ H hs w Q q => by
  refine wpE.of (pe_lc (tt := ttAll X scope ifs) (te := teAll X scope elt) hc hN (pi_wp X tg iter) ok hg
    (fun s H C cl fp => ⟨fun pins s' σ' H' Q' I h => (h s H C cl fp).run pins s' I⟩) (fun s H C cl fp => ⟨fun pins s' σ' H' Q' I h => (h s H C cl fp).run pins s' I⟩) hst) ?_
  exact el_lcT tk hi hT ht he hsub hs w q
/-- name = [..] -/
theorem sb_setLc {S L γ : Type} {E : Exits S L γ} {rest : List Stmt} {K : List D → R (Fl S L γ)} {py spos : Pos} (i : Nat) {y : Str} {ri : R (List D)} {g : TG} {is : List Nat} {un : D → R α} {put : DS → α → DS} {ft : α → R Bool} {fe : α → R D} (hc : X.calm = true) (hN : X.N.Nodup) (hi : EI T X ds m tg iter ri) (ok : BlkOk X.N X.env.scope scope own)
    (hg : ∀ s H C cl fp, PG (Bk X scope s H C cl fp) tg g) (hT : TgD X.K T g is un put) (ht : ∀ s H C cl fp (a : α), EC T (Bk X scope s H C cl fp) (put (wipeD ds (own.map (·.2))) a) m ifs (ft a)) (he : ∀ s H C cl fp (a : α), EV T (Bk X scope s H C cl fp) (put (wipeD ds (own.map (·.2))) a) m elt (fe a))
    (k : ∀ pl xs, SB T X (ds.set i (some (.ref pl))) (m ++ [(pl, .l xs)]) rest E (K xs)) (hy : X.N[i]? = some y := by rfl) (hyl : X.env.scope.names.lookup y = some .local := by rfl)
    (hsw : swapsWith (.ListComp elt [⟨tg, iter, ifs, 0⟩] scope pos) (some (.Name y py)) spos.line X.env = pure true := by exact sw_true rfl rfl rfl rfl)
    (hsub : ∀ j ∈ is, j ∈ own.map (·.2) := by decide) (hst : ∀ x, foldedSetIterable iter X.env x = pure x := by intro _; rfl) :
    SB T X ds m (.Assign [.Name y py] (.ListComp elt [⟨tg, iter, ifs, 0⟩] scope pos) spos :: rest) E ((ri.bind (lcR un ft fe)).bind K) := fun W tk B σ H hs w D q =>
  wpSs.of (pss_cons (ps_setLc (tt := ttAll X scope ifs) (te := teAll X scope elt) hc hN hy hyl hsw (pi_wp X tg iter) ok hg
    (fun s H C cl fp => ⟨fun pins s' σ' H' Q' I h => (h s H C cl fp).run pins s' I⟩) (fun s H C cl fp => ⟨fun pins s' σ' H' Q' I h => (h s H C cl fp).run pins s' I⟩) hst) (pss_wp X rest))
    (el_lcT (Q := fun x H1 => wpSs X rest D (σ.set i (some x)) H1) tk hi hT ht he hsub hs w (R.sat_mono (R.sat_bind q) (fun xs hd B' pl vs H' g hB hfr hm hp r =>
    (k pl xs).cont tk (g.cell (o := .l xs) hB (.inr hfr) hm ⟨vs, hp, r⟩) ((hs.mono g.ex).set i (.ref pl)) hd) fun _ z => z.ek))
/-! with effects -/
def lcGX {α τ : Type} (un : D → R α) (ft : α → τ → R (Bool × τ)) (fe : α → τ → R (D × τ)) (x : D) (t : τ) : R (List D × τ) :=
  ((un x).bind fun a => (ft a t).bind fun b => if b.1 then (fe a b.2).bind fun d => .ok ([d.1], d.2) else .ok ([], b.2)).quiet
def lcLX {τ : Type} (f : D → τ → R (List D × τ)) : List D → τ → R (List D × τ)
  | [], t => .ok ([], t)
  | x :: xs, t => (f x t).bind fun o => (lcLX f xs o.2).bind fun r => .ok (o.1 ++ r.1, r.2)
def lcRX {α τ : Type} (un : D → R α) (ft : α → τ → R (Bool × τ)) (fe : α → τ → R (D × τ)) (xs : List D) (t : τ) : R (List D × τ) := if xs.length ≤ sizeLine then lcLX (lcGX un ft fe) xs t else .ub
abbrev ECt {τ : Type} (T : Tb) (X : Cx) (ds : DS) (M : τ → OM) (t : τ) (ifs : List Expr) (r : R (Bool × τ)) : Prop :=
  ∀ (W : WX), Takes X W → ∀ (B : Hp) (σ : St) (H : Hp), Sl X.K B σ ds → Own X.K T B (M t) H → ∀ Q : Bool → Hp → Prop,
    r.sat (fun p => ∀ B' H', Go X.K T B (M t) H B' (M p.2) H' → Q p.1 H') (EK T X W B (M t) σ H []) → wpC X ifs σ H Q
theorem ect_nil {τ : Type} {M : τ → OM} {t : τ} : ECt T X ds M t [] (.ok (true, t)) := fun W tk B σ H hs w Q q => wpC.of pts_nil (q B H (.refl w))
theorem ect_one {τ : Type} {M : τ → OM} {t : τ} {r : R (Bool × τ)} (h : ETt T X ds M t c r) : ECt T X ds M t [c] r := fun W tk B σ H hs w Q q => wpC.of (pts_one (pt_wp X c)) (h W tk B σ H hs w Q (R.sat_map' q))
theorem lc_coreX {τ : Type} {M : τ → OM} {B B0 H H0 : Hp} {σ : St} {J : It} {xs : List D} {g : TG} {is : List Nat} {un : D → R α} {put : DS → α → DS} {ft : α → τ → R (Bool × τ)} {fe : α → τ → R (D × τ)} {vs : List Nat} {Dl : Addr} {P : List D × τ → Prop} {Qd : Hp → Prop} {tt : TT} {te : TE} {t0 t1 : τ}
    (g0 : Go X.K T B (M t0) H B0 (M t1) H0) (hs0 : Sl X.K B0 σ ds) (dw : DW X.K T J B0 xs) (hT : TgD X.K T g is un put) (hsub : ∀ j ∈ is, j ∈ vs) (hD : H0 Dl = none) (hz : xs.length ≤ sizeLine)
    (htt : ∀ (a : α) t B1 σ1 H1, Sl X.K B1 σ1 (put (wipeD ds vs) a) → Own X.K T B1 (M t) H1 → ∀ Q : Bool → Hp → Prop, (ft a t).sat (fun b => ∀ B' H', Go X.K T B1 (M t) H1 B' (M b.2) H' → Q b.1 H') (fun _ => False) → tt σ1 H1 Q)
    (hte : ∀ (a : α) t B1 σ1 H1, Sl X.K B1 σ1 (put (wipeD ds vs) a) → Own X.K T B1 (M t) H1 → ∀ Q : VK, (fe a t).sat (fun d => ∀ B' v H', Go X.K T B1 (M t) H1 B' (M d.2) H' → Rep X.K B' v d.1 → Q v H') (fun _ => False) → te σ1 H1 Q)
    (hP : ∀ ys B' vs' H', P ys → Go X.K T B (M t0) H B' (M ys.2) H' → B' Dl = none → Dl ∉ (M ys.2).map (·.1) → H' Dl = some (.lst vs') → RepL X.K B' vs' ys.1 → Qd H') {Ee : Err → Prop}
    (q : (lcLX (lcGX un ft fe) xs t1).sat P Ee) :
    ∃ W' : Nat → Nat → Hp → Prop, (∃ n, W' 0 n (upd H0 Dl (.lst []))) ∧ ∀ i n H, W' i n H →
      (J.stop i H ∧ Qd H) ∨ (J.go i H ∧ ∃ Nx : Hp → Prop, (∀ H', Nx H' → ∃ n', n' < n ∧ W' (i + 1) n' H') ∧ ∀ x H', J.yld i H x H' → g x (wipe σ vs) H' fun σ2 H2 => wipe σ2 vs = wipe σ vs ∧ tt σ2 H2 fun b H3 =>
        if b = true then te σ2 H3 fun y H4 => ∃ acc, H4 Dl = some (.lst acc) ∧ acc.length < sizeLine ∧ Nx (upd H4 Dl (.lst (acc ++ [y]))) else Nx H3) := by
  have hB0 : B0 Dl = none := by
    cases e : B0 Dl with
    | none => rfl
    | some u => rw [g0.own.ex Dl u e] at hD; cases hD
  have hm : Dl ∉ (M t1).map (·.1) := g0.own.notIn (.of hD)
  have hf0 : ∀ o, H Dl = some o → (∀ ps, o ≠ .tbl ps) → Dl ∈ (M t0).map (·.1) := fun o e nt => by
    by_cases hx : Dl ∈ (M t0).map (·.1)
    · exact hx
    · have := g0.frame Dl o e nt hx
      rw [hD] at this; cases this
  have hfH0 : Fre H0 Dl := .of hD
  refine ⟨fun i n H1 => n = xs.length - i ∧ i ≤ xs.length ∧ ∃ t B1 acc done, Go X.K T B0 (M t1) H0 B1 (M t) H1 ∧ B1 Dl = none ∧ Dl ∉ (M t).map (·.1) ∧ H1 Dl = some (.lst acc) ∧ RepL X.K B1 acc done ∧ acc.length ≤ i ∧ ((lcLX (lcGX un ft fe) (xs.drop i) t).bind fun r => .ok (done ++ r.1, r.2)).sat P Ee,
    ⟨xs.length, by simp, Nat.zero_le _, t1, B0, [], [], Go.new g0.own hD, hB0, hm, upd_same, .nil, Nat.le_refl _, ?_⟩, ?_⟩
  · show ((lcLX (lcGX un ft fe) xs t1).bind fun r => .ok ([] ++ r.1, r.2)).sat P Ee
    exact R.sat_bind' (R.sat_mono q (fun ys h => h) fun _ z => z)
  rintro i n H1 ⟨rfl, hi, t, B1, acc, done, g1, hB1, hm1, hD1, ra, hl, q1⟩
  by_cases hlt : i < xs.length
  · have hx : xs[i]? = some xs[i] := List.getElem?_eq_getElem hlt
    have hd : xs.drop i = xs[i] :: xs.drop (i + 1) := List.drop_eq_getElem_cons hlt
    rw [hd] at q1
    refine .inr ⟨dw.goes i H1 hlt (g1.ex.trans g1.own.ex), fun H' => ∃ t2 B2 acc2 done2, Go X.K T B0 (M t1) H0 B2 (M t2) H' ∧ B2 Dl = none ∧ Dl ∉ (M t2).map (·.1) ∧ H' Dl = some (.lst acc2) ∧ RepL X.K B2 acc2 done2 ∧ acc2.length ≤ i + 1 ∧ ((lcLX (lcGX un ft fe) (xs.drop (i + 1)) t2).bind fun r => .ok (done2 ++ r.1, r.2)).sat P Ee,
      fun H' ⟨t2, B2, acc2, done2, z1, z3, z4, z5, z6, z7, z8⟩ => ⟨xs.length - (i + 1), by omega, rfl, hlt, t2, B2, acc2, done2, z1, z3, z4, z5, z6, z7, z8⟩, fun v H2 hy => ?_⟩
    obtain ⟨B2, g2, rv⟩ := dw.yields i H1 v H2 B1 (M t) _ hx g1.ex g1.own hy
    have stay : ∀ {B3 m3 H3}, Go X.K T B1 (M t) H1 B3 m3 H3 → H3 Dl = some (.lst acc) ∧ B3 Dl = none ∧ Dl ∉ m3.map (·.1) := fun {B3 m3 H3} g3 => by
      refine ⟨g3.frame Dl _ hD1 (fun _ z => nomatch z) hm1, ?_, fun z => ?_⟩
      · cases e : B3 Dl with
        | none => rfl
        | some u =>
          rcases g3.grow Dl u e with z | z | z | ⟨xs, z⟩ | ⟨xs, z⟩
          · rw [hB1] at z; cases z
          · exact absurd z hm1
          · obtain ⟨ps, z⟩ := z _ hD1; cases z
          · rw [hD1] at z; cases z
          · rw [hD1] at z; cases z
      · rcases g3.fresh Dl z with z | z
        · exact hm1 z
        · obtain ⟨ps, z⟩ := z _ hD1; cases z
    have q2 : (lcGX un ft fe xs[i] t).sat (fun o => ((lcLX (lcGX un ft fe) (xs.drop (i + 1)) o.2).bind fun r => .ok ((done ++ o.1) ++ r.1, r.2)).sat P Ee) Ee := by
      have q3 := R.sat_bind (R.sat_bind q1)
      refine R.sat_mono q3 (fun o ho => ?_) fun _ z => z
      have ho := R.sat_bind ho
      refine R.sat_bind' (R.sat_mono ho (fun r hr => ?_) fun _ z => z)
      have hr : P (done ++ (o.1 ++ r.1), r.2) := hr
      show P ((done ++ o.1) ++ r.1, r.2)
      rw [List.append_assoc]
      exact hr
    have q4 := R.sat_quiet q2
    refine hT B2 (M t) H2 v xs[i] (wipe σ vs) (wipeD ds vs) g2.own ((hs0.mono (g1.ex.trans g2.ex)).wipe vs) rv _ _ (R.sat_mono (R.sat_bind q4) (fun a ha B3 σ3 H3 g3 hs3 k3 => ?_) fun _ z => z)
    refine ⟨wipe_eq k3.1 k3.2 hsub, ?_⟩
    have g13 := g2.trans g3
    refine htt a t B3 σ3 H3 hs3 g3.own _ (R.sat_mono (R.sat_bind ha) (fun b hb B4 H4 g4 => ?_) fun _ z => z)
    have g14 := g13.trans g4
    obtain ⟨b, t4⟩ := b
    cases b with
    | true =>
      rw [if_pos rfl] at hb ⊢
      refine hte a t4 B4 σ3 H4 (hs3.mono g4.ex) g4.own _ (R.sat_mono (R.sat_bind hb) (fun d hd' B5 y H5 g5 ry => ?_) fun _ z => z)
      have g15 := g14.trans g5
      obtain ⟨k1, k2, k3⟩ := stay g15
      exact ⟨acc, k1, by omega, d.2, B5, acc ++ [y], done ++ [d.1], (g1.trans g15).poke hfH0 k3 k2 k1, k2, k3, upd_same, (ra.mono g15.ex).append (.cons ry .nil), by rw [List.length_append]; show acc.length + 1 ≤ i + 1; omega, hd'⟩
    | false =>
      rw [if_neg Bool.false_ne_true] at hb ⊢
      obtain ⟨k1, k2, k3⟩ := stay g14
      have hb : ((lcLX (lcGX un ft fe) (xs.drop (i + 1)) t4).bind fun r => .ok ((done ++ []) ++ r.1, r.2)).sat P Ee := hb
      rw [List.append_nil] at hb
      exact ⟨t4, B4, acc, done, g1.trans g14, k2, k3, k1, ra.mono g14.ex, by omega, hb⟩
  · have e : i = xs.length := by omega
    subst e
    rw [List.drop_length] at q1
    have q1 : P (done ++ [], t) := q1
    rw [List.append_nil] at q1
    exact .inl ⟨dw.stops H1 (g1.ex.trans g1.own.ex), hP (done, t) B1 acc H1 q1 (g0.trans g1) hB1 hm1 hD1 ra⟩
theorem el_lcXT {τ : Type} {M : τ → OM} {t : τ} {ri : R (List D × τ)} {g : TG} {is : List Nat} {un : D → R α} {put : DS → α → DS} {ft : α → τ → R (Bool × τ)} {fe : α → τ → R (D × τ)} {W : WX} {B H : Hp} {σ : St} {Q : VK} (tk : Takes X W) (hi : EIt T X ds M t tg iter ri) (hT : TgD X.K T g is un put) (ht : ∀ s H C cl fp (a : α) t, ECt T (Bk X scope s H C cl fp) (put (wipeD ds (own.map (·.2))) a) M t ifs (ft a t)) (he : ∀ s H C cl fp (a : α) t, EXt T (Bk X scope s H C cl fp) (put (wipeD ds (own.map (·.2))) a) M t elt (fe a t))
    (hsub : ∀ j ∈ is, j ∈ own.map (·.2)) (hs : Sl X.K B σ ds) (w : Own X.K T B (M t) H)
    (q : (ri.bind fun p => lcRX un ft fe p.1 p.2).sat (fun z => ∀ B' p vs H', Go X.K T B (M t) H B' (M z.2) H' → B' p = none → (p ∈ (M t).map (·.1) ∨ Fre H p) → p ∉ (M z.2).map (·.1) → H' p = some (.lst vs) → RepL X.K B' vs z.1 → Q (.ref p) H') (EK T X W B (M t) σ H [])) :
    tLc (wpI X tg iter) g (ttAll X scope ifs) (teAll X scope elt) (own.map (·.2)) σ H Q := by
  refine hi W tk B σ H hs w _ (R.sat_mono (R.sat_bind q) (fun p hx B0 J H0 g0 dw Dl hD => ?_) fun _ z => z)
  unfold lcRX at hx
  split at hx
  · rename_i hz
    refine lc_coreX (tt := ttAll X scope ifs) (te := teAll X scope elt) g0 (hs.mono g0.ex) dw hT hsub hD hz (fun a t B1 σ1 H1 hs1 w1 Q1 q1 s H' C cl fp => ?_) (fun a t B1 σ1 H1 hs1 w1 Q1 q1 s H' C cl fp => ?_) (fun ys B' vs' H' hp g hB hm hd r => ?_) hx
    · exact ht s H' C cl fp a t _ LamX.takes0 B1 σ1 H1 hs1 w1 Q1 (R.sat_mono q1 (fun _ z => z) fun _ z => z.elim)
    · exact he s H' C cl fp a t _ LamX.takes0 B1 σ1 H1 hs1 w1 Q1 (R.sat_map' (R.sat_mono q1 (fun _ z => z) fun _ z => z.elim))
    · exact hp B' Dl vs' H' g hB (Go.back g0 hD) hm hd r
  · exact False.elim hx
theorem el_lcX {τ : Type} {M : τ → OM} {t : τ} {ri : R (List D × τ)} {g : TG} {is : List Nat} {un : D → R α} {put : DS → α → DS} {ft : α → τ → R (Bool × τ)} {fe : α → τ → R (D × τ)} (hc : X.calm = true) (hN : X.N.Nodup) (hi : EIt T X ds M t tg iter ri) (ok : BlkOk X.N X.env.scope scope own)
    (hg : ∀ s H C cl fp, PG (Bk X scope s H C cl fp) tg g) (hT : TgD X.K T g is un put) (ht : ∀ s H C cl fp (a : α) t, ECt T (Bk X scope s H C cl fp) (put (wipeD ds (own.map (·.2))) a) M t ifs (ft a t)) (he : ∀ s H C cl fp (a : α) t, EXt T (Bk X scope s H C cl fp) (put (wipeD ds (own.map (·.2))) a) M t elt (fe a t))
    (hsub : ∀ j ∈ is, j ∈ own.map (·.2) := by decide) (hst : ∀ x, foldedSetIterable iter X.env x = pure x := by intro _; rfl) : ELt T X ds M t (.ListComp elt [⟨tg, iter, ifs, 0⟩] scope pos) (ri.bind fun p => lcRX un ft fe p.1 p.2) := fun W tk B σ H hs w Q q => by
  refine wpE.of (pe_lc (tt := ttAll X scope ifs) (te := teAll X scope elt) hc hN (pi_wp X tg iter) ok hg
    (fun s H C cl fp => ⟨fun pins s' σ' H' Q' I h => (h s H C cl fp).run pins s' I⟩) (fun s H C cl fp => ⟨fun pins s' σ' H' Q' I h => (h s H C cl fp).run pins s' I⟩) hst) ?_
  exact el_lcXT tk hi hT ht he hsub hs w (R.sat_map q)
theorem sb_setLcX {S L γ : Type} {E : Exits S L γ} {rest : List Stmt} {py spos : Pos} (i : Nat) {y : Str} {τ : Type} {M : τ → OM} {t : τ} {K : List D × τ → R (Fl S L γ)} {ri : R (List D × τ)} {g : TG} {is : List Nat} {un : D → R α} {put : DS → α → DS} {ft : α → τ → R (Bool × τ)} {fe : α → τ → R (D × τ)} (hc : X.calm = true) (hN : X.N.Nodup) (hi : EIt T X ds M t tg iter ri) (ok : BlkOk X.N X.env.scope scope own)
    (hg : ∀ s H C cl fp, PG (Bk X scope s H C cl fp) tg g) (hT : TgD X.K T g is un put) (ht : ∀ s H C cl fp (a : α) t, ECt T (Bk X scope s H C cl fp) (put (wipeD ds (own.map (·.2))) a) M t ifs (ft a t)) (he : ∀ s H C cl fp (a : α) t, EXt T (Bk X scope s H C cl fp) (put (wipeD ds (own.map (·.2))) a) M t elt (fe a t))
    (k : ∀ pl xs u, SB T X (ds.set i (some (.ref pl))) (M u ++ [(pl, .l xs)]) rest E (K (xs, u))) (hy : X.N[i]? = some y := by rfl) (hyl : X.env.scope.names.lookup y = some .local := by rfl)
    (hsw : swapsWith (.ListComp elt [⟨tg, iter, ifs, 0⟩] scope pos) (some (.Name y py)) spos.line X.env = pure true := by exact sw_true rfl rfl rfl rfl)
    (hsub : ∀ j ∈ is, j ∈ own.map (·.2) := by decide) (hst : ∀ x, foldedSetIterable iter X.env x = pure x := by intro _; rfl) :
    SB T X ds (M t) (.Assign [.Name y py] (.ListComp elt [⟨tg, iter, ifs, 0⟩] scope pos) spos :: rest) E ((ri.bind fun p => lcRX un ft fe p.1 p.2).bind K) := fun W tk B σ H hs w D q =>
  wpSs.of (pss_cons (ps_setLc (tt := ttAll X scope ifs) (te := teAll X scope elt) hc hN hy hyl hsw (pi_wp X tg iter) ok hg
    (fun s H C cl fp => ⟨fun pins s' σ' H' Q' I h => (h s H C cl fp).run pins s' I⟩) (fun s H C cl fp => ⟨fun pins s' σ' H' Q' I h => (h s H C cl fp).run pins s' I⟩) hst) (pss_wp X rest))
    (el_lcXT (Q := fun x H1 => wpSs X rest D (σ.set i (some x)) H1) tk hi hT ht he hsub hs w (R.sat_mono (R.sat_bind q) (fun xs hd B' pl vs H' g hB hfr hm hp r =>
    (k pl xs.1 xs.2).cont tk (g.cell (o := .l xs.1) hB hfr hm ⟨vs, hp, r⟩) ((hs.mono g.ex).set i (.ref pl)) hd) fun _ z => z.ek))
end
end DL
namespace DL
open PySem PySem.Spec PyProof.Rows L2
open Evl (Ex ex_l ex_t ex_rd)

/-! ### slices -/
def cutD (xs : List D) (lo hi : Option Int) : List D := (xs.drop (HT.sIx xs.length 0 lo)).take (HT.sIx xs.length xs.length hi - HT.sIx xs.length 0 lo)
theorem RepL.cut {K : PySem.W.Frag} {B : Hp} {vs : List V} {ds : List D} (r : RepL K B vs ds) (lo hi : Option Int) : RepL K B (L2.cutV vs lo hi) (cutD ds lo hi) := by
  unfold L2.cutV cutD
  rw [r.length]
  exact RepL.take _ (RepL.drop _ r)
def D.sl : D → Option Int → Option Int → R D
  | .tup xs, lo, hi => .ok (.tup (cutD xs lo hi))
  | .lst xs, lo, hi => .ok (.lst (cutD xs lo hi))
  | .str z, lo, hi => if z.length ≤ sizeLine then .ok (.str (cutS z lo hi)) else .ub
  | _, _, _ => .ub
def D.part : D → R (Option Int)
  | .int i => .ok (some i)
  | _ => .ub
def rSlD (K : PySem.W.Frag) : V → Option Int → Option Int → Hp → VK → Prop := fun x lo hi H Q => rSlA K x lo hi H Q ∨ rSlL K x lo hi H Q ∨ rSlS x lo hi H Q
theorem sl_D {X : Cx} : SlR X (rSlD X.K) := sl_tupA.or (SlR.or (r := rSlL X.K) (r' := rSlS) sl_list sl_str)
section
variable {T : Tb} {X : Cx} {ds : DS} {m m' m1 : OM} {W : WX} {B B1 H H1 : Hp} {σ : St} {pos p p2 : Pos}
variable {a b c e : Expr} {es : List Expr} {ra rb rc r re : R D} {rr r2 : R2} {g g2 : D → D → R D} {lo hi : Option Expr} {rl rh : R (Option Int)}
def EPp (T : Tb) (X : Cx) (ds : DS) (m : OM) (e : Option Expr) (r : R (Option Int)) : Prop :=
  ∃ t : TO, PO X e t ∧ ∀ (W : WX), Takes X W → ∀ (B : Hp) (σ : St) (H : Hp), Sl X.K B σ ds → Own X.K T B m H → ∀ Q : Option Int → Hp → Prop,
    r.sat (fun o => ∀ B' H', Go X.K T B m H B' m H' → Q o H') (EK T X W B m σ H m) → t σ H Q
theorem ep_none : EPp T X ds m none (.ok none) := ⟨_, po_none, fun W tk B σ H hs w Q q => q B H (.refl w)⟩
theorem ep_some (h : EV T X ds m e re) : EPp T X ds m (some e) (re.bind D.part) := ⟨_, po_some (pe_wp X e), fun W tk B σ H hs w Q q =>
  h W tk B σ H hs w _ (R.sat_mono (R.sat_bind q) (fun d hd B' v H' g rv => by
    cases d with
    | int i => exact ⟨i, rv.iint, hd B' H' g⟩
    | _ => exact False.elim hd) fun _ z => z)⟩
theorem cutD_all {xs : List D} {lo hi : Option Int} (h : HT.sIx xs.length 0 lo = 0 ∧ HT.sIx xs.length xs.length hi = xs.length) : cutD xs lo hi = xs := by
  unfold cutD
  rw [h.1, h.2]
  simp
theorem ev_sl (ha : EVw T X ds m a ra) (hl : EPp T X ds m lo rl) (hh : EPp T X ds m hi rh) : EV T X ds m (.Subscript a (.Slice lo hi none p2) pos) (ra.bind fun x => rl.bind fun l => rh.bind fun h => D.sl x l h) := by
  intro W tk B σ H hs w Q q
  obtain ⟨tl, pl, hl⟩ := hl
  obtain ⟨th, ph, hh⟩ := hh
  refine wpE.of (pe_slice sl_D (pe_wp X a) pl ph) ?_
  refine ha W tk B σ H hs w _ (R.sat_mono (R.sat_bind q) (fun x hx B1 v1 H1 g1 r1 => ?_) fun _ z => z)
  refine hl W tk B1 σ H1 (hs.mono g1.ex) g1.own _ (R.sat_mono (R.sat_bind hx) (fun l hl B2 H2 g2 => ?_) fun _ z => z.go g1)
  have g12 := g1.trans g2
  refine hh W tk B2 σ H2 (hs.mono g12.ex) g12.own _ (R.sat_mono (R.sat_bind hl) (fun h hh B3 H3 g3 => ?_) fun _ z => z.go g12)
  have g13 := g12.trans g3
  have r3 := (r1.go g2).go g3
  unfold DL.D.sl at hh
  split at hh
  · have r3' := r3
    obtain ⟨ad, vs, rfl, h1, h2⟩ := r3.itup g3.own
    refine .inl ⟨ad, vs, rfl, h1, fun q => ?_, fun _ => fin_tup g3.own (h2.cut l h) fun B4 v4 H4 g4 r4 => hh B4 v4 H4 (g13.trans g4) r4⟩
    rw [h2.length] at q
    rw [cutD_all q] at hh
    exact hh B3 _ H3 g13 (tup_st (vs := vs) g3.own r3')
  · obtain ⟨ad, vs, rfl, h1, h2⟩ := r3.ilst g3.own
    exact .inr (.inl ⟨ad, vs, rfl, .inl h1, fin_lst g3.own (h2.cut l h) fun B4 v4 H4 g4 r4 => hh B4 v4 H4 (g13.trans g4) r4⟩)
  · split at hh
    · rename_i hz
      exact .inr (.inr ⟨_, r3.istr, hz, hh B3 _ H3 g13 (.str _)⟩)
    · exact False.elim hh
  · exact False.elim hh

/-! ### effects -/
section
variable {τ : Type} {M : τ → OM} {t : τ}
/-- a value that is read at once, with effects -/
def EXw (T : Tb) (X : Cx) (ds : DS) (M : τ → OM) (t : τ) (e : Expr) (r : R (D × τ)) : Prop :=
  ∀ (W : WX), Takes X W → ∀ (B : Hp) (σ : St) (H : Hp), Sl X.K B σ ds → Own X.K T B (M t) H → ∀ Q : VK,
    r.sat (fun p => ∀ B' v H', Go X.K T B (M t) H B' (M p.2) H' → VRep X.K B' (M p.2) v p.1 → Q v H') (EK T X W B (M t) σ H []) → wpE X e σ H Q
theorem EVw.x (h : EVw T X ds (M t) e r) : EXw T X ds M t e (r.map fun d => (d, t)) := fun W tk B σ H hs w Q q =>
  h W tk B σ H hs w Q (R.sat_mono (R.sat_map q) (fun d hd => hd) fun _ z => z.lost)
variable {rx : R (D × τ)} {fa : R (D × τ)} {fb fc : τ → R (D × τ)} {rs : R (List D × τ)} {fs : τ → R (List D × τ)}
theorem EXt.w' (h : EXt T X ds M t e rx) : EXw T X ds M t e rx := fun W tk B σ H hs w Q q =>
  h W tk B σ H hs w Q (R.sat_map' (R.sat_mono q (fun p hp B' v H' g rv => hp B' v H' g (.st rv)) fun _ z => z))
theorem opx_core {P : D × τ → Prop} {Q : VK} (hg : OpD X.K T rr g) (tk : Takes X W) (hs : Sl X.K B σ ds) (w : Own X.K T B (M t) H) (ha : EXt T X ds M t a fa) (hb : ∀ u, EXw T X ds M u b (fb u)) (hP : ∀ p, P p → ∀ B' v H', Go X.K T B (M t) H B' (M p.2) H' → Rep X.K B' v p.1 → Q v H')
    (h : (fa.bind fun p => (fb p.2).bind fun q => (g p.1 q.1).map fun d => (d, q.2)).sat P (EK T X W B (M t) σ H [])) : tOp rr (wpE X a) (wpE X b) σ H Q := by
  refine ha W tk B σ H hs w _ (R.sat_map' (R.sat_mono (R.sat_bind h) (fun x hx B1 v1 H1 g1 r1 => ?_) fun _ z => z))
  refine hb x.2 W tk B1 σ H1 (hs.mono g1.ex) g1.own _ (R.sat_mono (R.sat_bind hx) (fun y hy B2 v2 H2 g2 r2 => ?_) fun _ z => z.go g1)
  exact hg B2 (M y.2) H2 v1 v2 x.1 y.1 g2.own (.st (r1.mono g2.ex)) r2 Q _ (R.sat_mono (R.sat_map hy) (fun d hd B3 v3 H3 g3 r3 => hP _ hd B3 v3 H3 ((g1.trans g2).trans g3) r3) fun _ z => z)
theorem sat_pair {α : Type} {r : R (α × τ)} {P : α × τ → Prop} {Q : Err → Prop} (h : (r.map fun p => (p.1, M p.2)).sat (fun p => True) Q) : True := True.intro
theorem ex_bin {op : Operator} (ho : OpR X (binaryOp op) rr) (hg : OpD X.K T rr g) (ha : EXt T X ds M t a fa) (hb : ∀ u, EXw T X ds M u b (fb u)) : EXt T X ds M t (.BinOp a op b pos) (fa.bind fun p => (fb p.2).bind fun q => (g p.1 q.1).map fun d => (d, q.2)) :=
  fun W tk B σ H hs w Q q => wpE.of (pe_op ho (pe_wp X a) (pe_wp X b)) (opx_core hg tk hs w ha hb (fun d hd => hd) (R.sat_map q))
theorem ex_cmp {op : CmpOp} (ho : OpR X (compareOp op) rr) (hg : OpD X.K T rr g) (ha : EXt T X ds M t a fa) (hb : ∀ u, EXw T X ds M u b (fb u)) (hm : behindInMarks op b = false := by first | rfl | exact nomark _) : EXt T X ds M t (.Compare a [op] [b] pos) (fa.bind fun p => (fb p.2).bind fun q => (g p.1 q.1).map fun d => (d, q.2)) :=
  fun W tk B σ H hs w Q q => wpE.of (pe_cmpR ho (pe_wp X a) (pe_wp X b) hm) (opx_core hg tk hs w ha hb (fun d hd => hd) (R.sat_map q))
theorem ex_sub (ho : IxR X rr) (hg : OpD X.K T rr g) (ha : EXt T X ds M t a fa) (hb : ∀ u, EXw T X ds M u b (fb u)) (hs : PlainIx b := by exact fun _ _ => rfl) : EXt T X ds M t (.Subscript a b pos) (fa.bind fun p => (fb p.2).bind fun q => (g p.1 q.1).map fun d => (d, q.2)) :=
  fun W tk B σ H hs' w Q q => wpE.of (pe_ix ho (pe_wp X a) (pe_wp X b) hs) (opx_core hg tk hs' w ha hb (fun d hd => hd) (R.sat_map q))
theorem et_cmpX {op : CmpOp} (ho : OpR X (compareOp op) rr) (hg : OpD X.K T rr g) (ha : EXt T X ds M t a fa) (hb : ∀ u, EXw T X ds M u b (fb u)) (hm : behindInMarks op b = false := by first | rfl | exact nomark _) : ETt T X ds M t (.Compare a [op] [b] pos) (fa.bind fun p => (fb p.2).bind fun q => (g p.1 q.1).bind fun d => d.asB.map fun k => (k, q.2)) :=
  fun W tk B σ H hs w Q q => wpT.of (pt_cmpR ho (pe_wp X a) (pe_wp X b) hm) (opx_core (P := fun p => p.1.asB.sat (fun b => ∀ B' H', Go X.K T B (M t) H B' (M p.2) H' → Q b H') fun _ => True) hg tk hs w ha hb
    (fun d hd B' v H' g rv => by
      obtain ⟨d, u⟩ := d
      cases d with
      | bl b => exact ⟨b, rv.ibl, hd B' H' g⟩
      | _ => exact False.elim hd)
    (by
      have q1 := R.sat_bind (R.sat_map q)
      refine R.sat_bind' (R.sat_mono q1 (fun x hx => ?_) fun _ z => z)
      refine R.sat_bind' (R.sat_mono (R.sat_bind hx) (fun y hy => ?_) fun _ z => z)
      exact R.sat_map' (R.sat_mono (R.sat_bind hy) (fun d hd => R.sat_mono (R.sat_map hd) (fun _ z => z) fun _ _ => True.intro) fun _ z => z)))
theorem et_evX (h : EXt T X ds M t e rx) (he : ∀ whole, isTrue e X.env whole = (do let v ← whole; standAt e.pos; holding [v] (truthy v)) := by intro _; rfl) : ETt T X ds M t e (rx.bind fun p => p.1.asB.map fun k => (k, p.2)) :=
  fun W tk B σ H hs w Q q => wpT.of (pt_val (pe_wp X e) he) (h W tk B σ H hs w _ (R.sat_map' (R.sat_mono (R.sat_bind (R.sat_map q)) (fun p hd B' v H' g rv => by
    obtain ⟨d, u⟩ := p
    cases d with
    | bl b => exact ⟨b, rv.ibl, (R.sat_map hd) B' H' g⟩
    | _ => exact False.elim hd) fun _ z => z)))
theorem et_notX {r : R (Bool × τ)} (h : ETt T X ds M t a r) : ETt T X ds M t (.UnaryOp .Not a pos) (r.map fun p => (!p.1, p.2)) :=
  fun W tk B σ H hs w Q q => wpT.of (pt_not (pt_wp X a)) (h W tk B σ H hs w _ (R.sat_map' (R.sat_mono (R.sat_map (R.sat_map q)) (fun _ z => z) fun _ z => z)))
variable {ta : R (Bool × τ)} {tb : τ → R (Bool × τ)}
theorem ex_if (hc : ETt T X ds M t c ta) (ha : ∀ u, EXt T X ds M u a (fb u)) (hb : ∀ u, EXt T X ds M u b (fc u)) : EXt T X ds M t (.IfExp c a b pos) (ta.bind fun k => if k.1 then fb k.2 else fc k.2) := by
  intro W tk B σ H hs w Q q
  refine wpE.of (pe_ifExp (pt_wp X c) (pe_wp X a) (pe_wp X b)) (hc W tk B σ H hs w _ (R.sat_map' (R.sat_mono (R.sat_bind (R.sat_map q)) (fun k hd B1 H1 g1 => ?_) fun _ z => z)))
  obtain ⟨k, u⟩ := k
  cases k with
  | true =>
    show wpE X a σ H1 Q
    exact ha u W tk B1 σ H1 (hs.mono g1.ex) g1.own Q (R.sat_map' (R.sat_mono hd (fun d hd B2 v2 H2 g2 r2 => hd B2 v2 H2 (g1.trans g2) r2) fun _ z => z.go g1))
  | false =>
    show wpE X b σ H1 Q
    exact hb u W tk B1 σ H1 (hs.mono g1.ex) g1.own Q (R.sat_map' (R.sat_mono hd (fun d hd B2 v2 H2 g2 r2 => hd B2 v2 H2 (g1.trans g2) r2) fun _ z => z.go g1))
/-! tests: and, or -/
abbrev EWt (T : Tb) (X : Cx) (ds : DS) (M : τ → OM) (t : τ) (e : Expr) (r : R (Bool × τ)) : Prop := EWx T X ds (M t) e (r.map fun p => (p.1, M p.2))
theorem EWp.x {r : R Bool} (h : EWp T X ds (M t) e r) : EWt T X ds M t e (r.map fun d => (d, t)) := fun W tk B σ H hs w Q q =>
  h W tk B σ H hs w Q (R.sat_mono (R.sat_map (R.sat_map q)) (fun d hd => hd) fun _ z => z.lost)
theorem et_wX (h : EWt T X ds M t e ta) : ETt T X ds M t e ta := fun W tk B σ H hs w Q q => wpT.of (pw_wp X e).pt (h W tk B σ H hs w Q q)
theorem ew_and1X (h : ETt T X ds M t a ta) : EWt T X ds M t (.BoolOp .And [a] pos) ta := fun W tk B σ H hs w Q q => wpW.of (pw_and1 (pt_wp X a)) (h W tk B σ H hs w Q q)
theorem ew_or1X (h : ETt T X ds M t a ta) : EWt T X ds M t (.BoolOp .Or [a] pos) ta := fun W tk B σ H hs w Q q => wpW.of (pw_or1 (pt_wp X a)) (h W tk B σ H hs w Q q)
theorem ew_andX (ha : ETt T X ds M t a ta) (hb : ∀ u, EWt T X ds M u (.BoolOp .And (b :: es) pos) (tb u)) : EWt T X ds M t (.BoolOp .And (a :: b :: es) pos) (ta.bind fun k => if k.1 then tb k.2 else .ok (false, k.2)) := by
  intro W tk B σ H hs w Q q
  refine wpW.of (pw_and (pt_wp X a) (pw_wp X _)) (ha W tk B σ H hs w _ (R.sat_map' (R.sat_mono (R.sat_bind (R.sat_map q)) (fun k hd B1 H1 g1 => ?_) fun _ z => z)))
  obtain ⟨k, u⟩ := k
  cases k with
  | true =>
    show wpW X _ σ H1 Q
    exact hb u W tk B1 σ H1 (hs.mono g1.ex) g1.own Q (R.sat_map' (R.sat_mono hd (fun d hd B2 H2 g2 => hd B2 H2 (g1.trans g2)) fun _ z => z.go g1))
  | false => exact hd B1 H1 g1
theorem ew_orX (ha : ETt T X ds M t a ta) (hb : ∀ u, EWt T X ds M u (.BoolOp .Or (b :: es) pos) (tb u)) : EWt T X ds M t (.BoolOp .Or (a :: b :: es) pos) (ta.bind fun k => if k.1 then .ok (true, k.2) else tb k.2) := by
  intro W tk B σ H hs w Q q
  refine wpW.of (pw_or (pt_wp X a) (pw_wp X _)) (ha W tk B σ H hs w _ (R.sat_map' (R.sat_mono (R.sat_bind (R.sat_map q)) (fun k hd B1 H1 g1 => ?_) fun _ z => z)))
  obtain ⟨k, u⟩ := k
  cases k with
  | false =>
    show wpW X _ σ H1 Q
    exact hb u W tk B1 σ H1 (hs.mono g1.ex) g1.own Q (R.sat_map' (R.sat_mono hd (fun d hd B2 H2 g2 => hd B2 H2 (g1.trans g2)) fun _ z => z.go g1))
  | true => exact hd B1 H1 g1
/-! values: and, or, not -/
theorem ex_one {op} (h : EXt T X ds M t a fa) : EXt T X ds M t (.BoolOp op [a] pos) fa := fun W tk B σ H hs w Q q => wpE.of (pe_one (pe_wp X a)) (h W tk B σ H hs w Q q)
theorem ex_and (ha : EXt T X ds M t a fa) (hb : ∀ u, EXt T X ds M u (.BoolOp .And (b :: es) pos) (fb u)) : EXt T X ds M t (.BoolOp .And (a :: b :: es) pos) (fa.bind fun p => p.1.asB.bind fun k => if k then fb p.2 else .ok (.bl false, p.2)) := by
  intro W tk B σ H hs w Q q
  refine wpE.of (pe_and (pe_wp X a) (pe_wp X _)) (ha W tk B σ H hs w _ (R.sat_map' (R.sat_mono (R.sat_bind (R.sat_map q)) (fun p hd B1 v1 H1 g1 r1 => ?_) fun _ z => z)))
  obtain ⟨d, u⟩ := p
  cases d with
  | bl k =>
    refine ⟨k, r1.ibl, ?_⟩
    cases k with
    | true =>
      rw [if_pos rfl]
      exact hb u W tk B1 σ H1 (hs.mono g1.ex) g1.own Q (R.sat_map' (R.sat_mono hd (fun d hd B2 v2 H2 g2 r2 => hd B2 v2 H2 (g1.trans g2) r2) fun _ z => z.go g1))
    | false =>
      rw [if_neg Bool.false_ne_true]
      exact hd B1 _ H1 g1 (.bl false)
  | _ => exact False.elim hd
theorem ex_or (ha : EXt T X ds M t a fa) (hb : ∀ u, EXt T X ds M u (.BoolOp .Or (b :: es) pos) (fb u)) : EXt T X ds M t (.BoolOp .Or (a :: b :: es) pos) (fa.bind fun p => p.1.asB.bind fun k => if k then .ok (.bl true, p.2) else fb p.2) := by
  intro W tk B σ H hs w Q q
  refine wpE.of (pe_or (pe_wp X a) (pe_wp X _)) (ha W tk B σ H hs w _ (R.sat_map' (R.sat_mono (R.sat_bind (R.sat_map q)) (fun p hd B1 v1 H1 g1 r1 => ?_) fun _ z => z)))
  obtain ⟨d, u⟩ := p
  cases d with
  | bl k =>
    refine ⟨k, r1.ibl, ?_⟩
    cases k with
    | false =>
      rw [if_neg Bool.false_ne_true]
      exact hb u W tk B1 σ H1 (hs.mono g1.ex) g1.own Q (R.sat_map' (R.sat_mono hd (fun d hd B2 v2 H2 g2 r2 => hd B2 v2 H2 (g1.trans g2) r2) fun _ z => z.go g1))
    | true =>
      rw [if_pos rfl]
      exact hd B1 _ H1 g1 (.bl true)
  | _ => exact False.elim hd
theorem ex_not (ha : EXt T X ds M t a fa) : EXt T X ds M t (.UnaryOp .Not a pos) (fa.bind fun p => p.1.asB.map fun k => (.bl (!k), p.2)) := by
  intro W tk B σ H hs w Q q
  refine wpE.of (pe_not (pe_wp X a)) (ha W tk B σ H hs w _ (R.sat_map' (R.sat_mono (R.sat_bind (R.sat_map q)) (fun p hd B1 v1 H1 g1 r1 => ?_) fun _ z => z)))
  obtain ⟨d, u⟩ := p
  cases d with
  | bl k => exact ⟨k, r1.ibl, hd B1 _ H1 g1 (.bl _)⟩
  | _ => exact False.elim hd
theorem ex_neg (ha : EXt T X ds M t a fa) : EXt T X ds M t (.UnaryOp .USub a pos) (fa.bind fun p => (D.neg p.1).map fun d => (d, p.2)) := by
  intro W tk B σ H hs w Q q
  refine wpE.of (pe_un un_neg (pe_wp X a)) (ha W tk B σ H hs w _ (R.sat_map' (R.sat_mono (R.sat_bind (R.sat_map q)) (fun p hd B1 v1 H1 g1 r1 => ?_) fun _ z => z)))
  obtain ⟨d, u⟩ := p
  cases d with
  | int i => exact ⟨i, r1.iint, hd B1 _ H1 g1 (.int _)⟩
  | _ => exact False.elim hd
/-! arguments -/
theorem ea_consX (ha : EXt T X ds M t e fa) (hb : ∀ u, EAt T X ds M u es (fs u)) (hst : starEach (e :: es) X.env = (false, eval e X.env) :: starEach es X.env := by exact se1 rfl) : EAt T X ds M t (e :: es) (fa.bind fun p => (fs p.2).bind fun q => .ok (p.1 :: q.1, q.2)) := by
  intro W tk B σ H hs w Q q
  refine wpA.of (pa_cons (pe_wp X e) (pa_wp X es) hst) (ha W tk B σ H hs w _ (R.sat_map' (R.sat_mono (R.sat_bind (R.sat_map q)) (fun p hd B1 v1 H1 g1 r1 => ?_) fun _ z => z)))
  exact hb p.2 W tk B1 σ H1 (hs.mono g1.ex) g1.own _ (R.sat_map' (R.sat_mono (R.sat_bind hd) (fun xs hx B2 vs H2 g2 r2 => hx B2 _ H2 (g1.trans g2) (.cons (r1.mono g2.ex) r2)) fun _ z => z.go g1))
theorem ex_tup {k} (h : EAt T X ds M t es rs) : EXt T X ds M t (.Tuple es k pos) (rs.bind fun p => (D.mkT p.1).map fun d => (d, p.2)) := by
  intro W tk B σ H hs w Q q
  refine wpE.of (pe_tup (pa_wp X es)) (h W tk B σ H hs w _ (R.sat_map' (R.sat_mono (R.sat_bind (R.sat_map q)) (fun xs hx B1 vs H1 g1 r1 => ?_) fun _ z => z)))
  have hx := R.sat_map hx
  unfold DL.D.mkT at hx
  split at hx
  · rename_i hz
    refine ⟨by rw [r1.length]; exact hz, fin_tup g1.own r1 fun B2 v H2 g2 r2 => hx B2 v H2 (g1.trans g2) r2⟩
  · exact False.elim hx
theorem el_lstX (h : EAt T X ds M t es rs) : ELt T X ds M t (.List es pos) (rs.bind fun p => (D.mkL p.1).map fun d => (d, p.2)) := by
  intro W tk B σ H hs w Q q
  refine wpE.of (pe_lst (pa_wp X es)) (h W tk B σ H hs w _ (R.sat_map' (R.sat_mono (R.sat_bind (R.sat_map q)) (fun xs hx B1 vs H1 g1 r1 => ?_) fun _ z => z)))
  have hx := R.sat_map hx
  unfold DL.D.mkL at hx
  split at hx
  · rename_i hz
    exact ⟨by rw [r1.length]; exact hz, fin_new g1.own r1 fun B2 p vs' H2 g2 hB hf hm hp r2 => hx B2 p vs' H2 (g1.trans g2) hB (g1.pull (.inr hf)) hm hp r2⟩
  · exact False.elim hx
/-! built-in functions -/
variable {x : Str} {id TT : String} {gr : List V → Hp → VK → Prop} {g1 : D → R D} {gl : D → R (List D)}
theorem ex_callB (hc : CallR X (.builtin id) gr) (hg : CallD X.K T gr g1) (hm : X.mg x = none) (hv : bootBuiltins x = some (.builtin id)) (ha : EXw T X ds M t e fa) (hgl : Gl X x := by rfl) (hst : starEach [e] X.env = (false, eval e X.env) :: starEach [] X.env := by exact se1 rfl)
    (hn : x ≠ "__name__" := by decide) (hdb : (x == ("__debug__" : Str)) = false := by decide) : EXt T X ds M t (.Call (.Name x p) [e] [] pos) (fa.bind fun q => (g1 q.1).map fun d => (d, q.2)) := by
  intro W tk B σ H hs w Q q
  refine wpE.of (pe_callB hc hgl hm hv (pa_cons (pe_wp X e) pa_nil hst) hn hdb hst) (ha W tk B σ H hs w _ (R.sat_mono (R.sat_bind (R.sat_map q)) (fun d hd B1 v1 H1 g1 r1 => ?_) fun _ z => z))
  exact hg B1 (M d.2) H1 v1 d.1 g1.own r1 Q _ (R.sat_mono (R.sat_map hd) (fun d hd B2 v2 H2 g2 r2 => hd B2 v2 H2 (g1.trans g2) r2) fun _ z => z)
theorem ex_callTy (hc : CallR X (.type TT) gr) (hg : CallD X.K T gr g1) (hm : X.mg x = none) (hv : bootBuiltins x = some (.type TT)) (ha : EXw T X ds M t e fa) (hgl : Gl X x := by rfl) (hst : starEach [e] X.env = (false, eval e X.env) :: starEach [] X.env := by exact se1 rfl)
    (hn : x ≠ "__name__" := by decide) (hdb : (x == ("__debug__" : Str)) = false := by decide) : EXt T X ds M t (.Call (.Name x p) [e] [] pos) (fa.bind fun q => (g1 q.1).map fun d => (d, q.2)) := by
  intro W tk B σ H hs w Q q
  refine wpE.of (pe_callTy hc hgl hm hv (pa_cons (pe_wp X e) pa_nil hst) hn hdb hst) (ha W tk B σ H hs w _ (R.sat_mono (R.sat_bind (R.sat_map q)) (fun d hd B1 v1 H1 g1 r1 => ?_) fun _ z => z))
  exact hg B1 (M d.2) H1 v1 d.1 g1.own r1 Q _ (R.sat_mono (R.sat_map hd) (fun d hd B2 v2 H2 g2 r2 => hd B2 v2 H2 (g1.trans g2) r2) fun _ z => z)
theorem ex_callB2 (hc : CallR X (.builtin id) gr) (hg : CallD2 X.K T gr g) (hm : X.mg x = none) (hv : bootBuiltins x = some (.builtin id)) (ha : EXt T X ds M t a fa) (hb : ∀ u, EXw T X ds M u b (fb u)) (hgl : Gl X x := by rfl)
    (hst : starEach [a, b] X.env = (false, eval a X.env) :: starEach [b] X.env := by exact se1 rfl) (hst2 : starEach [b] X.env = (false, eval b X.env) :: starEach [] X.env := by exact se1 rfl) (hpl : (backTo pos (starEach [b] X.env)).any (·.1) = false := by exact sepl rfl)
    (hn : x ≠ "__name__" := by decide) (hdb : (x == ("__debug__" : Str)) = false := by decide) : EXt T X ds M t (.Call (.Name x p) [a, b] [] pos) (fa.bind fun u => (fb u.2).bind fun v => (g u.1 v.1).map fun d => (d, v.2)) := by
  intro W tk B σ H hs w Q q
  refine wpE.of (pe_callB hc hgl hm hv (pa_cons (pe_wp X a) (pa_cons (pe_wp X b) pa_nil hst2) hst) hn hdb hst hpl) (ha W tk B σ H hs w _ (R.sat_map' (R.sat_mono (R.sat_bind (R.sat_map q)) (fun d hd B1 v1 H1 g1 r1 => ?_) fun _ z => z)))
  refine hb d.2 W tk B1 σ H1 (hs.mono g1.ex) g1.own _ (R.sat_mono (R.sat_bind hd) (fun d2 hd2 B2 v2 H2 g2 r2 => ?_) fun _ z => z.go g1)
  exact hg B2 (M d2.2) H2 v1 v2 d.1 d2.1 g2.own (.st (r1.mono g2.ex)) r2 Q _ (R.sat_mono (R.sat_map hd2) (fun d hd B3 v3 H3 g3 r3 => hd B3 v3 H3 ((g1.trans g2).trans g3) r3) fun _ z => z)
theorem el_callTyX (hc : CallR X (.type TT) gr) (hg : CallL X.K T gr gl) (hm : X.mg x = none) (hv : bootBuiltins x = some (.type TT)) (ha : EXw T X ds M t e fa) (hgl : Gl X x := by rfl) (hst : starEach [e] X.env = (false, eval e X.env) :: starEach [] X.env := by exact se1 rfl)
    (hn : x ≠ "__name__" := by decide) (hdb : (x == ("__debug__" : Str)) = false := by decide) : ELt T X ds M t (.Call (.Name x p) [e] [] pos) (fa.bind fun q => (gl q.1).map fun d => (d, q.2)) := by
  intro W tk B σ H hs w Q q
  refine wpE.of (pe_callTy hc hgl hm hv (pa_cons (pe_wp X e) pa_nil hst) hn hdb hst) (ha W tk B σ H hs w _ (R.sat_mono (R.sat_bind (R.sat_map q)) (fun d hd B1 v1 H1 g1 r1 => ?_) fun _ z => z))
  exact hg B1 (M d.2) H1 v1 d.1 g1.own r1 Q _ (R.sat_mono (R.sat_map hd) (fun xs hx B2 p vs H2 g2 hB hf hm hp rv => hx B2 p vs H2 (g1.trans g2) hB (g1.pull (.inr hf)) hm hp rv) fun _ z => z)
theorem el_callBX (hc : CallR X (.builtin id) gr) (hg : CallL X.K T gr gl) (hm : X.mg x = none) (hv : bootBuiltins x = some (.builtin id)) (ha : EXw T X ds M t e fa) (hgl : Gl X x := by rfl) (hst : starEach [e] X.env = (false, eval e X.env) :: starEach [] X.env := by exact se1 rfl)
    (hn : x ≠ "__name__" := by decide) (hdb : (x == ("__debug__" : Str)) = false := by decide) : ELt T X ds M t (.Call (.Name x p) [e] [] pos) (fa.bind fun q => (gl q.1).map fun d => (d, q.2)) := by
  intro W tk B σ H hs w Q q
  refine wpE.of (pe_callB hc hgl hm hv (pa_cons (pe_wp X e) pa_nil hst) hn hdb hst) (ha W tk B σ H hs w _ (R.sat_mono (R.sat_bind (R.sat_map q)) (fun d hd B1 v1 H1 g1 r1 => ?_) fun _ z => z))
  exact hg B1 (M d.2) H1 v1 d.1 g1.own r1 Q _ (R.sat_mono (R.sat_map hd) (fun xs hx B2 p vs H2 g2 hB hf hm hp rv => hx B2 p vs H2 (g1.trans g2) hB (g1.pull (.inr hf)) hm hp rv) fun _ z => z)
/-! own functions -/
variable {f : Addr} {fd : FuncData} {ps : List Str} {k : Nat}
theorem ex_call {rf : List D → R D} (F : FnP X.prog X.w X.K X.mg X.base T k f fd ps rf) (C : Cal X.K X.mg X.A x f fd ps k) (hrf : ∀ xs : List D, xs.length ≠ ps.length → rf xs = .ub) (ha : EAt T X ds M t (e :: es) rs) (hg : Gl X x := by rfl) (hdb : (x == ("__debug__" : Str)) = false := by decide)
    (hst : starEach (e :: es) X.env = (false, eval e X.env) :: starEach es X.env := by exact se1 rfl) (hpl : (backTo pos (starEach es X.env)).any (·.1) = false := by exact sepl rfl) : EXt T X ds M t (.Call (.Name x p) (e :: es) [] pos) (rs.bind fun q => (rf q.1).map fun d => (d, q.2)) := by
  intro W tk B σ H hs w Q q
  refine wpE.of (pe_callS F C.hr hg C.mg C.kp C.bi (fun σ => passAt tk σ) (pa_wp X (e :: es)) hdb hst hpl) ?_
  refine ha W tk B σ H hs w _ (R.sat_map' (R.sat_mono (R.sat_bind (R.sat_map q)) (fun xs hx B1 vs H1 g1 r1 => ?_) fun _ z => z))
  have hx := R.sat_map hx
  exact sp_pure (W := W) g1.own r1 (len_of hrf hx) (R.sat_mono hx (fun d hd B' v H' g r => hd B' v H' (g1.trans g) r) fun _ z => z.lost.go g1)
theorem el_callX {rf : List D → R (List D)} (F : FnL X.prog X.w X.K X.mg X.base T k f fd ps rf) (C : Cal X.K X.mg X.A x f fd ps k) (hrf : ∀ xs : List D, xs.length ≠ ps.length → rf xs = .ub) (ha : EAt T X ds M t (e :: es) rs) (hg : Gl X x := by rfl) (hdb : (x == ("__debug__" : Str)) = false := by decide)
    (hst : starEach (e :: es) X.env = (false, eval e X.env) :: starEach es X.env := by exact se1 rfl) (hpl : (backTo pos (starEach es X.env)).any (·.1) = false := by exact sepl rfl) : ELt T X ds M t (.Call (.Name x p) (e :: es) [] pos) (rs.bind fun q => (rf q.1).map fun d => (d, q.2)) := by
  intro W tk B σ H hs w Q q
  refine wpE.of (pe_callS F C.hr hg C.mg C.kp C.bi (fun σ => passAt tk σ) (pa_wp X (e :: es)) hdb hst hpl) ?_
  refine ha W tk B σ H hs w _ (R.sat_map' (R.sat_mono (R.sat_bind (R.sat_map q)) (fun xs hx B1 vs H1 g1 r1 => ?_) fun _ z => z))
  have hx := R.sat_map hx
  exact sp_pureL (W := W) g1.own r1 (len_ofL hrf hx) (R.sat_mono hx (fun d hd B' p vs H' g hB hf hm hp r => hd B' p vs H' (g1.trans g) hB (g1.pull (.inr hf)) hm hp r) fun _ z => z.lost.go g1)
/-- the first argument is the cell in front, the others may change it -/
theorem ex_callCX {mr : OM} {pc : Addr} {t : List D} {rf : List D → List D → R (D × List D)} {rs : R (List D × List D)} (F : FnC X.prog X.w X.K X.mg X.base T k f fd ps rf) (C : Cal X.K X.mg X.A x f fd ps k) (hrf : ∀ c xs : List D, xs.length + 1 ≠ ps.length → rf c xs = .ub)
    (he : EV T X ds ((pc, .l t) :: mr) e (.ok (.ref pc))) (ha : EAt T X ds (fun t : List D => (pc, .l t) :: mr) t es rs) (hg : Gl X x := by rfl) (hdb : (x == ("__debug__" : Str)) = false := by decide)
    (hst : starEach (e :: es) X.env = (false, eval e X.env) :: starEach es X.env := by exact se1 rfl) (hpl : (backTo pos (starEach es X.env)).any (·.1) = false := by exact sepl rfl) :
    EXt T X ds (fun t : List D => (pc, .l t) :: mr) t (.Call (.Name x p) (e :: es) [] pos) (rs.bind fun xs => rf xs.2 xs.1) := by
  intro W tk B σ H hs w Q q
  refine wpE.of (pe_callS F C.hr hg C.mg C.kp C.bi (fun σ => passAt tk σ) (pa_cons (pe_wp X e) (pa_wp X es) hst) hdb hst hpl) ?_
  have q := R.sat_bind (R.sat_map q)
  refine he W tk B σ H hs w _ fun B0 v0 H0 g0 r0 => ?_
  cases r0.iref
  refine ha W tk B0 σ H0 (hs.mono g0.ex) g0.own _ (R.sat_map' (R.sat_mono q (fun xs hx B1 vs H1 g1 r1 => ?_) fun _ z => z.go g0))
  have g01 := g0.trans g1
  have hn : xs.1.length + 1 = ps.length := by
    by_cases e : xs.1.length + 1 = ps.length
    · exact e
    · rw [hrf _ xs.1 e] at hx; exact False.elim hx
  refine ⟨B1, [(pc, .l xs.2)], .ref pc :: xs.1, _, .cons (.ref pc) r1, g1.own.sub (.cons₂ _ (List.nil_sublist _)), ⟨pc, xs.2, xs.1, rfl, hn, rfl, rfl⟩, R.sat_map' (R.sat_mono hx (fun d hd B' v H' g r => ?_) fun er he B' H' cls dd g ea => ?_)⟩
  · exact hd B' v H' (g01.trans (g.frameR (mr := mr) g1.own)) r
  · exact he B' H' cls dd ((g01.trans (g.frameR (mr := mr) g1.own)).sub (List.nil_sublist _)) ea
theorem el_callCX {mr : OM} {pc : Addr} {t : List D} {rf : List D → List D → R (List D × List D)} {rs : R (List D × List D)} (F : FnCL X.prog X.w X.K X.mg X.base T k f fd ps rf) (C : Cal X.K X.mg X.A x f fd ps k) (hrf : ∀ c xs : List D, xs.length + 1 ≠ ps.length → rf c xs = .ub)
    (he : EV T X ds ((pc, .l t) :: mr) e (.ok (.ref pc))) (ha : EAt T X ds (fun t : List D => (pc, .l t) :: mr) t es rs) (hg : Gl X x := by rfl) (hdb : (x == ("__debug__" : Str)) = false := by decide)
    (hst : starEach (e :: es) X.env = (false, eval e X.env) :: starEach es X.env := by exact se1 rfl) (hpl : (backTo pos (starEach es X.env)).any (·.1) = false := by exact sepl rfl) :
    ELt T X ds (fun t : List D => (pc, .l t) :: mr) t (.Call (.Name x p) (e :: es) [] pos) (rs.bind fun xs => rf xs.2 xs.1) := by
  intro W tk B σ H hs w Q q
  refine wpE.of (pe_callS F C.hr hg C.mg C.kp C.bi (fun σ => passAt tk σ) (pa_cons (pe_wp X e) (pa_wp X es) hst) hdb hst hpl) ?_
  have q := R.sat_bind (R.sat_map q)
  refine he W tk B σ H hs w _ fun B0 v0 H0 g0 r0 => ?_
  cases r0.iref
  refine ha W tk B0 σ H0 (hs.mono g0.ex) g0.own _ (R.sat_map' (R.sat_mono q (fun xs hx B1 vs H1 g1 r1 => ?_) fun _ z => z.go g0))
  have g01 := g0.trans g1
  have hn : xs.1.length + 1 = ps.length := by
    by_cases e : xs.1.length + 1 = ps.length
    · exact e
    · rw [hrf _ xs.1 e] at hx; exact False.elim hx
  refine ⟨B1, [(pc, .l xs.2)], .ref pc :: xs.1, _, .cons (.ref pc) r1, g1.own.sub (.cons₂ _ (List.nil_sublist _)), ⟨pc, xs.2, xs.1, rfl, hn, rfl, rfl⟩, R.sat_map' (R.sat_mono hx (fun d hd B' q vs H' g hB hf hm hp r => ?_) fun er he B' H' cls dd g ea => ?_)⟩
  · have gg := g.frameR (mr := mr) g1.own
    have hf2 : q ∈ ((pc, MO.l xs.2) :: mr).map (·.1) ∨ Fre H1 q := by
      rcases hf with z | z
      · exact .inl (by have e : q = pc := by simpa using z
                       simp [e])
      · exact .inr z
    refine hd B' q vs H' (g01.trans gg) hB (g01.pull hf2) (fun z => ?_) hp r
    rw [List.map_cons, List.mem_cons] at z
    rcases z with z | z
    · exact hm (by simp [z])
    · rcases hf with z2 | z2
      · have e : q = pc := by simpa using z2
        exact hm (by simp [e])
      · exact g1.own.notIn z2 (List.mem_cons_of_mem _ z)
  · exact he B' H' cls dd ((g01.trans (g.frameR (mr := mr) g1.own)).sub (List.nil_sublist _)) ea
end
end
end DL
namespace DL
open PySem PySem.Spec PyProof.Rows L2
open Evl (Ex ex_l ex_t ex_rd)

/-! ### targets, flat -/
abbrev unN : D → R D := R.ok
abbrev unT2 {α β : Type} (u1 : D → R α) (u2 : D → R β) : D → R (α × β) := fun d => (D.unp2 d).bind fun q => (u1 q.1).bind fun a => (u2 q.2).bind fun b => .ok (a, b)
abbrev unT3 {α β δ : Type} (u1 : D → R α) (u2 : D → R β) (u3 : D → R δ) : D → R (α × β × δ) := fun d => (D.unp3 d).bind fun q => (u1 q.1).bind fun a => (u2 q.2.1).bind fun b => (u3 q.2.2).bind fun c => .ok (a, b, c)
abbrev unT4 {α β δ ε : Type} (u1 : D → R α) (u2 : D → R β) (u3 : D → R δ) (u4 : D → R ε) : D → R (α × β × δ × ε) := fun d => (D.unp4 d).bind fun q => (u1 q.1).bind fun a => (u2 q.2.1).bind fun b => (u3 q.2.2.1).bind fun c => (u4 q.2.2.2).bind fun d => .ok (a, b, c, d)
def needR {α : Type} (o : Option D) (f : D → R α) : R α := match o with
  | some d => f d
  | none => .ub
section
variable {T : Tb} {X : Cx} {ds : DS} {m m' m1 : OM} {W : WX} {B B1 H H1 : Hp} {σ σ1 : St}
variable {S S' L γ α : Type} {E : Exits S L γ}
variable {st : Stmt} {rest : List Stmt} {pos pos' p p2 p3 px py pz pt : Pos} {e a b c : Expr} {re ra rb rc : R D} {rl : R (List D)} {τ : Type} {M : τ → OM} {t : τ} {rx : R (D × τ)} {kt k2 : Nat}
theorem sb_need {o : Option D} {f : D → R (Fl S L γ)} (dsf : Option D → DS) (h : ∀ d, SB T X (dsf (some d)) m rest E (f d)) : SB T X (dsf o) m rest E (needR o f) := by
  cases o with
  | some d => exact h d
  | none => exact fun W tk B σ H hs w D q => q.elim
theorem sb_needE {o : Option D} {f : D → R (Fl S L γ)} (dsf : Option D → DS) (h : ∀ d, o = some d → SB T X (dsf (some d)) m rest E (f d)) : SB T X (dsf o) m rest E (needR o f) := by
  cases o with
  | some d => exact h d rfl
  | none => exact fun W tk B σ H hs w D q => q.elim
theorem Fgt.of_eq {ds ds' : DS} {d : D} {b : Option D} (e : b = some d) (f : Fgt ds ds') : Fgt (some d :: ds) (b :: ds') := by
  subst e
  exact f.keep
/-- the same, said otherwise -/
theorem SB.as {ds ds' : DS} {m m' : OM} {r : R (Fl S L γ)} (h : SB T X ds' m' rest E r) (h1 : ds = ds' := by rfl) (h2 : m = m' := by first | rfl | exact List.append_nil _) : SB T X ds m rest E r := by rw [h1, h2]; exact h
/-- a, b = x, y -/
theorem sb_par2 (i j : Nat) {x y : Str} {rs : R (List D)} {K : D → D → R (Fl S L γ)} (hc : X.calm = true) (hN : X.N.Nodup) (ha : EAp T X ds m [a, b] rs) (k : ∀ d1 d2, SB T X ((ds.set i (some d1)).set j (some d2)) m rest E (K d1 d2)) (hij : i ≠ j := by decide) (hi : X.N[i]? = some x := by rfl) (hj : X.N[j]? = some y := by rfl)
    (hx : X.env.scope.names.lookup x = some .local := by rfl) (hy : X.env.scope.names.lookup y = some .local := by rfl)
    (hw : swappedStores [.Tuple [.Name x px, .Name y py] kt pt] (.Tuple [a, b] k2 p2) X.env = pure (some [x, y]) := by rfl)
    (hs : swapsWithSole [.Tuple [.Name x px, .Name y py] kt pt] (.Tuple [a, b] k2 p2) pos.line X.env = pure false := by rfl) :
    SB T X ds m (.Assign [.Tuple [.Name x px, .Name y py] kt pt] (.Tuple [a, b] k2 p2) pos :: rest) E (rs.bind fun xs => match xs with | [d1, d2] => K d1 d2 | _ => .ub) := fun W tk B σ H hs' w D q =>
  wpSs.of (pss_cons (ps_par hc hN hi hj hij hx hy (pa_wp X _) hw hs) (pss_wp X rest)) (ha W tk B σ H hs' w _ (R.sat_mono (R.sat_bind q) (fun xs hd B' vs H' g r => by
    split at hd
    · cases r with
      | cons r1 r =>
        cases r with
        | cons r2 r =>
          cases r
          exact ⟨_, _, rfl, (k _ _).cont tk g (((hs'.mono g.ex).set i r1).set j r2) hd⟩
    · exact hd.elim) fun _ z => z.ek))
theorem sb_par2X (i j : Nat) {x y : Str} {rs : R (List D × τ)} {K : D → D → τ → R (Fl S L γ)} (hc : X.calm = true) (hN : X.N.Nodup) (ha : EAt T X ds M t [a, b] rs) (k : ∀ d1 d2 u, SB T X ((ds.set i (some d1)).set j (some d2)) (M u) rest E (K d1 d2 u)) (hij : i ≠ j := by decide) (hi : X.N[i]? = some x := by rfl) (hj : X.N[j]? = some y := by rfl)
    (hx : X.env.scope.names.lookup x = some .local := by rfl) (hy : X.env.scope.names.lookup y = some .local := by rfl)
    (hw : swappedStores [.Tuple [.Name x px, .Name y py] kt pt] (.Tuple [a, b] k2 p2) X.env = pure (some [x, y]) := by rfl)
    (hs : swapsWithSole [.Tuple [.Name x px, .Name y py] kt pt] (.Tuple [a, b] k2 p2) pos.line X.env = pure false := by rfl) :
    SB T X ds (M t) (.Assign [.Tuple [.Name x px, .Name y py] kt pt] (.Tuple [a, b] k2 p2) pos :: rest) E (rs.bind fun xs => match xs.1 with | [d1, d2] => K d1 d2 xs.2 | _ => .ub) := fun W tk B σ H hs' w D q =>
  wpSs.of (pss_cons (ps_par hc hN hi hj hij hx hy (pa_wp X _) hw hs) (pss_wp X rest)) (ha W tk B σ H hs' w _ (R.sat_map' (R.sat_mono (R.sat_bind q) (fun xs hd B' vs H' g r => by
    obtain ⟨xs, u⟩ := xs
    dsimp only at hd r g ⊢
    split at hd
    · cases r with
      | cons r1 r =>
        cases r with
        | cons r2 r =>
          cases r
          exact ⟨_, _, rfl, (k _ _ _).cont tk g (((hs'.mono g.ex).set i r1).set j r2) hd⟩
    · exact hd.elim) fun _ z => z.ek)))
theorem sb_par3 (i j l : Nat) {x y z : Str} {rs : R (List D)} {K : D → D → D → R (Fl S L γ)} (hc : X.calm = true) (hN : X.N.Nodup) (ha : EAp T X ds m [a, b, c] rs) (k : ∀ d1 d2 d3, SB T X (((ds.set i (some d1)).set j (some d2)).set l (some d3)) m rest E (K d1 d2 d3)) (hij : i ≠ j := by decide) (hil : i ≠ l := by decide) (hjl : j ≠ l := by decide) (hi : X.N[i]? = some x := by rfl) (hj : X.N[j]? = some y := by rfl) (hl : X.N[l]? = some z := by rfl)
    (hx : X.env.scope.names.lookup x = some .local := by rfl) (hy : X.env.scope.names.lookup y = some .local := by rfl) (hz : X.env.scope.names.lookup z = some .local := by rfl)
    (hw : swappedStores [.Tuple [.Name x px, .Name y py, .Name z pz] kt pt] (.Tuple [a, b, c] k2 p2) X.env = pure (some [x, y, z]) := by rfl)
    (hs : swapsWithSole [.Tuple [.Name x px, .Name y py, .Name z pz] kt pt] (.Tuple [a, b, c] k2 p2) pos.line X.env = pure false := by rfl) :
    SB T X ds m (.Assign [.Tuple [.Name x px, .Name y py, .Name z pz] kt pt] (.Tuple [a, b, c] k2 p2) pos :: rest) E (rs.bind fun xs => match xs with | [d1, d2, d3] => K d1 d2 d3 | _ => .ub) := fun W tk B σ H hs' w D q =>
  wpSs.of (pss_cons (ps_par3 hc hN hi hj hl hij hil hjl hx hy hz (pa_wp X _) hw hs) (pss_wp X rest)) (ha W tk B σ H hs' w _ (R.sat_mono (R.sat_bind q) (fun xs hd B' vs H' g r => by
    split at hd
    · cases r with
      | cons r1 r =>
        cases r with
        | cons r2 r =>
          cases r with
          | cons r3 r =>
            cases r
            exact ⟨_, _, _, rfl, (k _ _ _).cont tk g ((((hs'.mono g.ex).set i r1).set j r2).set l r3) hd⟩
    · exact hd.elim) fun _ z => z.ek))
/-- target = e -/
theorem sb_unp {tg : Expr} {g : TG} {is : List Nat} {un : D → R α} {put : DS → α → DS} {K : α → R (Fl S L γ)} (he : EV T X ds m e re) (hg : PG X tg g) (ht : TgD X.K T g is un put) (k : ∀ x, SB T X (put ds x) m rest E (K x)) (hs : swapsWithSole [tg] e pos.line X.env = pure false := by rfl) (hw : swappedStores [tg] e X.env = pure none := by rfl)
    (h1 : (assignEach [tg] X.env).map (·.2) = [assign tg X.env] := by rfl) : SB T X ds m (.Assign [tg] e pos :: rest) E (re.bind fun d => (un d).bind K) := fun W tk B σ H hs' w D q =>
  wpSs.of (pss_cons (ps_asg (pe_wp X e) hg hs hw h1) (pss_wp X rest)) (he W tk B σ H hs' w _ (R.sat_mono (R.sat_bind q) (fun d hd B' v H' g r =>
    ht B' m H' v d σ ds g.own (hs'.mono g.ex) r _ _ (R.sat_mono (R.sat_bind hd) (fun x hx B2 σ2 H2 g2 hs2 _ => (k x).cont tk (g.trans g2) hs2 hx) fun _ z => z)) fun _ z => z.ek))
theorem sb_unpX {tg : Expr} {g : TG} {is : List Nat} {un : D → R α} {put : DS → α → DS} {K : α → τ → R (Fl S L γ)} (he : EXt T X ds M t e rx) (hg : PG X tg g) (ht : TgD X.K T g is un put) (k : ∀ x u, SB T X (put ds x) (M u) rest E (K x u)) (hs : swapsWithSole [tg] e pos.line X.env = pure false := by rfl) (hw : swappedStores [tg] e X.env = pure none := by rfl)
    (h1 : (assignEach [tg] X.env).map (·.2) = [assign tg X.env] := by rfl) : SB T X ds (M t) (.Assign [tg] e pos :: rest) E (rx.bind fun d => (un d.1).bind fun x => K x d.2) := fun W tk B σ H hs' w D q =>
  wpSs.of (pss_cons (ps_asg (pe_wp X e) hg hs hw h1) (pss_wp X rest)) (he W tk B σ H hs' w _ (R.sat_map' (R.sat_mono (R.sat_bind q) (fun d hd B' v H' g r =>
    ht B' (M d.2) H' v d.1 σ ds g.own (hs'.mono g.ex) r _ _ (R.sat_mono (R.sat_bind hd) (fun x hx B2 σ2 H2 g2 hs2 _ => (k x d.2).cont tk (g.trans g2) hs2 hx) fun _ z => z)) fun _ z => z.ek)))
/-- raise x('m') -/
theorem sb_raise {x mm : Str} {C : Addr} {bmB : List Value} {Bn newId initId : String} {jj : Nat} (hc : X.calm = true) (F : PySem.ExcBaseFacts Bn newId initId bmB) (q : PySem.W.excIn X.K C bmB newId = true) (gC : X.mg x = some (.ref C)) (kC : PySem.W.keepIn X.K (.ref C) = true) (r : Raises X (.ref C)) (hg : Gl X x := by rfl) (hdb : (x == ("__debug__" : Str)) = false := by decide) :
    SB T X ds m (.Raise (some (.Call (.Name x p) [.Constant (.str mm) jj p2] [] p3)) none pos :: rest) E (.err ⟨x, none⟩) := fun W tk B σ H hs' w D q' =>
  wpSs.of (pss_cons (ps_raise hc tk (pmk_own F q gC kC r hg hdb)) (pss_wp X rest)) (q' B σ H (.ref C) none ((Go.refl w).sub (List.nil_sublist _)) ⟨C, gC, rfl, rfl⟩)
/-- x.append(e), e with effects -/
theorem sb_appendX (i : Nat) {x : Str} {pl : Addr} {xs : List D} (pre post : τ → OM) {K : D → τ → R (Fl S L γ)} {apos cpos : Pos} (h : ds[i]? = some (some (.ref pl))) (hM : ∀ u, M u = pre u ++ (pl, .l xs) :: post u) (he : EXt T X ds M t e rx) (k : ∀ d u, SB T X ds (pre u ++ (pl, .l (xs ++ [d])) :: post u) rest E (K d u))
    (pb : PE X (.Call (.Attribute (.Name x p) "append" apos) [e] [] cpos) (tBM X.K "list" rAppend (tVar i) (tCons (wpE X e) tNil))) (hsw : swapsWith (.Call (.Attribute (.Name x p) "append" apos) [e] [] cpos) none pos.line X.env = pure false := by rfl) :
    SB T X ds (M t) (.Expr (.Call (.Attribute (.Name x p) "append" apos) [e] [] cpos) pos :: rest) E (rx.bind fun d => (D.room xs).bind fun _ => K d.1 d.2) := fun W tk B σ H hs w D q => by
  refine wpSs.of (pss_cons (ps_expr pb hsw) (pss_wp X rest)) ?_
  obtain ⟨v, h1, h2⟩ := hs.at_ i _ h
  cases h2.iref
  obtain ⟨_, vs, hp, rv⟩ := w.at_ (pl, .l xs) (by rw [hM]; simp)
  refine ⟨_, h1, .inl ⟨rfl, vs, SqL.of hp⟩, ?_⟩
  refine he W tk B σ H hs w _ (R.sat_map' (R.sat_mono (R.sat_bind q) (fun d hd B' v' H' g r => ?_) fun _ z => z.ek))
  obtain ⟨_, vs', hp', rv'⟩ := g.own.at_ (pl, .l xs) (by rw [hM]; simp)
  unfold DL.D.room at hd
  split at hd
  · rename_i hz
    refine ⟨pl, vs', v', rfl, rfl, hp', by rw [rv'.length]; exact hz, ?_⟩
    dsimp only at g
    rw [hM d.2] at g
    have g2 := Go.upd (o' := .l (xs ++ [d.1])) (u := .lst (vs' ++ [v'])) g.own (fun _ z => nomatch z) ⟨_, upd_same, rv'.append (.cons r .nil)⟩
    exact (k d.1 d.2).cont tk (g.trans g2) (hs.mono g.ex) hd
  · exact False.elim hd
/-- x.append(e), e a new list that stays known -/
theorem sb_appendN (i : Nat) {x : Str} {pl : Addr} {xs : List D} (pre post : τ → OM) {rx : R (List D × τ)} {K : List D → τ → R (Fl S L γ)} {apos cpos : Pos} (h : ds[i]? = some (some (.ref pl))) (hM : ∀ u, M u = pre u ++ (pl, .l xs) :: post u) (he : ELt T X ds M t e rx) (k : ∀ an ys u, SB T X ds (pre u ++ (pl, .l (xs ++ [.ref an])) :: (post u ++ [(an, .l ys)])) rest E (K ys u))
    (pb : PE X (.Call (.Attribute (.Name x p) "append" apos) [e] [] cpos) (tBM X.K "list" rAppend (tVar i) (tCons (wpE X e) tNil))) (hsw : swapsWith (.Call (.Attribute (.Name x p) "append" apos) [e] [] cpos) none pos.line X.env = pure false := by rfl) :
    SB T X ds (M t) (.Expr (.Call (.Attribute (.Name x p) "append" apos) [e] [] cpos) pos :: rest) E (rx.bind fun d => (D.room xs).bind fun _ => K d.1 d.2) := fun W tk B σ H hs w D q => by
  refine wpSs.of (pss_cons (ps_expr pb hsw) (pss_wp X rest)) ?_
  obtain ⟨v, h1, h2⟩ := hs.at_ i _ h
  cases h2.iref
  obtain ⟨_, vs, hp, rv⟩ := w.at_ (pl, .l xs) (by rw [hM]; simp)
  refine ⟨_, h1, .inl ⟨rfl, vs, SqL.of hp⟩, ?_⟩
  refine he W tk B σ H hs w _ (R.sat_map' (R.sat_mono (R.sat_bind q) (fun d hd B' an ws H' g hB hf hm hpn r => ?_) fun _ z => z.ek))
  dsimp only at g hm hd r
  unfold DL.D.room at hd
  split at hd
  · rename_i hz
    have g1 := g.cell (o := .l d.1) hB hf hm ⟨ws, hpn, r⟩
    have em : M d.2 ++ [(an, MO.l d.1)] = pre d.2 ++ (pl, .l xs) :: (post d.2 ++ [(an, MO.l d.1)]) := by rw [hM d.2]; simp
    rw [em] at g1
    obtain ⟨_, vs', hp', rv'⟩ := g1.own.at_ (pl, .l xs) (by simp)
    refine ⟨pl, vs', .ref an, rfl, rfl, hp', by rw [rv'.length]; exact hz, ?_⟩
    have g2 := Go.upd (o' := .l (xs ++ [.ref an])) (u := .lst (vs' ++ [.ref an])) g1.own (fun _ z => nomatch z) ⟨_, upd_same, rv'.append (.cons (.ref an) .nil)⟩
    exact (k an d.1 d.2).cont tk (g1.trans g2) (hs.mono g1.ex) hd
  · exact False.elim hd
/-- x[j] = e, with effects -/
theorem sb_setLX (i : Nat) {x : Str} {pl : Addr} {xs : List D} (pre post : τ → OM) {K : List D → τ → R (Fl S L γ)} {rj : τ → R D} {j : Expr} (h : ds[i]? = some (some (.ref pl))) (hM : ∀ u, M u = pre u ++ (pl, .l xs) :: post u) (he : EXt T X ds M t e rx) (hj : ∀ u, EV T X ds (M u) j (rj u))
    (k : ∀ ys u, SB T X ds (pre u ++ (pl, .l ys) :: post u) rest E (K ys u))
    (ps : PS X (.Assign [.Subscript (.Name x p) j p2] e pos) (tAsg (wpE X e) (gSub (tVar i) (wpE X j) rSetL))) :
    SB T X ds (M t) (.Assign [.Subscript (.Name x p) j p2] e pos :: rest) E (rx.bind fun d => (rj d.2).bind fun n => (D.setAt xs n d.1).bind fun ys => K ys d.2) := fun W tk B σ H hs w D q => by
  refine wpSs.of (pss_cons ps (pss_wp X rest)) ?_
  refine he W tk B σ H hs w _ (R.sat_map' (R.sat_mono (R.sat_bind q) (fun d hd B1 v1 H1 g1 r1 => ?_) fun _ z => z.ek))
  obtain ⟨v, h1, h2⟩ := (hs.mono g1.ex).at_ i _ h
  cases h2.iref
  refine ⟨_, h1, ?_⟩
  refine hj d.2 W tk B1 σ H1 (hs.mono g1.ex) g1.own _ (R.sat_mono (R.sat_bind hd) (fun n hn B2 v2 H2 g2 r2 => ?_) fun _ z => (z.go g1).ek)
  obtain ⟨_, vs', hp', rv'⟩ := g2.own.at_ (pl, .l xs) (by rw [hM]; simp)
  dsimp only at g1
  have g12 := g1.trans g2
  have ow := g2.own
  rw [hM d.2] at ow g12
  unfold DL.D.setAt at hn
  split at hn
  · split at hn
    · rename_i i' j' e'
      refine ⟨pl, vs', _, j', rfl, r2.iint, hp', by rw [rv'.length]; exact e', ?_⟩
      have g3 := Go.upd (o' := .l (xs.set j' d.1)) (u := .lst (vs'.set j' v1)) ow (fun _ z => nomatch z) ⟨_, upd_same, RepL.set (r1.mono g2.ex) j' rv'⟩
      exact (k _ _).cont tk (g12.trans g3) (hs.mono (g12.ex)) hn
    · exact False.elim hn
  · exact False.elim hn
end
end DL
namespace DL
open PySem PySem.Spec PyProof.Rows L2
open Evl (Ex ex_l ex_t ex_rd)

theorem meets_enumerate_newB1 {v : Value} {o : Obj} {H : Heap → Prop} (B : Begins v o H) :
    Meets (Builtin.«enumerate.__new__» ⟨[.type "enumerate", v], []⟩) (fun _ R s => H s.heap ∧
      R (.ok (.ret (.ref (s.heap.push o).objs.size))) { s with heap := (s.heap.push o).push { cls := .type "enumerate", data := .fields #[.none, .bool false, .ref s.heap.objs.size, rawInt 0, .none, .none] } }) :=
  .of_wp fun prog w A R s h => by
    obtain ⟨hp, g, d, tk, os⟩ := s; obtain ⟨h1, h⟩ := h
    have hsub := sub_enumerate
    have q1 : ∀ {A' : Around} {E : Value → Shared → Prop} {Q : Value → Shared → Prop}, Q (.ref hp.objs.size) ⟨hp.push o, g, d, tk, os⟩ → wpAny (model prog w) A' (pyIter v) Q E ⟨hp, g, d, tk, os⟩ :=
      fun q => B.iter prog w _ _ ⟨hp, g, d, tk, os⟩ _ h1 q
    wp_walk using q1
    refine wpAny_stack_any fun st => wpAny_pure ?_
    split
    · rename_i c _ _ _ _ _
      cases (c == Value.type "enumerate")
      · wp_walk using q1
        exact ⟨_, rfl, h⟩
      · wp_walk using q1
        exact ⟨_, rfl, h⟩
    · wp_walk using q1
      exact ⟨_, rfl, h⟩
theorem enum_begins1 {prog : Program} {w : World} {A : Around} {E : Value → Shared → Prop} {s : Shared} {v : Value} {o : Obj} {H : Heap → Prop} {Q : Value → Shared → Prop} (B : Begins v o H) (h1 : H s.heap)
    (h : ∀ h', IsEnum h' (s.heap.objs.size + 1) s.heap.objs.size 0 .none → h'.get? s.heap.objs.size = some o → h'.objs.size = s.heap.objs.size + 2 →
      (∀ b o, s.heap.get? b = some o → h'.get? b = some o) → Q (.ref (s.heap.objs.size + 1)) { s with heap := h' }) :
    wpAny (model prog w) A (call (.type "enumerate") [v]) Q E s := by
  refine callType_new F.called_enumerate (by decide) (F.typeCall_enumerate_1 _) (F.newCall_enumerate_1 _) (fun obj => F.args_object_init_2 obj _) F.entry_enumerate_new
    (meets_enumerate_newB1 B) ⟨h1, ?_⟩
  have hz : (s.heap.push o).objs.size = s.heap.objs.size + 1 := Heap.size_push ..
  show _ ∧ _
  rw [hz]
  have he : IsEnum ((s.heap.push o).push { cls := .type "enumerate", data := .fields #[.none, .bool false, .ref s.heap.objs.size, rawInt 0, .none, .none] }) (s.heap.objs.size + 1) s.heap.objs.size 0 .none := by
    have := Heap.get?_push_size (s.heap.push o) (o := { cls := .type "enumerate", data := .fields #[.none, .bool false, .ref s.heap.objs.size, rawInt 0, .none, .none] }) rfl
    rw [hz] at this; exact this
  refine ⟨⟨_, he, rfl⟩, h _ he (Heap.get?_push_of_some _ (Heap.get?_push_size _ B.free)) (by rw [Heap.size_push, hz]) fun b o x => Heap.get?_push_of_some _ (Heap.get?_push_of_some _ x)⟩
/-- the tuple at a, each item in a new pair -/
def IteT (K : PySem.W.Frag) (a : Addr) : It :=
  ⟨fun i H => ∃ (xs : List V) (x : V), SqT K H a xs ∧ xs[i]? = some x, fun i H v H' => ∃ T x, v = .ref T ∧ H T = none ∧ H' = L2.upd H T (.tup [.int (i : Nat), x]) ∧ ∀ xs, SqT K H a xs → xs[i]? = some x, fun i H => ∃ xs : List V, SqT K H a xs ∧ xs.length = i⟩
theorem turn_enumT {P : Program} {w : World} {K : PySem.W.Frag} {elts : List Expr} {kk : Nat} {tpos : Pos} (a e it : Addr) :
    Turn P w K (.Tuple elts kk tpos) (IteT K a) [e, it] e (fun i h => (∃ old, IsEnum h e it ((i : Nat) : Int) old) ∧ h.IsTupleIter it a i ∧ e ≠ it) where
  mem := by simp
  obj := fun i h st b hb => by
    obtain ⟨⟨old, he⟩, ⟨o, ho, hc, hd⟩, _⟩ := st
    have e' : b = e ∨ b = it := by simpa using hb
    rcases e' with z | z
    · rw [z]; exact ⟨_, he, fun v q => nomatch q⟩
    · rw [z]; exact ⟨o, ho, fun v q => by rw [hd] at q; cases q⟩
  keep := fun i h h' st k => let ⟨⟨old, he⟩, hi, hne⟩ := st; ⟨⟨old, k e (by simp) _ he⟩, hi.at fun o q => k it (by simp) o q, hne⟩
  item := by
    intro X hP hw hK hc i pins s σ H E I hf st hg
    subst hP hw hK
    obtain ⟨⟨old, he⟩, hit, hne⟩ := st
    obtain ⟨xs, x, hq, hx⟩ := hg
    obtain ⟨its, rv, p, hz⟩ := I.tuple hq
    obtain ⟨u, hu, ru⟩ := rv.get hx
    have hel : e < s.heap.objs.size := Heap.lt_size he
    have hil : it < s.heap.objs.size := by obtain ⟨_, q, _⟩ := hit; exact Heap.lt_size q
    have hT : s.heap.IsTuple a its.toArray := p
    have hea : e ≠ a := fun z => by
      obtain ⟨o, ho, hc', n, hd'⟩ := hT
      have he' : s.heap.get? e = some _ := he
      rw [← z, he'] at ho
      cases ho
      cases hd'
    have hia : a ≠ it := fun z => by
      obtain ⟨o, ho, hc', n, hd'⟩ := hT
      obtain ⟨o2, ho2, hc2, hd2⟩ := hit
      rw [z, ho2] at ho
      cases ho
      rw [hd2] at hd'
      cases hd'
    have D := Draws.tuple (prog := X.prog) (w := X.w) (A := X.A.in1) (I.ok.hd hc) it a hia its.toArray
    have hi : i < its.toArray.size := by
      rw [List.size_toArray, ← rv.length]
      exact (List.getElem?_eq_some_iff.mp hx).1
    refine wpAny_pyNext_enum_itemD D he ⟨hit, hT⟩ hi hne (by simp [hne, hea]) fun y h' tk hy ho hit' hT' hsz hk => ?_
    have ey : y = u := by
      have hu' : its.toArray[i]? = some u := by simpa using hu
      rw [hu'] at hy
      exact (Option.some.inj hy).symm
    subst ey
    refine ⟨_, rfl, wpAny_letOwnedTupleGo_enum (s := { s with heap := h', toks := tk + 1 }) ho fun h'' he' sb => ?_⟩
    have hT2 : h''.get? s.heap.objs.size = some { cls := .type "tuple", data := .seq #[.int i tk, y] } := (sb.2 _ (Nat.ne_of_gt hel)).trans hT'
    have new : ObjOk X.prog X.w (L2.upd H s.heap.objs.size (.tup [.int (i : Nat), x])) h'' s.heap.objs.size (.tup [.int (i : Nat), x]) :=
      ⟨by show 2 ≤ sizeLine; decide, [.int i tk, y], .cons ⟨_, rfl⟩ (.cons ru .nil), ⟨_, hT2, rfl, _, rfl⟩⟩
    have I1 : Inv X pins σ (L2.upd H s.heap.objs.size (.tup [.int (i : Nat), x])) { s with heap := h'', toks := tk + 1 } :=
      I.turnedNew (ch := [e, it]) (fun b ob hb q => (sb.2 b (fun z => hb (by simp [z]))).trans (hk b ob (fun z => hb (by simp [z])) (fun z => hb (by simp [z])) q)) hf (Nat.le_refl _) new
    refine ⟨.ref s.heap.objs.size, _, I1, rfl, ⟨_, x, rfl, I.hok.fresh (Nat.le_refl _), rfl, fun ys hy => by rw [I.tuple_inj hy hq]; exact hx⟩, ⟨⟨y, ?_⟩, hit'.1.at fun o q => (sb.2 it (Ne.symm hne)).trans q, hne⟩, fun b hb => ?_⟩
    · have e1 : ((i + 1 : Nat) : Int) = (i : Int) + 1 := by omega
      rw [e1]; exact he'
    · have hb' : b < s.heap.objs.size := by
        have e' : b = e ∨ b = it := by simpa using hb
        rcases e' with z | z
        · rw [z]; exact hel
        · rw [z]; exact hil
      rw [upd_ne (Nat.ne_of_lt hb')]
      exact (hf b hb).1
  done := by
    intro X hP hw hK hc i pins s σ H E I hf st hg
    subst hP hw hK
    obtain ⟨⟨old, he⟩, hit, hne⟩ := st
    obtain ⟨xs, hq, hx⟩ := hg
    obtain ⟨its, rv, p, hz⟩ := I.tuple hq
    obtain ⟨f0, f1, f2, f3, f4, f5⟩ := hf it (by simp)
    have hl := rv.length
    have hT : s.heap.IsTuple a its.toArray := p
    have hia : a ≠ it := fun z => by
      obtain ⟨o, ho, hc', n, hd'⟩ := hT
      obtain ⟨o2, ho2, hc2, hd2⟩ := hit
      rw [z, ho2] at ho
      cases ho
      rw [hd2] at hd'
      cases hd'
    have D := Draws.tuple (prog := X.prog) (w := X.w) (A := X.A.in1) (I.ok.hd hc) it a hia its.toArray
    have ei : its.toArray.size = i := by rw [List.size_toArray]; omega
    exact wpAny_pyNext_enum_endD D he ⟨by rw [ei]; exact hit, hT⟩ fun h' eb => ⟨rfl, I.turned (t' := s.toks) (fun b o hb q => eb b o hb q) f0 f1 f3 f4 f5⟩
  self := fun A i s Q E st h => let ⟨⟨_, he⟩, _⟩ := st; wpAny_pyIter_enum he h
def iEnumA (K : PySem.W.Frag) (ta : TA) : TI := fun σ H R => ta σ H fun vs H1 => ∃ a, vs = [.ref a] ∧ ((∃ xs, SqL K H1 a xs ∧ R (Ite K a) H1) ∨ ∃ xs, SqT K H1 a xs ∧ R (IteT K a) H1)
theorem pi_enumA {X : Cx} {e : Expr} {ta : TA} {p pos tpos : Pos} {elts : List Expr} {kk : Nat} (hg : Gl X "enumerate") (hm : X.mg "enumerate" = none) (ha : PA X [e] ta) (hs : starEach [e] X.env = [(false, eval e X.env)] := by exact se2 rfl) :
    PI X (.Tuple elts kk tpos) (.Call (.Name "enumerate" p) [e] [] pos) (iEnumA X.K ta) := by
  refine ⟨fun pins s σ H R I h => ?_⟩
  refine Call_ (ld_blt I hg hm boot_enumerate (PyProof.Rows.callWith_type1 (thn (ha.run pos pins s σ H _ I h) fun us s1 ⟨vs, H1, I1, r1, q1⟩ => ?_) hs rfl))
  obtain ⟨a, ex, q⟩ := q1
  subst ex
  cases r1 with
  | cons r rr =>
    cases rr
    cases r
    have fin : ∀ (J : It) (tn : Nat → Heap → Prop) (h' : Heap), (∀ b o, s1.heap.get? b = some o → h'.get? b = some o) → Turn X.prog X.w X.K (.Tuple elts kk tpos) J [s1.heap.objs.size + 1, s1.heap.objs.size] (s1.heap.objs.size + 1) tn → tn 0 h' → R J H1 →
        PIE X pins σ (.Tuple elts kk tpos) R (.ref (s1.heap.objs.size + 1)) { s1 with heap := h' } := fun J tn h' hk tr st q => by
      have I2 : Inv X pins σ H1 { s1 with heap := h' } := I1.kept (t' := s1.toks) hk
      refine ⟨s1.heap.objs.size + 1, [s1.heap.objs.size + 1, s1.heap.objs.size], _, _, H1, rfl, I2, tr, st, fun b hb => ?_, q⟩
      have e' : b = s1.heap.objs.size + 1 ∨ b = s1.heap.objs.size := by simpa using hb
      have hle : s1.heap.objs.size ≤ b := by
        rcases e' with z | z
        · rw [z]; exact Nat.le_add_right _ _
        · rw [z]; exact Nat.le_refl _
      exact I1.fpOk hle (I1.hok.fresh hle)
    rcases q with ⟨xs, hq, q⟩ | ⟨xs, hq, q⟩
    · obtain ⟨its, rv, p', hz⟩ := I1.list hq
      exact call_enumerate_list p'.isList fun h' he hit hsz hk => wpAny_pyIter_enum he (fin _ _ h' hk (turn_enum a (s1.heap.objs.size + 1) s1.heap.objs.size) ⟨⟨.none, he⟩, hit, Nat.succ_ne_self _⟩ q)
    · obtain ⟨its, rv, p', hz⟩ := I1.tuple hq
      exact enum_begins1 (begins_tuple a its.toArray) (show s1.heap.IsTuple a its.toArray from p') fun h' he hit hsz hk => wpAny_pyIter_enum he (fin _ _ h' hk (turn_enumT a (s1.heap.objs.size + 1) s1.heap.objs.size) ⟨⟨.none, he⟩, ⟨_, hit, rfl, rfl⟩, Nat.succ_ne_self _⟩ q)
theorem walk_enumT {K : PySem.W.Frag} {a : Addr} {xs : List V} : Walk (IteT K a) xs.length (fun H => SqT K H a xs) (YPair (fun i => some (.int (i : Nat))) (fun i => xs[i]?)) := by
  refine ⟨fun i H hi q => ⟨xs, xs[i], q, List.getElem?_eq_getElem hi⟩, fun H q => ⟨xs, q, rfl⟩, fun i H v H' _ q y => ?_⟩
  obtain ⟨Ta, x, h1, h2, h3, h4⟩ := y
  exact ⟨Ta, _, x, h1, h2, h3, rfl, h4 xs q⟩
theorem dw_enumT {K : PySem.W.Frag} {T : Tb} {B : Hp} {a : Addr} {vs : List V} {xs : List D} (h1 : SqT K B a vs) (r1 : RepL K B vs xs) : DW K T (IteT K a) B (pairD (rangeD 0 xs.length) xs) := by
  refine dw_pair (walk_enumT (xs := vs)) (fun H e => ex_t e h1) ?_ (fun i v x e1 e2 => ?_) (fun i v x e1 e2 => ?_)
  · rw [pairD_length, r1.length]; unfold rangeD; simp
  · have hi : i < (rangeD 0 xs.length).length := (List.getElem?_eq_some_iff.mp e2).1
    unfold rangeD at hi e2
    rw [List.getElem?_eq_getElem (by simpa using hi)] at e2
    simp at e2
    cases e1
    rw [← e2]
    exact .int _
  · obtain ⟨v', q1, q2⟩ := r1.get e2
    rw [q1] at e1; cases e1; exact q2
def D.enum : D → R (List D)
  | .lst xs => .ok (pairD (rangeD 0 xs.length) xs)
  | .tup xs => .ok (pairD (rangeD 0 xs.length) xs)
  | _ => .ub
section
variable {T : Tb} {X : Cx} {ds : DS} {m : OM} {a : Expr} {ra : R D} {pos p tpos : Pos} {elts : List Expr} {kk : Nat} {τ : Type} {M : τ → OM} {t : τ}
theorem enum_core {B H : Hp} {v : V} {d : D} (w : Own X.K T B m H) (rv : Rep X.K B v d) {Q : It → Hp → Prop} {Ee : Err → Prop} (h : d.enum.sat (fun xs => ∀ J, DW X.K T J B xs → Q J H) Ee) :
    ∃ a, [v] = [.ref a] ∧ ((∃ xs, SqL X.K H a xs ∧ Q (Ite X.K a) H) ∨ ∃ xs, SqT X.K H a xs ∧ Q (IteT X.K a) H) := by
  unfold DL.D.enum at h
  split at h
  · obtain ⟨a1, vs, rfl, h1, h3⟩ := rv.ilst
    exact ⟨a1, rfl, .inl ⟨vs, ex_l w.ex (.inl h1), h _ (dw_enumL h1 h3)⟩⟩
  · obtain ⟨a1, vs, rfl, h1, h3⟩ := rv.itup
    exact ⟨a1, rfl, .inr ⟨vs, ex_t w.ex h1, h _ (dw_enumT h1 h3)⟩⟩
  · exact False.elim h
theorem ei_enum (hm : X.mg "enumerate" = none) (h : EV T X ds m a ra) (hg : Gl X "enumerate" := by rfl) (hst : starEach [a] X.env = [(false, eval a X.env)] := by exact se2 rfl) : EI T X ds m (.Tuple elts kk tpos) (.Call (.Name "enumerate" p) [a] [] pos) (ra.bind D.enum) := fun W tk B σ H hs w Q q =>
  wpI.of (pi_enumA hg hm (pa_cons (pe_wp X a) pa_nil hst) hst) (h W tk B σ H hs w _ (R.sat_mono (R.sat_bind q) (fun d hd B' v H' g rv => enum_core g.own rv (R.sat_mono hd (fun xs hx J dw => hx B' J H' g dw) fun _ z => z)) fun _ z => z))
theorem ei_enumX {rx : R (D × τ)} (hm : X.mg "enumerate" = none) (h : EXt T X ds M t a rx) (hg : Gl X "enumerate" := by rfl) (hst : starEach [a] X.env = [(false, eval a X.env)] := by exact se2 rfl) : EIt T X ds M t (.Tuple elts kk tpos) (.Call (.Name "enumerate" p) [a] [] pos) (rx.bind fun q => q.1.enum.map fun xs => (xs, q.2)) := fun W tk B σ H hs w Q q =>
  wpI.of (pi_enumA hg hm (pa_cons (pe_wp X a) pa_nil hst) hst) (h W tk B σ H hs w _ (R.sat_map' (R.sat_mono (R.sat_bind q) (fun d hd B' v H' g rv => enum_core g.own rv (R.sat_mono (R.sat_map hd) (fun xs hx J dw => hx B' J H' g dw) fun _ z => z)) fun _ z => z)))
/-- range(e) with effects -/
theorem ei_range1X {rx : R (D × τ)} {tg : Expr} (hm : X.mg "range" = none) (h : EXt T X ds M t a rx) (hg : Gl X "range" := by rfl) (hst : starEach [a] X.env = [(false, eval a X.env)] := by exact se2 rfl) : EIt T X ds M t tg (.Call (.Name "range" p) [a] [] pos) (rx.bind fun q => (D.range1 q.1).map fun xs => (xs, q.2)) := fun W tk B σ H hs w Q q =>
  wpI.of (pi_range1 hg hm (pa_cons (pe_wp X a) pa_nil hst) hst) (h W tk B σ H hs w _ (R.sat_map' (R.sat_mono (R.sat_bind q) (fun d hd B' v H' g rv => by
    obtain ⟨d, u⟩ := d
    have hd := R.sat_map hd
    dsimp only at g rv hd
    unfold DL.D.range1 at hd
    split at hd
    · split at hd
      · rename_i hz
        exact ⟨_, by rw [rv.iint], hz.1, hz.2, hd B' _ H' g dw_range⟩
      · exact False.elim hd
    · exact False.elim hd) fun _ z => z)))
end
end DL
namespace DL
open PySem PySem.Spec PyProof.Rows L2
open Evl (Ex ex_l ex_t ex_rd)

/-! ### dicts, by data -/
section
variable {κ : Type} [DecidableEq κ]
def dget (kd : List (κ × D)) (k : κ) : Option D := (kd.find? fun kv => decide (kv.1 = k)).map (·.2)
def dput (kd : List (κ × D)) (k : κ) (d : D) : List (κ × D) := if (kd.any fun kv => decide (kv.1 = k)) = true then kd.map (fun kv => if kv.1 = k then (kv.1, d) else kv) else kd ++ [(k, d)]
inductive RelOD (K : PySem.W.Frag) (B : Hp) : Option V → Option D → Prop
  | none : RelOD K B none none
  | some {v : V} {d : D} : Rep K B v d → RelOD K B (some v) (some d)
def KD (K : PySem.W.Frag) (B : Hp) (kvs : List (κ × V)) (kd : List (κ × D)) : Prop := kvs.map (·.1) = kd.map (·.1) ∧ RepL K B (kvs.map (·.2)) (kd.map (·.2))
variable {K : PySem.W.Frag} {B B' : Hp}
theorem KD.nil : KD K B ([] : List (κ × V)) [] := ⟨rfl, .nil⟩
theorem KD.mono {kvs : List (κ × V)} {kd : List (κ × D)} (h : KD K B kvs kd) (e : Ex B B') : KD K B' kvs kd := ⟨h.1, h.2.mono e⟩
theorem KD.cons_inv {p : κ × V} {kvs : List (κ × V)} {kd : List (κ × D)} (h : KD K B (p :: kvs) kd) : ∃ d r, kd = (p.1, d) :: r ∧ Rep K B p.2 d ∧ KD K B kvs r := by
  obtain ⟨h1, h2⟩ := h
  cases kd with
  | nil => cases h1
  | cons q r =>
    obtain ⟨k, d⟩ := q
    rw [List.map_cons, List.map_cons] at h1 h2
    cases h2 with
    | cons r1 r2 =>
      injection h1 with e1 e2
      have e1 : p.1 = k := e1
      subst e1
      exact ⟨d, r, rfl, r1, e2, r2⟩
theorem KD.cons {k : κ} {v : V} {d : D} {kvs : List (κ × V)} {kd : List (κ × D)} (r : Rep K B v d) (h : KD K B kvs kd) : KD K B ((k, v) :: kvs) ((k, d) :: kd) :=
  ⟨by rw [List.map_cons, List.map_cons, h.1], by rw [List.map_cons, List.map_cons]; exact .cons r h.2⟩
theorem KD.length {kvs : List (κ × V)} {kd : List (κ × D)} (h : KD K B kvs kd) : kvs.length = kd.length := by
  have := congrArg List.length h.1
  simpa using this
theorem KD.get (k : κ) : ∀ {kvs : List (κ × V)} {kd : List (κ × D)}, KD K B kvs kd → RelOD K B (valV kvs k) (dget kd k)
  | [], kd, h => by
    have e : kd = [] := by
      have := h.length
      cases kd with
      | nil => rfl
      | cons a b => cases this
    subst e
    exact .none
  | p :: kvs, kd, h => by
    obtain ⟨d, r, rfl, r1, r2⟩ := h.cons_inv
    by_cases e : p.1 = k
    · rw [valV_pos e]
      have : dget ((p.1, d) :: r) k = some d := by simp [dget, List.find?_cons, e]
      rw [this]
      exact .some r1
    · rw [valV_neg e]
      have : dget ((p.1, d) :: r) k = dget r k := by simp [dget, List.find?_cons, e]
      rw [this]
      exact KD.get k r2
theorem KD.any (k : κ) : ∀ {kvs : List (κ × V)} {kd : List (κ × D)}, KD K B kvs kd → (kvs.any fun kv => decide (kv.1 = k)) = (kd.any fun kv => decide (kv.1 = k))
  | [], kd, h => by
    have e : kd = [] := by
      have := h.length
      cases kd with
      | nil => rfl
      | cons a b => cases this
    subst e
    rfl
  | p :: kvs, kd, h => by
    obtain ⟨d, r, rfl, r1, r2⟩ := h.cons_inv
    rw [List.any_cons, List.any_cons, KD.any k r2]
theorem KD.repl (k : κ) {v : V} {d : D} (rv : Rep K B v d) : ∀ {kvs : List (κ × V)} {kd : List (κ × D)}, KD K B kvs kd → KD K B (kvs.map fun kv => if kv.1 = k then (kv.1, v) else kv) (kd.map fun kv => if kv.1 = k then (kv.1, d) else kv)
  | [], kd, h => by
    have e : kd = [] := by
      have := h.length
      cases kd with
      | nil => rfl
      | cons a b => cases this
    subst e
    exact .nil
  | p :: kvs, kd, h => by
    obtain ⟨d', r, rfl, r1, r2⟩ := h.cons_inv
    rw [List.map_cons, List.map_cons]
    by_cases e : p.1 = k
    · rw [if_pos e, if_pos e]
      exact .cons rv (KD.repl k rv r2)
    · rw [if_neg e, if_neg e]
      exact .cons r1 (KD.repl k rv r2)
theorem KD.snoc {k : κ} {v : V} {d : D} {kvs : List (κ × V)} {kd : List (κ × D)} (r : Rep K B v d) (h : KD K B kvs kd) : KD K B (kvs ++ [(k, v)]) (kd ++ [(k, d)]) :=
  ⟨by rw [List.map_append, List.map_append, h.1]; rfl, by rw [List.map_append, List.map_append]; exact h.2.append (.cons r .nil)⟩
theorem KD.put (k : κ) {v : V} {d : D} {kvs : List (κ × V)} {kd : List (κ × D)} (r : Rep K B v d) (h : KD K B kvs kd) : KD K B (putK kvs k v) (dput kd k d) := by
  unfold putK dput
  rw [h.any k]
  split
  · exact h.repl k r
  · exact h.snoc r
theorem KD.at_ {kvs : List (κ × V)} {kd : List (κ × D)} (h : KD K B kvs kd) {i : Nat} {k : κ} {v : V} (e : kvs[i]? = some (k, v)) : ∃ d, kd[i]? = some (k, d) ∧ Rep K B v d := by
  have e1 : (kvs.map (·.1))[i]? = some k := by rw [List.getElem?_map, e]; rfl
  have e2 : (kvs.map (·.2))[i]? = some v := by rw [List.getElem?_map, e]; rfl
  rw [h.1, List.getElem?_map] at e1
  obtain ⟨d, h1, h2⟩ := h.2.getV e2
  rw [List.getElem?_map] at h1
  cases q : kd[i]? with
  | none => rw [q] at e1; cases e1
  | some p =>
    rw [q] at e1 h1
    obtain ⟨k', d'⟩ := p
    cases e1
    cases h1
    exact ⟨_, rfl, h2⟩
end

/-! ### keys -/
def asKey : D → Option Key
  | .int i => some (.inl i)
  | .str x => some (.inr x)
  | _ => none
def asKeys : List D → Option (List Key)
  | [] => some []
  | d :: r => match asKey d, asKeys r with
    | some k, some ks => some (k :: ks)
    | _, _ => none
theorem asKey_ok {K : PySem.W.Frag} {B : Hp} {m : OM} {d : D} {k : Key} {v : V} (h : asKey d = some k) (r : VRep K B m v d) : v = kV k := by
  unfold asKey at h
  split at h
  · cases h; exact r.iint
  · cases h; exact r.istr
  · cases h
theorem asKeys_ok {K : PySem.W.Frag} {B : Hp} : ∀ {ds : List D} {ks : List Key} {vs : List V}, asKeys ds = some ks → RepL K B vs ds → vs = ks.map kV
  | [], ks, vs, h, r => by cases r; cases h; rfl
  | d :: ds, ks, vs, h, r => by
    cases r with
    | cons r1 r2 =>
      unfold asKeys at h
      split at h
      · rename_i k ks' e1 e2
        cases h
        rw [List.map_cons, asKey_ok (m := []) e1 (.st r1), asKeys_ok e2 r2]
      · cases h
theorem keyD_rep {K : PySem.W.Frag} {B : Hp} (k : Key) : Rep K B (kV k) (keyD k) := by
  cases k with
  | inl i => exact .int i
  | inr x => exact .str x
theorem keysD_rep {K : PySem.W.Frag} {B : Hp} : ∀ ks : List Key, RepL K B (ks.map kV) (ks.map keyD)
  | [] => .nil
  | k :: ks => .cons (keyD_rep k) (keysD_rep ks)
@[simp] theorem asKey_key (k : Key) : asKey (keyD k) = some k := by cases k <;> rfl
@[simp] theorem asKeys_keys : ∀ ks : List Key, asKeys (ks.map keyD) = some ks
  | [] => rfl
  | k :: ks => by
    rw [List.map_cons]
    unfold asKeys
    rw [asKey_key, asKeys_keys ks]
/-- what a dict holds at a key -/
def D.look : D → D → R (Option D)
  | .dct kd, k => match asKey k with
    | some kk => .ok (dget kd kk)
    | none => .ub
  | .dtt kd, .tup ks => match asKeys ks with
    | some kk => .ok (dget kd kk)
    | none => .ub
  | _, _ => .ub
def D.isD : D → Bool
  | .dct _ => true
  | .dtt _ => true
  | _ => false
section
variable {K : PySem.W.Frag} {T : Tb} {B H : Hp} {m : OM} {x y : V}
theorem VRep.idct {kd : List (Key × D)} (w : Own K T B m H) (r : VRep K B m x (.dct kd)) : ∃ a kvs, x = .ref a ∧ Rd H a (.dK kvs) ∧ KD K B kvs kd := by
  generalize e : D.dct kd = d at r
  cases r with
  | st h =>
    subst e
    obtain ⟨a, od, kvs, h1, h2, h3, h4⟩ := h.idct
    exact ⟨a, kvs, h1, .inr ⟨od, w.ex _ _ h2⟩, h3, h4⟩
  | @own p o h =>
    cases o with
    | l xs => cases e
    | d kd' =>
      cases e
      obtain ⟨_, kvs, h1, h2, h3⟩ := w.at_ _ h
      exact ⟨p, kvs, rfl, .inl h1, h2, h3⟩
    | t kd' => cases e
theorem VRep.idtt {kd : List (List Key × D)} (w : Own K T B m H) (r : VRep K B m x (.dtt kd)) : ∃ a kvs, x = .ref a ∧ Rd H a (.dT kvs) ∧ KD K B kvs kd := by
  generalize e : D.dtt kd = d at r
  cases r with
  | st h =>
    subst e
    obtain ⟨a, od, kvs, h1, h2, h3, h4⟩ := h.idtt
    exact ⟨a, kvs, h1, .inr ⟨od, w.ex _ _ h2⟩, h3, h4⟩
  | @own p o h =>
    cases o with
    | l xs => cases e
    | d kd' => cases e
    | t kd' =>
      cases e
      obtain ⟨_, kvs, h1, h2, h3⟩ := w.at_ _ h
      exact ⟨p, kvs, rfl, .inl h1, h2, h3⟩
theorem VRep.itupH {ds : List D} (r : VRep K B m y (.tup ds)) : ∃ a vs, y = .ref a ∧ B a = some (.tup vs) ∧ RepL K B vs ds := by
  generalize e : D.tup ds = d at r
  cases r with
  | st h => subst e; exact h.itupH
  | @own p o h => cases o <;> cases e
theorem look_ok {dx dy : D} (w : Own K T B m H) (rx : VRep K B m x dx) (ry : VRep K B m y dy) {P : Option D → Prop} {Ee : Err → Prop} (h : (D.look dx dy).sat P Ee) : ∃ a ov o, x = .ref a ∧ DGet H a y ov ∧ RelOD K B ov o ∧ P o := by
  unfold D.look at h
  split at h
  · split at h
    · rename_i kk e
      obtain ⟨a, kvs, rfl, h1, h2⟩ := rx.idct w
      exact ⟨a, _, _, rfl, .inl ⟨kvs, kk, h1, asKey_ok e ry, rfl⟩, h2.get kk, h⟩
    · exact h.elim
  · split at h
    · rename_i kk e
      obtain ⟨a, kvs, rfl, h1, h2⟩ := rx.idtt w
      obtain ⟨b, vs, rfl, h3, h4⟩ := ry.itupH
      cases asKeys_ok e h4
      exact ⟨a, _, _, rfl, .inr ⟨kvs, kk, b, h1, rfl, w.ex _ _ h3, rfl⟩, h2.get kk, h⟩
    · exact h.elim
  · exact h.elim
end
theorem R.sat_self {α : Type} {r : R α} {P : α → Prop} {Q : Err → Prop} (h : r.sat P Q) : r.sat (fun a => r = .ok a ∧ P a) Q := by
  cases r with
  | ok a => exact ⟨rfl, h⟩
  | err e => exact h
  | ub => exact h
def D.need : Option D → R D
  | some d => .ok d
  | none => .ub
/-- x[y], x a sequence or a dict -/
def D.ixA (x y : D) : R D := if x.isD then (D.look x y).bind D.need else D.ix x y
def D.inA (x y : D) : R D := if y.isD then (D.look y x).map fun o => .bl o.isSome else D.isIn x y
def D.notInA (x y : D) : R D := if y.isD then (D.look y x).map fun o => .bl (!o.isSome) else D.notIn x y
section
variable {T : Tb} {X : Cx} {ds : DS} {m m' m1 : OM} {W : WX} {B B1 H H1 : Hp} {σ : St} {pos p p2 : Pos}
variable {a b c e f : Expr} {ra rb rc : R D} {τ : Type} {M : τ → OM} {t : τ} {fa : R (D × τ)} {fb : τ → R (D × τ)}
theorem ev_ixA (hu : X.A.units + 1 < cLine) (ho : IxR X (rIx X.K)) (ha : EVw T X ds m a ra) (hb : EVw T X ds m b rb) (hs : PlainIx b := by exact fun _ _ => rfl) (hn : NoSl b := by exact fun _ _ => rfl) : EV T X ds m (.Subscript a b pos) (ra.bind fun x => rb.bind fun y => D.ixA x y) := by
  intro W tk B σ H hs' w Q q
  by_cases hd : ∃ x, ra = .ok x ∧ x.isD = true
  · obtain ⟨x0, e0, hx0⟩ := hd
    refine wpE.of (pe_dget hu (pe_wp X a) (pe_wp X b) hn) ?_
    refine ha W tk B σ H hs' w _ (R.sat_mono (R.sat_self (R.sat_bind q)) (fun x ⟨ex, hx⟩ B1 v1 H1 g1 r1 => ?_) fun _ z => z)
    rw [e0] at ex
    cases ex
    refine hb W tk B1 σ H1 (hs'.mono g1.ex) g1.own _ (R.sat_mono (R.sat_bind hx) (fun y hy B2 v2 H2 g2 r2 => ?_) fun _ z => z.go g1)
    unfold DL.D.ixA at hy
    rw [if_pos hx0] at hy
    obtain ⟨ad, ov, o, rfl, h1, h2, h3⟩ := look_ok g2.own (r1.go g2) r2 (R.sat_bind hy)
    cases h2 with
    | none => exact h3.elim
    | some r => exact ⟨ad, _, rfl, h1, h3 B2 _ H2 (g1.trans g2) r⟩
  · refine wpE.of (pe_ix ho (pe_wp X a) (pe_wp X b) hs) (op_core (g := D.ix) (P := fun d => ∀ B' v H', Go X.K T B m H B' m H' → Rep X.K B' v d → Q v H') opd_ix tk hs' w ha hb (fun d hd => hd) ?_)
    refine R.sat_bind' (R.sat_mono (R.sat_self (R.sat_bind q)) (fun x ⟨ex, hx⟩ => ?_) fun _ z => z)
    refine R.sat_bind' (R.sat_mono (R.sat_bind hx) (fun y hy => ?_) fun _ z => z)
    unfold DL.D.ixA at hy
    rw [if_neg (fun z => hd ⟨x, ex, z⟩)] at hy
    exact hy
theorem ex_ixA (hu : X.A.units + 1 < cLine) (ho : IxR X (rIx X.K)) (ha : EXt T X ds M t a fa) (hb : ∀ u, EXw T X ds M u b (fb u)) (hs : PlainIx b := by exact fun _ _ => rfl) (hn : NoSl b := by exact fun _ _ => rfl) : EXt T X ds M t (.Subscript a b pos) (fa.bind fun p => (fb p.2).bind fun q => (D.ixA p.1 q.1).map fun d => (d, q.2)) := by
  intro W tk B σ H hs' w Q q
  by_cases hd : ∃ x, fa = .ok x ∧ x.1.isD = true
  · obtain ⟨x0, e0, hx0⟩ := hd
    refine wpE.of (pe_dget hu (pe_wp X a) (pe_wp X b) hn) ?_
    refine ha W tk B σ H hs' w _ (R.sat_map' (R.sat_mono (R.sat_self (R.sat_bind (R.sat_map q))) (fun x ⟨ex, hx⟩ B1 v1 H1 g1 r1 => ?_) fun _ z => z))
    rw [e0] at ex
    cases ex
    refine hb _ W tk B1 σ H1 (hs'.mono g1.ex) g1.own _ (R.sat_mono (R.sat_bind hx) (fun y hy B2 v2 H2 g2 r2 => ?_) fun _ z => z.go g1)
    have hy := R.sat_map hy
    unfold DL.D.ixA at hy
    rw [if_pos hx0] at hy
    obtain ⟨ad, ov, o, rfl, h1, h2, h3⟩ := look_ok g2.own (.st (r1.mono g2.ex)) r2 (R.sat_bind hy)
    cases h2 with
    | none => exact h3.elim
    | some r => exact ⟨ad, _, rfl, h1, h3 B2 _ H2 (g1.trans g2) r⟩
  · refine wpE.of (pe_ix ho (pe_wp X a) (pe_wp X b) hs) (opx_core (g := D.ix) (P := fun p => ∀ B' v H', Go X.K T B (M t) H B' (M p.2) H' → Rep X.K B' v p.1 → Q v H') opd_ix tk hs' w ha hb (fun d hd => hd) ?_)
    refine R.sat_bind' (R.sat_mono (R.sat_self (R.sat_bind (R.sat_map q))) (fun x ⟨ex, hx⟩ => ?_) fun _ z => z)
    refine R.sat_bind' (R.sat_mono (R.sat_bind hx) (fun y hy => ?_) fun _ z => z)
    unfold DL.D.ixA at hy
    rw [if_neg (fun z => hd ⟨x, ex, z⟩)] at hy
    exact hy
/-! in, not in -/
theorem in_core1 {P : D → Prop} {Q : VK} {neg : Bool} {td : TE} (htd : td = if neg then tDNotIn (wpE X a) (wpE X b) else tDIn (wpE X a) (wpE X b)) (tk : Takes X W) (hs : Sl X.K B σ ds) (w : Own X.K T B m H) (ha : EVw T X ds m a ra) (hb : EVw T X ds m b rb) {y0 : D} (ey : rb = .ok y0) (hy0 : y0.isD = true) (hP : ∀ d, P d → ∀ B' v H', Go X.K T B m H B' m H' → Rep X.K B' v d → Q v H')
    (h : (ra.bind fun x => rb.bind fun y => (D.look y x).map fun o => D.bl (if neg then !o.isSome else o.isSome)).sat P (EK T X W B m σ H m)) : td σ H Q := by
  have go : ∀ {S : V → V → Hp → Prop}, (∀ B2 v1 v2 H2 x y, Go X.K T B m H B2 m H2 → VRep X.K B2 m v1 x → VRep X.K B2 m v2 y → ((D.look y x).map fun o => D.bl (if neg then !o.isSome else o.isSome)).sat P (EK T X W B m σ H m) → S v1 v2 H2) → wpE X a σ H fun v1 H1 => wpE X b σ H1 fun v2 H2 => S v1 v2 H2 := fun {S} k =>
    ha W tk B σ H hs w _ (R.sat_mono (R.sat_bind h) (fun x hx B1 v1 H1 g1 r1 => hb W tk B1 σ H1 (hs.mono g1.ex) g1.own _ (R.sat_mono (R.sat_bind hx) (fun y hy B2 v2 H2 g2 r2 => k B2 v1 v2 H2 x y (g1.trans g2) (r1.go g2) r2 hy) fun _ z => z.go g1)) fun _ z => z)
  subst htd
  cases neg with
  | true =>
    refine go (S := fun v1 v2 H2 => ∃ a o, v2 = .ref a ∧ DGet H2 a v1 o ∧ Q (.bl (!o.isSome)) H2) fun B2 v1 v2 H2 x y g r1 r2 hy => ?_
    obtain ⟨ad, ov, o, rfl, h1, h2, h3⟩ := look_ok g.own r2 r1 (R.sat_map hy)
    refine ⟨ad, ov, rfl, h1, ?_⟩
    cases h2 with
    | none => exact hP _ h3 B2 _ H2 g (.bl _)
    | some r => exact hP _ h3 B2 _ H2 g (.bl _)
  | false =>
    refine go (S := fun v1 v2 H2 => ∃ a o, v2 = .ref a ∧ DGet H2 a v1 o ∧ Q (.bl o.isSome) H2) fun B2 v1 v2 H2 x y g r1 r2 hy => ?_
    obtain ⟨ad, ov, o, rfl, h1, h2, h3⟩ := look_ok g.own r2 r1 (R.sat_map hy)
    refine ⟨ad, ov, rfl, h1, ?_⟩
    cases h2 with
    | none => exact hP _ h3 B2 _ H2 g (.bl _)
    | some r => exact hP _ h3 B2 _ H2 g (.bl _)
theorem swap_in {neg : Bool} {gA gS : D → D → R D} (eA : ∀ x y, gA x y = if y.isD then (D.look y x).map (fun o => .bl (if neg then !o.isSome else o.isSome)) else gS x y) {P : D → Prop} {Ee : Err → Prop} (h : (ra.bind fun x => rb.bind fun y => gA x y).sat P Ee) :
    (∃ y, rb = .ok y ∧ y.isD = true) ∧ (ra.bind fun x => rb.bind fun y => (D.look y x).map fun o => D.bl (if neg then !o.isSome else o.isSome)).sat P Ee ∨ (ra.bind fun x => rb.bind fun y => gS x y).sat P Ee := by
  by_cases hd : ∃ y, rb = .ok y ∧ y.isD = true
  · refine .inl ⟨hd, ?_⟩
    obtain ⟨y0, ey, hy0⟩ := hd
    subst ey
    refine R.sat_bind' (R.sat_mono (R.sat_bind h) (fun x hx => ?_) fun _ z => z)
    have hx : (gA x y0).sat P Ee := hx
    rw [eA, if_pos hy0] at hx
    exact hx
  · refine .inr (R.sat_bind' (R.sat_mono (R.sat_bind h) (fun x hx => ?_) fun _ z => z))
    refine R.sat_bind' (R.sat_mono (R.sat_self (R.sat_bind hx)) (fun y ⟨ey, hy⟩ => ?_) fun _ z => z)
    rw [eA, if_neg (fun z => hd ⟨y, ey, z⟩)] at hy
    exact hy
theorem ev_in (hu : X.A.units + 65 < cLine) (ha : EVw T X ds m a ra) (hb : EVw T X ds m b rb) (hm : behindInMarks .In b = false := by first | rfl | exact nomark _) : EV T X ds m (.Compare a [.In] [b] pos) (ra.bind fun x => rb.bind fun y => D.inA x y) := by
  intro W tk B σ H hs w Q q
  rcases swap_in (neg := false) (gS := D.isIn) (fun x y => rfl) q with ⟨⟨y0, ey, hy0⟩, q⟩ | q
  · exact wpE.of (pe_cmp (pc_din (by omega) (pe_wp X a) (pe_wp X b)) hm) (in_core1 (neg := false) rfl tk hs w ha hb ey hy0 (fun d hd => hd) q)
  · exact wpE.of (pe_cmpR (op_inA hu) (pe_wp X a) (pe_wp X b) hm) (op_core opd_in tk hs w ha hb (fun d hd => hd) q)
theorem ev_notIn (hu : X.A.units + 65 < cLine) (ha : EVw T X ds m a ra) (hb : EVw T X ds m b rb) (hm : behindInMarks .NotIn b = false := by first | rfl | exact nomark _) : EV T X ds m (.Compare a [.NotIn] [b] pos) (ra.bind fun x => rb.bind fun y => D.notInA x y) := by
  intro W tk B σ H hs w Q q
  rcases swap_in (neg := true) (gS := D.notIn) (fun x y => rfl) q with ⟨⟨y0, ey, hy0⟩, q⟩ | q
  · exact wpE.of (pe_cmp (pc_dnotin (by omega) (pe_wp X a) (pe_wp X b)) hm) (in_core1 (neg := true) rfl tk hs w ha hb ey hy0 (fun d hd => hd) q)
  · exact wpE.of (pe_cmpR (op_notInA hu) (pe_wp X a) (pe_wp X b) hm) (op_core opd_notIn tk hs w ha hb (fun d hd => hd) q)
theorem asB_sat {r : R D} {P : Bool → Prop} {Ee : Err → Prop} (h : (r.bind D.asB).sat P Ee) : r.sat (fun d => d.asB.sat P fun _ => True) Ee :=
  R.sat_mono (R.sat_bind h) (fun d hd => R.sat_mono hd (fun _ z => z) fun _ _ => True.intro) fun _ z => z
theorem et_in (hu : X.A.units + 65 < cLine) (ha : EVw T X ds m a ra) (hb : EVw T X ds m b rb) (hm : behindInMarks .In b = false := by first | rfl | exact nomark _) : ETp T X ds m (.Compare a [.In] [b] pos) (ra.bind fun x => rb.bind fun y => (D.inA x y).bind D.asB) := by
  intro W tk B σ H hs w Q q
  have q : ((ra.bind fun x => rb.bind fun y => D.inA x y)).sat (fun d => d.asB.sat (fun b => ∀ B' H', Go X.K T B m H B' m H' → Q b H') fun _ => True) (EK T X W B m σ H m) := by
    refine R.sat_bind' (R.sat_mono (R.sat_bind q) (fun x hx => ?_) fun _ z => z)
    exact R.sat_bind' (R.sat_mono (R.sat_bind hx) (fun y hy => asB_sat hy) fun _ z => z)
  have fin : ∀ d : D, (d.asB.sat (fun b => ∀ B' H', Go X.K T B m H B' m H' → Q b H') fun _ => True) → ∀ B' v H', Go X.K T B m H B' m H' → Rep X.K B' v d → ∃ b, v = .bl b ∧ Q b H' := fun d hd B' v H' g rv => by
    cases d with
    | bl b => exact ⟨b, rv.ibl, hd B' H' g⟩
    | _ => exact False.elim hd
  rcases swap_in (neg := false) (gS := D.isIn) (fun x y => rfl) q with ⟨⟨y0, ey, hy0⟩, q⟩ | q
  · exact wpT.of (pt_cmp (pc_din (by omega) (pe_wp X a) (pe_wp X b)) hm) (in_core1 (neg := false) (Q := fun v H' => ∃ b, v = .bl b ∧ Q b H') rfl tk hs w ha hb ey hy0 fin q)
  · exact wpT.of (pt_cmpR (op_inA hu) (pe_wp X a) (pe_wp X b) hm) (op_core opd_in tk hs w ha hb fin q)
theorem et_notIn (hu : X.A.units + 65 < cLine) (ha : EVw T X ds m a ra) (hb : EVw T X ds m b rb) (hm : behindInMarks .NotIn b = false := by first | rfl | exact nomark _) : ETp T X ds m (.Compare a [.NotIn] [b] pos) (ra.bind fun x => rb.bind fun y => (D.notInA x y).bind D.asB) := by
  intro W tk B σ H hs w Q q
  have q : ((ra.bind fun x => rb.bind fun y => D.notInA x y)).sat (fun d => d.asB.sat (fun b => ∀ B' H', Go X.K T B m H B' m H' → Q b H') fun _ => True) (EK T X W B m σ H m) := by
    refine R.sat_bind' (R.sat_mono (R.sat_bind q) (fun x hx => ?_) fun _ z => z)
    exact R.sat_bind' (R.sat_mono (R.sat_bind hx) (fun y hy => asB_sat hy) fun _ z => z)
  have fin : ∀ d : D, (d.asB.sat (fun b => ∀ B' H', Go X.K T B m H B' m H' → Q b H') fun _ => True) → ∀ B' v H', Go X.K T B m H B' m H' → Rep X.K B' v d → ∃ b, v = .bl b ∧ Q b H' := fun d hd B' v H' g rv => by
    cases d with
    | bl b => exact ⟨b, rv.ibl, hd B' H' g⟩
    | _ => exact False.elim hd
  rcases swap_in (neg := true) (gS := D.notIn) (fun x y => rfl) q with ⟨⟨y0, ey, hy0⟩, q⟩ | q
  · exact wpT.of (pt_cmp (pc_dnotin (by omega) (pe_wp X a) (pe_wp X b)) hm) (in_core1 (neg := true) (Q := fun v H' => ∃ b, v = .bl b ∧ Q b H') rfl tk hs w ha hb ey hy0 fin q)
  · exact wpT.of (pt_cmpR (op_notInA hu) (pe_wp X a) (pe_wp X b) hm) (op_core opd_notIn tk hs w ha hb fin q)
/-- x.get(k, z) -/
theorem isD_of {dx : D} {x : V} (w : Own X.K T B m H) (rx : VRep X.K B m x dx) (h : dx.isD = true) : ∃ a, x = .ref a ∧ IsD H a := by
  cases dx with
  | dct kd =>
    obtain ⟨a, kvs, h1, h2, _⟩ := rx.idct w
    exact ⟨a, h1, .inl ⟨kvs, h2⟩⟩
  | dtt kd =>
    obtain ⟨a, kvs, h1, h2, _⟩ := rx.idtt w
    exact ⟨a, h1, .inr ⟨kvs, h2⟩⟩
  | _ => cases h
def D.onlyD (d : D) : R D := if d.isD then .ok d else .ub
theorem ev_get2 {apos cpos : Pos} (hu : X.A.units + 1 < cLine) (ha : EVw T X ds m a ra) (hb : EV T X ds m b rb) (hc : EV T X ds m c rc) (hm : M2 X a "get" apos b c cpos := by exact ⟨rfl, rfl, rfl, rfl⟩) : EV T X ds m (.Call (.Attribute a "get" apos) [b, c] [] cpos) (ra.bind fun x => (D.onlyD x).bind fun x => rb.bind fun y => rc.bind fun z => (D.look x y).map fun o => o.getD z) := by
  intro W tk B σ H hs w Q q
  refine wpE.of (pe_dget2 hu (pe_wp X a) (pe_wp X b) (pe_wp X c) hm) ?_
  refine ha W tk B σ H hs w _ (R.sat_mono (R.sat_bind q) (fun x hx B1 v1 H1 g1 r1 => ?_) fun _ z => z)
  unfold D.onlyD at hx
  split at hx
  · rename_i hd
    obtain ⟨ad, rfl, hi⟩ := isD_of g1.own r1 hd
    refine ⟨ad, rfl, hi, ?_⟩
    refine hb W tk B1 σ H1 (hs.mono g1.ex) g1.own _ (R.sat_mono (R.sat_bind hx) (fun y hy B2 v2 H2 g2 r2 => ?_) fun _ z => z.go g1)
    have g12 := g1.trans g2
    refine hc W tk B2 σ H2 (hs.mono g12.ex) g12.own _ (R.sat_mono (R.sat_bind hy) (fun z hz B3 v3 H3 g3 r3 => ?_) fun _ z => z.go g12)
    have g13 := g12.trans g3
    obtain ⟨ad', ov, o, e, h1, h2, h3⟩ := look_ok g3.own ((r1.go g2).go g3) (.st (r2.mono g3.ex)) (R.sat_map hz)
    cases e
    refine ⟨ov, h1, ?_⟩
    cases h2 with
    | none => exact h3 B3 _ H3 g13 r3
    | some r => exact h3 B3 _ H3 g13 r
  · exact False.elim hx
end
end DL
namespace DL
open PySem PySem.Spec PyProof.Rows L2
open Evl (Ex ex_l ex_t ex_rd)

/-! ### locks -/
def DO (u : HO) : Prop := (∃ kvs, u = .dK kvs) ∨ ∃ kvs, u = .dT kvs
theorem DO.mut {u : HO} (h : DO u) : Mut (some u) := by
  rcases h with ⟨_, rfl⟩ | ⟨_, rfl⟩ <;> exact True.intro
theorem DO.ntb {u : HO} (h : DO u) : ∀ ps, u ≠ .tbl ps := by
  rcases h with ⟨_, rfl⟩ | ⟨_, rfl⟩ <;> exact fun ps z => nomatch z
theorem Go.lock {K : PySem.W.Frag} {T : Tb} {B B' H H' : Hp} {m m' : OM} {p : Addr} {u : HO} {od : Obj} (g : Go K T B m H B' m' H') (hB : B' p = none) (hf : p ∈ m.map (·.1) ∨ Fre H p) (hm : p ∉ m'.map (·.1)) (hp : H' p = some u) (du : DO u) : Go K T B m H (L2.upd B' p (.frz od u)) m' (L2.upd H' p (.frz od u)) := by
  have eB : Ex B' (L2.upd B' p (.frz od u)) := Evl.Ex.new hB
  have nH : ∀ a o, H' a = some o → o ≠ u → a ≠ p := fun a o e ne z => by rw [z, hp] at e; cases e; exact ne rfl
  refine ⟨g.ex.trans eB, ⟨fun a v e => ?_, fun q hq => ?_, g.own.nd, fun q hq => ?_, fun a ps e => ?_⟩, fun a o e nt ha => ?_, g.fresh, fun a v e => ?_⟩
  · by_cases ha : a = p
    · subst ha; rw [upd_same] at e ⊢; exact e
    · rw [upd_ne ha] at e ⊢; exact g.own.ex a v e
  · obtain ⟨h1, h2⟩ := g.own.at_ q hq
    have hne : q.1 ≠ p := fun z => hm (List.mem_map.mpr ⟨q, hq, z⟩)
    exact ⟨by rw [upd_ne hne]; exact h1, h2.mono eB fun v e => by rw [upd_ne hne]; exact e⟩
  · obtain ⟨ps, h1, h2, h3⟩ := g.own.tb q hq
    have ne1 : q.1 ≠ p := nH _ _ h1 (fun z => du.ntb ps z.symm)
    refine ⟨ps, by rw [upd_ne ne1]; exact h1, h2, fun pos cv hc => ?_⟩
    obtain ⟨c, hc1, hc2⟩ := h3 pos cv hc
    have ne2 : c ≠ p := nH _ _ hc2 (fun z => by rcases du with ⟨_, rfl⟩ | ⟨_, rfl⟩ <;> cases z)
    exact ⟨c, hc1, by rw [upd_ne ne2]; exact hc2⟩
  · by_cases ha : a = p
    · subst ha; rw [upd_same] at e; cases e
    · rw [upd_ne ha] at e; exact g.own.nt a ps e
  · have hne : a ≠ p := fun z => by
      subst z
      rcases hf with z | z
      · exact ha z
      · obtain ⟨ps, z⟩ := z o e
        exact nt ps z
    rw [upd_ne hne]
    exact g.frame a o e nt ha
  · by_cases ha : a = p
    · subst ha
      rcases hf with z | z
      · exact .inr (.inl z)
      · exact .inr (.inr (.inl z))
    · rw [upd_ne ha] at e; exact g.grow a v e
/-- a tuple that stands there already belongs to the ground from now on -/
theorem Own.adopt {K : PySem.W.Frag} {T : Tb} {B H : Hp} {m : OM} {q : Addr} {xs : List V} (w : Own K T B m H) (hq : H q = some (.tup xs)) : ∃ B', Go K T B m H B' m H ∧ B' q = some (.tup xs) := by
  cases e : B q with
  | some o =>
    have z := w.ex q o e
    rw [hq] at z
    cases z
    exact ⟨B, .refl w, e⟩
  | none =>
    have eB : Ex B (L2.upd B q (.tup xs)) := Evl.Ex.new e
    refine ⟨L2.upd B q (.tup xs), ⟨eB, ⟨fun a u h => ?_, fun p hp => ?_, w.nd, w.tb, fun a ps h => ?_⟩, fun a o h _ _ => h, fun a h => .inl h, fun a u h => ?_⟩, upd_same⟩
    · by_cases ha : a = q
      · subst ha; rw [upd_same] at h; rw [hq]; exact h
      · rw [upd_ne ha] at h; exact w.ex a u h
    · obtain ⟨h1, h2⟩ := w.at_ p hp
      have hne : p.1 ≠ q := fun z => h2.ntup xs (by rw [z]; exact hq)
      exact ⟨by rw [upd_ne hne]; exact h1, h2.mono eB fun v e => e⟩
    · by_cases ha : a = q
      · subst ha; rw [upd_same] at h; cases h
      · rw [upd_ne ha] at h; exact w.nt a ps h
    · by_cases ha : a = q
      · subst ha; exact .inr (.inr (.inr (.inl ⟨xs, hq⟩)))
      · rw [upd_ne ha] at h; exact .inl h
section
variable {T : Tb} {X : Cx} {ds : DS} {m m' m1 : OM} {W : WX} {B B1 H H1 : Hp} {σ σ1 : St}
variable {S S' L γ α : Type} {E : Exits S L γ}
variable {st : Stmt} {rest ss : List Stmt} {pos pos' p p2 p3 : Pos} {e a b c k v : Expr} {re ra rb rc rk rv : R D} {tg : Expr} {τ : Type} {M : τ → OM} {t : τ}
theorem wpE_lock {Q : VK} (h : wpE X e σ H (fun v H1 => ∃ d u, H1 d = some u ∧ DO u ∧ ∀ od, Q v (L2.upd H1 d (.frz od u)))) : wpE X e σ H Q := ⟨fun pins s I =>
  wpAny_mono (h.run pins s I) (fun u s1 ⟨x, H1, I1, r, d, u', hd, mu, q⟩ => let ⟨od, I2⟩ := I1.lock hd mu.mut; ⟨x, _, I2, r, q od⟩) (fun _ _ z => z)⟩
theorem wpSs_lock {D : Ends} {d : Addr} {u : HO} (hd : H d = some u) (mu : DO u) (h : ∀ od, wpSs X ss D σ (L2.upd H d (.frz od u))) : wpSs X ss D σ H := ⟨fun pins s I =>
  let ⟨od, I2⟩ := I.lock hd mu.mut
  (h od).run pins s I2⟩
/-! ### new dicts -/
/-- x = {} -/
theorem sb_asgDK (i : Nat) {x : Str} {r : R (Fl S L γ)} (hN : X.N.Nodup) (k : ∀ pl, SB T X (ds.set i (some (.ref pl))) (m ++ [(pl, .d [])]) rest E r) (hi : X.N[i]? = some x := by rfl) (hx : Loc X.env.scope x := by first | exact Or.inl rfl | exact Or.inr rfl)
    (hsw : swapsWith (.Dict [] [] p) (some (.Name x pos')) pos.line X.env = pure false := by rfl) (hf : X.fn x = true ∨ X.env.scope.names.lookup x = some .local := by first | exact .inl rfl | exact .inr rfl) : SB T X ds m (.Assign [.Name x pos'] (.Dict [] [] p) pos :: rest) E r := fun W tk B σ H hs w D q =>
  wpSs.of (pss_cons (ps_set hN hi hx pe_dnewK hsw hf) (pss_wp X rest)) (fun pl hp => by
    have hB : B pl = none := by
      cases q : B pl with
      | none => rfl
      | some u => rw [w.ex pl u q] at hp; cases hp
    exact (k pl).cont tk ((Go.new w hp).cell (o := .d []) hB (.inr (.of hp)) (w.notIn (.of hp)) ⟨[], upd_same, rfl, .nil⟩) (hs.set i (.ref pl)) q)
theorem sb_asgDT (i : Nat) {x : Str} {r : R (Fl S L γ)} (hN : X.N.Nodup) (k : ∀ pl, SB T X (ds.set i (some (.ref pl))) (m ++ [(pl, .t [])]) rest E r) (hi : X.N[i]? = some x := by rfl) (hx : Loc X.env.scope x := by first | exact Or.inl rfl | exact Or.inr rfl)
    (hsw : swapsWith (.Dict [] [] p) (some (.Name x pos')) pos.line X.env = pure false := by rfl) (hf : X.fn x = true ∨ X.env.scope.names.lookup x = some .local := by first | exact .inl rfl | exact .inr rfl) : SB T X ds m (.Assign [.Name x pos'] (.Dict [] [] p) pos :: rest) E r := fun W tk B σ H hs w D q =>
  wpSs.of (pss_cons (ps_set hN hi hx pe_dnewT hsw hf) (pss_wp X rest)) (fun pl hp => by
    have hB : B pl = none := by
      cases q : B pl with
      | none => rfl
      | some u => rw [w.ex pl u q] at hp; cases hp
    exact (k pl).cont tk ((Go.new w hp).cell (o := .t []) hB (.inr (.of hp)) (w.notIn (.of hp)) ⟨[], upd_same, rfl, .nil⟩) (hs.set i (.ref pl)) q)
/-- {k: v}, a key an int or a text: as a value -/
def D.mkD1 (k v : D) : R D := match asKey k with
  | some kk => .ok (.dct [(kk, v)])
  | none => .ub
theorem ev_dict1 (hk : EV T X ds m k rk) (hv : EV T X ds m v rv) : EV T X ds m (.Dict [some k] [v] pos) (rk.bind fun x => rv.bind fun y => D.mkD1 x y) := by
  intro W tk B σ H hs w Q q
  refine wpE_lock (wpE.of (pe_disp (pps_cons (pe_wp X k) (pe_wp X v) pps_nil) rfl rfl (by simp) (by simp)) ?_)
  intro pd hp
  have hB : B pd = none := by
    cases q : B pd with
    | none => rfl
    | some u => rw [w.ex pd u q] at hp; cases hp
  have g0 : Go X.K T B m H B m (L2.upd H pd (.dK [])) := Go.new w hp
  have hm : pd ∉ m.map (·.1) := w.notIn (.of hp)
  have keep : ∀ {B2 : Hp} {H2 : Hp}, Go X.K T B m (L2.upd H pd (.dK [])) B2 m H2 → H2 pd = some (.dK []) ∧ B2 pd = none := fun {B2 H2} g => by
    refine ⟨g.frame pd _ upd_same (fun _ z => nomatch z) hm, ?_⟩
    cases e : B2 pd with
    | none => rfl
    | some u =>
      rcases g.grow pd u e with z | z | z | ⟨xs, z⟩ | ⟨xs, z⟩
      · rw [hB] at z; cases z
      · exact absurd z hm
      · obtain ⟨ps, z⟩ := z _ upd_same; cases z
      · rw [upd_same] at z; cases z
      · rw [upd_same] at z; cases z
  refine hk W tk B σ _ hs g0.own _ (R.sat_mono (R.sat_bind q) (fun x hx B1 v1 H1 g1 r1 => ?_) fun _ z => z.go g0)
  refine hv W tk B1 σ H1 (hs.mono g1.ex) g1.own _ (R.sat_mono (R.sat_bind hx) (fun y hy B2 v2 H2 g2 r2 => ?_) fun _ z => (z.go g0).go g1)
  have g12 := g1.trans g2
  obtain ⟨h1, h2⟩ := keep g12
  unfold D.mkD1 at hy
  split at hy
  · rename_i kk ek
    refine ⟨h1, [(kk, v2)], ?_, by simp, pd, _, upd_same, .inl ⟨_, rfl⟩, fun od => ?_⟩
    · rw [asKey_ok (m := m) ek (.st r1)]
      rfl
    · have g3 : Go X.K T B m H B2 m H2 := g0.trans g12
      have g4 : Go X.K T B m H B2 m (L2.upd H2 pd (.dK [(kk, v2)])) := by
        refine ⟨g3.ex, ⟨fun a u e => ?_, fun q hq => ?_, g3.own.nd, fun q hq => ?_, g3.own.nt⟩, fun a o e nt ha => ?_, g3.fresh, g3.grow⟩
        · have hne : a ≠ pd := fun z => by rw [z, h2] at e; cases e
          rw [upd_ne hne]; exact g3.own.ex a u e
        · obtain ⟨k1, k2⟩ := g3.own.at_ q hq
          have hne : q.1 ≠ pd := fun z => hm (z ▸ List.mem_map.mpr ⟨q, hq, rfl⟩)
          exact ⟨k1, k2.mono (fun _ _ h => h) fun u e => by rw [upd_ne hne]; exact e⟩
        · obtain ⟨ps, k1, k2, k3⟩ := g3.own.tb q hq
          have ne1 : q.1 ≠ pd := fun z => by rw [z, h1] at k1; cases k1
          refine ⟨ps, by rw [upd_ne ne1]; exact k1, k2, fun pos cv hc => ?_⟩
          obtain ⟨c, hc1, hc2⟩ := k3 pos cv hc
          have ne2 : c ≠ pd := fun z => by rw [z, h1] at hc2; cases hc2
          exact ⟨c, hc1, by rw [upd_ne ne2]; exact hc2⟩
        · have hne : a ≠ pd := fun z => by rw [z, hp] at e; cases e
          rw [upd_ne hne]
          exact g3.frame a o e nt ha
      have g5 := g4.lock (od := od) h2 (.inr (.of hp)) hm upd_same (.inl ⟨_, rfl⟩)
      exact hy _ _ _ g5 (.dK (kvs := [(kk, v2)]) upd_same rfl (.cons (r2.mono (Evl.Ex.new h2)) .nil))
  · exact False.elim hy
/-! ### x[k] = v -/
def D.putK (kd : List (Key × D)) (k v : D) : R (List (Key × D)) := match asKey k with
  | some kk => if kd.length < sizeLine then .ok (dput kd kk v) else .ub
  | none => .ub
def D.putT (kd : List (List Key × D)) (k v : D) : R (List (List Key × D)) := match k with
  | .tup ks => (match asKeys ks with
    | some kk => if kd.length < sizeLine then .ok (dput kd kk v) else .ub
    | none => .ub)
  | _ => .ub
theorem sb_putK (i : Nat) {x : Str} {pl : Addr} {kd : List (Key × D)} {pre post : OM} {K : List (Key × D) → R (Fl S L γ)} (hu : X.A.units + 1 < cLine) (h : ds[i]? = some (some (.ref pl))) (he : EV T X ds (pre ++ (pl, .d kd) :: post) e re) (hk : EV T X ds (pre ++ (pl, .d kd) :: post) k rk)
    (kk : ∀ ys, SB T X ds (pre ++ (pl, .d ys) :: post) rest E (K ys)) (hN : X.N[i]? = some x := by rfl) (hv : Vis X.env.scope x := by first | exact Or.inl rfl | exact Or.inr (Or.inl rfl) | exact Or.inr (Or.inr rfl)) (hd : (x == ("__debug__" : Str)) = false := by decide)
    (hcd : (x == ("__classdict__" : Str)) = false := by decide) (hs : swapsWith e (some (.Subscript (.Name x p) k p2)) pos.line X.env = pure false := by rfl) :
    SB T X ds (pre ++ (pl, .d kd) :: post) (.Assign [.Subscript (.Name x p) k p2] e pos :: rest) E (re.bind fun d => rk.bind fun n => (D.putK kd n d).bind K) := fun W tk B σ H hs' w D q => by
  refine wpSs.of (pss_cons (ps_dput hu (pe_var hN hv hd hcd) (pe_wp X k) (pe_wp X e) hs) (pss_wp X rest)) ?_
  refine he W tk B σ H hs' w _ (R.sat_mono (R.sat_bind q) (fun d hd B1 v1 H1 g1 r1 => ?_) fun _ z => z.ek)
  obtain ⟨v, h1, h2⟩ := (hs'.mono g1.ex).at_ i _ h
  cases h2.iref
  refine ⟨_, h1, ?_⟩
  refine hk W tk B1 σ H1 (hs'.mono g1.ex) g1.own _ (R.sat_mono (R.sat_bind hd) (fun n hn B2 v2 H2 g2 r2 => ?_) fun _ z => (z.go g1).ek)
  obtain ⟨_, kvs, hp, h3, h4⟩ := g2.own.at_ (pl, .d kd) (by simp)
  have kdr : KD X.K B2 kvs kd := ⟨h3, h4⟩
  unfold DL.D.putK at hn
  split at hn
  · rename_i k' ek
    split at hn
    · rename_i hz
      have ev := asKey_ok (m := []) ek (.st r2)
      subst ev
      refine ⟨pl, _, rfl, .k hp (by rw [kdr.length]; exact hz), ?_⟩
      have kp := kdr.put k' (r1.mono g2.ex)
      have g3 := Go.upd (o' := .d (dput kd k' d)) (u := .dK (L2.putK kvs k' v1)) g2.own (fun _ z => nomatch z) ⟨_, upd_same, kp.1, kp.2⟩
      exact (kk _).cont tk ((g1.trans g2).trans g3) (hs'.mono ((g1.trans g2).ex)) hn
    · exact False.elim hn
  · exact False.elim hn
theorem sb_putT (i : Nat) {x : Str} {pl : Addr} {kd : List (List Key × D)} {pre post : OM} {K : List (List Key × D) → R (Fl S L γ)} (hu : X.A.units + 1 < cLine) (h : ds[i]? = some (some (.ref pl))) (he : EV T X ds (pre ++ (pl, .t kd) :: post) e re) (hk : EV T X ds (pre ++ (pl, .t kd) :: post) k rk)
    (kk : ∀ ys, SB T X ds (pre ++ (pl, .t ys) :: post) rest E (K ys)) (hN : X.N[i]? = some x := by rfl) (hv : Vis X.env.scope x := by first | exact Or.inl rfl | exact Or.inr (Or.inl rfl) | exact Or.inr (Or.inr rfl)) (hd : (x == ("__debug__" : Str)) = false := by decide)
    (hcd : (x == ("__classdict__" : Str)) = false := by decide) (hs : swapsWith e (some (.Subscript (.Name x p) k p2)) pos.line X.env = pure false := by rfl) :
    SB T X ds (pre ++ (pl, .t kd) :: post) (.Assign [.Subscript (.Name x p) k p2] e pos :: rest) E (re.bind fun d => rk.bind fun n => (D.putT kd n d).bind K) := fun W tk B σ H hs' w D q => by
  refine wpSs.of (pss_cons (ps_dput hu (pe_var hN hv hd hcd) (pe_wp X k) (pe_wp X e) hs) (pss_wp X rest)) ?_
  refine he W tk B σ H hs' w _ (R.sat_mono (R.sat_bind q) (fun d hd B1 v1 H1 g1 r1 => ?_) fun _ z => z.ek)
  obtain ⟨v, h1, h2⟩ := (hs'.mono g1.ex).at_ i _ h
  cases h2.iref
  refine ⟨_, h1, ?_⟩
  refine hk W tk B1 σ H1 (hs'.mono g1.ex) g1.own _ (R.sat_mono (R.sat_bind hd) (fun n hn B2 v2 H2 g2 r2 => ?_) fun _ z => (z.go g1).ek)
  obtain ⟨_, kvs, hp, h3, h4⟩ := g2.own.at_ (pl, .t kd) (by simp)
  have kdr : KD X.K B2 kvs kd := ⟨h3, h4⟩
  unfold DL.D.putT at hn
  split at hn
  · split at hn
    · rename_i ks k' ek
      split at hn
      · rename_i hz
        obtain ⟨b, vs, rfl, k1, k2⟩ := r2.itupH
        cases asKeys_ok ek k2
        refine ⟨pl, _, rfl, .t hp (g2.own.ex _ _ k1) (by rw [kdr.length]; exact hz), ?_⟩
        have kp := kdr.put k' (r1.mono g2.ex)
        have g3 := Go.upd (o' := .t (dput kd k' d)) (u := .dT (L2.putK kvs k' v1)) g2.own (fun _ z => nomatch z) ⟨_, upd_same, kp.1, kp.2⟩
        exact (kk _).cont tk ((g1.trans g2).trans g3) (hs'.mono ((g1.trans g2).ex)) hn
      · exact False.elim hn
    · exact False.elim hn
  · exact False.elim hn
/-! ### a dict stands still from now on -/
theorem freeze_core {pre post : OM} {pl : Addr} {o : MO} (w : Own X.K T B (pre ++ (pl, o) :: post) H) : Go X.K T B (pre ++ (pl, o) :: post) H B (pre ++ post) H ∧ pl ∉ (pre ++ post).map (·.1) := by
  have ndd : (pre.map (·.1) ++ pl :: post.map (·.1)).Nodup := by simpa using w.nd
  refine ⟨(Go.refl w).sub (List.Sublist.append (List.Sublist.refl _) (List.sublist_cons_self _ _)), ?_⟩
  rw [List.map_append, List.mem_append]
  rintro (z | z)
  · exact (List.nodup_append.mp ndd).2.2 _ z pl (by simp) rfl
  · exact (List.nodup_cons.mp (List.nodup_append.mp ndd).2.1).1 z
theorem set_self {i : Nat} {v : V} (h1 : σ[i]? = some (some v)) : σ.set i (some v) = σ := by
  apply List.ext_getElem?
  intro j
  by_cases hj : i = j
  · subst hj
    obtain ⟨hlt, _⟩ := List.getElem?_eq_some_iff.mp h1
    rw [List.getElem?_set_self hlt, h1]
  · rw [List.getElem?_set_ne hj]
theorem sb_freezeK (i : Nat) {pl : Addr} {kd : List (Key × D)} {pre post : OM} {r : R (Fl S L γ)} (h : ds[i]? = some (some (.ref pl))) (k : SB T X (ds.set i (some (.dct kd))) (pre ++ post) ss E r) : SB T X ds (pre ++ (pl, .d kd) :: post) ss E r := fun W tk B σ H hs w D q => by
  obtain ⟨hB, kvs, hp, h1, h2⟩ := w.at_ (pl, .d kd) (by simp)
  obtain ⟨g0, hn⟩ := freeze_core w
  refine wpSs_lock hp (.inl ⟨_, rfl⟩) fun od => ?_
  have g := g0.lock (od := od) hB (.inl (by simp)) hn hp (.inl ⟨_, rfl⟩)
  obtain ⟨v, h3, h4⟩ := hs.at_ i _ h
  cases h4.iref
  refine k.cont tk g ?_ q
  have := (hs.mono g.ex).set i (v := .ref pl) (d := .dct kd) (.dK upd_same h1 (h2.mono g.ex))
  rw [set_self h3] at this
  exact this
theorem sb_freezeT (i : Nat) {pl : Addr} {kd : List (List Key × D)} {pre post : OM} {r : R (Fl S L γ)} (h : ds[i]? = some (some (.ref pl))) (k : SB T X (ds.set i (some (.dtt kd))) (pre ++ post) ss E r) : SB T X ds (pre ++ (pl, .t kd) :: post) ss E r := fun W tk B σ H hs w D q => by
  obtain ⟨hB, kvs, hp, h1, h2⟩ := w.at_ (pl, .t kd) (by simp)
  obtain ⟨g0, hn⟩ := freeze_core w
  refine wpSs_lock hp (.inr ⟨_, rfl⟩) fun od => ?_
  have g := g0.lock (od := od) hB (.inl (by simp)) hn hp (.inr ⟨_, rfl⟩)
  obtain ⟨v, h3, h4⟩ := hs.at_ i _ h
  cases h4.iref
  refine k.cont tk g ?_ q
  have := (hs.mono g.ex).set i (v := .ref pl) (d := .dtt kd) (.dT upd_same h1 (h2.mono g.ex))
  rw [set_self h3] at this
  exact this
/-! ### for k in d -/
def D.keysK (kd : List (Key × D)) : List D := kd.map fun kv => keyD kv.1
def D.keysT (kd : List (List Key × D)) : List D := kd.map fun kv => tkeyD kv.1
theorem dw_keysK {K : PySem.W.Frag} {d : Addr} {o : Obj} {kvs : List (Key × V)} {kd : List (Key × D)} (h : B d = some (.frz o (.dK kvs))) (r : KD K B kvs kd) : DW K T (Itk d o kvs) B (D.keysK kd) := by
  have hl : (D.keysK kd).length = kvs.length := by unfold D.keysK; rw [List.length_map, r.length]
  refine ⟨fun i H hi e => ⟨e _ _ h, by omega⟩, fun H e => ⟨e _ _ h, by omega⟩, fun i H v H' B2 m d' hd e w y => ?_⟩
  obtain ⟨rfl, k, v', hk, rfl⟩ := y
  obtain ⟨dv, h1, h2⟩ := r.at_ hk
  unfold D.keysK at hd
  rw [List.getElem?_map, h1] at hd
  cases hd
  exact ⟨B2, .refl w, keyD_rep k⟩
theorem dw_keysT {K : PySem.W.Frag} {d : Addr} {o : Obj} {kvs : List (List Key × V)} {kd : List (List Key × D)} (h : B d = some (.frz o (.dT kvs))) (r : KD K B kvs kd) : DW K T (Itkt d o kvs) B (D.keysT kd) := by
  have hl : (D.keysT kd).length = kvs.length := by unfold D.keysT; rw [List.length_map, r.length]
  refine ⟨fun i H hi e => ⟨e _ _ h, by omega⟩, fun H e => ⟨e _ _ h, by omega⟩, fun i H v H' B2 m d' hd e w y => ?_⟩
  obtain ⟨rfl, k, v', q, hk, rfl, hq⟩ := y
  obtain ⟨dv, h1, h2⟩ := r.at_ hk
  unfold D.keysT at hd
  rw [List.getElem?_map, h1] at hd
  cases hd
  obtain ⟨B3, g, h3⟩ := w.adopt hq
  exact ⟨B3, g, .tup h3 (keysD_rep k)⟩
def D.itemsA : D → R (List D)
  | .dct kd => .ok (D.keysK kd)
  | .dtt kd => .ok (D.keysT kd)
  | d => D.items d
theorem ei_any (ha : EV T X ds m a ra) : EI T X ds m tg a (ra.bind D.itemsA) := fun W tk B σ H hs w Q q => by
  by_cases hd : ∃ x, ra = .ok x ∧ x.isD = true
  · obtain ⟨x0, e0, hx0⟩ := hd
    refine wpI.of (pi_keys (pe_wp X a)) (ha W tk B σ H hs w _ (R.sat_mono (R.sat_self (R.sat_bind q)) (fun x ⟨ex, hx⟩ B1 v1 H1 g1 r1 => ?_) fun _ z => z))
    rw [e0] at ex
    cases ex
    cases x0 with
    | dct kd =>
      obtain ⟨ad, od, kvs, rfl, h1, h2, h3⟩ := r1.idct
      exact ⟨ad, od, rfl, .inl ⟨kvs, g1.own.ex _ _ h1, hx B1 _ H1 g1 (dw_keysK h1 ⟨h2, h3⟩)⟩⟩
    | dtt kd =>
      obtain ⟨ad, od, kvs, rfl, h1, h2, h3⟩ := r1.idtt
      exact ⟨ad, od, rfl, .inr ⟨kvs, g1.own.ex _ _ h1, hx B1 _ H1 g1 (dw_keysT h1 ⟨h2, h3⟩)⟩⟩
    | _ => cases hx0
  · refine ei_seq ha W tk B σ H hs w Q (R.sat_bind' (R.sat_mono (R.sat_self (R.sat_bind q)) (fun x ⟨ex, hx⟩ => ?_) fun _ z => z))
    cases x with
    | dct kd => exact absurd ⟨_, ex, rfl⟩ hd
    | dtt kd => exact absurd ⟨_, ex, rfl⟩ hd
    | _ => exact hx
end
end DL
namespace DL
open PySem PySem.Spec PyProof.Rows L2
open Evl (Ex ex_l ex_t ex_rd)

/-! ### except clauses, with a name or without -/
abbrev HdT : Type := Value × Option Nat × (Addr → Value → Option Addr → TS)
def asEnds (D : Ends) (i : Nat) : Ends := { nx := fun σ' H' => D.nx (σ'.set i none) H', rt := D.rt, bk := fun σ' H' => D.bk (σ'.set i none) H', ct := fun σ' H' => D.ct (σ'.set i none) H' }
def hdGo (D : Ends) (h : HdT) : Value → Option Addr → St → Hp → Prop := fun cls d σ H => match h.2.1 with
  | none => ∀ a, H a = none → h.2.2 a cls d D σ H
  | some i => ∀ a, H a = none → h.2.2 a cls d (asEnds D i) (σ.set i (some (.ref a))) H
def wMix (K : PySem.W.Frag) (Wout : WX) (D : Ends) : List HdT → WX
  | [] => Wout
  | h :: r => fun cls d σ H => ∃ b, PySem.W.exmOne K cls h.1 = some b ∧ (b = true → hdGo D h cls d σ H) ∧ (b = false → wMix K Wout D r cls d σ H)
inductive HdsMix (X : Cx) : List ExceptHandler → List HdT → Prop
  | nil : HdsMix X [] []
  | cons {x : Str} {c : Value} {ts : Addr → Value → Option Addr → TS} {b₀ : Stmt} {suite : List Stmt} {np pos' : Pos} {hds : List ExceptHandler} {l : List HdT} (hc : Names X x c)
      (hsu : ∀ (a : Addr) (oe : Obj) (cls : Value) (d : Option Addr) (pn : List (Addr × Obj)), Zc cls d oe → (∃ vs, oe.data = .fields vs) → PSs (X.suite a ((a, oe) :: pn)) (b₀ :: suite) (ts a cls d)) (r : HdsMix X hds l) :
      HdsMix X (.ExceptHandler (some (.Name x np)) none (b₀ :: suite) pos' :: hds) ((c, none, ts) :: l)
  | consAs {x n : Str} {i : Nat} {c : Value} {ts : Addr → Value → Option Addr → TS} {b₀ : Stmt} {suite : List Stmt} {np pos' : Pos} {hds : List ExceptHandler} {l : List HdT} (hc : Names X x c) (hN : X.N.Nodup) (hi : X.N[i]? = some n) (hln : X.env.kindOf n = some .local)
      (hsu : ∀ (a : Addr) (oe : Obj) (cls : Value) (d : Option Addr) (pn : List (Addr × Obj)), Zc cls d oe → (∃ vs, oe.data = .fields vs) → PSs (X.suite a ((a, oe) :: pn)) (b₀ :: suite) (ts a cls d)) (r : HdsMix X hds l) :
      HdsMix X (.ExceptHandler (some (.Name x np)) (some n) (b₀ :: suite) pos' :: hds) ((c, some i, ts) :: l)
section
variable {X : Cx} {body : List Stmt} {h₀ : ExceptHandler} {hds : List ExceptHandler} {l : List HdT} {pos : Pos} {tb : WX → TS} {Wout : WX}
theorem ps_try_mix (hs : X.stack = X.env :: X.outer) (hf : X.env.frame = some X.env.locals) (tk : Takes X Wout)
    (hb : ∀ (W : WX) (pn : List (Addr × Obj)) (xe : Value → Shared → Prop), Takes (X.tr pn xe) W → PassesOwn (model X.prog X.w) X.A X.env xe → PSs (X.tr pn xe) body (tb W))
    (hh : HdsMix X (h₀ :: hds) l) : PS X (.Try body (h₀ :: hds) [] [] pos) (fun D σ H => tb (wMix X.K Wout D l) D σ H) := by
  refine ⟨fun pins s σ H D I h => ?_⟩
  have ok := I.ok
  have hfr : X.A.frames = some (X.env :: X.outer) := by rw [ok.frames, hs]
  refine wpAny_Try_except ?_
  refine wpAny_mono ((hb (wMix X.K Wout D l) (X.pn ++ pins) (fun e s₁ => wpAny (model X.prog X.w) X.A (noteFrame e X.env) (fun _ s₂ => wpAny (model X.prog X.w) X.A (setFlight e none) (fun _ s₃ =>
    wpAny (model X.prog X.w) X.A (handleBy e X.env (h₀ :: hds)) (SP X pins D) X.xe s₃) X.xe s₂) X.xe s₁) (fun u s' xx => ?_) PassesOwn.looking).run [] s σ H D (I.toTry _) h) (fun f s1 hsp => ?_) (fun e s1 he => he)
  · -- the catch
    obtain ⟨a, B, sI, pins', σ', H', cls, d, rfl, J', nb, up, sky, na, os, ag, w⟩ := xx
    have J : Inv X pins σ' H' sI := J'.ofTry ok
    have sky' : Sky B (X.env :: X.outer) a (Zc cls d) X.env.locals s'.heap := by rw [← hs]; exact sky
    show wpAny (model X.prog X.w) X.A (noteFrame (.ref a) X.env) _ _ _
    refine Sky.land Zc.steady hfr hf sky' fun h3 fl3 up3 => ?_
    have J3 : Inv X pins σ' H' { s' with heap := h3 } := J.landed nb fl3.1 (up.trans up3) os ag
    obtain ⟨oe3, vs3, he3, hz3, hd3⟩ := fl3.there
    have notFr : ∀ {h : Heap} {o : Obj} {vs : Array Value}, h.FunFrames B (X.env :: X.outer) → h.get? a = some o → o.data = .fields vs → a ∉ frs (X.env :: X.outer) := fun {h o vs} ff e dd hm => by
      obtain ⟨_, o', e', hnf⟩ := ff.mem hm
      rw [e] at e'; cases e'
      exact hnf _ dd
    have nfr := notFr fl3.2.2.1 he3 hd3
    have nL : a ≠ X.env.locals := fun z => nfr (List.mem_filterMap.mpr ⟨X.env, List.mem_cons_self, by rw [hf, z]⟩)
    have nF : a ∉ X.fs := fun hm => by
      obtain ⟨e, he, q⟩ := List.mem_filterMap.mp hm
      exact nfr (List.mem_filterMap.mpr ⟨e, List.mem_cons_of_mem _ he, q⟩)
    have S3 := J3.suite he3 hd3 na nL nF
    have test0 : ∀ {x : Str} {c : Value} {np : Pos}, Names X x c → ∀ {Q : Value → Shared → Prop} {E : Value → Shared → Prop}, Q c { s' with heap := h3 } → wpAny (model X.prog X.w) (X.A.mark (some (.ref a))) (eval (.Name x np) X.env) Q E { s' with heap := h3 } := fun {x c np} hc {Q E} q => by
      obtain ⟨hg, hdbg, hm | ⟨hm, hv, hnn⟩⟩ := hc
      · exact ld_glob (X := X.suite a ((a, oe3) :: (X.pn ++ pins))) S3 hg hm q hdbg
      · exact ld_blt (X := X.suite a ((a, oe3) :: (X.pn ++ pins))) S3 hg hm hv q hnn hdbg
    have LT : PySem.W.Looks (model X.prog X.w) h3 (typeOf (.ref a)) cls := fun A Q E s k q => wpAny_typeOf_ref (k _ _ he3) (by rw [hz3.1]; exact q)
    have go : ∀ {hds' : List ExceptHandler} {l' : List HdT}, HdsMix X hds' l' → wMix X.K Wout D l' cls d σ' H' →
        wpAny (model X.prog X.w) X.A (handleBy (.ref a) X.env hds') (SP X pins D) X.xe { s' with heap := h3 } := by
      intro hds' l' hk
      induction hk with
      | nil =>
        intro w
        refine wpAny_handleBy_nil ?_
        obtain ⟨k1, k2, k3, oe, vs, T, oT, ts', he, hz, hd, h1, hr⟩ := id fl3
        unfold PySem.passOn
        refine wpAny_bind (wpAny_field he hd h1 ?_)
        rw [if_neg (show ¬ ((Value.ref T == Value.none) = true) from by simp)]
        have fin : wpAny (model X.prog X.w) X.A (setFlight (.ref a) X.env.frame) (fun _ s4 => wpAny (model X.prog X.w) X.A (throw (.ref a) : Sem Flow) (SP X pins D) X.xe s4) X.xe { s' with heap := h3 } := by
          rw [hf]
          refine HandSPX.setFlight_upZ fl3 fun h4 hh4 up4 => wpAny_throw (tk _ _ ?_)
          exact ⟨a, B, sI, pins, σ', H', cls, d, rfl, J, nb, (up.trans up3).trans up4, .inr (.inr (by rw [hs]; exact hh4)), na, os, ag, w⟩
        first
          | exact wpAny_bind (wpAny_pure (wpAny_bind fin))
          | exact wpAny_bind fin
      | @cons x c ts b₀ suite np pos' hds2 l2 hc hsu r ih =>
        intro w
        obtain ⟨b, hb1, hyes, hno⟩ := w
        refine wpAny_handleBy_cons (codeAny_handlers_test ?_) (by intro q; cases q)
        have LM := PySem.W.exm_one (M := model X.prog X.w) (J3.kIn) LT hb1
        refine test0 hc (LM.here ?_)
        cases b with
        | true =>
          refine codeAny_handlers_suite ?_
          refine HandSPX.lands_againZ fl3 fun h4 fl4 up4 => ?_
          have J4 : Inv X pins σ' H' { s' with heap := h4 } := J.landed nb fl4.1 ((up.trans up3).trans up4) os ag
          obtain ⟨oe4, vs4, he4, hz4, hd4⟩ := fl4.there
          have S4 := J4.suite he4 hd4 na nL nF
          refine wpAny_mono ((hsu a oe4 cls d (X.pn ++ pins) hz4 ⟨_, hd4⟩).run [] _ _ H' _ S4 (hyes rfl a na)) (fun f s6 hsp => ?_) (fun _ _ z => False.elim z)
          cases f with
          | next =>
            obtain ⟨σ6, H6, S6, q6⟩ := hsp
            exact ⟨_, _, S6.unsuite ok, q6⟩
          | brk =>
            obtain ⟨σ6, H6, S6, q6⟩ := hsp
            exact ⟨_, _, S6.unsuite ok, q6⟩
          | cont =>
            obtain ⟨σ6, H6, S6, q6⟩ := hsp
            exact ⟨_, _, S6.unsuite ok, q6⟩
          | ret u =>
            obtain ⟨v6, σ6, H6, S6, r6, q6⟩ := hsp
            exact ⟨_, _, _, S6.unsuite ok, r6, q6⟩
        | false =>
          show wpAny _ X.A (handleBy (.ref a) X.env hds2) _ _ _
          exact ih (hno rfl)
      | @consAs x n i c ts b₀ suite np pos' hds2 l2 hc hN hi hln hsu r ih =>
        intro w
        obtain ⟨b, hb1, hyes, hno⟩ := w
        have hloc : Loc X.env.scope n := .inl hln
        refine wpAny_handleBy_cons (codeAny_handlers_test ?_) (by intro q; cases q)
        have LM := PySem.W.exm_one (M := model X.prog X.w) (J3.kIn) LT hb1
        refine test0 hc (LM.here ?_)
        cases b with
        | true =>
          refine codeAny_handlers_suite_as ?_
          refine HandSPX.lands_againZ fl3 fun h4 fl4 up4 => ?_
          have J4 : Inv X pins σ' H' { s' with heap := h4 } := J.landed nb fl4.1 ((up.trans up3).trans up4) os ag
          obtain ⟨oe4, vs4, he4, hz4, hd4⟩ := fl4.there
          have S4 := J4.suite he4 hd4 na nL nF
          refine store_ok (X := X.suite a ((a, oe4) :: (X.pn ++ pins))) (v := .ref a) S4 hN hi hloc rfl (fun s5 S5 => ?_) (.inr hln)
          refine wpAny_mono ((hsu a oe4 cls d (X.pn ++ pins) hz4 ⟨_, hd4⟩).run [] s5 _ H' _ S5 (hyes rfl a na)) (fun f s6 hsp => ?_) (fun _ _ z => False.elim z)
          have end_ : ∀ {σ6 : St} {H6 : Hp} {Q : Shared → Prop}, Inv (X.suite a ((a, oe4) :: (X.pn ++ pins))) [] σ6 H6 s6 → (∀ s7, Inv X pins (σ6.set i none) H6 s7 → Q s7) →
              wpAny (model X.prog X.w) X.A (do bindName X.env n .none; unbindBehindTheSuite X.env n pos') (fun _ s7 => Q s7) X.xe s6 := fun {σ6 H6 Q} S6 hq => gone_ok (S6.unsuite ok) hN hi hln hq
          cases f with
          | next =>
            obtain ⟨σ6, H6, S6, q6⟩ := hsp
            exact end_ S6 fun s7 J7 => ⟨_, _, J7, q6⟩
          | brk =>
            obtain ⟨σ6, H6, S6, q6⟩ := hsp
            exact end_ S6 fun s7 J7 => ⟨_, _, J7, q6⟩
          | cont =>
            obtain ⟨σ6, H6, S6, q6⟩ := hsp
            exact end_ S6 fun s7 J7 => ⟨_, _, J7, q6⟩
          | ret u =>
            obtain ⟨v6, σ6, H6, S6, r6, q6⟩ := hsp
            exact end_ S6 fun s7 J7 => ⟨_, _, _, J7, r6, q6⟩
        | false =>
          show wpAny _ X.A (handleBy (.ref a) X.env hds2) _ _ _
          exact ih (hno rfl)
    exact go hh w
  · cases f with
    | next =>
      obtain ⟨σ', H', J', q⟩ := hsp
      exact wpAny_execs_nil ⟨σ', H', J'.ofTry ok, q⟩
    | brk =>
      obtain ⟨σ', H', J', q⟩ := hsp
      exact ⟨σ', H', J'.ofTry ok, q⟩
    | cont =>
      obtain ⟨σ', H', J', q⟩ := hsp
      exact ⟨σ', H', J'.ofTry ok, q⟩
    | ret u =>
      obtain ⟨v, σ', H', J', r, q⟩ := hsp
      exact ⟨v, σ', H', J'.ofTry ok, r, q⟩
end
end DL
namespace DL
open PySem PySem.Spec PyProof.Rows L2
open Evl (Ex ex_l ex_t ex_rd)

/-- the classes of exceptions: what is told of them -/
structure Exs (K : PySem.W.Frag) (mg : Str → Option Value) (names : List Str) (sub : Str → Str → Bool) : Prop where
  exm : ∀ c1 ∈ names, ∀ c2 ∈ names, ∀ C1 C2 : Addr, mg c1 = some (.ref C1) → mg c2 = some (.ref C2) → PySem.W.exmOne K (.ref C1) (.ref C2) = some (sub c1 c2)
  kit : ∀ c1 ∈ names, ∀ c2 ∈ names, ∀ C1 C2 : Addr, mg c1 = some (.ref C1) → mg c2 = some (.ref C2) → PySem.W.kitOne K (.ref C1) (.ref C2) = some (sub c1 c2)
  exc : ∀ c1 ∈ names, ∀ C1 : Addr, mg c1 = some (.ref C1) → ExcC K C1
abbrev HdM (S L γ : Type) : Type := Str × (Err → R (Fl S L γ))
def pickR {S L γ : Type} (sub : Str → Str → Bool) (er : Err) : List (HdM S L γ) → R (Fl S L γ)
  | [] => .err er
  | h :: r => if sub er.cls h.1 then (h.2 er).quiet else pickR sub er r
def tryR {S L γ : Type} (names : List Str) (sub : Str → Str → Bool) (hs : List (HdM S L γ)) : R (Fl S L γ) → R (Fl S L γ)
  | .ok fl => .ok fl
  | .ub => .ub
  | .err er => if er.pay = none ∧ er.cls ∈ names then pickR sub er hs else .ub
section
variable {T : Tb} {X : Cx} {ds : DS} {m m' m1 : OM} {W : WX} {B B1 H H1 : Hp} {σ σ1 : St}
variable {S S' L γ α : Type} {E : Exits S L γ}
theorem wpSs_len {ss : List Stmt} {D : Ends} (h : σ.length = X.N.length → wpSs X ss D σ H) : wpSs X ss D σ H := ⟨fun pins s I => (h I.len).run pins s I⟩
theorem takes_len (tk : Takes X W) : Takes X (fun cls d σ H => σ.length = X.N.length → W cls d σ H) := fun u s' x => by
  obtain ⟨a, B, sI, pins, σ, H, cls, d, h1, I, h2, h3, h4, h5, h6, h7, h8⟩ := x
  exact tk u s' ⟨a, B, sI, pins, σ, H, cls, d, h1, I, h2, h3, h4, h5, h6, h7, h8 I.len⟩
inductive HdSB (T : Tb) (X : Cx) (names : List Str) (E' : Exits S' L γ) : List ExceptHandler → List (HdM S' L γ) → Prop
  | nil : HdSB T X names E' [] []
  | cons {x : Str} {C : Addr} {b₀ : Stmt} {suite : List Stmt} {np pos' : Pos} {hds : List ExceptHandler} {l : List (HdM S' L γ)} {f : Err → R (Fl S' L γ)} (hm : X.mg x = some (.ref C)) (hx : x ∈ names)
      (hsu : ∀ (a : Addr) (oe : Obj) (er : Err) (C1 : Addr) (pn : List (Addr × Obj)), er.pay = none → er.cls ∈ names → X.mg er.cls = some (.ref C1) → Zc (.ref C1) none oe → (∃ vs, oe.data = .fields vs) → SB T (X.suite a ((a, oe) :: pn)) (List.replicate X.N.length none) [] (b₀ :: suite) E' (f er))
      (r : HdSB T X names E' hds l) (hg : Gl X x := by rfl) (hdb : (x == ("__debug__" : Str)) = false := by decide) : HdSB T X names E' (.ExceptHandler (some (.Name x np)) none (b₀ :: suite) pos' :: hds) ((x, f) :: l)
  | consAs {x n : Str} {C : Addr} {b₀ : Stmt} {suite : List Stmt} {np pos' : Pos} {hds : List ExceptHandler} {l : List (HdM S' L γ)} {f : Err → R (Fl S' L γ)} (i : Nat) (hm : X.mg x = some (.ref C)) (hx : x ∈ names) (hN : X.N.Nodup)
      (hsu : ∀ (a : Addr) (oe : Obj) (er : Err) (C1 : Addr) (pn : List (Addr × Obj)), er.pay = none → er.cls ∈ names → X.mg er.cls = some (.ref C1) → Zc (.ref C1) none oe → (∃ vs, oe.data = .fields vs) → SB T (X.suite a ((a, oe) :: pn)) ((List.replicate X.N.length none).set i (some (.ref a))) [] (b₀ :: suite) E' (f er))
      (hno : (∀ s ds' m', E'.nx s ds' m' → ∀ d, ds'[i]? ≠ some (some d)) ∧ ∀ l ds' m', E'.lp l ds' m' → ∀ d, ds'[i]? ≠ some (some d))
      (r : HdSB T X names E' hds l) (hi : X.N[i]? = some n := by rfl) (hln : X.env.kindOf n = some .local := by rfl) (hg : Gl X x := by rfl) (hdb : (x == ("__debug__" : Str)) = false := by decide) : HdSB T X names E' (.ExceptHandler (some (.Name x np)) (some n) (b₀ :: suite) pos' :: hds) ((x, f) :: l)
theorem Sl.unset {K : PySem.W.Frag} {ds' : DS} {i : Nat} (s : Sl K B σ ds') (h : ∀ d, ds'[i]? ≠ some (some d)) : Sl K B (σ.set i none) ds' := ⟨by rw [List.length_set]; exact s.len, fun j d e => by
  have hne : i ≠ j := fun z => by subst z; exact h d e
  rw [List.getElem?_set_ne hne]
  exact s.at_ j d e⟩
def suW (X : Cx) (ss : List Stmt) : Addr → Value → Option Addr → TS := fun a cls d D σ H => ∀ oe pn, Zc cls d oe → (∃ vs, oe.data = .fields vs) → wpSs (X.suite a ((a, oe) :: pn)) ss D σ H
theorem hd_core {names : List Str} {sub : Str → Str → Bool} (Q : Exs X.K X.mg names sub) {E' : Exits S' L γ} {hds : List ExceptHandler} {hs : List (HdM S' L γ)} (h : HdSB T X names E' hds hs) :
    ∃ l : List HdT, HdsMix X hds l ∧ ∀ {D : Ends} {Wout : WX} {B0 H0 : Hp} {m0 : OM} {er : Err} {B H : Hp} {σ : St} {cls : Value} {dd : Option Addr}, er.pay = none → er.cls ∈ names → Go X.K T B0 m0 H0 B [] H → ErrAt X.mg H er cls dd → σ.length = X.N.length →
      (pickR sub er hs).sat (SBpost X.K T B0 m0 H0 E' D) (fun er => ∀ B' σ' H' cls dd, Go X.K T B0 m0 H0 B' [] H' → ErrAt X.mg H' er cls dd → Wout cls dd σ' H') → wMix X.K Wout D l cls dd σ H := by
  induction h with
  | nil => exact ⟨[], .nil, fun {D Wout B0 H0 m0 er B H σ cls dd} _ _ g ea _ q => q B σ H cls dd g ea⟩
  | @cons x C b₀ suite np pos' hds l f hm hx hsu r hg hdb ih =>
    obtain ⟨l1, h1, h2⟩ := ih
    refine ⟨(.ref C, none, suW X (b₀ :: suite)) :: l1, .cons ⟨hg, hdb, .inl hm⟩ (fun a oe cls d pn hz hf => ⟨fun pins s σ H D I h => (h oe pn hz hf).run pins s I⟩) h1, fun {D Wout B0 H0 m0 er B H σ cls dd} hp hn g ea hl q => ?_⟩
    obtain ⟨C1, e1, e2, e3⟩ := id ea
    subst e2
    rw [hp] at e3
    have e3 : dd = none := e3
    subst e3
    refine ⟨_, Q.exm _ hn _ hx _ _ e1 hm, fun hb => ?_, fun hb => ?_⟩
    · unfold pickR at q
      rw [if_pos hb] at q
      have q := R.sat_quiet q
      intro a na oe pn hz hf
      refine hsu a oe er C1 pn hp hn e1 hz hf _ LamX.takes0 B σ H ⟨by rw [List.length_replicate]; exact hl, fun i d e => ?_⟩ g.own D (R.sat_mono q (fun fl z => SBpost.go (X := X.suite a ((a, oe) :: pn)) g z) fun _ z => z.elim)
      rw [List.getElem?_replicate] at e
      split at e <;> cases e
    · unfold pickR at q
      rw [if_neg (by rw [hb]; exact Bool.false_ne_true)] at q
      exact h2 hp hn g ea hl q
  | @consAs x n C b₀ suite np pos' hds l f i hm hx hN hsu hno r hi hln hg hdb ih =>
    obtain ⟨l1, h1, h2⟩ := ih
    refine ⟨(.ref C, some i, suW X (b₀ :: suite)) :: l1, .consAs ⟨hg, hdb, .inl hm⟩ hN hi hln (fun a oe cls d pn hz hf => ⟨fun pins s σ H D I h => (h oe pn hz hf).run pins s I⟩) h1, fun {D Wout B0 H0 m0 er B H σ cls dd} hp hn g ea hl q => ?_⟩
    obtain ⟨C1, e1, e2, e3⟩ := id ea
    subst e2
    rw [hp] at e3
    have e3 : dd = none := e3
    subst e3
    refine ⟨_, Q.exm _ hn _ hx _ _ e1 hm, fun hb => ?_, fun hb => ?_⟩
    · unfold pickR at q
      rw [if_pos hb] at q
      have q := R.sat_quiet q
      intro a na oe pn hz hf
      have s0 : Sl X.K B σ (List.replicate X.N.length none) := ⟨by rw [List.length_replicate]; exact hl, fun i d e => by
        rw [List.getElem?_replicate] at e
        split at e <;> cases e⟩
      refine hsu a oe er C1 pn hp hn e1 hz hf _ LamX.takes0 B _ H (s0.set i (.ref a)) g.own (asEnds D i) (R.sat_mono q (fun fl z => ?_) fun _ z => z.elim)
      have z := SBpost.go (X := X.suite a ((a, oe) :: pn)) g z
      cases fl with
      | nx s => exact fun ds' m' ht B' σ' H' g' s' => z ds' m' ht B' _ H' g' (s'.unset (hno.1 s ds' m' ht))
      | bk l => exact fun ds' m' ht B' σ' H' g' s' => z ds' m' ht B' _ H' g' (s'.unset (hno.2 l ds' m' ht))
      | ct l => exact fun ds' m' ht B' σ' H' g' s' => z ds' m' ht B' _ H' g' (s'.unset (hno.2 l ds' m' ht))
      | rt q => exact z
    · unfold pickR at q
      rw [if_neg (by rw [hb]; exact Bool.false_ne_true)] at q
      exact h2 hp hn g ea hl q
/-- try: body except ..; rest -/
theorem sb_try {names : List Str} {sub : Str → Str → Bool} {rest body : List Stmt} {pos : Pos} {h0 : ExceptHandler} {hds : List ExceptHandler} (n : S' → DS → OM → Prop) {r1 : R (Fl S' L γ)} {hs : List (HdM S' L γ)} {K : S' → R (Fl S L γ)} (Q : Exs X.K X.mg names sub)
    (hb : ∀ pn xe, PassesOwn (model X.prog X.w) X.A X.env xe → SB T (X.tr pn xe) ds m body (E.via n) r1) (hh : HdSB T X names (E.via n) (h0 :: hds) hs) (hr : ∀ s ds' m', n s ds' m' → SB T X ds' m' rest E (K s))
    (hstk : X.stack = X.env :: X.outer := by rfl) (hf : X.env.frame = some X.env.locals := by rfl) :
    SB T X ds m (.Try body (h0 :: hds) [] [] pos :: rest) E ((tryR names sub hs r1).bind (Fl.next K)) := fun W tk B σ H hs' w D q => by
  obtain ⟨l, hl, hk⟩ := hd_core (T := T) Q hh
  refine wpSs.of (pss_cons (ps_try_mix (tb := fun W D σ H => ∀ pn xe, Takes (X.tr pn xe) W → PassesOwn (model X.prog X.w) X.A X.env xe → wpSs (X.tr pn xe) body D σ H) hstk hf tk (fun W pn xe tk' hp => ⟨fun pins s σ H D I h => (h pn xe tk' hp).run pins s I⟩) hl) (pss_wp X rest)) ?_
  intro pn xe tk' hp
  refine hb pn xe hp _ (takes_len tk') B σ H hs' w _ ?_
  cases r1 with
  | ok fl =>
    have q : (fl.next K).sat (SBpost X.K T B m H E D) (EB X T W B m H) := q
    exact SBpost.nextE (E := E) (E' := E.via n) rfl rfl tk hr q
  | ub => exact q
  | err er =>
    intro B' σ' H' cls dd g ea hl
    by_cases hc : er.pay = none ∧ er.cls ∈ names
    · have e1 : tryR names sub hs (.err er : R (Fl S' L γ)) = pickR sub er hs := if_pos hc
      rw [e1] at q
      refine hk hc.1 hc.2 g ea hl (R.sat_mono (R.sat_bind q) (fun fl z => SBpost.nextE (E := E) (E' := E.via n) rfl rfl tk hr z) fun er z => z)
    · have e1 : tryR names sub hs (.err er : R (Fl S' L γ)) = .ub := if_neg hc
      rw [e1] at q
      exact q.elim
/-- isinstance(e, x), e the exception that the suite holds -/
theorem ev_isE {names : List Str} {sub : Str → Str → Bool} {a : Addr} {oe : Obj} {er : Err} {C1 C2 : Addr} {pn : List (Addr × Obj)} {i : Nat} {en x : Str} {p p1 p2 pos : Pos} (Q : Exs X.K X.mg names sub) (hn : er.cls ∈ names) (e1 : X.mg er.cls = some (.ref C1)) (hz : Zc (.ref C1) none oe) (hf : ∃ vs, oe.data = .fields vs) (h : ds[i]? = some (some (.ref a)))
    (hx : x ∈ names) (hm2 : X.mg x = some (.ref C2)) (hm : X.mg "isinstance" = none) (hN : X.N[i]? = some en := by rfl) (hv : Vis X.env.scope en := by first | exact Or.inl rfl | exact Or.inr (Or.inl rfl) | exact Or.inr (Or.inr rfl)) (hd : (en == ("__debug__" : Str)) = false := by decide)
    (hcd : (en == ("__classdict__" : Str)) = false := by decide) (hg : Gl X "isinstance" := by rfl) (hgx : Gl X x := by rfl) (hdx : (x == ("__debug__" : Str)) = false := by decide)
    (hst : starEach [.Name en p1, .Name x p2] X.env = (false, eval (.Name en p1) X.env) :: starEach [.Name x p2] X.env := by exact se1 rfl) (hpl : (backTo pos (starEach [.Name x p2] X.env)).any (·.1) = false := by exact sepl rfl) :
    EV T (X.suite a ((a, oe) :: pn)) ds m (.Call (.Name "isinstance" p) [.Name en p1, .Name x p2] [] pos) (.ok (.bl (sub er.cls x))) := by
  intro W tk B σ H hs w QQ q
  refine wpE.of (pe_callB (X := X.suite a ((a, oe) :: pn)) (call_isE (Q.exc _ hn _ e1) hz hf) hg hm (by decide +kernel) (pa_cons (pe_var hN hv hd hcd) (pa_cons (pe_glob (v := .ref C2) hgx hm2 rfl hdx) pa_nil) hst) (by decide) (by decide) hst hpl) ?_
  obtain ⟨v, h1, h2⟩ := hs.at_ i _ h
  cases h2.iref
  exact ⟨_, h1, .ref C2, .ref C2, _, rfl, fun u hu => hu, Q.kit _ hn _ hx _ _ e1 hm2, q B _ H (.refl w) (.bl _)⟩
end
end DL
namespace DL
open PySem PySem.Spec PyProof.Rows L2
open Evl (Ex ex_l ex_t ex_rd)

theorem quiet_no {α : Type} {r : R α} {P : α → Prop} {Q Q' : Err → Prop} (h : r.quiet.sat P Q) : r.quiet.sat P Q' := by
  cases r with
  | ok a => exact h
  | err e => exact h.elim
  | ub => exact h.elim
theorem quiet_quiet {α : Type} (r : R α) : r.quiet.quiet = r.quiet := by cases r <;> rfl
/-- what a def makes of the reading of a lambda that it got -/
def TTW (K : PySem.W.Frag) (T : Tb) (mg : Str → Option Value) (wf : R D → R D) : (XK → Hp → VK → Prop) → Hp → VK → Prop := fun tl H Q => ∃ (B : Hp) (m : OM) (r : R D), Own K T B m H ∧
  (∀ (E : XK) (B1 H1 : Hp) (Q1 : VK), Go K T B m H B1 m H1 → r.sat (fun d => ∀ B' v H', Go K T B1 m H1 B' m H' → Rep K B' v d → Q1 v H') (fun er => ∀ B' H' cls dd, Go K T B1 m H1 B' m H' → ErrAt mg H' er cls dd → E cls dd H') → tl E H1 Q1) ∧
  (wf r).sat (fun d => ∀ B' v H', Go K T B m H B' m H' → Rep K B' v d → Q v H') (fun _ => False)
abbrev exW : Exits Empty Empty D := ⟨fun s => s.elim, fun l => l.elim, fun d => (.val d, [])⟩
def Fl.vW : Fl Empty Empty D → R D
  | .rt d => .ok d
  | .nx s => nomatch s
  | .bk s => nomatch s
  | .ct s => nomatch s
def pickW (names : List Str) (sub : Str → Str → Bool) (hs : List (HdM Empty Empty D)) (er : Err) : R D := if er.pay = none ∧ er.cls ∈ names then (pickR sub er hs).bind Fl.vW else .ub
/-- try: a() .. return s -/
def wfA (names : List Str) (sub : Str → Str → Bool) (hs : List (HdM Empty Empty D)) (s : Str) (r : R D) : R D := R.quiet (match r with
  | .ok _ => R.ok (.str s)
  | .err er => pickW names sub hs er
  | .ub => R.ub)
/-- try: return a() -/
def wfB (names : List Str) (sub : Str → Str → Bool) (hs : List (HdM Empty Empty D)) (r : R D) : R D := R.quiet (match r with
  | .ok d => R.ok d
  | .err er => pickW names sub hs er
  | .ub => R.ub)
section
variable {T : Tb} {X : Cx} {Ng : List Str} {x a q s : Str} {sg : Scope} {g : Addr} {cdg : Value} {names : List Str} {sub : Str → Str → Bool} {hs : List (HdM Empty Empty D)} {h0 : ExceptHandler} {hds : List ExceptHandler} {p1 p2 p3 p5 p6 p8 : Pos} {j : Nat} {rest : List Stmt}
abbrev wCx (X : Cx) (Ng : List Str) (x : Str) (sg : Scope) (g : Addr) (cdg : Value) (s : Shared) (H : Hp) : Cx := (cxOf C8.CX0 X.prog X.w X.K X.mg X.base Ng x sg g cdg X.A X.stack s H C8.E0).nox
theorem word_exc {Y : Cx} {B H : Hp} {m : OM} {Q : VK} (QE : Exs Y.K Y.mg names sub) {l : List HdT} {D0 : Ends} (hrt : D0.rt = Q)
    (hl : ∀ {D : Ends} {Wout : WX} {B0 H0 : Hp} {m0 : OM} {er : Err} {B H : Hp} {σ : St} {cls : Value} {dd : Option Addr}, er.pay = none → er.cls ∈ names → Go Y.K T B0 m0 H0 B [] H → ErrAt Y.mg H er cls dd → σ.length = Y.N.length →
      (pickR sub er hs).sat (SBpost Y.K T B0 m0 H0 exW D) (fun er => ∀ B' σ' H' cls dd, Go Y.K T B0 m0 H0 B' [] H' → ErrAt Y.mg H' er cls dd → Wout cls dd σ' H') → wMix Y.K Wout D l cls dd σ H)
    {er : Err} {B1 H1 : Hp} {cls : Value} {dd : Option Addr} {σ : St} (g1 : Go Y.K T B m H B1 m H1) (ea : ErrAt Y.mg H1 er cls dd) (hσ : σ.length = Y.N.length)
    (h : (pickW names sub hs er).quiet.sat (fun d => ∀ B' v H', Go Y.K T B m H B' m H' → Rep Y.K B' v d → Q v H') (fun _ => False)) : wMix Y.K (fun _ _ _ _ => False) D0 l cls dd σ H1 := by
  have h := R.sat_quiet h
  unfold pickW at h
  split at h
  · rename_i hc
    refine hl (B0 := B1) (H0 := H1) (m0 := []) (B := B1) hc.1 hc.2 (Go.refl (g1.own.sub (List.nil_sublist _))) ea hσ (R.sat_mono (R.sat_bind h) (fun fl hfl => ?_) fun _ z => z.elim)
    cases fl with
    | rt d =>
      show RtP Y.K T B1 [] H1 (.val d, []) D0.rt
      rw [hrt]
      exact fun B' v H' g' rv => hfl B' v H' (g1.trans (g'.frameR (mr := m) g1.own)) rv
    | nx s => cases s
    | bk s => cases s
    | ct s => cases s
  · exact h.elim
theorem word_givesA (QE : Exs X.K X.mg names sub) (hh : ∀ s H, HdSB T (wCx X Ng x sg g cdg s H) names exW (h0 :: hds) hs) (h00 : ∀ f : Addr, (L2.start Ng [V.ref f])[0]? = some (some (V.ref f))) :
    LamX.GivesTo X Ng x sg g cdg [.Try [.Expr (.Call (.Name a p1) [] [] p2) p3] (h0 :: hds) [] [] p8, .Return (some (.Constant (.str s) j p5)) p6] a q (TTW X.K T X.mg (wfA names sub hs s)) := by
  intro f c' sh H Q tl act hc h
  obtain ⟨B, m, r, w, con, sat⟩ := h
  obtain ⟨l, hm, hl⟩ := hd_core (X := wCx X Ng x sg g cdg sh H) (T := T) QE (hh sh H)
  refine ⟨_, pss_cons (ps_try_mix (X := wCx X Ng x sg g cdg sh H) (tb := fun W D σ H => ∃ Ech : XK, (∀ cls d σ' H', Ech cls d H' → σ'.length = Ng.length → W cls d σ' H') ∧ σ[0]? = some (some (.ref f)) ∧ H c' = some (LamX.CodeO c' q) ∧ tl Ech H (fun _ H' => D.nx σ H'))
    rfl rfl LamX.takes0 (fun W pn xe tk _ => ⟨fun pins s' σ H' D I h' => ?_⟩) hm) (pss_one (ps_ret pe_str)), ?_⟩
  · obtain ⟨Ech, hW, h1, h2, h3⟩ := h'
    have hp := act _ pn xe Ech p1 p2 (takes_len (X := (wCx X Ng x sg g cdg sh H).tr pn xe) tk) (fun cls d σ' H' e => hW cls d σ' H' e)
    have hq := pss_one (ps_expr (pos := p3) hp (by rfl))
    exact hq.run pins s' σ H' D I ⟨h1, h2, h3⟩
  · refine ⟨fun cls dd H' => ∃ B1 er, Go X.K T B m H B1 m H' ∧ ErrAt X.mg H' er cls dd ∧ (pickW names sub hs er).quiet.sat (fun d => ∀ B' v H', Go X.K T B m H B' m H' → Rep X.K B' v d → Q v H') (fun _ => False), fun cls dd σ' H' ⟨B1, er, g1, ea, sa⟩ hσ => ?_, h00 f, hc, ?_⟩
    · exact word_exc (Y := wCx X Ng x sg g cdg sh H) QE rfl hl g1 ea hσ sa
    · refine con _ B H _ (.refl w) ?_
      cases r with
      | ok d => exact fun B' v H' g' _ => sat B' _ H' g' (.str s)
      | err er => exact fun B' H' cls dd g' ea => ⟨B', er, g', ea, sat⟩
      | ub => exact sat.elim
theorem word_givesB (QE : Exs X.K X.mg names sub) (hh : ∀ s H, HdSB T (wCx X Ng x sg g cdg s H) names exW (h0 :: hds) hs) (h00 : ∀ f : Addr, (L2.start Ng [V.ref f])[0]? = some (some (V.ref f))) :
    LamX.GivesTo X Ng x sg g cdg [.Try [.Return (some (.Call (.Name a p1) [] [] p2)) p3] (h0 :: hds) [] [] p8] a q (TTW X.K T X.mg (wfB names sub hs)) := by
  intro f c' sh H Q tl act hc h
  obtain ⟨B, m, r, w, con, sat⟩ := h
  obtain ⟨l, hm, hl⟩ := hd_core (X := wCx X Ng x sg g cdg sh H) (T := T) QE (hh sh H)
  refine ⟨_, pss_one (ps_try_mix (X := wCx X Ng x sg g cdg sh H) (tb := fun W D σ H => ∃ Ech : XK, (∀ cls d σ' H', Ech cls d H' → σ'.length = Ng.length → W cls d σ' H') ∧ σ[0]? = some (some (.ref f)) ∧ H c' = some (LamX.CodeO c' q) ∧ tl Ech H D.rt)
    rfl rfl LamX.takes0 (fun W pn xe tk _ => ⟨fun pins s' σ H' D I h' => ?_⟩) hm), ?_⟩
  · obtain ⟨Ech, hW, h1, h2, h3⟩ := h'
    have hp := act _ pn xe Ech p1 p2 (takes_len (X := (wCx X Ng x sg g cdg sh H).tr pn xe) tk) (fun cls d σ' H' e => hW cls d σ' H' e)
    have hq := pss_one (ps_ret (pos := p3) hp)
    exact hq.run pins s' σ H' D I ⟨h1, h2, h3⟩
  · refine ⟨fun cls dd H' => ∃ B1 er, Go X.K T B m H B1 m H' ∧ ErrAt X.mg H' er cls dd ∧ (pickW names sub hs er).quiet.sat (fun d => ∀ B' v H', Go X.K T B m H B' m H' → Rep X.K B' v d → Q v H') (fun _ => False), fun cls dd σ' H' ⟨B1, er, g1, ea, sa⟩ hσ => ?_, h00 f, hc, ?_⟩
    · exact word_exc (Y := wCx X Ng x sg g cdg sh H) QE rfl hl g1 ea hσ sa
    · refine con _ B H _ (.refl w) ?_
      cases r with
      | ok d => exact sat
      | err er => exact fun B' H' cls dd g' ea => ⟨B', er, g', ea, sat⟩
      | ub => exact sat.elim
end
/-! ### x(lambda: body) -/
section
variable {T : Tb} {X : Cx} {ds : DS} {m : OM} {r : R D} {wf : R D → R D} {x a : Str} {st : Stmt} {g c P : Addr} {fd : FuncData} {Ng : List Str} {k : Nat} {params : Arguments} {body : Expr} {scope : Scope} {p lpos pos : Pos}
theorem Go.extN {B H H1 : Hp} (w : Own X.K T B m H) (e : LamX.ExtN H H1) (t : LamX.Tabs T H1) : Go X.K T B m H B m H1 := by
  refine ⟨fun _ _ h => h, ⟨fun a u h => e a u (w.ex a u h) (fun ps z => w.nt a ps (by rw [h, z])), fun q hq => ?_, w.nd, t, w.nt⟩, fun a o h nt _ => e a o h nt, fun a h => .inl h, fun a o h => .inl h⟩
  obtain ⟨h1, h2⟩ := w.at_ q hq
  refine ⟨h1, ?_⟩
  obtain ⟨pa, o⟩ := q
  cases o with
  | l xs => obtain ⟨vs, h3, h4⟩ := h2; exact ⟨vs, e _ _ h3 (fun _ z => nomatch z), h4⟩
  | d kd => obtain ⟨vs, h3, h4⟩ := h2; exact ⟨vs, e _ _ h3 (fun _ z => nomatch z), h4⟩
  | t kd => obtain ⟨vs, h3, h4⟩ := h2; exact ⟨vs, e _ _ h3 (fun _ z => nomatch z), h4⟩
theorem ev_lam (F : L2.Fun X.K x x st g fd) (hg : Gl X x) (hm : X.mg x = some (.ref g)) (hb : L2.Binds X.K fd [a] []) (Sg : FnScope Ng [a] (defScope st)) (hNg : Ng[0]? = some a) (hva : Vis (defScope st) a)
    (hG : ∀ cdg : Value, LamX.GivesTo X Ng x (defScope st) g cdg (defBody st) a (X.env.qual ++ "<lambda>") (TTW X.K T X.mg wf))
    (TB : LamX.TabB X.base X.mg c P) (hcode : X.env.code = .ref c) (hmT : (P, X.env.qual ++ "<lambda>") ∈ T) (hu : ∀ p ∈ T, p.1 = P → p.2 = X.env.qual ++ "<lambda>") (hr : Room (k + 2) X.A) (L : LamX.LamS X.env.scope scope)
    (hbody : ∀ (A : Around) (outer : List Env) (s : Shared) (H : Hp) (E : XK) (f c' : Addr), Room k (A.deeper (LamX.lamEnv X scope s.heap.objs.size f c')) → EV T (LamX.lamCx X A outer s H E scope f c') ds m body r)
    (hq : ∀ r, (wf r).quiet = wf r := by exact fun r => quiet_quiet _) (hdef : defaultsOf params X.env = ([], []) := by rfl)
    (hbind : ∀ (q : Str) (cl : List (Str × Addr)) (pm cv ctv : Value), bindArgs (PySem.W.kla_fn "<lambda>" q params body scope cl pm cv ctv) ⟨[], []⟩ = pure [] := by intros; rfl)
    (hdb : (x == ("__debug__" : Str)) = false := by decide) (hd : (a == ("__debug__" : Str)) = false := by decide) (hcd : (a == ("__classdict__" : Str)) = false := by decide) :
    EV T X ds m (.Call (.Name x p) [.Lambda params body scope lpos] [] pos) (wf r) := by
  intro W tk B σ H hs w Q q
  obtain ⟨oc, od, kV, doc, pm, an, cdv, ct, osl, hfd, lk, hcg⟩ := F.ex
  subst hfd
  refine wpE.of (LamX.pe_lamcall (T := T) (TT := TTW X.K T X.mg wf) (k := k) (t := fun E σ H Q => ∀ A outer s H0 f c', Room k (A.deeper (LamX.lamEnv X scope s.heap.objs.size f c')) → wpE (LamX.lamCx X A outer s H0 E scope f c') body σ H Q)
    hg hm F.kp lk hcg hb Sg hNg hva (hG cdv) TB hcode hmT hu hr L hdef hbind (fun A outer s H E f c' hr' => ⟨fun pins s' σ' H' Q' I h => (h A outer s H f c' hr').run pins s' I⟩) hdb hd hcd) ?_
  refine ⟨w.tb, fun H1 e1 t1 => ?_⟩
  have g0 := Go.extN w e1 t1
  refine ⟨B, m, r, g0.own, fun E B1 H2 Q1 g1 sa A outer s H0 f c' hr' => ?_, ?_⟩
  · exact hbody A outer s H0 E f c' hr' (fun cls d _ H => E cls d H) (takes_of rfl rfl rfl rfl) B1 σ H2 (hs.mono g1.ex) g1.own Q1 (R.sat_mono sa (fun d hd => hd) fun er he => he)
  · have q2 := R.sat_mono q (fun d (hd : ∀ B' v H', Go X.K T B m H B' m H' → Rep X.K B' v d → Q v H') => (fun B' v H' g' rv => hd B' v H' (g0.trans g') rv : ∀ B' v H', Go X.K T B m H1 B' m H' → Rep X.K B' v d → Q v H')) fun _ z => z
    rw [← hq r] at q2 ⊢
    exact quiet_no q2
theorem ev_lamQ {q : Str} (hqe : X.env.qual = q) (F : L2.Fun X.K x x st g fd) (hg : Gl X x) (hm : X.mg x = some (.ref g)) (hb : L2.Binds X.K fd [a] []) (Sg : FnScope Ng [a] (defScope st)) (hNg : Ng[0]? = some a) (hva : Vis (defScope st) a)
    (hG : ∀ cdg : Value, LamX.GivesTo X Ng x (defScope st) g cdg (defBody st) a (q ++ "<lambda>") (TTW X.K T X.mg wf))
    (TB : LamX.TabB X.base X.mg c P) (hcode : X.env.code = .ref c) (hmT : (P, q ++ "<lambda>") ∈ T) (hu : ∀ p ∈ T, p.1 = P → p.2 = q ++ "<lambda>") (hr : Room (k + 2) X.A) (L : LamX.LamS X.env.scope scope)
    (hbody : ∀ (A : Around) (outer : List Env) (s : Shared) (H : Hp) (E : XK) (f c' : Addr), Room k (A.deeper (LamX.lamEnv X scope s.heap.objs.size f c')) → EV T (LamX.lamCx X A outer s H E scope f c') ds m body r)
    (hq : ∀ r, (wf r).quiet = wf r := by exact fun r => quiet_quiet _) (hdef : defaultsOf params X.env = ([], []) := by rfl)
    (hbind : ∀ (q : Str) (cl : List (Str × Addr)) (pm cv ctv : Value), bindArgs (PySem.W.kla_fn "<lambda>" q params body scope cl pm cv ctv) ⟨[], []⟩ = pure [] := by intros; rfl)
    (hdb : (x == ("__debug__" : Str)) = false := by decide) (hd : (a == ("__debug__" : Str)) = false := by decide) (hcd : (a == ("__classdict__" : Str)) = false := by decide) :
    EV T X ds m (.Call (.Name x p) [.Lambda params body scope lpos] [] pos) (wf r) := by
  subst hqe
  exact ev_lam F hg hm hb Sg hNg hva hG TB hcode hmT hu hr L hbody hq hdef hbind hdb hd hcd
end
end DL
namespace DL
open PySem PySem.Spec PyProof.Rows L2
open Evl (Ex ex_l ex_t ex_rd)

/-! ### a list of lists, all owned -/
def inn (as : List Addr) (xss : List (List D)) : OM := (as.zip xss).map fun p => (p.1, .l p.2)
theorem inn_snoc {as : List Addr} {xss : List (List D)} (hl : as.length = xss.length) (a : Addr) (ys : List D) : inn (as ++ [a]) (xss ++ [ys]) = inn as xss ++ [(a, .l ys)] := by
  unfold inn
  rw [List.zip_append hl, List.map_append]
  rfl
theorem inn_mem {as : List Addr} {xss : List (List D)} {i : Nat} {a : Addr} {ys : List D} (h1 : as[i]? = some a) (h2 : xss[i]? = some ys) : (a, MO.l ys) ∈ inn as xss := by
  unfold inn
  refine List.mem_map.mpr ⟨(a, ys), ?_, rfl⟩
  have : (as.zip xss)[i]? = some (a, ys) := by
    rw [List.getElem?_zip_eq_some]
    exact ⟨h1, h2⟩
  exact List.mem_of_getElem? this
theorem inn_split {as : List Addr} {xss : List (List D)} {i : Nat} {a : Addr} {ys : List D} (h1 : as[i]? = some a) (h2 : xss[i]? = some ys) (hl : as.length = xss.length) :
    inn as xss = inn (as.take i) (xss.take i) ++ (a, .l ys) :: inn (as.drop (i + 1)) (xss.drop (i + 1)) ∧ ∀ zs, inn as (xss.set i zs) = inn (as.take i) (xss.take i) ++ (a, .l zs) :: inn (as.drop (i + 1)) (xss.drop (i + 1)) := by
  obtain ⟨hi, e1⟩ := List.getElem?_eq_some_iff.mp h1
  obtain ⟨hj, e2⟩ := List.getElem?_eq_some_iff.mp h2
  have ea : as = as.take i ++ a :: as.drop (i + 1) := by
    rw [← e1, ← List.drop_eq_getElem_cons hi, List.take_append_drop]
  have ex : xss = xss.take i ++ ys :: xss.drop (i + 1) := by
    rw [← e2, ← List.drop_eq_getElem_cons hj, List.take_append_drop]
  have ll : (as.take i).length = (xss.take i).length := by rw [List.length_take, List.length_take, hl]
  refine ⟨?_, fun zs => ?_⟩
  · unfold inn
    conv => lhs; rw [ea, ex]
    rw [List.zip_append ll, List.map_append]
    rfl
  · unfold inn
    have es : xss.set i zs = xss.take i ++ zs :: xss.drop (i + 1) := by
      rw [List.set_eq_take_append_cons_drop, if_pos hj]
    rw [es]
    conv => lhs; rw [ea]
    rw [List.zip_append ll, List.map_append]
    rfl
def llm (pre : OM) (pl : Addr) (as : List Addr) (xss : List (List D)) : OM := pre ++ (pl, .l (as.map D.ref)) :: inn as xss
def fnLL {S : Type} (n : S → DS) (pre : S → OM) (pl : Addr) (rows : S → List (List D)) : S → DS → OM → Prop := fun s ds m => ∃ as : List Addr, as.length = (rows s).length ∧ ds = n s ∧ m = llm (pre s) pl as (rows s)
theorem fnLLE {S : Type} {n : S → DS} {pre : S → OM} {pl : Addr} {rows : S → List (List D)} {s : S} {C : DS → OM → Prop} (h : ∀ as : List Addr, as.length = (rows s).length → C (n s) (llm (pre s) pl as (rows s))) : ∀ ds m, fnLL n pre pl rows s ds m → C ds m := by
  rintro _ _ ⟨as, hl, rfl, rfl⟩
  exact h as hl
def roomN (n : Nat) : R Unit := if n < sizeLine then .ok () else .ub
def D.ixLL (xss : List (List D)) : D → R D
  | .int i => match atI xss i with
    | some xs => .ok (.lst xs)
    | none => .ub
  | _ => .ub
def D.setLL (xss : List (List D)) (i j d : D) : R (List (List D)) := match i with
  | .int n => (match ixN xss.length n with
    | some k => (match xss[k]? with
      | some xs => (D.setAt xs j d).map fun ys => xss.set k ys
      | none => .ub)
    | none => .ub)
  | _ => .ub
section
variable {T : Tb} {X : Cx} {ds : DS} {m m' m1 : OM} {W : WX} {B B1 H H1 : Hp} {σ σ1 : St}
variable {S S' L γ α : Type} {E : Exits S L γ}
variable {st : Stmt} {rest ss : List Stmt} {pos pos' p p2 p3 : Pos} {e a b c k v : Expr} {re ra rb rc rk rv : R D} {tg : Expr} {τ : Type} {M : τ → OM} {t : τ}
/-- x = [] -/
theorem sb_asgNil (i : Nat) {x : Str} {r : R (Fl S L γ)} (hN : X.N.Nodup) (k : ∀ pl, SB T X (ds.set i (some (.ref pl))) (m ++ [(pl, .l [])]) rest E r) (hi : X.N[i]? = some x := by rfl) (hx : Loc X.env.scope x := by first | exact Or.inl rfl | exact Or.inr rfl)
    (hsw : swapsWith (.List [] p) (some (.Name x pos')) pos.line X.env = pure false := by rfl) (hf : X.fn x = true ∨ X.env.scope.names.lookup x = some .local := by first | exact .inl rfl | exact .inr rfl) : SB T X ds m (.Assign [.Name x pos'] (.List [] p) pos :: rest) E r := fun W tk B σ H hs w D q =>
  wpSs.of (pss_cons (ps_set hN hi hx (pe_lst pa_nil) hsw hf) (pss_wp X rest)) ⟨Nat.zero_le _, fun pl hp => by
    have hB : B pl = none := by
      cases q : B pl with
      | none => rfl
      | some u => rw [w.ex pl u q] at hp; cases hp
    exact (k pl).cont tk ((Go.new w hp).cell (o := .l []) hB (.inr (.of hp)) (w.notIn (.of hp)) ⟨[], upd_same, .nil⟩) (hs.set i (.ref pl)) q⟩
theorem sb_appendLL (i : Nat) {x : Str} {pl : Addr} {as : List Addr} {xss : List (List D)} (pre : τ → OM) {rx : R (List D × τ)} {K : List (List D) → τ → R (Fl S L γ)} {apos cpos : Pos} (hl : as.length = xss.length) (h : ds[i]? = some (some (.ref pl))) (he : ELt T X ds (fun u => llm (pre u) pl as xss) t e rx)
    (k : ∀ ys u (as' : List Addr), as'.length = ys.length → SB T X ds (llm (pre u) pl as' ys) rest E (K ys u))
    (pb : PE X (.Call (.Attribute (.Name x p) "append" apos) [e] [] cpos) (tBM X.K "list" rAppend (tVar i) (tCons (wpE X e) tNil))) (hsw : swapsWith (.Call (.Attribute (.Name x p) "append" apos) [e] [] cpos) none pos.line X.env = pure false := by rfl) :
    SB T X ds (llm (pre t) pl as xss) (.Expr (.Call (.Attribute (.Name x p) "append" apos) [e] [] cpos) pos :: rest) E (rx.bind fun d => (roomN xss.length).bind fun _ => K (xss ++ [d.1]) d.2) := by
  have e1 : (rx.bind fun d => (roomN xss.length).bind fun _ => K (xss ++ [d.1]) d.2) = rx.bind fun d => (D.room (as.map D.ref)).bind fun _ => K (xss ++ [d.1]) d.2 := by
    unfold D.room roomN
    rw [List.length_map, hl]
  rw [e1]
  refine sb_appendN (M := fun u => llm (pre u) pl as xss) (K := fun ys u => K (xss ++ [ys]) u) i pre (fun _ => inn as xss) h (fun u => rfl) he (fun an ys u => ?_) pb hsw
  have := k (xss ++ [ys]) u (as ++ [an]) (by simp [hl])
  unfold llm at this
  rw [inn_snoc hl, List.map_append] at this
  exact this
theorem ixLL_core {pl : Addr} {as : List Addr} {xss : List (List D)} {pre : OM} {v1 : V} {y : D} (hl : as.length = xss.length) (w : Own X.K T B (llm pre pl as xss) H) (r1 : Rep X.K B v1 y) {P : D → Prop} {Ee : Err → Prop} (hy : (D.ixLL xss y).sat P Ee) :
    ∃ n j vs xs a, v1 = .int n ∧ y = .int n ∧ ixN xss.length n = some j ∧ H pl = some (.lst vs) ∧ atI vs n = some (.ref a) ∧ as[j]? = some a ∧ xss[j]? = some xs ∧ P (.lst xs) := by
  cases y with
  | int n =>
    unfold D.ixLL at hy
    dsimp only at hy
    cases e : atI xss n with
    | none => rw [e] at hy; exact hy.elim
    | some xs =>
      rw [e] at hy
      obtain ⟨_, vs, h3, h4⟩ := w.at_ (pl, .l (as.map D.ref)) (by unfold llm; simp)
      unfold atI at e
      cases ej : ixN xss.length n with
      | none => rw [ej] at e; cases e
      | some j =>
        rw [ej] at e
        have hj : j < as.length := by rw [hl]; exact (List.getElem?_eq_some_iff.mp e).1
        have ha : as[j]? = some as[j] := List.getElem?_eq_getElem hj
        have hr : (as.map D.ref)[j]? = some (.ref as[j]) := by rw [List.getElem?_map, ha]; rfl
        obtain ⟨u, h5, h6⟩ := h4.get hr
        cases h6.iref
        refine ⟨n, j, vs, xs, as[j], r1.iint, rfl, ej, h3, ?_, ha, e, hy⟩
        unfold atI
        rw [h4.length, List.length_map, hl, ej]
        exact h5
  | _ => exact hy.elim
/-- x[i], one of the lists -/
theorem ev_ixLL {ii : Nat} {x : Str} {pl : Addr} {as : List Addr} {xss : List (List D)} {pre : OM} (hl : as.length = xss.length) (ho : IxR X (rIx X.K)) (h : ds[ii]? = some (some (.ref pl))) (hb : EV T X ds (llm pre pl as xss) b rb) (hN : X.N[ii]? = some x := by rfl) (hv : Vis X.env.scope x := by first | exact Or.inl rfl | exact Or.inr (Or.inl rfl) | exact Or.inr (Or.inr rfl)) (hd : (x == ("__debug__" : Str)) = false := by decide)
    (hcd : (x == ("__classdict__" : Str)) = false := by decide) (hs : PlainIx b := by exact fun _ _ => rfl) : EVw T X ds (llm pre pl as xss) (.Subscript (.Name x p) b pos) (rb.bind fun y => D.ixLL xss y) := by
  intro W tk B σ H hs' w Q q
  refine wpE.of (pe_ix ho (pe_var hN hv hd hcd) (pe_wp X b) hs) ?_
  obtain ⟨v, h1, h2⟩ := hs'.at_ ii _ h
  cases h2.iref
  refine ⟨_, h1, ?_⟩
  refine hb W tk B σ H hs' w _ (R.sat_mono (R.sat_bind q) (fun y hy B1 v1 H1 g1 r1 => ?_) fun _ z => z)
  obtain ⟨n, j, vs, xs, ad, rfl, rfl, ej, h3, h4, ha, hx, hP⟩ := ixLL_core hl g1.own r1 hy
  refine .inl ⟨pl, vs, n, .ref ad, rfl, rfl, SqL.of h3, h4, hP B1 _ H1 g1 (.own (o := .l xs) ?_)⟩
  unfold llm
  exact List.mem_append_right _ (List.mem_cons_of_mem _ (inn_mem ha hx))
/-- x[i][j] = e -/
theorem sb_setLL (ii : Nat) {x : Str} {pl : Addr} {as : List Addr} {xss : List (List D)} (pre : τ → OM) {rx : R (D × τ)} {ri rj : τ → R D} {K : List (List D) → τ → R (Fl S L γ)} (hl : as.length = xss.length) (ho : IxR X (rIx X.K)) (h : ds[ii]? = some (some (.ref pl))) (he : EXt T X ds (fun u => llm (pre u) pl as xss) t e rx)
    (hi : ∀ u, EV T X ds (llm (pre u) pl as xss) a (ri u)) (hj : ∀ u, EV T X ds (llm (pre u) pl as xss) b (rj u))
    (k : ∀ ys u (as' : List Addr), as'.length = ys.length → SB T X ds (llm (pre u) pl as' ys) rest E (K ys u))
    (ps : PS X (.Assign [.Subscript (.Subscript (.Name x p) a p2) b p3] e pos) (tAsg (wpE X e) (gSub (wpE X (.Subscript (.Name x p) a p2)) (wpE X b) rSetL)))
    (hN : X.N[ii]? = some x := by rfl) (hv : Vis X.env.scope x := by first | exact Or.inl rfl | exact Or.inr (Or.inl rfl) | exact Or.inr (Or.inr rfl)) (hdb : (x == ("__debug__" : Str)) = false := by decide)
    (hcd : (x == ("__classdict__" : Str)) = false := by decide) (hpx : PlainIx a := by exact fun _ _ => rfl) :
    SB T X ds (llm (pre t) pl as xss) (.Assign [.Subscript (.Subscript (.Name x p) a p2) b p3] e pos :: rest) E (rx.bind fun d => (ri d.2).bind fun y => (D.ixLL xss y).bind fun _ => (rj d.2).bind fun z => (D.setLL xss y z d.1).bind fun ys => K ys d.2) := fun W tk B σ H hs w D q => by
  refine wpSs.of (pss_cons ps (pss_wp X rest)) ?_
  refine he W tk B σ H hs w _ (R.sat_map' (R.sat_mono (R.sat_bind q) (fun d hd B1 v1 H1 g1 r1 => ?_) fun _ z => z.ek))
  dsimp only at g1
  refine wpE.of (pe_ix ho (pe_var hN hv hdb hcd) (pe_wp X a) hpx) ?_
  obtain ⟨v, h1, h2⟩ := (hs.mono g1.ex).at_ ii _ h
  cases h2.iref
  refine ⟨_, h1, ?_⟩
  refine hi d.2 W tk B1 σ H1 (hs.mono g1.ex) g1.own _ (R.sat_mono (R.sat_bind hd) (fun y hy B2 v2 H2 g2 r2 => ?_) fun _ z => (z.go g1).ek)
  obtain ⟨n, jx, vs, xs, ad, rfl, rfl, ej, h3, h4, ha, hx, hP⟩ := ixLL_core hl g2.own r2 (R.sat_bind hy)
  refine .inl ⟨pl, vs, n, .ref ad, rfl, rfl, SqL.of h3, h4, ?_⟩
  have g12 := g1.trans g2
  refine hj d.2 W tk B2 σ H2 (hs.mono g12.ex) g2.own _ (R.sat_mono (R.sat_bind hP) (fun z hz B3 v3 H3 g3 r3 => ?_) fun _ z => (z.go g12).ek)
  have g13 := g12.trans g3
  have hz := R.sat_bind hz
  unfold DL.D.setLL at hz
  dsimp only at hz
  rw [ej] at hz
  dsimp only at hz
  rw [hx] at hz
  have hz := R.sat_map hz
  obtain ⟨s1, s2⟩ := inn_split ha hx hl
  have em : ∀ zs : List DL.D, llm (pre d.2) pl as (xss.set jx zs) = (pre d.2 ++ (pl, .l (as.map DL.D.ref)) :: inn (as.take jx) (xss.take jx)) ++ (ad, .l zs) :: inn (as.drop (jx + 1)) (xss.drop (jx + 1)) := fun zs => by
    unfold llm
    rw [s2 zs]
    simp
  have em0 : llm (pre d.2) pl as xss = (pre d.2 ++ (pl, .l (as.map DL.D.ref)) :: inn (as.take jx) (xss.take jx)) ++ (ad, .l xs) :: inn (as.drop (jx + 1)) (xss.drop (jx + 1)) := by
    unfold llm
    rw [s1]
    simp
  have ow := g3.own
  obtain ⟨_, us, h5, h6⟩ := ow.at_ (ad, .l xs) (by unfold llm; exact List.mem_append_right _ (List.mem_cons_of_mem _ (inn_mem ha hx)))
  unfold DL.D.setAt at hz
  split at hz
  · split at hz
    · rename_i i' j' e'
      refine ⟨ad, us, _, j', rfl, r3.iint, h5, by rw [h6.length]; exact e', ?_⟩
      rw [em0] at g13 ow
      have g4 := Go.upd (o' := .l (xs.set j' d.1)) (u := .lst (us.set j' v1)) ow (fun _ z => nomatch z) ⟨_, upd_same, RepL.set ((r1.mono g2.ex).mono g3.ex) j' h6⟩
      have g5 := g13.trans g4
      rw [← em (xs.set j' d.1)] at g5
      exact (k _ d.2 as (by rw [List.length_set]; exact hl)).cont tk g5 (hs.mono g13.ex) hz
    · exact hz.elim
  · exact hz.elim
theorem refs_eq {K : PySem.W.Frag} : ∀ {as : List Addr} {vs : List V}, RepL K B vs (as.map DL.D.ref) → vs = as.map V.ref
  | [], _, r => by cases r; rfl
  | a :: as, _, r => by
    cases r with
    | cons r1 r2 => rw [r1.iref, refs_eq r2]; rfl
theorem freezeInn {pre : OM} : ∀ {as : List Addr} {xss : List (List D)} {B H : Hp}, as.length = xss.length → Own X.K T B (pre ++ inn as xss) H → ∃ B', Go X.K T B (pre ++ inn as xss) H B' pre H ∧ RepL X.K B' (as.map V.ref) (xss.map D.lst)
  | [], [], B, H, _, w => ⟨B, by
    have e : pre ++ inn [] [] = pre := by unfold inn; simp
    have g := Go.refl w
    rw [e] at g ⊢
    exact g, .nil⟩
  | a :: as, xs :: xss, B, H, hl, w => by
    have e : inn (a :: as) (xs :: xss) = (a, MO.l xs) :: inn as xss := by unfold inn; simp
    rw [e] at w ⊢
    obtain ⟨hB, vs, hp, rv⟩ := w.at_ (a, .l xs) (by simp)
    obtain ⟨g0, hn⟩ := freeze_core w
    have g1 := g0.freeze (o := .lst vs) hB (.inl (by simp)) hn hp (fun _ z => nomatch z)
    obtain ⟨B2, g2, r2⟩ := freezeInn (pre := pre) (as := as) (xss := xss) (by simpa using hl) g1.own
    exact ⟨B2, g1.trans g2, .cons ((Rep.lst (Rd.of upd_same) (rv.mono g1.ex)).mono g2.ex) r2⟩
  | [], _ :: _, _, _, hl, _ => by cases hl
  | _ :: _, [], _, _, hl, _ => by cases hl
/-- all stands still from now on -/
theorem sb_freezeLL (i : Nat) {pl : Addr} {as : List Addr} {xss : List (List D)} {pre : OM} {r : R (Fl S L γ)} (hl : as.length = xss.length) (h : ds[i]? = some (some (.ref pl))) (k : SB T X (ds.set i (some (.lst (xss.map D.lst)))) pre ss E r) : SB T X ds (llm pre pl as xss) ss E r := fun W tk B σ H hs w D q => by
  have pm : (llm pre pl as xss).Perm ((pre ++ [(pl, MO.l (as.map DL.D.ref))]) ++ inn as xss) := by
    unfold llm
    simp
  have g0 := (Go.refl w).perm pm
  obtain ⟨B1, g1, r1⟩ := freezeInn hl g0.own
  have g01 := g0.trans g1
  obtain ⟨hB, vs, hp, rv⟩ := g01.own.at_ (pl, .l (as.map DL.D.ref)) (by simp)
  have ev : vs = as.map V.ref := refs_eq rv
  subst ev
  have ndd := g01.own.nd
  have hn : pl ∉ pre.map (·.1) := by
    rw [List.map_append, List.nodup_append] at ndd
    exact fun z => ndd.2.2 _ z pl (by simp) rfl
  have g2 : Go X.K T B (llm pre pl as xss) H B1 pre H := g01.sub (List.sublist_append_left _ _)
  have g3 := g2.freeze (o := .lst (as.map V.ref)) hB (.inl (by unfold llm; simp)) hn hp (fun _ z => nomatch z)
  obtain ⟨v, h3, h4⟩ := hs.at_ i _ h
  cases h4.iref
  refine k.cont tk g3 ?_ q
  have := (hs.mono g3.ex).set i (v := .ref pl) (d := .lst (xss.map DL.D.lst)) (.lst (Rd.of upd_same) (r1.mono (Evl.Ex.new hB)))
  rw [set_self h3] at this
  exact this
end
end DL
namespace DL
open PySem PySem.Spec PyProof.Rows L2
open Evl (Ex ex_l ex_t ex_rd)

/-! ### arities -/
def ar0 {α : Type} (f : R α) : List D → R α
  | [] => f
  | _ => .ub
def ar1 {α : Type} (f : D → R α) : List D → R α
  | [a] => f a
  | _ => .ub
def ar2 {α : Type} (f : D → D → R α) : List D → R α
  | [a, b] => f a b
  | _ => .ub
def ar3 {α : Type} (f : D → D → D → R α) : List D → R α
  | [a, b, c] => f a b c
  | _ => .ub
def ar4 {α : Type} (f : D → D → D → D → R α) : List D → R α
  | [a, b, c, d] => f a b c d
  | _ => .ub
def ar5 {α : Type} (f : D → D → D → D → D → R α) : List D → R α
  | [a, b, c, d, e] => f a b c d e
  | _ => .ub
def ar6 {α : Type} (f : D → D → D → D → D → D → R α) : List D → R α
  | [a, b, c, d, e, g] => f a b c d e g
  | _ => .ub
theorem ar0_ub {α : Type} (f : R α) (xs : List D) (h : xs.length ≠ 0) : ar0 f xs = .ub := by
  match xs with
  | [] => exact absurd rfl h
  | _ :: _ => rfl
theorem ar1_ub {α : Type} (f : D → R α) (xs : List D) (h : xs.length ≠ 1) : ar1 f xs = .ub := by
  match xs with
  | [] => rfl
  | [_] => exact absurd rfl h
  | _ :: _ :: _ => rfl
theorem ar2_ub {α : Type} (f : D → D → R α) (xs : List D) (h : xs.length ≠ 2) : ar2 f xs = .ub := by
  match xs with
  | [] => rfl
  | [_] => rfl
  | [_, _] => exact absurd rfl h
  | _ :: _ :: _ :: _ => rfl
theorem ar3_ub {α : Type} (f : D → D → D → R α) (xs : List D) (h : xs.length ≠ 3) : ar3 f xs = .ub := by
  match xs with
  | [] => rfl
  | [_] => rfl
  | [_, _] => rfl
  | [_, _, _] => exact absurd rfl h
  | _ :: _ :: _ :: _ :: _ => rfl
theorem ar4_ub {α : Type} (f : D → D → D → D → R α) (xs : List D) (h : xs.length ≠ 4) : ar4 f xs = .ub := by
  match xs with
  | [] => rfl
  | [_] => rfl
  | [_, _] => rfl
  | [_, _, _] => rfl
  | [_, _, _, _] => exact absurd rfl h
  | _ :: _ :: _ :: _ :: _ :: _ => rfl
theorem ar5_ub {α : Type} (f : D → D → D → D → D → R α) (xs : List D) (h : xs.length ≠ 5) : ar5 f xs = .ub := by
  match xs with
  | [] => rfl
  | [_] => rfl
  | [_, _] => rfl
  | [_, _, _] => rfl
  | [_, _, _, _] => rfl
  | [_, _, _, _, _] => exact absurd rfl h
  | _ :: _ :: _ :: _ :: _ :: _ :: _ => rfl
theorem ar6_ub {α : Type} (f : D → D → D → D → D → D → R α) (xs : List D) (h : xs.length ≠ 6) : ar6 f xs = .ub := by
  match xs with
  | [] => rfl
  | [_] => rfl
  | [_, _] => rfl
  | [_, _, _] => rfl
  | [_, _, _, _] => rfl
  | [_, _, _, _, _] => rfl
  | [_, _, _, _, _, _] => exact absurd rfl h
  | _ :: _ :: _ :: _ :: _ :: _ :: _ :: _ => rfl
/-! .. behind an owned first argument -/
theorem arC {α : Type} {f : List D → List D → R α} {n : Nat} (h : ∀ c (xs : List D), xs.length ≠ n → f c xs = .ub) : ∀ c (xs : List D), xs.length + 1 ≠ n + 1 → f c xs = .ub := fun c xs hx => h c xs fun z => hx (by rw [z])
theorem hu1 {k : Nat} {A : Around} (r : Room k A) : A.units + 1 < cLine := by have := r.un; omega
theorem hu64 {k : Nat} {A : Around} (r : Room k A) : A.units + 64 < cLine := by have := r.un; omega
theorem hu65 {k : Nat} {A : Around} (r : Room k A) : A.units + 65 < cLine := by have := r.un; omega
theorem hu0 {k : Nat} {A : Around} (r : Room k A) : A.units < cLine := by have := r.un; omega
/-- what is told of a def, wherever it is called -/
structure Ca (K : PySem.W.Frag) (mg : Str → Option Value) (x : Str) (f : Addr) (fd : FuncData) (ps : List Str) : Prop where
  mg : mg x = some (.ref f)
  kp : PySem.W.keepIn K (.ref f) = true
  bi : Binds K fd ps []
theorem Ca.at_ {K : PySem.W.Frag} {mg : Str → Option Value} {x : Str} {f : Addr} {fd : FuncData} {ps : List Str} {j k : Nat} {A : Around} (c : Ca K mg x f fd ps) (r : Room k A) (h : j ≤ k := by decide) : Cal K mg A x f fd ps j := ⟨c.mg, c.kp, c.bi, r.mono h⟩
theorem b_len : bootBuiltins "len" = some (.builtin "len") := by decide +kernel
theorem b_abs : bootBuiltins "abs" = some (.builtin "abs") := by decide +kernel
theorem b_max : bootBuiltins "max" = some (.builtin "max") := by decide +kernel
theorem b_min : bootBuiltins "min" = some (.builtin "min") := by decide +kernel
theorem b_sum : bootBuiltins "sum" = some (.builtin "sum") := by decide +kernel
theorem b_all : bootBuiltins "all" = some (.builtin "all") := by decide +kernel
theorem b_any : bootBuiltins "any" = some (.builtin "any") := by decide +kernel
theorem b_sorted : bootBuiltins "sorted" = some (.builtin "sorted") := by decide +kernel
theorem b_int : bootBuiltins "int" = some (.type "int") := by decide +kernel
theorem b_bool : bootBuiltins "bool" = some (.type "bool") := by decide +kernel
theorem b_str : bootBuiltins "str" = some (.type "str") := by decide +kernel
theorem b_tuple : bootBuiltins "tuple" = some (.type "tuple") := by decide +kernel
theorem b_list : bootBuiltins "list" = some (.type "list") := by decide +kernel
section
variable {T : Tb} {X : Cx} {ds ds' : DS} {m m' : OM} {pos p p2 p3 apos cpos : Pos} {a b c e : Expr} {es : List Expr} {ra rb rc r : R D} {rl : R (List D)} {rt : R Bool} {τ : Type} {M : τ → OM} {t : τ} {rx : R (D × τ)} {rbx : R (Bool × τ)} {x : Str} {ifs : List Expr}
theorem EV.as (h : EV T X ds' m e r) (h1 : ds = ds' := by rfl) : EV T X ds m e r := by rw [h1]; exact h
theorem EC.as {rt : R Bool} (h : EC T X ds' m ifs rt) (h1 : ds = ds' := by rfl) : EC T X ds m ifs rt := by rw [h1]; exact h
theorem EXt.as (h : EXt T X ds' M t e rx) (h1 : ds = ds' := by rfl) : EXt T X ds M t e rx := by rw [h1]; exact h
theorem ECt.as (h : ECt T X ds' M t ifs rbx) (h1 : ds = ds' := by rfl) : ECt T X ds M t ifs rbx := by rw [h1]; exact h
/-- a new list by * or + -/
noncomputable def D.mulL : D → D → R (List D)
  | .lst xs, .int k => @ite _ (-(2 ^ 63) ≤ k ∧ k < 2 ^ 63 ∧ xs.length * k.toNat ≤ sizeLine) (Classical.propDecidable _) (.ok (List.replicate k.toNat xs).flatten) .ub
  | _, _ => .ub
def D.addL : D → D → R (List D)
  | .lst xs, .lst ys => if xs.length + ys.length ≤ sizeLine then .ok (xs ++ ys) else .ub
  | _, _ => .ub
theorem el_mul (ha : EVw T X ds m a ra) (hb : EVw T X ds m b rb) : ELp T X ds m (.BinOp a .Mult b pos) (ra.bind fun x => rb.bind fun y => D.mulL x y) := by
  intro W tk B σ H hs w Q q
  refine wpE.of (pe_op op_mulL (pe_wp X a) (pe_wp X b)) ?_
  refine ha W tk B σ H hs w _ (R.sat_mono (R.sat_bind q) (fun x hx B1 v1 H1 g1 r1 => ?_) fun _ z => z)
  refine hb W tk B1 σ H1 (hs.mono g1.ex) g1.own _ (R.sat_mono (R.sat_bind hx) (fun y hy B2 v2 H2 g2 r2 => ?_) fun _ z => z.go g1)
  have g12 := g1.trans g2
  unfold D.mulL at hy
  split at hy
  · split at hy
    · rename_i hz
      obtain ⟨ad, vs, rfl, h1, h2⟩ := (r1.go g2).ilst g2.own
      have l1 := h2.length
      exact ⟨ad, _, vs, rfl, r2.iint, h1, hz.1, hz.2.1, by rw [l1]; exact hz.2.2, fin_new g2.own (h2.rep _) fun B3 pl vs' H3 g3 hB hf hm hp r3 => hy B3 pl vs' H3 (g12.trans g3) hB (Fre.back g12 hf hm) hm hp r3⟩
    · exact hy.elim
  · exact hy.elim
theorem el_add (ha : EVw T X ds m a ra) (hb : EVw T X ds m b rb) : ELp T X ds m (.BinOp a .Add b pos) (ra.bind fun x => rb.bind fun y => D.addL x y) := by
  intro W tk B σ H hs w Q q
  refine wpE.of (pe_op op_catL (pe_wp X a) (pe_wp X b)) ?_
  refine ha W tk B σ H hs w _ (R.sat_mono (R.sat_bind q) (fun x hx B1 v1 H1 g1 r1 => ?_) fun _ z => z)
  refine hb W tk B1 σ H1 (hs.mono g1.ex) g1.own _ (R.sat_mono (R.sat_bind hx) (fun y hy B2 v2 H2 g2 r2 => ?_) fun _ z => z.go g1)
  have g12 := g1.trans g2
  unfold D.addL at hy
  split at hy
  · split at hy
    · rename_i hz
      obtain ⟨ad, vs, rfl, h1, h2⟩ := (r1.go g2).ilst g2.own
      obtain ⟨ad2, us, rfl, h3, h4⟩ := r2.ilst g2.own
      have l1 := h2.length
      have l2 := h4.length
      exact ⟨ad, ad2, vs, us, rfl, rfl, h1, h3, by omega, fin_new g2.own (h2.append h4) fun B3 pl vs' H3 g3 hB hf hm hp r3 => hy B3 pl vs' H3 (g12.trans g3) hB (Fre.back g12 hf hm) hm hp r3⟩
    · exact hy.elim
  · exact hy.elim
/-- an own class over ValueError -/
structure Rz (K : PySem.W.Frag) (mg : Str → Option Value) (x : Str) (C : Addr) : Prop where
  mg : mg x = some (.ref C)
  ex : PySem.W.excIn K C [.type "ValueError", .type "Exception", .type "BaseException", .type "object"] "ValueError.__new__" = true
  kp : PySem.W.keepIn K (.ref C) = true
  sb : PySem.W.subIn K (.ref C) (.type "BaseException") = some true
  ty : PySem.W.typeIn K (.ref C) = some (.type "type")
theorem sb_raiseE {S L γ : Type} {E : Exits S L γ} {rest : List Stmt} {mm : Str} {C : Addr} {jj : Nat} (hc : X.calm = true) (z : Rz X.K X.mg x C) (hg : Gl X x := by rfl) (hdb : (x == ("__debug__" : Str)) = false := by decide) :
    SB T X ds m (.Raise (some (.Call (.Name x p) [.Constant (.str mm) jj p2] [] p3)) none pos :: rest) E (.err ⟨x, none⟩) :=
  sb_raise hc PySem.F.excBase_ValueError z.ex z.mg z.kp (raises_own z.sb z.ty) hg hdb
theorem llm_pre {q : Addr × MO} {pre : OM} {pl : Addr} {as : List Addr} {xss : List (List D)} (h : q ∈ pre) : q ∈ llm pre pl as xss := List.mem_append_left _ h
end
end DL
namespace DL
open PySem PySem.Spec PyProof.Rows L2
open Evl (Ex ex_l ex_t ex_rd)

/-! ### the rules with effects, their mirrors as functions -/
def iteX {α τ : Type} (k : Bool × τ) (r1 r2 : τ → R α) : R α := if k.1 then r1 k.2 else r2 k.2
def par2 {α : Type} (K : D → D → R α) : List D → R α
  | [a, b] => K a b
  | _ => .ub
def par3 {α : Type} (K : D → D → D → R α) : List D → R α
  | [a, b, c] => K a b c
  | _ => .ub
def par2X {α τ : Type} (K : D → D → τ → R α) (xs : List D × τ) : R α := match xs.1 with
  | [a, b] => K a b xs.2
  | _ => .ub
def setX {τ : Type} (xs : List D) (rj : τ → R D) (d : D × τ) : R (List D × τ) := (rj d.2).bind fun n => (D.setAt xs n d.1).map fun ys => (ys, d.2)
def apX {τ : Type} (xs : List D) (d : D × τ) : R (List D × τ) := (D.room xs).map fun _ => (xs ++ [d.1], d.2)
def apLL {τ : Type} (xss : List (List D)) (d : List D × τ) : R (List (List D) × τ) := (roomN xss.length).map fun _ => (xss ++ [d.1], d.2)
def setLLX {τ : Type} (xss : List (List D)) (ri rj : τ → R D) (d : D × τ) : R (List (List D) × τ) := (ri d.2).bind fun y => (D.ixLL xss y).bind fun _ => (rj d.2).bind fun z => (D.setLL xss y z d.1).map fun ys => (ys, d.2)
theorem R.map_bind {α β γ : Type} (r : R α) (f : α → β) (g : β → R γ) : (r.map f).bind g = r.bind fun a => g (f a) := by cases r <;> rfl
theorem R.bind_assoc' {α β γ : Type} (r : R α) (f : α → R β) (g : β → R γ) : (r.bind f).bind g = r.bind fun a => (f a).bind g := by cases r <;> rfl
section
variable {T : Tb} {X : Cx} {ds : DS} {m m' m1 : OM} {S S' L γ α : Type} {E : Exits S L γ}
variable {rest body orelse : List Stmt} {pos pos' p p2 p3 px py pz pt : Pos} {e a b c : Expr} {re : R D} {τ : Type} {M : τ → OM} {t : τ} {rx : R (D × τ)} {kt k2 : Nat}
theorem sb_exprXk {K : D × τ → R (Fl S L γ)} (he : EXt T X ds M t e rx) (k : ∀ d u, SB T X ds (M u) rest E (K (d, u))) (hsw : swapsWith e none pos.line X.env = pure false := by rfl) : SB T X ds (M t) (.Expr e pos :: rest) E (rx.bind K) := fun W tk B σ H hs w D q =>
  wpSs.of (pss_cons (ps_expr (pe_wp X e) hsw) (pss_wp X rest)) (he W tk B σ H hs w _ (R.sat_map' (R.sat_mono (R.sat_bind q) (fun d hd B' v H' g r => (k d.1 d.2).cont tk g (hs.mono g.ex) hd) fun _ z => z.ek)))
theorem sb_ifTXk {r1 : τ → R (Fl Empty L γ)} {r2 : τ → R (Fl S L γ)} {rt : R (Bool × τ)} (hc : ETt T X ds M t c rt) (h1 : ∀ u, SB T X ds (M u) body E.dead (r1 u)) (h2 : ∀ u, SB T X ds (M u) rest E (r2 u)) : SB T X ds (M t) (.If c body [] pos :: rest) E (rt.bind fun k => iteX k (fun u => (r1 u).map Fl.up) r2) := sb_ifTX hc h1 h2
theorem sb_ifJXk (n : S' → DS → OM → Prop) {r1 r2 : τ → R (Fl S' L γ)} {K : S' → R (Fl S L γ)} {rt : R (Bool × τ)} (hc : ETt T X ds M t c rt) (h1 : ∀ u, SB T X ds (M u) body (E.via n) (r1 u)) (h2 : ∀ u, SB T X ds (M u) orelse (E.via n) (r2 u)) (h3 : ∀ s ds' m', n s ds' m' → SB T X ds' m' rest E (K s)) :
    SB T X ds (M t) (.If c body orelse pos :: rest) E ((rt.bind fun k => iteX k r1 r2).bind (Fl.next K)) := sb_ifJX n hc h1 h2 h3
theorem sb_par2k (i j : Nat) {x y : Str} {rs : R (List D)} {K : D → D → R (Fl S L γ)} (hc : X.calm = true) (hN : X.N.Nodup) (ha : EAp T X ds m [a, b] rs) (k : ∀ d1 d2, SB T X ((ds.set i (some d1)).set j (some d2)) m rest E (K d1 d2)) (hij : i ≠ j := by decide) (hi : X.N[i]? = some x := by rfl) (hj : X.N[j]? = some y := by rfl)
    (hx : X.env.scope.names.lookup x = some .local := by rfl) (hy : X.env.scope.names.lookup y = some .local := by rfl)
    (hw : swappedStores [.Tuple [.Name x px, .Name y py] kt pt] (.Tuple [a, b] k2 p2) X.env = pure (some [x, y]) := by rfl)
    (hs : swapsWithSole [.Tuple [.Name x px, .Name y py] kt pt] (.Tuple [a, b] k2 p2) pos.line X.env = pure false := by rfl) :
    SB T X ds m (.Assign [.Tuple [.Name x px, .Name y py] kt pt] (.Tuple [a, b] k2 p2) pos :: rest) E (rs.bind (par2 K)) := by
  have := sb_par2 (E := E) i j hc hN ha k hij hi hj hx hy hw hs
  exact this
theorem sb_par3k (i j l : Nat) {x y z : Str} {rs : R (List D)} {K : D → D → D → R (Fl S L γ)} (hc : X.calm = true) (hN : X.N.Nodup) (ha : EAp T X ds m [a, b, c] rs) (k : ∀ d1 d2 d3, SB T X (((ds.set i (some d1)).set j (some d2)).set l (some d3)) m rest E (K d1 d2 d3)) (hij : i ≠ j := by decide) (hil : i ≠ l := by decide) (hjl : j ≠ l := by decide) (hi : X.N[i]? = some x := by rfl) (hj : X.N[j]? = some y := by rfl) (hl : X.N[l]? = some z := by rfl)
    (hx : X.env.scope.names.lookup x = some .local := by rfl) (hy : X.env.scope.names.lookup y = some .local := by rfl) (hz : X.env.scope.names.lookup z = some .local := by rfl)
    (hw : swappedStores [.Tuple [.Name x px, .Name y py, .Name z pz] kt pt] (.Tuple [a, b, c] k2 p2) X.env = pure (some [x, y, z]) := by rfl)
    (hs : swapsWithSole [.Tuple [.Name x px, .Name y py, .Name z pz] kt pt] (.Tuple [a, b, c] k2 p2) pos.line X.env = pure false := by rfl) :
    SB T X ds m (.Assign [.Tuple [.Name x px, .Name y py, .Name z pz] kt pt] (.Tuple [a, b, c] k2 p2) pos :: rest) E (rs.bind (par3 K)) := by
  have := sb_par3 (E := E) i j l hc hN ha k hij hil hjl hi hj hl hx hy hz hw hs
  exact this
theorem sb_par2Xk (i j : Nat) {x y : Str} {rs : R (List D × τ)} {K : D → D → τ → R (Fl S L γ)} (hc : X.calm = true) (hN : X.N.Nodup) (ha : EAt T X ds M t [a, b] rs) (k : ∀ d1 d2 u, SB T X ((ds.set i (some d1)).set j (some d2)) (M u) rest E (K d1 d2 u)) (hij : i ≠ j := by decide) (hi : X.N[i]? = some x := by rfl) (hj : X.N[j]? = some y := by rfl)
    (hx : X.env.scope.names.lookup x = some .local := by rfl) (hy : X.env.scope.names.lookup y = some .local := by rfl)
    (hw : swappedStores [.Tuple [.Name x px, .Name y py] kt pt] (.Tuple [a, b] k2 p2) X.env = pure (some [x, y]) := by rfl)
    (hs : swapsWithSole [.Tuple [.Name x px, .Name y py] kt pt] (.Tuple [a, b] k2 p2) pos.line X.env = pure false := by rfl) :
    SB T X ds (M t) (.Assign [.Tuple [.Name x px, .Name y py] kt pt] (.Tuple [a, b] k2 p2) pos :: rest) E (rs.bind (par2X K)) := by
  have := sb_par2X (E := E) i j hc hN ha k hij hi hj hx hy hw hs
  exact this
theorem sb_unpXk {tg : Expr} {g : TG} {is : List Nat} {un : D → R α} {put : DS → α → DS} {K : α × τ → R (Fl S L γ)} (he : EXt T X ds M t e rx) (hg : PG X tg g) (ht : TgD X.K T g is un put) (k : ∀ x u, SB T X (put ds x) (M u) rest E (K (x, u))) (hs : swapsWithSole [tg] e pos.line X.env = pure false := by rfl) (hw : swappedStores [tg] e X.env = pure none := by rfl)
    (h1 : (assignEach [tg] X.env).map (·.2) = [assign tg X.env] := by rfl) : SB T X ds (M t) (.Assign [tg] e pos :: rest) E (rx.bind fun d => ((un d.1).map fun x => (x, d.2)).bind K) := by
  have := sb_unpX (E := E) (K := fun x u => K (x, u)) he hg ht k hs hw h1
  simpa only [R.map_bind] using this
theorem sb_appendk (i : Nat) {x : Str} {pl : Addr} {xs : List D} {pre post : OM} {K : List D → R (Fl S L γ)} {apos cpos : Pos} (h : ds[i]? = some (some (.ref pl))) (he : EV T X ds (pre ++ (pl, .l xs) :: post) e re) (k : ∀ ys, SB T X ds (pre ++ (pl, .l ys) :: post) rest E (K ys))
    (pb : PE X (.Call (.Attribute (.Name x p) "append" apos) [e] [] cpos) (tBM X.K "list" rAppend (tVar i) (tCons (wpE X e) tNil))) (hsw : swapsWith (.Call (.Attribute (.Name x p) "append" apos) [e] [] cpos) none pos.line X.env = pure false := by rfl) :
    SB T X ds (pre ++ (pl, .l xs) :: post) (.Expr (.Call (.Attribute (.Name x p) "append" apos) [e] [] cpos) pos :: rest) E (re.bind fun d => ((D.room xs).map fun _ => xs ++ [d]).bind K) := by
  have := sb_append (E := E) (K := fun d => K (xs ++ [d])) i h he (fun d => k _) pb hsw
  simpa only [R.map_bind] using this
theorem sb_appendXk (i : Nat) {x : Str} {pl : Addr} {xs : List D} (pre post : τ → OM) {K : List D × τ → R (Fl S L γ)} {apos cpos : Pos} (h : ds[i]? = some (some (.ref pl))) (hM : ∀ u, M u = pre u ++ (pl, .l xs) :: post u) (he : EXt T X ds M t e rx) (k : ∀ ys u, SB T X ds (pre u ++ (pl, .l ys) :: post u) rest E (K (ys, u)))
    (pb : PE X (.Call (.Attribute (.Name x p) "append" apos) [e] [] cpos) (tBM X.K "list" rAppend (tVar i) (tCons (wpE X e) tNil))) (hsw : swapsWith (.Call (.Attribute (.Name x p) "append" apos) [e] [] cpos) none pos.line X.env = pure false := by rfl) :
    SB T X ds (M t) (.Expr (.Call (.Attribute (.Name x p) "append" apos) [e] [] cpos) pos :: rest) E (rx.bind fun d => (apX xs d).bind K) := by
  have := sb_appendX (E := E) (K := fun d u => K (xs ++ [d], u)) i pre post h hM he (fun d u => k _ u) pb hsw
  unfold apX
  simpa only [R.map_bind] using this
theorem sb_setLXk (i : Nat) {x : Str} {pl : Addr} {xs : List D} (pre post : τ → OM) {K : List D × τ → R (Fl S L γ)} {rj : τ → R D} {j : Expr} (h : ds[i]? = some (some (.ref pl))) (hM : ∀ u, M u = pre u ++ (pl, .l xs) :: post u) (he : EXt T X ds M t e rx) (hj : ∀ u, EV T X ds (M u) j (rj u))
    (k : ∀ ys u, SB T X ds (pre u ++ (pl, .l ys) :: post u) rest E (K (ys, u)))
    (ps : PS X (.Assign [.Subscript (.Name x p) j p2] e pos) (tAsg (wpE X e) (gSub (tVar i) (wpE X j) rSetL))) :
    SB T X ds (M t) (.Assign [.Subscript (.Name x p) j p2] e pos :: rest) E (rx.bind fun d => (setX xs rj d).bind K) := by
  have := sb_setLX (E := E) (K := fun ys u => K (ys, u)) i pre post h hM he hj k ps
  unfold setX
  simpa only [R.map_bind, R.bind_assoc'] using this
theorem sb_appendLLk (i : Nat) {x : Str} {pl : Addr} {as : List Addr} {xss : List (List D)} (pre : τ → OM) {rx : R (List D × τ)} {K : List (List D) × τ → R (Fl S L γ)} {apos cpos : Pos} (hl : as.length = xss.length) (h : ds[i]? = some (some (.ref pl))) (he : ELt T X ds (fun u => llm (pre u) pl as xss) t e rx)
    (k : ∀ ys u (as' : List Addr), as'.length = ys.length → SB T X ds (llm (pre u) pl as' ys) rest E (K (ys, u)))
    (pb : PE X (.Call (.Attribute (.Name x p) "append" apos) [e] [] cpos) (tBM X.K "list" rAppend (tVar i) (tCons (wpE X e) tNil))) (hsw : swapsWith (.Call (.Attribute (.Name x p) "append" apos) [e] [] cpos) none pos.line X.env = pure false := by rfl) :
    SB T X ds (llm (pre t) pl as xss) (.Expr (.Call (.Attribute (.Name x p) "append" apos) [e] [] cpos) pos :: rest) E (rx.bind fun d => (apLL xss d).bind K) := by
  have := sb_appendLL (E := E) (K := fun ys u => K (ys, u)) i pre hl h he k pb hsw
  unfold apLL
  simpa only [R.map_bind] using this
theorem sb_setLLk (ii : Nat) {x : Str} {pl : Addr} {as : List Addr} {xss : List (List D)} (pre : τ → OM) {rx : R (D × τ)} {ri rj : τ → R D} {K : List (List D) × τ → R (Fl S L γ)} (hl : as.length = xss.length) (ho : IxR X (rIx X.K)) (h : ds[ii]? = some (some (.ref pl))) (he : EXt T X ds (fun u => llm (pre u) pl as xss) t e rx)
    (hi : ∀ u, EV T X ds (llm (pre u) pl as xss) a (ri u)) (hj : ∀ u, EV T X ds (llm (pre u) pl as xss) b (rj u))
    (k : ∀ ys u (as' : List Addr), as'.length = ys.length → SB T X ds (llm (pre u) pl as' ys) rest E (K (ys, u)))
    (ps : PS X (.Assign [.Subscript (.Subscript (.Name x p) a p2) b p3] e pos) (tAsg (wpE X e) (gSub (wpE X (.Subscript (.Name x p) a p2)) (wpE X b) rSetL)))
    (hN : X.N[ii]? = some x := by rfl) (hv : Vis X.env.scope x := by first | exact Or.inl rfl | exact Or.inr (Or.inl rfl) | exact Or.inr (Or.inr rfl)) (hdb : (x == ("__debug__" : Str)) = false := by decide)
    (hcd : (x == ("__classdict__" : Str)) = false := by decide) (hpx : PlainIx a := by exact fun _ _ => rfl) :
    SB T X ds (llm (pre t) pl as xss) (.Assign [.Subscript (.Subscript (.Name x p) a p2) b p3] e pos :: rest) E (rx.bind fun d => (setLLX xss ri rj d).bind K) := by
  have := sb_setLL (E := E) (K := fun ys u => K (ys, u)) ii pre hl ho h he hi hj k ps hN hv hdb hcd hpx
  unfold setLLX
  simpa only [R.map_bind, R.bind_assoc'] using this
/-- a module's whole number -/
theorem ev_globI {x : Str} {i : Int} (h : ∃ t, X.mg x = some (.int i t)) (hg : Gl X x := by rfl) (hd : (x == ("__debug__" : Str)) = false := by decide) : EV T X ds m (.Name x pos) (.ok (.int i)) := by
  obtain ⟨t, h⟩ := h
  exact ev_glob (v := .int i) h ⟨t, rfl⟩ (fun _ => .int i) hg hd
end
end DL
namespace DL
open PySem PySem.Spec PyProof.Rows L2
theorem fn_body2 {P : Program} {w : World} {K : PySem.W.Frag} {mg : Str → Option Value} {base : Heap} {T : Tb} {x qual : Str} {st : Stmt} {f : Addr} {fd : FuncData} {N ps : List Str} {k : Nat} {Tr : List D → OM → R (RD × OM) → Prop} (F : Fun K x qual st f fd) (S : FnScope N ps (defScope st))
    (len : ∀ ds m r, Tr ds m r → ds.length = ps.length)
    (hb : ∀ (cdv : Value) (A : Around) (outer : List Env) (s : Shared) (H : Hp) (E : XK), fd.code = cdv → Room k (A.deeper (envOfC qual (defScope st) s.heap.objs.size f cdv)) → ∀ ds m r, Tr ds m r →
      FBody T (cxOf (L2.CX P w) P w K mg base N qual (defScope st) f cdv A outer s H E) (startD N ds) m (defBody st) r) : FnOk P w K mg base (L2.CX P w) (k + 1) f fd ps (spD K T mg Tr) := by
  obtain ⟨oc, od, kV, doc, pm, an, cdv, ct, osl, rfl, lk, hcd⟩ := F.ex
  refine fn_of lk hcd S (fun vs H Q E h => ?_) fun A outer s H vs Q E hr h => ?_
  · obtain ⟨B, m, ds, r, h1, _, h3, _⟩ := h
    rw [h1.length]
    exact len ds m r h3
  · obtain ⟨B, m, ds, r, h1, h2, h3, h4⟩ := h
    refine ⟨_, pss_wp _ _, hb cdv A outer s H E rfl hr ds m r h3 (fun cls d σ H => E cls d H) (takes_of rfl rfl rfl rfl) B _ H (sl_start h1) h2 Q (R.sat_mono h4 (fun p hp => hp) fun er he B' σ' H' cls dd g ea => he B' H' cls dd g ea)⟩
end DL
namespace DL
theorem ETp.as {T : Tb} {X : L2.Cx} {ds ds' : DS} {m m' : OM} {e : PySem.Expr} {r : R Bool} (h : ETp T X ds' m' e r) (h1 : ds = ds' := by rfl) (h2 : m = m' := by rfl) : ETp T X ds m e r := by rw [h1, h2]; exact h
end DL
namespace DL
open PySem PySem.Spec PyProof.Rows L2
open Evl (Ex ex_l ex_t ex_rd)
open He (ga eqO eqO_ok ba fAd cT)

/-! ### the head's facts for this layer -/
theorem fun_of {K : PySem.W.Frag} {x qual : Str} {st : Stmt} {f : Addr} {fd : FuncData} (F : FunD K x qual (defArgs st) (defBody st) (defScope st) [] [] f fd) : L2.Fun K x qual st f fd := by
  obtain ⟨oc, od, dV, kV, doc, pm, an, cdv, ct, osl, e, lk, hcd, hD, hK⟩ := F.ex
  rcases hD with ⟨_, rfl⟩ | ⟨e2, _⟩
  · exact ⟨⟨oc, od, kV, doc, pm, an, cdv, ct, osl, e, lk, hcd⟩, F.kp⟩
  · exact absurd rfl e2
theorem ca_of {K : PySem.W.Frag} {mg : Str → Option Value} {x : Str} {params : Arguments} {body : List Stmt} {scope : Scope} {f : Addr} {fd : FuncData} {ps : List Str} (F : FunD K x x params body scope [] [] f fd) (hm : mg x = some (.ref f))
    (h : ∀ (kV doc pm : Value) (an : Option Addr) (cdv ct : Value) (us : List Value), us.length = ps.length → bindArgs (PySem.W.fnOf x x params body scope .none kV doc pm an cdv ct) ⟨us, []⟩ = pure (ps.zip us)) : Ca K mg x f fd ps := ⟨hm, F.kp, F.bindsN h⟩
theorem code_of {K : PySem.W.Frag} {p : He.Defn} {x qual : Str} {st : Stmt} {fd : FuncData} (F : L2.Fun K x qual st (fAd K p) fd) : fd.code = .ref (cT K p).1 := by
  obtain ⟨oc, od, kV, doc, pm, an, cdv, ct, osl, rfl, lk, hcd⟩ := F.ex
  obtain ⟨c, rfl⟩ := He.codeIn_ref hcd
  show Value.ref c = .ref (He.codeOf K p)
  rw [He.codeOf_eq lk rfl]
def noLst (K : PySem.W.Frag) : Bool := K.all fun q => match q.2.cls with
  | .type c => !decide (c = "list")
  | _ => true
theorem rd_of {K : PySem.W.Frag} {H : Hp} {a : Addr} {xs : List V} (h : noLst K = true) (s : SqL K H a xs) : Rd H a (.lst xs) := by
  rcases s with s | ⟨o, its, n, lk, hc, _⟩
  · exact s
  · have := List.all_eq_true.mp h _ (He.lookup_mem lk)
    simp [hc] at this
def excCB (K : PySem.W.Frag) (D : Addr) : Bool := eqO (PySem.W.findIn K (.ref D) "__getattribute__") (some (some (.builtin "BaseException.__getattribute__"))) && (eqO (PySem.W.findIn K (.ref D) "__getattr__") (some none) && (decide (PySem.W.subIn K (.ref D) (.type "BaseException") = some true) && (PySem.W.hasDictIn K D && (eqO (PySem.W.findIn K (.ref D) "__class__") (some (some (.builtin "object.__class__"))) && (eqO (PySem.W.specialIn K (.builtin "object.__class__") "__get__") (some (some (.builtin "getset_descriptor.__get__"))) && (decide (PySem.W.takesIn K (.builtin "object.__class__") = some true) && decide (PySem.W.mroIn K D (.type "object") = some true)))))))
theorem excCB_ok {K : PySem.W.Frag} {D : Addr} (h : excCB K D = true) : ExcC K D := by
  obtain ⟨h1, h⟩ := ba h
  obtain ⟨h2, h⟩ := ba h
  obtain ⟨h3, h⟩ := ba h
  obtain ⟨h4, h⟩ := ba h
  obtain ⟨h5, h⟩ := ba h
  obtain ⟨h6, h⟩ := ba h
  obtain ⟨h7, h8⟩ := ba h
  exact ⟨eqO_ok h1, eqO_ok h2, of_decide_eq_true h3, h4, eqO_ok h5, eqO_ok h6, of_decide_eq_true h7, of_decide_eq_true h8⟩
def exsB (K : PySem.W.Frag) (names : List Str) (sub : Str → Str → Bool) : Bool := names.all fun c1 => excCB K (ga K c1) && names.all fun c2 => decide (PySem.W.exmOne K (.ref (ga K c1)) (.ref (ga K c2)) = some (sub c1 c2)) && decide (PySem.W.kitOne K (.ref (ga K c1)) (.ref (ga K c2)) = some (sub c1 c2))
theorem exs_of {K : PySem.W.Frag} {mg : Str → Option Value} {names : List Str} {sub : Str → Str → Bool} (h : exsB K names sub = true) (hm : ∀ c ∈ names, mg c = some (.ref (ga K c))) : Exs K mg names sub := by
  have key : ∀ c1 ∈ names, ∀ C1 : Addr, mg c1 = some (.ref C1) → C1 = ga K c1 := fun c1 h1 C1 e => by
    rw [hm c1 h1] at e
    injection e with e
    injection e with e
    exact e.symm
  have all1 := fun c1 h1 => ba (List.all_eq_true.mp h c1 h1)
  have all2 := fun c1 h1 c2 h2 => ba (List.all_eq_true.mp (all1 c1 h1).2 c2 h2)
  refine ⟨fun c1 h1 c2 h2 C1 C2 e1 e2 => ?_, fun c1 h1 c2 h2 C1 C2 e1 e2 => ?_, fun c1 h1 C1 e1 => ?_⟩
  · rw [key c1 h1 C1 e1, key c2 h2 C2 e2]
    exact of_decide_eq_true (all2 c1 h1 c2 h2).1
  · rw [key c1 h1 C1 e1, key c2 h2 C2 e2]
    exact of_decide_eq_true (all2 c1 h1 c2 h2).2
  · rw [key c1 h1 C1 e1]
    exact excCB_ok (all1 c1 h1).1
theorem rz_of {K : PySem.W.Frag} {mg : Str → Option Value} {x : Str} (hm : mg x = some (.ref (ga K x))) (h : (He.Fa.exc x).ok K = true) : Rz K mg x (ga K x) := by
  obtain ⟨h1, h2, h3, h4⟩ := He.exc_ok h
  exact ⟨hm, h1, h2, h3, h4⟩
theorem ini {K : PySem.W.Frag} {T : Tb} {mg : Str → Option Value} {H : Hp} {a : Addr} {ns : List Int} {M : D → R D} (hL : Rd H a (.lst (ns.map V.int))) (hT : LamX.Tabs T H) (hM : M (.lst (ns.map D.int)) = .ok (.bl true)) :
    spD K T mg (trP 1 (ar1 M)) [.ref a] H (fun v _ => v = .bl true) fun _ _ _ => False := by
  have hx : ∀ ps, H a ≠ some (.tbl ps) := fun ps e => by
    rcases hL with h | ⟨o, h⟩ <;> rw [h] at e <;> cases e
  refine ⟨fun b => if b = a then H b else none, [], [.lst (ns.map D.int)], _, .cons (.lst ?_ (RepL.ofInts ns)) .nil, ⟨fun b o e => ?_, fun p hp => absurd hp (by simp), by simp, hT, fun b ps e => ?_⟩, ⟨rfl, rfl, rfl⟩, ?_⟩
  · rcases hL with h | ⟨o, h⟩
    · exact .inl (by simp [h])
    · exact .inr ⟨o, by simp [h]⟩
  · by_cases hb : b = a
    · simp [hb] at e; rw [hb]; exact e
    · simp [hb] at e
  · by_cases hb : b = a
    · simp [hb] at e; exact hx ps e
    · simp [hb] at e
  · show (R.map _ (M (.lst (ns.map D.int)))).sat _ _
    rw [hM]
    exact fun B' v H' g r => r.ibl
theorem tabs_ini {T : Tb} {H : Hp} (h : ∀ p ∈ T, H p.1 = some (.tbl #[])) : LamX.Tabs T H := fun p hp => LamX.TabS.nil (h p hp)
end DL
namespace DL
open PySem
theorem tt_uniq {tfs : List He.Defn} {K : PySem.W.Frag} (nd : (tfs.map fun p => (He.cT K p).2).Nodup) {d : He.Defn} (hd : d ∈ tfs) : ∀ p ∈ (tfs.map fun p => ((He.cT K p).2, p.1 ++ ".<locals>." ++ "<lambda>") : Tb), p.1 = (He.cT K d).2 → p.2 = d.1 ++ ".<locals>." ++ "<lambda>" := by
  intro p hp e
  obtain ⟨z, hz, rfl⟩ := List.mem_map.mp hp
  clear hp
  have : z = d := by
    induction tfs with
    | nil => cases hd
    | cons y ys ih =>
      rw [List.map_cons] at nd
      obtain ⟨n1, n2⟩ := List.nodup_cons.mp nd
      rcases List.mem_cons.mp hz with rfl | hz' <;> rcases List.mem_cons.mp hd with rfl | hd'
      · rfl
      · exact absurd (List.mem_map.mpr ⟨d, hd', e.symm⟩) n1
      · exact absurd (List.mem_map.mpr ⟨z, hz', e⟩) n1
      · exact ih n2 hd' hz'
  rw [this]
end DL
namespace DL
open PySem PySem.Spec PyProof.Rows L2

/-! ### mirrors on typed data -/
abbrev I (n : Nat) : D := .int (n : Int)
section
variable {S S' L γ α β : Type}
@[simp] theorem fl_up_nx (s : Empty) : (Fl.up (.nx s : Fl Empty L γ) : Fl S L γ) = nomatch s := nomatch s
@[simp] theorem fl_up_rt (g : γ) : (Fl.up (.rt g : Fl Empty L γ) : Fl S L γ) = .rt g := rfl
@[simp] theorem fl_next_nx (k : S' → R (Fl S L γ)) (s : S') : Fl.next k (.nx s) = k s := rfl
@[simp] theorem fl_next_rt (k : S' → R (Fl S L γ)) (g : γ) : Fl.next k (.rt g : Fl S' L γ) = .ok (.rt g) := rfl
@[simp] theorem fl_next_ct (k : S' → R (Fl S L γ)) (g : L) : Fl.next k (.ct g : Fl S' L γ) = .ok (.ct g) := rfl
@[simp] theorem fl_next_bk (k : S' → R (Fl S L γ)) (g : L) : Fl.next k (.bk g : Fl S' L γ) = .ok (.bk g) := rfl
@[simp] theorem fl_after_nx (k : S' → R (Fl S L γ)) (s : S') : Fl.after k (.nx s) = k s := rfl
@[simp] theorem fl_after_rt (k : S' → R (Fl S L γ)) (g : γ) : Fl.after k (.rt g : Fl S' Empty γ) = .ok (.rt g) := rfl
@[simp] theorem fl_val_rt (d : D) : Fl.val (.rt d) = .ok d := rfl
@[simp] theorem fl_val_nx : Fl.val (.nx ()) = .ok .non := rfl
@[simp] theorem fl_valL_rt (d : List D) : Fl.valL (.rt d) = .ok d := rfl
@[simp] theorem fl_valC_rt {τ : Type} (d : D × τ) : Fl.valC (.rt d) = .ok d := rfl
@[simp] theorem fl_valC_nx {τ : Type} (d : τ) : Fl.valC (.nx d) = .ok (.non, d) := rfl
@[simp] theorem fl_valCL_rt {τ : Type} (d : List D × τ) : Fl.valCL (.rt d) = .ok d := rfl
@[simp] theorem turnK_nx (k : S → R (Fl S Empty γ)) (s : S) : turnK k (.nx s) = k s := rfl
@[simp] theorem turnK_ct (k : S → R (Fl S Empty γ)) (s : S) : turnK k (.ct s) = k s := rfl
@[simp] theorem turnK_bk (k : S → R (Fl S Empty γ)) (s : S) : turnK k (.bk s) = .ok (.nx s) := rfl
@[simp] theorem turnK_rt (k : S → R (Fl S Empty γ)) (g : γ) : turnK k (.rt g) = .ok (.rt g) := rfl
@[simp] theorem quiet_ok (a : α) : (R.ok a).quiet = .ok a := rfl
@[simp] theorem iteX_true {τ : Type} (t : τ) (r1 r2 : τ → R α) : iteX (true, t) r1 r2 = r1 t := rfl
@[simp] theorem iteX_false {τ : Type} (t : τ) (r1 r2 : τ → R α) : iteX (false, t) r1 r2 = r2 t := rfl
@[simp] theorem needR_some (d : D) (f : D → R α) : needR (some d) f = f d := rfl
@[simp] theorem ar0_ (f : R α) : ar0 f [] = f := rfl
@[simp] theorem ar1_ (f : D → R α) (a : D) : ar1 f [a] = f a := rfl
@[simp] theorem ar2_ (f : D → D → R α) (a b : D) : ar2 f [a, b] = f a b := rfl
@[simp] theorem ar3_ (f : D → D → D → R α) (a b c : D) : ar3 f [a, b, c] = f a b c := rfl
@[simp] theorem ar4_ (f : D → D → D → D → R α) (a b c d : D) : ar4 f [a, b, c, d] = f a b c d := rfl
@[simp] theorem ar5_ (f : D → D → D → D → D → R α) (a b c d e : D) : ar5 f [a, b, c, d, e] = f a b c d e := rfl
@[simp] theorem par2_ (K : D → D → R α) (a b : D) : par2 K [a, b] = K a b := rfl
@[simp] theorem par3_ (K : D → D → D → R α) (a b c : D) : par3 K [a, b, c] = K a b c := rfl
@[simp] theorem par2X_ {τ : Type} (K : D → D → τ → R α) (a b : D) (t : τ) : par2X K ([a, b], t) = K a b t := rfl
end

/-! ### operations -/
@[simp] theorem asB_bl (b : Bool) : (D.bl b).asB = .ok b := rfl
@[simp] theorem d_add (i j : Int) : D.add (.int i) (.int j) = .ok (.int (i + j)) := rfl
@[simp] theorem d_sub (i j : Int) : D.sub (.int i) (.int j) = .ok (.int (i - j)) := rfl
@[simp] theorem d_neg (i : Int) : D.neg (.int i) = .ok (.int (-i)) := rfl
@[simp] theorem d_lt (i j : Int) : D.lt (.int i) (.int j) = .ok (.bl (decide (i < j))) := rfl
@[simp] theorem d_le (i j : Int) : D.le (.int i) (.int j) = .ok (.bl (decide (i ≤ j))) := rfl
@[simp] theorem d_gt (i j : Int) : D.gt (.int i) (.int j) = .ok (.bl (decide (j < i))) := rfl
@[simp] theorem d_ge (i j : Int) : D.ge (.int i) (.int j) = .ok (.bl (decide (j ≤ i))) := rfl
@[simp] theorem len_tup (xs : List D) : D.len (.tup xs) = .ok (.int xs.length) := rfl
@[simp] theorem len_lst (xs : List D) : D.len (.lst xs) = .ok (.int xs.length) := rfl
@[simp] theorem d_toInt (i : Int) : D.toInt (.int i) = .ok (.int i) := rfl
@[simp] theorem d_abs (i : Int) : D.abs (.int i) = .ok (.int i.natAbs) := by
  unfold D.abs
  by_cases h : i < 0
  · simp only [if_pos h]; congr 2; omega
  · simp only [if_neg h]; congr 2; omega
@[simp] theorem d_min2 (i j : Int) : D.min2 (.int i) (.int j) = .ok (.int (min i j)) := by
  unfold D.min2
  by_cases h : j < i
  · simp only [if_pos h]; congr 2; omega
  · simp only [if_neg h]; congr 2; omega
@[simp] theorem d_max2 (i j : Int) : D.max2 (.int i) (.int j) = .ok (.int (max i j)) := by
  unfold D.max2
  by_cases h : j > i
  · simp only [if_pos h]; congr 2; omega
  · simp only [if_neg h]; congr 2; omega
@[simp] theorem toTup_lst (xs : List D) : D.toTup (.lst xs) = .ok (.tup xs) := rfl
@[simp] theorem toTup_tup (xs : List D) : D.toTup (.tup xs) = .ok (.tup xs) := rfl
@[simp] theorem toLst_lst (xs : List D) : D.toLst (.lst xs) = .ok xs := rfl
@[simp] theorem toLst_tup (xs : List D) : D.toLst (.tup xs) = .ok xs := rfl
@[simp] theorem itemsA_lst (xs : List D) : D.itemsA (.lst xs) = .ok xs := rfl
@[simp] theorem itemsA_tup (xs : List D) : D.itemsA (.tup xs) = .ok xs := rfl
@[simp] theorem itemsA_dct (kd : List (Key × D)) : D.itemsA (.dct kd) = .ok (D.keysK kd) := rfl
@[simp] theorem part_int (i : Int) : D.part (.int i) = .ok (some i) := rfl
@[simp] theorem unp2_ (a b : D) : D.unp2 (.tup [a, b]) = .ok (a, b) := rfl
@[simp] theorem unp3_ (a b c : D) : D.unp3 (.tup [a, b, c]) = .ok (a, b, c) := rfl
@[simp] theorem unp4_ (a b c d : D) : D.unp4 (.tup [a, b, c, d]) = .ok (a, b, c, d) := rfl
@[simp] theorem unT2_ (a b : D) : unT2 unN unN (.tup [a, b]) = .ok (a, b) := rfl
@[simp] theorem unT3_ (a b c : D) : unT3 unN unN unN (.tup [a, b, c]) = .ok (a, b, c) := rfl
@[simp] theorem unT4_ (a b c d : D) : unT4 unN unN unN unN (.tup [a, b, c, d]) = .ok (a, b, c, d) := rfl
theorem d_mul {i j : Int} (h : (-(2 ^ 64) < i ∧ i < 2 ^ 64) ∨ (-(2 ^ 64) < j ∧ j < 2 ^ 64)) : D.mul (.int i) (.int j) = .ok (.int (i * j)) := if_pos h
theorem mod_nat (i j : Nat) (h : 0 < j) : D.mod (I i) (I j) = .ok (I (i % j)) := by
  show (if (j : Int) ≠ 0 then R.ok (D.int ((i : Int).fmod j)) else .ub) = _
  rw [if_pos (by omega), Int.fmod_eq_emod_of_nonneg _ (by omega)]
  rfl
theorem fdiv_nat (i j : Nat) (h : 0 < j) (h2 : j < 1073741824) : D.fdiv (I i) (I j) = .ok (I (i / j)) := by
  unfold D.fdiv I
  simp only []
  rw [if_pos (.inl ⟨by omega, by omega⟩), Int.fdiv_eq_ediv_of_nonneg _ (by omega)]
  rfl
@[simp] theorem isi_int_int (i : Int) : D.isi "int" (.int i) = .ok (.bl true) := rfl
@[simp] theorem isi_int_bl (b : Bool) : D.isi "int" (.bl b) = .ok (.bl true) := rfl
@[simp] theorem isi_int_non : D.isi "int" .non = .ok (.bl false) := rfl
@[simp] theorem isi_int_str (x : Str) : D.isi "int" (.str x) = .ok (.bl false) := rfl
@[simp] theorem isi_int_tup (xs : List D) : D.isi "int" (.tup xs) = .ok (.bl false) := rfl
@[simp] theorem isi_int_lst (xs : List D) : D.isi "int" (.lst xs) = .ok (.bl false) := rfl
@[simp] theorem isi_bool_int (i : Int) : D.isi "bool" (.int i) = .ok (.bl false) := rfl
@[simp] theorem isi_bool_bl (b : Bool) : D.isi "bool" (.bl b) = .ok (.bl true) := rfl
@[simp] theorem isi_tuple_tup (xs : List D) : D.isi "tuple" (.tup xs) = .ok (.bl true) := rfl
@[simp] theorem isi_tuple_lst (xs : List D) : D.isi "tuple" (.lst xs) = .ok (.bl false) := rfl
@[simp] theorem isi_tuple_int (i : Int) : D.isi "tuple" (.int i) = .ok (.bl false) := rfl
@[simp] theorem isi_tuple_non : D.isi "tuple" .non = .ok (.bl false) := rfl
@[simp] theorem isi_tuple_bl (b : Bool) : D.isi "tuple" (.bl b) = .ok (.bl false) := rfl
@[simp] theorem isi_tuple_str (x : Str) : D.isi "tuple" (.str x) = .ok (.bl false) := rfl

/-! ### shapes -/
theorem dep_nil : PyData.depthAll [] = 0 := by simp only [PyData.depthAll]
theorem toPyL_map {ι : Type} (f : ι → D) : ∀ l : List ι, D.toPyL (l.map f) = l.map fun i => (f i).toPy
  | [] => by simp only [List.map_nil, D.toPyL]
  | i :: l => by simp only [List.map_cons, D.toPyL, toPyL_map f l]
theorem can_all {ι : Type} (f : ι → PyData) : ∀ l : List ι, (∀ i ∈ l, (f i).canLay0 = true) → PyData.canLayAll0 (l.map f) = true
  | [], _ => by simp only [List.map_nil, PyData.canLayAll0]
  | i :: l, h => by
    simp only [List.map_cons, PyData.canLayAll0, Bool.and_eq_true]
    exact ⟨h i (by simp), can_all f l fun j hj => h j (by simp [hj])⟩
theorem dep_all {ι : Type} (f : ι → PyData) (n : Nat) : ∀ l : List ι, (∀ i ∈ l, (f i).depth ≤ n) → PyData.depthAll (l.map f) ≤ n
  | [], _ => by simp only [List.map_nil, PyData.depthAll]; omega
  | i :: l, h => by
    simp only [List.map_cons, PyData.depthAll]
    have h1 := h i (by simp)
    have h2 := dep_all f n l fun j hj => h j (by simp [hj])
    omega
/-- flat to the depth n -/
def D.flat (n : Nat) (d : D) : Prop := d.toPy.canLay0 = true ∧ d.toPy.depth ≤ n
theorem flat_int (i : Int) (n : Nat) : D.flat n (.int i) := by
  constructor
  · simp only [D.toPy, PyData.canLay0]
  · simp only [D.toPy, PyData.depth]; omega
theorem flat_bl (i : Bool) (n : Nat) : D.flat n (.bl i) := by
  constructor
  · simp only [D.toPy, PyData.canLay0]
  · simp only [D.toPy, PyData.depth]; omega
theorem flat_non (n : Nat) : D.flat n .non := by
  constructor
  · simp only [D.toPy, PyData.canLay0]
  · simp only [D.toPy, PyData.depth]; omega
theorem flat_tup {n : Nat} {ι : Type} {f : ι → D} {l : List ι} (h : ∀ i ∈ l, (f i).flat n) : D.flat (n + 1) (.tup (l.map f)) := by
  constructor
  · simp only [D.toPy, PyData.canLay0, toPyL_map]
    exact can_all _ _ fun i hi => (h i hi).1
  · simp only [D.toPy, PyData.depth, toPyL_map]
    exact Nat.succ_le_succ (dep_all _ _ _ fun i hi => (h i hi).2)
theorem flat_lst {n : Nat} {ι : Type} {f : ι → D} {l : List ι} (h : ∀ i ∈ l, (f i).flat n) : D.flat (n + 1) (.lst (l.map f)) := by
  constructor
  · simp only [D.toPy, PyData.canLay0, toPyL_map]
    exact can_all _ _ fun i hi => (h i hi).1
  · simp only [D.toPy, PyData.depth, toPyL_map]
    exact Nat.succ_le_succ (dep_all _ _ _ fun i hi => (h i hi).2)
theorem D.flat.shp {n : Nat} {d : D} (h : D.flat n d) (hn : n ≤ 64) : d.shp = true := by
  unfold D.shp SeqAt.shaped
  rw [h.1, decide_eq_true (Nat.le_trans h.2 hn)]
  rfl
theorem sq_shp {n : Nat} {ι : Type} {f : ι → D} {l : List ι} (h : ∀ i ∈ l, (f i).flat n) (hn : n < 64) : D.sqShp (l.map f) = true := by
  have := (flat_lst h).shp (by omega)
  unfold D.shp at this
  unfold D.sqShp
  simpa only [D.toPy] using this
theorem eqvAll_map {ι : Type} (f : ι → PyData) (hf : ∀ i j, PyData.eqv (f i) (f j) = true → i = j) (hr : ∀ i, PyData.eqv (f i) (f i) = true) : ∀ l m : List ι, PyData.eqvAll (l.map f) (m.map f) = true ↔ l = m
  | [], [] => by simp [PyData.eqvAll]
  | [], _ :: _ => by simp [PyData.eqvAll]
  | _ :: _, [] => by simp [PyData.eqvAll]
  | i :: l, j :: m => by
    simp only [List.map_cons, PyData.eqvAll, Bool.and_eq_true, eqvAll_map f hf hr l m, List.cons.injEq]
    constructor
    · exact fun h => ⟨hf i j h.1, h.2⟩
    · rintro ⟨rfl, h⟩
      exact ⟨hr i, h⟩
/-- data that may be compared as it is written -/
structure EqOk {ι : Type} (n : Nat) (f : ι → D) : Prop where
  flat : ∀ i, (f i).flat n
  eqv : ∀ i j, D.eqv (f i) (f j) = true ↔ i = j
theorem EqOk.int : EqOk 0 D.int := ⟨fun i => flat_int i 0, fun i j => by unfold D.eqv; simp [D.toPy, PyData.eqv]⟩
theorem EqOk.nat : EqOk 0 I := ⟨fun i => flat_int i 0, fun i j => by unfold D.eqv; simp [D.toPy, PyData.eqv]; omega⟩
theorem EqOk.bool : EqOk 0 D.bl := ⟨fun i => flat_bl i 0, fun i j => by unfold D.eqv; simp [D.toPy, PyData.eqv]⟩
theorem EqOk.tup {ι : Type} {n : Nat} {f : ι → D} (h : EqOk n f) : EqOk (n + 1) fun l : List ι => D.tup (l.map f) :=
  ⟨fun l => flat_tup fun i _ => h.flat i, fun l m => by
    unfold D.eqv
    simp only [D.toPy, PyData.eqv, toPyL_map]
    exact eqvAll_map _ (fun i j e => (h.eqv i j).mp e) (fun i => (h.eqv i i).mpr rfl) l m⟩
theorem EqOk.lst {ι : Type} {n : Nat} {f : ι → D} (h : EqOk n f) : EqOk (n + 1) fun l : List ι => D.lst (l.map f) :=
  ⟨fun l => flat_lst fun i _ => h.flat i, fun l m => by
    unfold D.eqv
    simp only [D.toPy, PyData.eqv, toPyL_map]
    exact eqvAll_map _ (fun i j e => (h.eqv i j).mp e) (fun i => (h.eqv i i).mpr rfl) l m⟩
section
variable {ι : Type} [DecidableEq ι] {n : Nat} {f : ι → D}
theorem EqOk.dec (h : EqOk n f) (i j : ι) : D.eqv (f i) (f j) = decide (i = j) := by
  rw [Bool.eq_iff_iff, h.eqv, decide_eq_true_iff]
theorem EqOk.eq (h : EqOk n f) (i j : ι) (hn : n ≤ 64 := by omega) : D.eq (f i) (f j) = .ok (.bl (decide (i = j))) := by
  unfold D.eq
  rw [(h.flat i).shp hn, (h.flat j).shp hn, h.dec]
  rfl
theorem EqOk.ne (h : EqOk n f) (i j : ι) (hn : n ≤ 64 := by omega) : D.ne (f i) (f j) = .ok (.bl (!decide (i = j))) := by
  unfold D.ne
  rw [(h.flat i).shp hn, (h.flat j).shp hn, h.dec]
  rfl
theorem EqOk.inSq (h : EqOk n f) (i : ι) (l : List ι) : D.inSq (f i) (l.map f) = decide (i ∈ l) := by
  rw [Bool.eq_iff_iff, decide_eq_true_iff]
  unfold D.inSq
  rw [List.any_eq_true]
  constructor
  · rintro ⟨d, hd, e⟩
    obtain ⟨j, hj, rfl⟩ := List.mem_map.mp hd
    rwa [← (h.eqv j i).mp e]
  · exact fun hi => ⟨f i, List.mem_map.mpr ⟨i, hi, rfl⟩, (h.eqv i i).mpr rfl⟩
theorem EqOk.inT (h : EqOk n f) (i : ι) (l : List ι) (hn : n < 64 := by omega) : D.inA (f i) (.tup (l.map f)) = .ok (.bl (decide (i ∈ l))) := by
  have e : D.isIn (f i) (.tup (l.map f)) = if (f i).shp && D.sqShp (l.map f) then .ok (.bl ((f i).inSq (l.map f))) else .ub := by cases f i <;> rfl
  show D.isIn (f i) (.tup (l.map f)) = _
  rw [e, (h.flat i).shp (by omega), sq_shp (fun j _ => h.flat j) hn, h.inSq]
  rfl
theorem EqOk.inL (h : EqOk n f) (i : ι) (l : List ι) (hn : n < 64 := by omega) : D.inA (f i) (.lst (l.map f)) = .ok (.bl (decide (i ∈ l))) := by
  have e : D.isIn (f i) (.lst (l.map f)) = if (f i).shp && D.sqShp (l.map f) then .ok (.bl ((f i).inSq (l.map f))) else .ub := by cases f i <;> rfl
  show D.isIn (f i) (.lst (l.map f)) = _
  rw [e, (h.flat i).shp (by omega), sq_shp (fun j _ => h.flat j) hn, h.inSq]
  rfl
theorem EqOk.notInT (h : EqOk n f) (i : ι) (l : List ι) (hn : n < 64 := by omega) : D.notInA (f i) (.tup (l.map f)) = .ok (.bl (!decide (i ∈ l))) := by
  have e := h.inT i l hn
  have e2 : D.isIn (f i) (.tup (l.map f)) = .ok (.bl (decide (i ∈ l))) := e
  show D.notIn (f i) (.tup (l.map f)) = _
  unfold D.notIn
  rw [e2]
  rfl
theorem EqOk.notInL (h : EqOk n f) (i : ι) (l : List ι) (hn : n < 64 := by omega) : D.notInA (f i) (.lst (l.map f)) = .ok (.bl (!decide (i ∈ l))) := by
  have e := h.inL i l hn
  have e2 : D.isIn (f i) (.lst (l.map f)) = .ok (.bl (decide (i ∈ l))) := e
  show D.notIn (f i) (.lst (l.map f)) = _
  unfold D.notIn
  rw [e2]
  rfl
end
@[simp] theorem d_eq (i j : Int) : D.eq (.int i) (.int j) = .ok (.bl (decide (i = j))) := EqOk.int.eq i j
@[simp] theorem d_ne (i j : Int) : D.ne (.int i) (.int j) = .ok (.bl (!decide (i = j))) := EqOk.int.ne i j
@[simp] theorem eq_bl (i j : Bool) : D.eq (.bl i) (.bl j) = .ok (.bl (decide (i = j))) := EqOk.bool.eq i j
@[simp] theorem ne_bl (i j : Bool) : D.ne (.bl i) (.bl j) = .ok (.bl (!decide (i = j))) := EqOk.bool.ne i j

theorem flat_str {x : Str} (h : PyData.strOk x = true) (n : Nat) : D.flat n (.str x) := by
  constructor
  · simp only [D.toPy, PyData.canLay0]; exact h
  · simp only [D.toPy, PyData.depth]; omega
theorem eqv_str (x y : Str) : D.eqv (.str x) (.str y) = decide (x = y) := by
  unfold D.eqv
  simp only [D.toPy, PyData.eqv]
  rw [Bool.eq_iff_iff]
  simp
theorem eq_str {x y : Str} (hx : PyData.strOk x = true := by decide +kernel) (hy : PyData.strOk y = true := by decide +kernel) : D.eq (.str x) (.str y) = .ok (.bl (decide (x = y))) := by
  unfold D.eq
  rw [(flat_str hx 0).shp (by decide), (flat_str hy 0).shp (by decide), eqv_str]
  rfl
theorem ne_str {x y : Str} (hx : PyData.strOk x = true := by decide +kernel) (hy : PyData.strOk y = true := by decide +kernel) : D.ne (.str x) (.str y) = .ok (.bl (!decide (x = y))) := by
  unfold D.ne
  rw [(flat_str hx 0).shp (by decide), (flat_str hy 0).shp (by decide), eqv_str]
  rfl
/-! ### places -/
theorem atI_nat {α : Type} (xs : List α) (n : Nat) : atI xs (n : Int) = xs[n]? := by
  unfold atI ixN
  rw [if_pos (by omega)]
  by_cases h : n < xs.length
  · rw [if_pos (by omega)]; rfl
  · rw [if_neg (by omega)]
    simp [List.getElem?_eq_none (by omega : xs.length ≤ n)]
theorem ixN_nat {m n : Nat} (h : n < m) : ixN m (n : Int) = some n := by
  unfold ixN
  rw [if_pos (by omega), if_pos (by omega)]; rfl
theorem atI_last {α : Type} (xs : List α) (h : 0 < xs.length) : atI xs (-1) = xs[xs.length - 1]? := by
  unfold atI ixN
  rw [if_neg (by omega), if_pos (by omega)]
  show xs[((-1 : Int) + (xs.length : Int)).toNat]? = _
  congr 1
  omega
theorem ixA_tup {xs : List D} {n : Nat} {d : D} (h : xs[n]? = some d) : D.ixA (.tup xs) (I n) = .ok d := by
  show D.ix (.tup xs) (I n) = _
  unfold D.ix
  simp only [I, atI_nat, h]
theorem ixA_lst {xs : List D} {n : Nat} {d : D} (h : xs[n]? = some d) : D.ixA (.lst xs) (I n) = .ok d := by
  show D.ix (.lst xs) (I n) = _
  unfold D.ix
  simp only [I, atI_nat, h]
@[simp] theorem ixA_t0 (a : D) (r : List D) : D.ixA (.tup (a :: r)) (.int 0) = .ok a := ixA_tup (n := 0) rfl
@[simp] theorem ixA_t1 (a b : D) (r : List D) : D.ixA (.tup (a :: b :: r)) (.int 1) = .ok b := ixA_tup (n := 1) rfl
@[simp] theorem ixA_t2 (a b c : D) (r : List D) : D.ixA (.tup (a :: b :: c :: r)) (.int 2) = .ok c := ixA_tup (n := 2) rfl
@[simp] theorem ixA_t3 (a b c d : D) (r : List D) : D.ixA (.tup (a :: b :: c :: d :: r)) (.int 3) = .ok d := ixA_tup (n := 3) rfl
@[simp] theorem ixA_l0 (a : D) (r : List D) : D.ixA (.lst (a :: r)) (.int 0) = .ok a := ixA_lst (n := 0) rfl
@[simp] theorem ixA_l1 (a b : D) (r : List D) : D.ixA (.lst (a :: b :: r)) (.int 1) = .ok b := ixA_lst (n := 1) rfl
theorem ixA_last {xs : List D} {d : D} (h : xs[xs.length - 1]? = some d) : D.ixA (.tup xs) (.int (-1)) = .ok d := by
  have hl : 0 < xs.length := by
    cases xs with
    | nil => cases h
    | cons a r => simp
  show D.ix (.tup xs) (.int (-1)) = _
  unfold D.ix
  simp only [atI_last xs hl, h]
theorem setAt_nat {xs : List D} {n : Nat} {d : D} (h : n < xs.length) : D.setAt xs (I n) d = .ok (xs.set n d) := by
  show (match ixN xs.length (n : Int) with | some n => R.ok (xs.set n d) | none => .ub) = _
  rw [ixN_nat h]
@[simp] theorem setAt_0 (a : D) (r : List D) (d : D) : D.setAt (a :: r) (.int 0) d = .ok (d :: r) := by
  have := setAt_nat (xs := a :: r) (n := 0) (d := d) (by simp)
  exact this
@[simp] theorem setAt_1 (a b : D) (r : List D) (d : D) : D.setAt (a :: b :: r) (.int 1) d = .ok (a :: d :: r) := by
  have := setAt_nat (xs := a :: b :: r) (n := 1) (d := d) (by simp)
  exact this
theorem rangeD_nat (a n : Nat) : rangeD (a : Int) n = ((List.range n).map fun i => I (a + i)) := by
  unfold rangeD
  refine List.map_congr_left fun i _ => ?_
  simp [I]
theorem rangeD_0 (n : Nat) : rangeD 0 n = (List.range n).map I := by
  have := rangeD_nat 0 n
  simpa using this
theorem range1_nat (n : Nat) (h : n < 2 ^ 62) : D.range1 (I n) = .ok ((List.range n).map I) := by
  unfold D.range1
  simp only [I]
  rw [if_pos (by omega), Int.toNat_natCast, rangeD_0]
theorem range2_nat (a b : Nat) (h1 : a < 2 ^ 62) (h2 : b < 2 ^ 62) : D.range2 (I a) (I b) = .ok ((List.range (b - a)).map fun i => I (a + i)) := by
  unfold D.range2
  simp only [I]
  rw [if_pos (by omega), show ((b : Int) - a).toNat = b - a by omega, rangeD_nat]
theorem mkT_ok {xs : List D} (h : xs.length ≤ sizeLine) : D.mkT xs = .ok (.tup xs) := if_pos h
theorem mkL_ok {xs : List D} (h : xs.length ≤ sizeLine) : D.mkL xs = .ok xs := if_pos h
theorem sz {n : Nat} (h : n ≤ 1000000) : n ≤ sizeLine := by unfold sizeLine; omega
theorem szl {n : Nat} (h : n ≤ 1000000) : n < sizeLine := by unfold sizeLine; omega
@[simp] theorem mkT_0 : D.mkT [] = .ok (.tup []) := rfl
@[simp] theorem mkL_0 : D.mkL [] = .ok [] := rfl
@[simp] theorem mkT_1 (a : D) : D.mkT [a] = .ok (.tup [a]) := mkT_ok (sz (by simp))
@[simp] theorem mkL_1 (a : D) : D.mkL [a] = .ok [a] := mkL_ok (sz (by simp))
@[simp] theorem mkT_2 (a b : D) : D.mkT [a, b] = .ok (.tup [a, b]) := mkT_ok (sz (by simp))
@[simp] theorem mkL_2 (a b : D) : D.mkL [a, b] = .ok [a, b] := mkL_ok (sz (by simp))
@[simp] theorem mkT_3 (a b c : D) : D.mkT [a, b, c] = .ok (.tup [a, b, c]) := mkT_ok (sz (by simp))
@[simp] theorem mkL_3 (a b c : D) : D.mkL [a, b, c] = .ok [a, b, c] := mkL_ok (sz (by simp))
@[simp] theorem mkT_4 (a b c d : D) : D.mkT [a, b, c, d] = .ok (.tup [a, b, c, d]) := mkT_ok (sz (by simp))
@[simp] theorem mkL_4 (a b c d : D) : D.mkL [a, b, c, d] = .ok [a, b, c, d] := mkL_ok (sz (by simp))
@[simp] theorem mkL_5 (a b c d e : D) : D.mkL [a, b, c, d, e] = .ok [a, b, c, d, e] := mkL_ok (sz (by simp))
@[simp] theorem mkL_6 (a b c d e f : D) : D.mkL [a, b, c, d, e, f] = .ok [a, b, c, d, e, f] := mkL_ok (sz (by simp))
@[simp] theorem mkL_7 (a b c d e f g : D) : D.mkL [a, b, c, d, e, f, g] = .ok [a, b, c, d, e, f, g] := mkL_ok (sz (by simp))
@[simp] theorem mkL_8 (a b c d e f g h : D) : D.mkL [a, b, c, d, e, f, g, h] = .ok [a, b, c, d, e, f, g, h] := mkL_ok (sz (by simp))
@[simp] theorem all_bl (l : List Bool) : D.all (.lst (l.map D.bl)) = .ok (.bl (l.all id)) := by
  show (match asBools (l.map D.bl) with | some ns => R.ok (D.bl (ns.all id)) | none => .ub) = _
  rw [asBools_map]
@[simp] theorem any_bl (l : List Bool) : D.any (.lst (l.map D.bl)) = .ok (.bl (l.any id)) := by
  show (match asBools (l.map D.bl) with | some ns => R.ok (D.bl (ns.any id)) | none => .ub) = _
  rw [asBools_map]
@[simp] theorem d_sum (l : List Int) : D.sum (.lst (l.map D.int)) = .ok (.int l.sum) := by
  show (match asInts (l.map D.int) with | some ns => R.ok (D.int ns.sum) | none => .ub) = _
  rw [asInts_map]
theorem add_lst {xs ys : List D} (h : xs.length + ys.length ≤ sizeLine) : D.add (.lst xs) (.lst ys) = .ok (.lst (xs ++ ys)) := if_pos h
theorem add_tup {xs ys : List D} (h : xs.length + ys.length ≤ sizeLine) : D.add (.tup xs) (.tup ys) = .ok (.tup (xs ++ ys)) := if_pos h
theorem enum_lst {ι : Type} (l : List ι) (f : ι → D) : D.enum (.lst (l.map f)) = .ok (l.zipIdx.map fun q => .tup [I q.2, f q.1]) := by
  show R.ok (pairD (rangeD 0 (l.map f).length) (l.map f)) = _
  congr 1
  rw [List.length_map, rangeD_0]
  have key : ∀ (l : List ι) (k : Nat), pairD ((List.range' k l.length).map I) (l.map f) = (l.zipIdx k).map fun q => .tup [I q.2, f q.1] := by
    intro l
    induction l with
    | nil => intro k; rfl
    | cons a r ih =>
      intro k
      rw [List.length_cons, List.range'_succ, List.map_cons, List.map_cons, List.zipIdx_cons, List.map_cons, pairD, ih]
  rw [List.range_eq_range']
  exact key l 0
theorem enum_tup {ι : Type} (l : List ι) (f : ι → D) : D.enum (.tup (l.map f)) = .ok (l.zipIdx.map fun q => .tup [I q.2, f q.1]) := enum_lst l f
theorem pairD_map {ι κ : Type} (f : ι → D) (g : κ → D) : ∀ (l : List ι) (m : List κ), pairD (l.map f) (m.map g) = (l.zip m).map fun q => .tup [f q.1, g q.2]
  | [], m => by simp [pairD]
  | i :: l, [] => by simp [pairD]
  | i :: l, j :: m => by simp [pairD, pairD_map f g l m]
theorem cutD_from {xs : List D} (k : Nat) : cutD xs (some (k : Int)) none = xs.drop k := by
  unfold cutD
  rw [HT.sIx_nat, HT.sIx_none]
  by_cases h : k ≤ xs.length
  · rw [Nat.min_eq_left h, List.take_of_length_le (by simp)]
  · rw [Nat.min_eq_right (by omega), List.drop_of_length_le (by omega), List.drop_of_length_le (by omega)]
    simp
theorem sl_tup_from {xs : List D} (k : Nat) : D.sl (.tup xs) (some (k : Int)) none = .ok (.tup (xs.drop k)) := by
  show R.ok (D.tup (cutD xs (some (k : Int)) none)) = _
  rw [cutD_from]
theorem sl_lst_from {xs : List D} (k : Nat) : D.sl (.lst xs) (some (k : Int)) none = .ok (.lst (xs.drop k)) := by
  show R.ok (D.lst (cutD xs (some (k : Int)) none)) = _
  rw [cutD_from]

/-! ### comprehensions, loops -/
section
variable {α ι : Type} {un : D → R α}
theorem lcR_ok {ft : α → R Bool} {fe : α → R D} (xs : List ι) (e : ι → D) (a : ι → α) (p : ι → Bool) (g : ι → D) (hl : xs.length ≤ sizeLine) (hun : ∀ i ∈ xs, un (e i) = .ok (a i)) (hft : ∀ i ∈ xs, ft (a i) = .ok (p i)) (hfe : ∀ i ∈ xs, p i = true → fe (a i) = .ok (g i)) :
    lcR un ft fe (xs.map e) = .ok ((xs.filter p).map g) := by
  unfold lcR
  rw [List.length_map, if_pos hl]
  clear hl
  induction xs with
  | nil => rfl
  | cons x xs ih =>
    rw [List.map_cons]
    show ((lcG un ft fe (e x)).bind fun o => (lcL (lcG un ft fe) (xs.map e)).bind fun r => .ok (o ++ r)) = _
    rw [ih (fun i hi => hun i (by simp [hi])) (fun i hi => hft i (by simp [hi])) fun i hi => hfe i (by simp [hi])]
    unfold lcG
    rw [hun x (by simp), R.ok_bind, hft x (by simp), R.ok_bind]
    cases hp : p x with
    | true =>
      rw [if_pos rfl, hfe x (by simp) hp, List.filter_cons_of_pos hp]
      rfl
    | false =>
      rw [if_neg (by simp), List.filter_cons_of_neg (by simp [hp])]
      rfl
/-- .. all items -/
theorem lcR_all {ft : α → R Bool} {fe : α → R D} (xs : List ι) (e : ι → D) (a : ι → α) (g : ι → D) (hl : xs.length ≤ sizeLine) (hun : ∀ i ∈ xs, un (e i) = .ok (a i)) (hft : ∀ i ∈ xs, ft (a i) = .ok true) (hfe : ∀ i ∈ xs, fe (a i) = .ok (g i)) :
    lcR un ft fe (xs.map e) = .ok (xs.map g) := by
  have := lcR_ok xs e a (fun _ => true) g hl hun hft fun i hi _ => hfe i hi
  rwa [List.filter_eq_self.mpr (fun _ _ => rfl)] at this
theorem forL_nx {σ S γ : Type} {f : S → α → R (Fl S S γ)} (xs : List ι) (e : ι → D) (a : ι → α) (es : σ → S) (g : σ → ι → σ) (P : σ → Prop) (hun : ∀ i ∈ xs, un (e i) = .ok (a i))
    (hf : ∀ i ∈ xs, ∀ s, P s → f (es s) (a i) = .ok (.nx (es (g s i))) ∧ P (g s i)) (s0 : σ) (h0 : P s0) : forL un f (xs.map e) (es s0) = .ok (.nx (es (xs.foldl g s0))) ∧ P (xs.foldl g s0) := by
  induction xs generalizing s0 with
  | nil => exact ⟨rfl, h0⟩
  | cons x xs ih =>
    obtain ⟨h1, h2⟩ := hf x (by simp) s0 h0
    obtain ⟨h3, h4⟩ := ih (fun i hi => hun i (by simp [hi])) (fun i hi => hf i (by simp [hi])) (g s0 x) h2
    refine ⟨?_, h4⟩
    rw [List.map_cons]
    show ((un (e x)).bind fun q => (f (es s0) q).bind (turnK (forL un f (xs.map e)))) = _
    rw [hun x (by simp), R.ok_bind, h1, R.ok_bind, turnK_nx, h3]
    rfl
/-- some state with the wished property -/
theorem forL_ex {S γ : Type} {f : S → α → R (Fl S S γ)} (xs : List ι) (e : ι → D) (a : ι → α) (Q : Nat → S → Prop) (hun : ∀ i ∈ xs, un (e i) = .ok (a i))
    (hf : ∀ k i, xs[k]? = some i → ∀ s, Q k s → ∃ s', f s (a i) = .ok (.nx s') ∧ Q (k + 1) s') (s0 : S) (h0 : Q 0 s0) : ∃ s', forL un f (xs.map e) s0 = .ok (.nx s') ∧ Q xs.length s' := by
  induction xs generalizing s0 Q with
  | nil => exact ⟨s0, rfl, h0⟩
  | cons x xs ih =>
    obtain ⟨s1, h1, h2⟩ := hf 0 x rfl s0 h0
    obtain ⟨s2, h3, h4⟩ := ih (fun k => Q (k + 1)) (fun i hi => hun i (by simp [hi])) (fun k i hi s hs => hf (k + 1) i (by simpa using hi) s hs) s1 h2
    refine ⟨s2, ?_, h4⟩
    rw [List.map_cons]
    show ((un (e x)).bind fun q => (f s0 q).bind (turnK (forL un f (xs.map e)))) = _
    rw [hun x (by simp), R.ok_bind, h1, R.ok_bind, turnK_nx, h3]
/-- a comprehension whose cells change: some items -/
theorem lcRX_ex {τ : Type} {ft : α → τ → R (Bool × τ)} {fe : α → τ → R (D × τ)} (xs : List ι) (e : ι → D) (a : ι → α) (P : ι → D → Prop) (Q : τ → Prop) (hl : xs.length ≤ sizeLine) (hun : ∀ i ∈ xs, un (e i) = .ok (a i))
    (hf : ∀ i ∈ xs, ∀ t, Q t → ∃ d t' , ft (a i) t = .ok (true, t) ∧ fe (a i) t = .ok (d, t') ∧ P i d ∧ Q t') (t0 : τ) (h0 : Q t0) :
    ∃ g : List D, ∃ t', lcRX un ft fe (xs.map e) t0 = .ok (g, t') ∧ g.length = xs.length ∧ (∀ (k : Nat) i d, xs[k]? = some i → g[k]? = some d → P i d) ∧ Q t' := by
  unfold lcRX
  rw [List.length_map, if_pos hl]
  clear hl
  induction xs generalizing t0 with
  | nil => exact ⟨[], t0, rfl, rfl, fun k i d h => by simp at h, h0⟩
  | cons x xs ih =>
    obtain ⟨d, t1, h1, h2, h3, h4⟩ := hf x (by simp) t0 h0
    obtain ⟨g, t2, h5, h6, h7, h8⟩ := ih (fun i hi => hun i (by simp [hi])) (fun i hi => hf i (by simp [hi])) t1 h4
    refine ⟨d :: g, t2, ?_, by simp [h6], fun k i d' hk hd => ?_, h8⟩
    · rw [List.map_cons]
      show ((lcGX un ft fe (e x) t0).bind fun o => (lcLX (lcGX un ft fe) (xs.map e) o.2).bind fun r => .ok (o.1 ++ r.1, r.2)) = _
      unfold lcGX
      rw [hun x (by simp), R.ok_bind, h1, R.ok_bind, if_pos rfl, h2]
      show ((lcLX (lcGX un ft fe) (xs.map e) t1).bind fun r => R.ok ([d] ++ r.1, r.2)) = _
      rw [h5]
      rfl
    · cases k with
      | zero => simp at hk hd; subst hk hd; exact h3
      | succ k => exact h7 k i d' (by simpa using hk) (by simpa using hd)
/-- .. a part of the items -/
theorem lcRX_sub {τ : Type} {ft : α → τ → R (Bool × τ)} {fe : α → τ → R (D × τ)} (xs : List ι) (e : ι → D) (a : ι → α) (Q : τ → Prop) (hl : xs.length ≤ sizeLine) (hun : ∀ i ∈ xs, un (e i) = .ok (a i))
    (hf : ∀ i ∈ xs, ∀ t, Q t → ∃ b t', ft (a i) t = .ok (b, t') ∧ Q t') (he : ∀ i ∈ xs, ∀ t, fe (a i) t = .ok (e i, t)) (t0 : τ) (h0 : Q t0) :
    ∃ ys : List ι, ∃ t', lcRX un ft fe (xs.map e) t0 = .ok (ys.map e, t') ∧ ys.Sublist xs ∧ Q t' := by
  unfold lcRX
  rw [List.length_map, if_pos hl]
  clear hl
  induction xs generalizing t0 with
  | nil => exact ⟨[], t0, rfl, .slnil, h0⟩
  | cons x xs ih =>
    obtain ⟨b, t1, h1, h4⟩ := hf x (by simp) t0 h0
    obtain ⟨g, t2, h5, h6, h8⟩ := ih (fun i hi => hun i (by simp [hi])) (fun i hi => hf i (by simp [hi])) (fun i hi => he i (by simp [hi])) t1 h4
    refine ⟨if b then x :: g else g, t2, ?_, ?_, h8⟩
    · rw [List.map_cons]
      show ((lcGX un ft fe (e x) t0).bind fun o => (lcLX (lcGX un ft fe) (xs.map e) o.2).bind fun r => .ok (o.1 ++ r.1, r.2)) = _
      unfold lcGX
      rw [hun x (by simp), R.ok_bind, h1, R.ok_bind]
      cases b with
      | true =>
        rw [if_pos rfl, he x (by simp)]
        show ((lcLX (lcGX un ft fe) (xs.map e) t1).bind fun r => R.ok ([e x] ++ r.1, r.2)) = _
        rw [h5]
        rfl
      | false =>
        rw [if_neg (by simp)]
        show ((lcLX (lcGX un ft fe) (xs.map e) t1).bind fun r => R.ok ([] ++ r.1, r.2)) = _
        rw [h5]
        rfl
    · cases b with
      | true => exact .cons₂ _ h6
      | false => exact .cons _ h6
end
end DL
namespace DL
open PySem PySem.Spec PyProof.Rows L2

/-! ### rules as typed data -/
structure Ru where
  base : Nat
  top : Nat
  rows : List (List Nat)
  good : List Nat
abbrev TN (l : List Nat) : D := .tup (l.map I)
abbrev TR (l : List (List Nat)) : D := .tup (l.map TN)
def Ru.d (r : Ru) : D := .tup [I r.base, I r.top, TR r.rows, TN r.good]
def Ru.row (r : Ru) (s : Nat) : List Nat := r.rows.getD s []
def Ru.step (r : Ru) (s d : Nat) : Nat := (r.row s).getD d 0
structure Ru.Ok (r : Ru) : Prop where
  b1 : 2 ≤ r.base
  b2 : r.base ≤ 4
  t1 : r.base ≤ r.top + 1
  t2 : r.top ≤ r.base + 1
  m1 : 1 ≤ r.rows.length
  m2 : r.rows.length ≤ 5
  len : ∀ w ∈ r.rows, w.length = r.top + 1
  ent : ∀ w ∈ r.rows, ∀ x ∈ w, x < r.rows.length
  asc : r.good.Pairwise (· < ·)
  gl : ∀ x ∈ r.good, x < r.rows.length
  zero : ∀ i, i < r.rows.length → (r.step i 0 ∈ r.good ↔ i ∈ r.good)
section
variable {r : Ru}
theorem Ru.Ok.row (h : r.Ok) {s : Nat} (hs : s < r.rows.length) : r.rows[s]? = some (r.row s) := by
  unfold Ru.row
  rw [List.getD_eq_getElem?_getD, List.getElem?_eq_getElem hs]; rfl
theorem Ru.Ok.row_mem (h : r.Ok) {s : Nat} (hs : s < r.rows.length) : r.row s ∈ r.rows := List.mem_of_getElem? (h.row hs)
theorem Ru.Ok.row_len (h : r.Ok) {s : Nat} (hs : s < r.rows.length) : (r.row s).length = r.top + 1 := h.len _ (h.row_mem hs)
theorem Ru.Ok.step_get (h : r.Ok) {s d : Nat} (hs : s < r.rows.length) (hd : d ≤ r.top) : (r.row s)[d]? = some (r.step s d) := by
  unfold Ru.step
  have := h.row_len hs
  rw [List.getD_eq_getElem?_getD, List.getElem?_eq_getElem (by omega)]; rfl
theorem Ru.Ok.step_lt (h : r.Ok) {s d : Nat} (hs : s < r.rows.length) (hd : d ≤ r.top) : r.step s d < r.rows.length := h.ent _ (h.row_mem hs) _ (List.mem_of_getElem? (h.step_get hs hd))
theorem Ru.Ok.ix1 (h : r.Ok) {s : Nat} (hs : s < r.rows.length) : D.ixA (TR r.rows) (I s) = .ok (TN (r.row s)) := ixA_tup (by rw [List.getElem?_map, h.row hs]; rfl)
theorem Ru.Ok.ix2 (h : r.Ok) {s d : Nat} (hs : s < r.rows.length) (hd : d ≤ r.top) : D.ixA (TN (r.row s)) (I d) = .ok (I (r.step s d)) := ixA_tup (by rw [List.getElem?_map, h.step_get hs hd]; rfl)
theorem asc_lt {n : Nat} : ∀ {l : List Nat}, l.Pairwise (· < ·) → (∀ x ∈ l, x < n) → l.length ≤ n := by
  intro l hp hl
  have : l.Sublist (List.range n) := by
    induction n generalizing l with
    | zero =>
      cases l with
      | nil => exact .slnil
      | cons a r => exact absurd (hl a (by simp)) (by omega)
    | succ n ih =>
      rw [List.range_succ]
      by_cases hn : n ∈ l
      · obtain ⟨s, t, rfl⟩ := List.append_of_mem hn
        rw [List.pairwise_append] at hp
        obtain ⟨h1, h2, h3⟩ := hp
        have ht : t = [] := by
          cases t with
          | nil => rfl
          | cons a r =>
            have z1 := (List.pairwise_cons.mp h2).1 a (by simp)
            have z2 := hl a (by simp)
            omega
        subst ht
        exact (ih h1 fun x hx => h3 x hx n (by simp)).append (List.Sublist.refl _)
      · have := ih hp fun x hx => by
          have z := hl x hx
          have : x ≠ n := fun e => hn (e ▸ hx)
          omega
        exact this.trans (List.sublist_append_left _ _)
  simpa using this.length_le
theorem Ru.Ok.gl5 (h : r.Ok) : r.good.length ≤ r.rows.length := asc_lt h.asc h.gl
end
/-! ### the rules of the laws -/
def kn1 : Ru := ⟨2, 2, [[0, 0, 1], [0, 1, 2], [2, 2, 2]], [0, 1]⟩
def kn2 : Ru := ⟨2, 1, [[0, 0]], [0]⟩
def kn3 : Ru := ⟨2, 2, [[0, 0, 0]], [0]⟩
def kn4 : Ru := ⟨2, 1, [[0, 1], [0, 2], [2, 2]], [0, 1]⟩
def Ru.okB (r : Ru) : Bool := decide (2 ≤ r.base) && decide (r.base ≤ 4) && decide (r.base ≤ r.top + 1) && decide (r.top ≤ r.base + 1) && decide (1 ≤ r.rows.length) && decide (r.rows.length ≤ 5) && r.rows.all (fun w => decide (w.length = r.top + 1)) && r.rows.all (fun w => w.all fun x => decide (x < r.rows.length)) && decide (r.good.Pairwise (· < ·)) && r.good.all (fun x => decide (x < r.rows.length)) && (List.range r.rows.length).all fun i => decide (r.step i 0 ∈ r.good ↔ i ∈ r.good)
theorem Ru.ok_of {r : Ru} (h : r.okB = true) : r.Ok := by
  unfold Ru.okB at h
  simp only [Bool.and_eq_true, decide_eq_true_eq, List.all_eq_true, List.mem_range] at h
  obtain ⟨⟨⟨⟨⟨⟨⟨⟨⟨⟨h1, h2⟩, h3⟩, h4⟩, h5⟩, h6⟩, h7⟩, h8⟩, h9⟩, h10⟩, h11⟩ := h
  exact ⟨h1, h2, h3, h4, h5, h6, h7, h8, h9, h10, h11⟩
theorem kn1_ok : kn1.Ok := Ru.ok_of (by decide)
theorem kn2_ok : kn2.Ok := Ru.ok_of (by decide)
theorem kn3_ok : kn3.Ok := Ru.ok_of (by decide)
theorem kn4_ok : kn4.Ok := Ru.ok_of (by decide)
/-! ### sources -/
def Sr (c : List D) : Prop := ∃ a b : Int, 0 ≤ a ∧ 0 ≤ b ∧ c = [.int a, .int b]
theorem d_mod {i j : Int} (h : j ≠ 0) : D.mod (.int i) (.int j) = .ok (.int (i.fmod j)) := if_pos h
theorem d_fdiv {i j : Int} (h : j ≠ 0) (h2 : j.natAbs < 1073741824) : D.fdiv (.int i) (.int j) = .ok (.int (i.fdiv j)) := if_pos (.inl ⟨h, h2⟩)
theorem d_fdivW {i j : Int} (h : 0 < j) {b : Nat} (hb : j.natAbs < 2 ^ b) (h0 : 0 < b) (h9 : b ≤ 9000) : D.fdiv (.int i) (.int j) = .ok (.int (i.fdiv j)) := if_pos (.inr (wide_div h hb h0 h9))
theorem fmod_ex (x : Int) {n : Int} (h : 0 < n) : ∃ v : Nat, (v : Int) < n ∧ x.fmod n = v := by
  have e : x.fmod n = x % n := Int.fmod_eq_emod_of_nonneg _ (by omega)
  have h1 := Int.emod_nonneg x (by omega : n ≠ 0)
  have h2 := Int.emod_lt_of_pos x h
  obtain ⟨v, hv⟩ := Int.eq_ofNat_of_zero_le h1
  exact ⟨v, by omega, by rw [e, hv]⟩
theorem fdiv_ge {x n : Int} (hx : 0 ≤ x) (h : 0 < n) : 0 ≤ x.fdiv n := by
  rw [Int.fdiv_eq_ediv_of_nonneg _ (by omega)]
  exact Int.ediv_nonneg hx (by omega)
theorem d_pow {i j : Int} (h : 0 ≤ j ∧ j ≤ 1000000 ∧ i.natAbs < 2 ^ 64) : D.pow (.int i) (.int j) = .ok (.int (i ^ j.toNat)) := if_pos h
theorem pow10_ : D.pow (.int 10) (.int 18) = .ok (.int 1000000000000000000) := d_pow (by decide)
theorem pow10 : ∃ B : Int, 0 < B ∧ D.pow (.int 10) (.int 18) = .ok (.int B) := ⟨_, by decide, pow10_⟩
/-! ### answers with a property -/
def R.has {α : Type} (r : R α) (P : α → Prop) : Prop := ∃ a, r = .ok a ∧ P a
section
variable {α β : Type} {r : R α} {P : α → Prop} {k : α → R β} {Q : β → Prop}
theorem R.has_ok {a : α} (h : P a) : (R.ok a).has P := ⟨a, rfl, h⟩
theorem R.has_bind (h : r.has P) (hk : ∀ a, P a → (k a).has Q) : (r.bind k).has Q := by
  obtain ⟨a, rfl, ha⟩ := h
  exact hk a ha
theorem R.has_map {g : α → β} (h : r.has fun a => Q (g a)) : (r.map g).has Q := by
  obtain ⟨a, rfl, ha⟩ := h
  exact ⟨g a, rfl, ha⟩
theorem R.has_mono {P' : α → Prop} (h : r.has P) (hp : ∀ a, P a → P' a) : r.has P' := by
  obtain ⟨a, e, ha⟩ := h
  exact ⟨a, e, hp a ha⟩
theorem R.has_eq {a : α} (h : r.has fun b => b = a) : r = .ok a := by
  obtain ⟨b, e, rfl⟩ := h
  exact e
theorem R.has_of {a : α} (h : r = .ok a) (hp : P a) : r.has P := ⟨a, h, hp⟩
end
section
variable {α ι S γ : Type} {un : D → R α} {f : S → α → R (Fl S S γ)}
theorem forL_has (xs : List ι) (e : ι → D) (a : ι → α) (Q : Nat → S → Prop) (hun : ∀ i ∈ xs, un (e i) = .ok (a i))
    (hf : ∀ k i, xs[k]? = some i → ∀ s, Q k s → (f s (a i)).has fun fl => ∃ s', fl = .nx s' ∧ Q (k + 1) s') {s0 : S} (h0 : Q 0 s0) : (forL un f (xs.map e) s0).has fun fl => ∃ s', fl = .nx s' ∧ Q xs.length s' := by
  obtain ⟨s', h1, h2⟩ := forL_ex (f := f) xs e a Q hun (fun k i hi s hs => by
    obtain ⟨fl, h3, s', rfl, h4⟩ := hf k i hi s hs
    exact ⟨s', h3, h4⟩) s0 h0
  exact ⟨_, h1, s', rfl, h2⟩
theorem lcRX_has {τ : Type} {ft : α → τ → R (Bool × τ)} {fe : α → τ → R (D × τ)} (xs : List ι) (e : ι → D) (a : ι → α) (P : ι → D → Prop) (Q : τ → Prop) (hl : xs.length ≤ sizeLine) (hun : ∀ i ∈ xs, un (e i) = .ok (a i))
    (hft : ∀ i ∈ xs, ∀ t, Q t → ft (a i) t = .ok (true, t)) (hf : ∀ i ∈ xs, ∀ t, Q t → (fe (a i) t).has fun q => P i q.1 ∧ Q q.2) {t0 : τ} (h0 : Q t0) :
    (lcRX un ft fe (xs.map e) t0).has fun q => q.1.length = xs.length ∧ (∀ (k : Nat) i d, xs[k]? = some i → q.1[k]? = some d → P i d) ∧ Q q.2 := by
  obtain ⟨g, t', h1, h2, h3, h4⟩ := lcRX_ex (ft := ft) (fe := fe) xs e a P Q hl hun (fun i hi t ht => by
    obtain ⟨q, h5, h6, h7⟩ := hf i hi t ht
    exact ⟨q.1, q.2, hft i hi t ht, h5, h6, h7⟩) t0 h0
  exact ⟨_, h1, h2, h3, h4⟩
theorem lcRX_part {τ : Type} {ft : α → τ → R (Bool × τ)} {fe : α → τ → R (D × τ)} (xs : List ι) (e : ι → D) (a : ι → α) (Q : τ → Prop) (hl : xs.length ≤ sizeLine) (hun : ∀ i ∈ xs, un (e i) = .ok (a i))
    (hf : ∀ i ∈ xs, ∀ t, Q t → (ft (a i) t).has fun q => Q q.2) (he : ∀ i ∈ xs, ∀ t, fe (a i) t = .ok (e i, t)) {t0 : τ} (h0 : Q t0) :
    (lcRX un ft fe (xs.map e) t0).has fun q => ∃ ys : List ι, q.1 = ys.map e ∧ ys.Sublist xs ∧ Q q.2 := by
  obtain ⟨g, t', h1, h2, h3⟩ := lcRX_sub (ft := ft) (fe := fe) xs e a Q hl hun (fun i hi t ht => by
    obtain ⟨q, h5, h7⟩ := hf i hi t ht
    exact ⟨q.1, q.2, h5, h7⟩) he t0 h0
  exact ⟨_, h1, g, rfl, h2, h3⟩
end
/-! ### lists of lists -/
theorem nats_of {ds : List D} {P : Nat → Prop} (h : ∀ d ∈ ds, ∃ x, d = I x ∧ P x) : ∃ w : List Nat, ds = w.map I ∧ ∀ x ∈ w, P x := by
  induction ds with
  | nil => exact ⟨[], rfl, fun x hx => absurd hx (by simp)⟩
  | cons d ds ih =>
    obtain ⟨x, rfl, hx⟩ := h d (by simp)
    obtain ⟨w, rfl, hw⟩ := ih fun e he => h e (by simp [he])
    exact ⟨x :: w, rfl, fun y hy => by
      rcases List.mem_cons.mp hy with rfl | hy
      · exact hx
      · exact hw y hy⟩
theorem mem_of_ix {ι : Type} {xs : List ι} {g : List D} {P : ι → D → Prop} (hl : g.length = xs.length) (h : ∀ (k : Nat) i d, xs[k]? = some i → g[k]? = some d → P i d) : ∀ d ∈ g, ∃ i ∈ xs, P i d := fun d hd => by
  obtain ⟨k, hk, e⟩ := List.mem_iff_getElem.mp hd
  exact ⟨xs[k], List.getElem_mem _, h k _ d (List.getElem?_eq_getElem (by omega)) (by rw [List.getElem?_eq_getElem hk, e])⟩
theorem apLL_ok {τ : Type} {xss : List (List D)} {d : List D × τ} (h : xss.length ≤ 1000000) : apLL xss d = .ok (xss ++ [d.1], d.2) := by
  unfold apLL roomN
  rw [if_pos (szl h)]
  rfl
theorem ixLL_ok {xss : List (List D)} {k : Nat} {xs : List D} (h : xss[k]? = some xs) : D.ixLL xss (I k) = .ok (.lst xs) := by
  unfold D.ixLL
  simp only [I, atI_nat, h]
theorem setLL_ok {xss : List (List D)} {k j : Nat} {xs : List D} {d : D} (h : xss[k]? = some xs) (hj : j < xs.length) : D.setLL xss (I k) (I j) d = .ok (xss.set k (xs.set j d)) := by
  unfold D.setLL
  simp only [I, ixN_nat (List.getElem?_eq_some_iff.mp h).1, h]
  have := setAt_nat (d := d) hj
  simp only [I] at this
  rw [this]
  rfl
theorem setLLX_ok {τ : Type} {xss : List (List D)} {k j : Nat} {j' : Int} {xs : List D} {d : D × τ} (hj' : j' = j) (h : xss[k]? = some xs) (hj : j < xs.length) : setLLX xss (fun _ => .ok (I k)) (fun _ => .ok (.int j')) d = .ok (xss.set k (xs.set j d.1), d.2) := by
  subst hj'
  unfold setLLX
  rw [R.ok_bind, ixLL_ok h, R.ok_bind, R.ok_bind]
  have := setLL_ok (d := d.1) h hj
  simp only [I] at this
  simp only [I]
  rw [this]
  rfl
end DL
namespace DL
open PySem PySem.Spec PyProof.Rows L2

/-! ### all rows of digits -/
def Ru.led (r : Ru) (l : List Nat) : Nat := l.foldl r.step 0
def Ru.lets (r : Ru) (l : List Nat) : Bool := decide (r.led l ∈ r.good)
def allS (n : Nat) : Nat → List (List Nat)
  | 0 => [[]]
  | k + 1 => (allS n k).flatMap fun ds => (List.range n).map fun d => ds ++ [d]
def formS (n : Nat) : Nat → List (List Nat)
  | 0 => [[]]
  | k + 1 => (allS n (k + 1)).filter fun l => decide (l.getLastD 0 ≠ 0)
def shortS (n : Nat) : Nat → List (List Nat)
  | 0 => [[]]
  | k + 1 => shortS n k ++ formS n (k + 1)
theorem foldl_step_lt {r : Ru} (h : r.Ok) : ∀ {l : List Nat} {s : Nat}, s < r.rows.length → (∀ d ∈ l, d ≤ r.top) → l.foldl r.step s < r.rows.length
  | [], s, hs, _ => hs
  | d :: l, s, hs, hl => by
    have := foldl_step_lt (l := l) h (h.step_lt hs (hl d (by simp))) fun e he => hl e (by simp [he])
    exact this
theorem Ru.Ok.led_lt {r : Ru} (h : r.Ok) {l : List Nat} (hl : ∀ d ∈ l, d ≤ r.top) : r.led l < r.rows.length := foldl_step_lt h (by have := h.m1; omega) hl
theorem led_snoc (r : Ru) (l : List Nat) (d : Nat) : r.led (l ++ [d]) = r.step (r.led l) d := by
  unfold Ru.led
  rw [List.foldl_append]; rfl
theorem allS_mem {n : Nat} : ∀ {k : Nat} {l : List Nat}, l ∈ allS n k → l.length = k ∧ ∀ d ∈ l, d < n
  | 0, l, h => by
    simp only [allS, List.mem_singleton] at h
    subst h
    simp
  | k + 1, l, h => by
    simp only [allS, List.mem_flatMap, List.mem_map, List.mem_range] at h
    obtain ⟨ds, h1, d, h2, rfl⟩ := h
    obtain ⟨h3, h4⟩ := allS_mem h1
    refine ⟨by simp [h3], fun e he => ?_⟩
    rcases List.mem_append.mp he with he | he
    · exact h4 e he
    · simp at he; omega
theorem formS_mem {n k : Nat} {l : List Nat} (h : l ∈ formS n k) : l ∈ allS n k := by
  cases k with
  | zero => exact h
  | succ k => exact (List.mem_filter.mp h).1
theorem allS_len (n : Nat) : ∀ k : Nat, (allS n k).length = n ^ k
  | 0 => rfl
  | k + 1 => by
    simp only [allS, List.length_flatMap, List.length_map, List.length_range]
    have : ((allS n k).map fun _ => n).sum = (allS n k).length * n := by
      induction allS n k with
      | nil => simp
      | cons a r ih => simp [ih, Nat.succ_mul, Nat.add_comm]
    rw [this, allS_len n k, Nat.pow_succ]
theorem shortS_len {n : Nat} (hn : 1 ≤ n) : ∀ k : Nat, (shortS n k).length ≤ (k + 1) * n ^ k
  | 0 => by simp [shortS]
  | k + 1 => by
    simp only [shortS, List.length_append]
    have h1 := shortS_len hn k
    have h2 : (formS n (k + 1)).length ≤ n ^ (k + 1) := by
      rw [← allS_len]
      exact List.length_filter_le _ _
    have h3 : n ^ k ≤ n ^ (k + 1) := Nat.pow_le_pow_right hn (by omega)
    have h4 : (k + 1) * n ^ k ≤ (k + 1) * n ^ (k + 1) := Nat.mul_le_mul_left _ h3
    have h5 : (k + 1 + 1) * n ^ (k + 1) = (k + 1) * n ^ (k + 1) + n ^ (k + 1) := Nat.succ_mul _ _
    omega
theorem shortS_size {n : Nat} (size : Nat) : ∀ {k : Nat}, size ≤ k → (shortS n k).filter (fun l => decide (l.length = size)) = formS n size := by
  have own : ∀ k, (formS n k).filter (fun l => decide (l.length = size)) = if k = size then formS n size else [] := fun k => by
    by_cases h : k = size
    · subst h
      rw [if_pos rfl, List.filter_eq_self]
      exact fun l hl => decide_eq_true (allS_mem (formS_mem hl)).1
    · rw [if_neg h, List.filter_eq_nil_iff]
      exact fun l hl => by
        have := (allS_mem (formS_mem hl)).1
        simp; omega
  have less : ∀ k, k < size → (shortS n k).filter (fun l => decide (l.length = size)) = [] := fun k => by
    induction k with
    | zero =>
      intro hk
      have := own 0
      rw [if_neg (by omega)] at this
      exact this
    | succ k ih =>
      intro hk
      simp only [shortS, List.filter_append]
      rw [ih (by omega), own, if_neg (by omega)]; rfl
  intro k hk
  induction k with
  | zero =>
    have := own 0
    rw [if_pos (by omega)] at this
    exact this
  | succ k ih =>
    simp only [shortS, List.filter_append]
    rw [own]
    by_cases h : k + 1 = size
    · rw [if_pos h, less k (by omega)]; rfl
    · rw [if_neg h, ih (by omega)]; simp
theorem form_succ (n k : Nat) : formS n (k + 1) = (allS n k).flatMap fun ds => ((List.range n).filter fun d => decide (d ≠ 0)).map fun d => ds ++ [d] := by
  simp only [formS, allS, List.filter_flatMap, List.filter_map]
  congr 1
  funext ds
  congr 1
  refine List.filter_congr fun d _ => ?_
  simp [List.getLastD_eq_getLast?]
theorem led_all (r : Ru) (n k : Nat) : (allS n (k + 1)).map r.led = ((allS n k).map r.led).flatMap fun s => (List.range n).map (r.step s) := by
  simp only [allS, List.map_flatMap, List.flatMap_map, List.map_map]
  congr 1
  funext ds
  refine List.map_congr_left fun d _ => ?_
  exact led_snoc r ds d
theorem led_form (r : Ru) (n k : Nat) : (formS n (k + 1)).map r.led = ((allS n k).map r.led).flatMap fun s => ((List.range n).filter fun d => decide (d ≠ 0)).map (r.step s) := by
  rw [form_succ]
  simp only [List.map_flatMap, List.flatMap_map, List.map_map]
  congr 1
  funext ds
  refine List.map_congr_left fun d _ => ?_
  exact led_snoc r ds d

/-! ### tallies -/
abbrev Ta : Type := Nat → Int
def tal (l : List Nat) : Ta := fun t => (l.count t : Int)
theorem sum_zero : ∀ K : List Nat, (K.map fun _ => (0 : Int)).sum = 0
  | [] => rfl
  | k :: K => by rw [List.map_cons, List.sum_cons, sum_zero K]; rfl
theorem sum_if {f : Nat → Int} {a : Nat} : ∀ {K : List Nat}, K.Nodup → a ∈ K → (K.map fun s => if a = s then f s else 0).sum = f a
  | [], _, h => absurd h (by simp)
  | k :: K, nd, h => by
    obtain ⟨h1, h2⟩ := List.nodup_cons.mp nd
    rw [List.map_cons, List.sum_cons]
    rcases List.mem_cons.mp h with rfl | h
    · rw [if_pos rfl]
      have : (K.map fun s => if a = s then f s else 0).sum = 0 := by
        have e : (K.map fun s => if a = s then f s else 0) = K.map fun _ => (0 : Int) := List.map_congr_left fun s hs => if_neg fun (z : a = s) => h1 (by rw [z]; exact hs)
        rw [e, sum_zero]
      omega
    · rw [if_neg (fun (z : a = k) => h1 (by rw [← z]; exact h)), sum_if h2 h]
      omega
theorem sum_add (f g : Nat → Int) : ∀ K : List Nat, (K.map fun s => f s + g s).sum = (K.map f).sum + (K.map g).sum
  | [] => rfl
  | k :: K => by
    simp only [List.map_cons, List.sum_cons, sum_add f g K]
    omega
theorem sum_tal {f : Nat → Int} {K : List Nat} (nd : K.Nodup) : ∀ {L : List Nat}, (∀ x ∈ L, x ∈ K) → (K.map fun s => tal L s * f s).sum = (L.map f).sum
  | [], _ => by
    have e : (K.map fun s => tal [] s * f s) = K.map fun _ => (0 : Int) := List.map_congr_left fun s _ => by simp [tal]
    rw [e, sum_zero]
    rfl
  | a :: L, h => by
    have e : (K.map fun s => tal (a :: L) s * f s) = K.map fun s => tal L s * f s + if a = s then f s else 0 := List.map_congr_left fun s _ => by
      unfold tal
      rw [List.count_cons]
      by_cases z : a = s
      · simp [z, Int.add_mul]
      · simp [z]
    rw [e, sum_add, sum_tal nd fun x hx => h x (by simp [hx]), sum_if nd (h a (by simp)), List.map_cons, List.sum_cons]
    omega
theorem cast_sum (f : Nat → Nat) : ∀ L : List Nat, (((L.map f).sum : Nat) : Int) = (L.map fun x => (f x : Int)).sum
  | [] => rfl
  | a :: L => by simp only [List.map_cons, List.sum_cons, ← cast_sum f L]; omega
theorem tal_flat (g : Nat → List Nat) (L : List Nat) (t : Nat) : tal (L.flatMap g) t = (L.map fun s => tal (g s) t).sum := by
  unfold tal
  rw [List.count_flatMap, ← cast_sum]
  rfl
/-- one addition -/
def bump (u : Ta) (t : Nat) (x : Int) : Ta := fun s => u s + if s = t then x else 0
theorem bumps (x : Int) : ∀ (l : List Nat) (u : Ta) (t : Nat), l.foldl (fun u s => bump u s x) u t = u t + x * tal l t
  | [], u, t => by simp [tal]
  | a :: l, u, t => by
    rw [List.foldl_cons, bumps x l]
    unfold bump tal
    rw [List.count_cons]
    by_cases z : t = a
    · subst z; simp [Int.mul_add]; omega
    · simp [z, Ne.symm z]
theorem turns (w : Ta) (g : Nat → List Nat) : ∀ (K : List Nat) (u : Ta) (t : Nat), K.foldl (fun u s => (g s).foldl (fun u v => bump u v (w s)) u) u t = u t + (K.map fun s => w s * tal (g s) t).sum
  | [], u, t => by simp
  | k :: K, u, t => by
    rw [List.foldl_cons, turns w g K, bumps, List.map_cons, List.sum_cons]
    omega
theorem turn_tal {K L : List Nat} (nd : K.Nodup) (h : ∀ x ∈ L, x ∈ K) (g : Nat → List Nat) : K.foldl (fun u s => (g s).foldl (fun u v => bump u v (tal L s)) u) (fun _ => 0) = tal (L.flatMap g) := by
  funext t
  rw [turns, sum_tal nd h (f := fun s => tal (g s) t), tal_flat]
  omega
theorem countP_sum (p : Nat → Bool) : ∀ L : List Nat, ((L.countP p : Nat) : Int) = (L.map fun s => if p s then (1 : Int) else 0).sum
  | [] => rfl
  | a :: L => by
    rw [List.countP_cons, List.map_cons, List.sum_cons, ← countP_sum p L]
    cases p a <;> simp <;> omega
theorem sum_filter (p : Nat → Bool) (w : Ta) : ∀ K : List Nat, ((K.filter p).map w).sum = (K.map fun s => w s * if p s then 1 else 0).sum
  | [] => rfl
  | a :: K => by
    rw [List.map_cons, List.sum_cons, ← sum_filter p w K]
    cases h : p a
    · rw [List.filter_cons_of_neg (by simp [h])]; simp
    · rw [List.filter_cons_of_pos h, List.map_cons, List.sum_cons]; simp
theorem sum_good {K L : List Nat} (nd : K.Nodup) (h : ∀ x ∈ L, x ∈ K) (p : Nat → Bool) : ((K.filter p).map (tal L)).sum = ((L.countP p : Nat) : Int) := by
  rw [sum_filter, sum_tal nd h, countP_sum]
/-- what count counts -/
def Ru.num (r : Ru) (size : Nat) : Nat := ((formS (r.top + 1) size).filter r.lets).length
theorem num_led (r : Ru) (size : Nat) : ((formS (r.top + 1) size).map r.led).countP (fun t => decide (t ∈ r.good)) = r.num size := by
  unfold Ru.num
  rw [List.countP_map, List.countP_eq_length_filter]
  rfl
/-- the spots behind k of size turns -/
def Ru.spots (r : Ru) (size k : Nat) : List Nat := if k = size then (formS (r.top + 1) k).map r.led else (allS (r.top + 1) k).map r.led
theorem spots_0 (r : Ru) (size : Nat) : r.spots size 0 = [0] := by
  unfold Ru.spots
  by_cases h : 0 = size
  · rw [if_pos h]; rfl
  · rw [if_neg h]; rfl
/-- the digits of one turn -/
def Ru.digs (r : Ru) (size k : Nat) : List Nat := if k + 1 = size then (List.range (r.top + 1)).filter fun d => decide (d ≠ 0) else List.range (r.top + 1)
theorem spots_succ (r : Ru) {size k : Nat} (hk : k < size) : r.spots size (k + 1) = (r.spots size k).flatMap fun s => (r.digs size k).map (r.step s) := by
  unfold Ru.spots Ru.digs
  rw [if_neg (by omega : ¬ k = size)]
  by_cases h : k + 1 = size
  · rw [if_pos h, if_pos h, led_form]
  · rw [if_neg h, if_neg h, led_all]
theorem spots_lt {r : Ru} (h : r.Ok) (size k : Nat) : ∀ x ∈ r.spots size k, x < r.rows.length := fun x hx => by
  unfold Ru.spots at hx
  split at hx
  · obtain ⟨l, hl, rfl⟩ := List.mem_map.mp hx
    exact h.led_lt fun d hd => Nat.le_of_lt_succ ((allS_mem (formS_mem hl)).2 d hd)
  · obtain ⟨l, hl, rfl⟩ := List.mem_map.mp hx
    exact h.led_lt fun d hd => Nat.le_of_lt_succ ((allS_mem hl).2 d hd)
theorem digs_le (r : Ru) (size k : Nat) : ∀ d ∈ r.digs size k, d ≤ r.top := fun d hd => by
  unfold Ru.digs at hd
  split at hd
  · have := (List.mem_filter.mp hd).1
    simp at this; omega
  · simp at hd; omega
theorem digs_from (r : Ru) {size k : Nat} : r.digs size k = (List.range (r.top + 1 - if k + 1 = size then 1 else 0)).map fun i => (if k + 1 = size then 1 else 0) + i := by
  unfold Ru.digs
  by_cases h : k + 1 = size
  · rw [if_pos h, if_pos h, List.range_succ_eq_map]
    simp only [Nat.add_sub_cancel, List.filter_cons]
    simp
    rw [List.filter_eq_self.mpr]
    · exact List.map_congr_left fun i _ => by omega
    · intro a ha
      simp at ha
      obtain ⟨b, _, rfl⟩ := ha
      simp
  · rw [if_neg h, if_neg h]; simp
theorem nodup_range (n : Nat) : (List.range n).Nodup := List.nodup_range
/-! ### the lists of count -/
abbrev LT (m : Nat) (u : Ta) : List D := (List.range m).map fun t => D.int (u t)
theorem LT_get {m : Nat} {u : Ta} {t : Nat} (h : t < m) : (LT m u)[t]? = some (.int (u t)) := by
  rw [List.getElem?_map, List.getElem?_range h]; rfl
theorem LT_bump {m : Nat} {u : Ta} {t : Nat} {x : Int} (h : t < m) : D.setAt (LT m u) (I t) (.int (u t + x)) = .ok (LT m (bump u t x)) := by
  rw [setAt_nat (by simp; exact h)]
  congr 1
  refine List.ext_getElem? fun i => ?_
  by_cases hi : i < m
  · by_cases hit : t = i
    · subst hit
      rw [List.getElem?_set_self (by simp; exact h), LT_get hi]
      simp [bump]
    · rw [List.getElem?_set_ne hit, LT_get hi, LT_get hi]
      simp [bump, Ne.symm hit]
  · rw [List.getElem?_eq_none (by simp; omega), List.getElem?_eq_none (by simp; omega)]
theorem enum_range {m : Nat} {f : Nat → D} : D.enum (.lst ((List.range m).map f)) = .ok ((List.range m).map fun t => .tup [I t, f t]) := by
  rw [enum_lst]
  congr 1
  refine List.ext_getElem? fun i => ?_
  by_cases hi : i < m
  · simp [hi]
  · rw [List.getElem?_eq_none (by simp; omega), List.getElem?_eq_none (by simp; omega)]
theorem zeros_LT : ∀ m : Nat, (List.replicate m [D.int 0]).flatten = LT m fun _ => 0 := fun m => by
  unfold LT
  rw [List.map_const', List.length_range]
  induction m with
  | zero => rfl
  | succ m ih => rw [List.replicate_succ, List.flatten_cons, ih, List.replicate_succ]; rfl
theorem mulL_zeros {m : Nat} (h : m ≤ 1000) : D.mulL (.lst [.int 0]) (.int m) = .ok (LT m fun _ => 0) := by
  rw [← zeros_LT]
  have : D.mulL (.lst [.int 0]) (.int m) = .ok (List.replicate (m : Int).toNat [D.int 0]).flatten := if_pos ⟨by omega, by omega, by
    rw [Int.toNat_natCast]
    exact sz (by simp; omega)⟩
  rw [this, Int.toNat_natCast]
/-! ### dicts of whole numbers -/
abbrev DK (K : List Nat) (u : Ta) : List (Key × D) := K.map fun (t : Nat) => (Sum.inl (t : Int), D.int (u t))
theorem DK_get {K : List Nat} {u : Ta} {t : Nat} : D.look (.dct (DK K u)) (I t) = .ok (if t ∈ K then some (.int (u t)) else none) := by
  show R.ok (dget (DK K u) (Sum.inl (t : Int))) = _
  congr 1
  unfold dget DK
  induction K with
  | nil => rfl
  | cons k K ih =>
    rw [List.map_cons, List.find?_cons]
    by_cases h : k = t
    · subst h
      simp
    · have : decide ((Sum.inl (k : Int) : Key) = Sum.inl (t : Int)) = false := decide_eq_false fun e => h (by injection e with e; omega)
      simp only [this]
      rw [ih]
      simp only [List.mem_cons, Ne.symm h, false_or]
theorem DK_ix {K : List Nat} {u : Ta} {t : Nat} (h : t ∈ K) : D.ixA (.dct (DK K u)) (I t) = .ok (.int (u t)) := by
  show (D.look (.dct (DK K u)) (I t)).bind D.need = _
  rw [DK_get, if_pos h]
  rfl
def kput (K : List Nat) (t : Nat) : List Nat := if t ∈ K then K else K ++ [t]
theorem DK_put {K : List Nat} {u : Ta} {t : Nat} {x : Int} (h0 : t ∉ K → u t = 0) (hl : K.length ≤ 1000000) : D.putK (DK K u) (I t) (.int (u t + x)) = .ok (DK (kput K t) (bump u t x)) := by
  show (if (DK K u).length < sizeLine then R.ok (dput (DK K u) (Sum.inl (t : Int)) (.int (u t + x))) else .ub) = _
  rw [if_pos (szl (by simpa using hl))]
  congr 1
  unfold dput kput DK
  by_cases h : t ∈ K
  · rw [if_pos h, if_pos (by
      rw [List.any_eq_true]
      exact ⟨(Sum.inl (t : Int), .int (u t)), List.mem_map.mpr ⟨t, h, rfl⟩, decide_eq_true rfl⟩), List.map_map]
    refine List.map_congr_left fun s _ => ?_
    by_cases z : s = t
    · subst z; simp [bump]
    · have : ¬ (Sum.inl (s : Int) : Key) = Sum.inl (t : Int) := fun e => z (by injection e with e; omega)
      simp [this, bump, z]
  · rw [if_neg h, if_neg (by
      rw [List.any_eq_true]
      rintro ⟨kv, h1, h2⟩
      obtain ⟨s, hs, rfl⟩ := List.mem_map.mp h1
      have e := of_decide_eq_true h2
      injection e with e
      have e2 : s = t := by omega
      exact h (e2 ▸ hs)), List.map_append]
    congr 1
    · refine List.map_congr_left fun s hs => ?_
      have : s ≠ t := fun e => h (e ▸ hs)
      simp [bump, this]
    · simp [bump, h0 h]
theorem kput_mem {K : List Nat} {t s : Nat} : s ∈ kput K t ↔ s ∈ K ∨ s = t := by
  unfold kput
  by_cases h : t ∈ K
  · rw [if_pos h]
    exact ⟨.inl, fun z => z.elim id fun e => e ▸ h⟩
  · rw [if_neg h]; simp
theorem kput_nodup {K : List Nat} {t : Nat} (h : K.Nodup) : (kput K t).Nodup := by
  unfold kput
  by_cases z : t ∈ K
  · rw [if_pos z]; exact h
  · rw [if_neg z, List.nodup_append]
    exact ⟨h, by simp, fun a ha b hb e => z (by simp at hb; rw [← hb, ← e]; exact ha)⟩
theorem DK_keys {K : List Nat} {u : Ta} : D.keysK (DK K u) = K.map I := by
  unfold D.keysK
  rw [List.map_map]; rfl
theorem nodup_len {m : Nat} : ∀ {K : List Nat}, K.Nodup → (∀ t ∈ K, t < m) → K.length ≤ m := by
  induction m with
  | zero =>
    intro K _ h
    cases K with
    | nil => simp
    | cons a r => exact absurd (h a (by simp)) (by omega)
  | succ m ih =>
    intro K nd h
    have h1 := ih (K := K.filter fun t => decide (t ≠ m)) (nd.sublist List.filter_sublist) fun t ht => by
      obtain ⟨z1, z2⟩ := List.mem_filter.mp ht
      have := h t z1
      simp at z2
      omega
    have h2 : K.length ≤ (K.filter fun t => decide (t ≠ m)).length + 1 := by
      clear h h1 ih
      induction K with
      | nil => simp
      | cons a r ih2 =>
        obtain ⟨n1, n2⟩ := List.nodup_cons.mp nd
        by_cases e : a = m
        · subst e
          rw [List.filter_cons_of_neg (by simp), List.filter_eq_self.mpr]
          · simp
          · intro t ht
            simp
            exact fun z => n1 (z ▸ ht)
        · rw [List.filter_cons_of_pos (by simp [e])]
          have := ih2 n2
          simp only [List.length_cons]
          omega
    omega
def KOk (m : Nat) (q : List Nat × Ta) : Prop := q.1.Nodup ∧ (∀ t, t ∉ q.1 → q.2 t = 0) ∧ ∀ t ∈ q.1, t < m
def kbump (q : List Nat × Ta) (t : Nat) (x : Int) : List Nat × Ta := (kput q.1 t, bump q.2 t x)
theorem KOk.len {m : Nat} {q : List Nat × Ta} (h : KOk m q) : q.1.length ≤ m := nodup_len h.1 h.2.2
theorem KOk.bump {m : Nat} {q : List Nat × Ta} {t : Nat} {x : Int} (h : KOk m q) (ht : t < m) : KOk m (kbump q t x) := by
  refine ⟨kput_nodup h.1, fun s hs => ?_, fun s hs => ?_⟩
  · have z : ¬ (s ∈ q.1 ∨ s = t) := fun z => hs (kput_mem.mpr z)
    have z1 : s ≠ t := fun e => z (.inr e)
    show q.2 s + (if s = t then x else 0) = 0
    rw [if_neg z1, h.2.1 s fun e => z (.inl e)]
    rfl
  · rcases kput_mem.mp hs with z | rfl
    · exact h.2.2 s z
    · exact ht
theorem kfold {m : Nat} (p : Nat → Bool) (f : Nat → Nat) (x : Int) : ∀ (l : List Nat) (q : List Nat × Ta), KOk m q → (∀ d ∈ l, f d < m) → KOk m (l.foldl (fun q d => if p d then kbump q (f d) x else q) q)
  | [], q, h, _ => h
  | d :: l, q, h, hl => by
    rw [List.foldl_cons]
    refine kfold p f x l _ ?_ fun e he => hl e (by simp [he])
    by_cases c : p d = true
    · rw [if_pos c]; exact h.bump (hl d (by simp))
    · rw [if_neg c]; exact h
theorem kfold2 (p : Nat → Bool) (f : Nat → Nat) (x : Int) : ∀ (l : List Nat) (q : List Nat × Ta), (l.foldl (fun q d => if p d then kbump q (f d) x else q) q).2 = (l.filter p).foldl (fun u d => bump u (f d) x) q.2
  | [], q => rfl
  | d :: l, q => by
    rw [List.foldl_cons, kfold2 p f x l]
    by_cases c : p d = true
    · rw [if_pos c, List.filter_cons_of_pos c]; rfl
    · rw [if_neg c, List.filter_cons_of_neg c]
theorem digs_filter (r : Ru) {size k : Nat} (hk : k < size) : r.digs size k = (List.range (r.top + 1)).filter fun d => decide (0 < d ∨ k + 1 < size) := by
  unfold Ru.digs
  by_cases c : k + 1 = size
  · rw [if_pos c]
    refine List.filter_congr fun d _ => ?_
    rw [Bool.eq_iff_iff]
    simp; omega
  · rw [if_neg c, List.filter_eq_self.mpr]
    intro d _
    simp; omega
theorem shortS_mem {n : Nat} : ∀ {k : Nat} {l : List Nat}, l ∈ shortS n k → ∀ d ∈ l, d < n
  | 0, l, h => by
    simp only [shortS, List.mem_singleton] at h
    subst h
    simp
  | k + 1, l, h => by
    simp only [shortS, List.mem_append] at h
    rcases h with h | h
    · exact shortS_mem h
    · exact (allS_mem (formS_mem h)).2
theorem formS_len (n k : Nat) : (formS (n + 1) (k + 1)).length = (n + 1) ^ k * n := by
  rw [form_succ, List.length_flatMap]
  have e : ((List.range (n + 1)).filter fun d => decide (d ≠ 0)).length = n := by
    rw [List.range_succ_eq_map, List.filter_cons_of_neg (by simp), List.filter_eq_self.mpr]
    · simp
    · intro a ha
      simp at ha
      obtain ⟨b, _, rfl⟩ := ha
      simp
  simp only [List.length_map, e]
  rw [← allS_len]
  generalize allS (n + 1) k = l
  induction l with
  | nil => simp
  | cons a r ih => simp [ih, Nat.succ_mul, Nat.add_comm]
theorem num_short (r : Ru) {size most : Nat} (h : size ≤ most) : (((shortS (r.top + 1) most).filter r.lets).filter fun l => decide (l.length = size)).length = r.num size := by
  rw [List.filter_filter]
  have e : (shortS (r.top + 1) most).filter (fun a => decide (a.length = size) && r.lets a) = ((shortS (r.top + 1) most).filter fun l => decide (l.length = size)).filter r.lets := by
    rw [List.filter_filter]
    exact List.filter_congr fun l _ => Bool.and_comm _ _
  rw [e, shortS_size size h]
  rfl
theorem forL_cons {S α γ : Type} (un : D → R α) (f : S → α → R (Fl S S γ)) (x : D) (xs : List D) (s : S) : forL un f (x :: xs) s = (un x).bind fun a => (f s a).bind (turnK (forL un f xs)) := rfl
theorem forL_nil {S α γ : Type} (un : D → R α) (f : S → α → R (Fl S S γ)) (s : S) : forL un f [] s = .ok (.nx s) := rfl
def kn5 : Ru := ⟨2, 1, [[0, 0]], []⟩
theorem kn5_ok : kn5.Ok := Ru.ok_of (by decide)
theorem kn3_led : ∀ l : List Nat, (∀ d ∈ l, d < 3) → kn3.led l = 0 := by
  have key : ∀ (l : List Nat) , (∀ d ∈ l, d < 3) → l.foldl kn3.step 0 = 0 := by
    intro l
    induction l with
    | nil => intro _; rfl
    | cons d l ih =>
      intro h
      rw [List.foldl_cons]
      have hd := h d (by simp)
      have : kn3.step 0 d = 0 := by
        match d, hd with
        | 0, _ => rfl
        | 1, _ => rfl
        | 2, _ => rfl
      rw [this]
      exact ih fun e he => h e (by simp [he])
  exact key
theorem kn3_num (k : Nat) : kn3.num (k + 1) = 2 * 3 ^ k := by
  unfold Ru.num
  have : (formS (kn3.top + 1) (k + 1)).filter kn3.lets = formS (kn3.top + 1) (k + 1) := List.filter_eq_self.mpr fun l hl => by
    unfold Ru.lets
    rw [kn3_led l (allS_mem (formS_mem hl)).2]
    rfl
  rw [this]
  have := formS_len 2 k
  rw [Nat.mul_comm] at this
  exact this
theorem kn1_nums : (List.range 4).map kn1.num = [1, 2, 5, 13] := by decide +kernel
theorem kn2_nums : (List.range 4).map kn2.num = [1, 1, 2, 4] := by decide +kernel
theorem kn4_nums : (List.range 6).map kn4.num = [1, 1, 1, 2, 3, 5] := by decide +kernel
theorem kn5_num : kn5.num 7 = 0 := by decide +kernel
end DL
namespace DL
open PySem PySem.Spec PyProof.Rows L2
open Evl (Ex ex_l ex_t ex_rd)

/-! ### x[::-1], x[-2::-1] -/
section
variable {prog : Program} {w : World} {A : Around} {E : Value → Shared → Prop} {s : Shared}
theorem adj_rev (n : Nat) : Builtin.Slice.sliceAdjust none none (-1) (n : Int) = ((n : Int) - 1, -1) := by
  unfold Builtin.Slice.sliceAdjust
  simp
theorem places_rev (n : Nat) : Builtin.Slice.slicePlaces ((n : Int) - 1) (-1) (-1) = n := by
  unfold Builtin.Slice.slicePlaces
  by_cases h : n = 0
  · subst h; simp
  · have h1 : ¬ ((-1 : Int) > 0) := by omega
    have h2 : (n : Int) - 1 > -1 := by omega
    simp only [h1, h2, if_true, if_false]
    have : ((n : Int) - 1 - -1 - 1) / (- -1) = (n : Int) - 1 := by simp
    rw [this]; omega
theorem pick_rev (xs : Array Value) : ((List.range xs.size).filterMap fun (k : Nat) => xs[((xs.size : Int) - 1 + (k : Int) * (-1)).toNat]?).toArray = xs.toList.reverse.toArray := by
  congr 1
  refine List.ext_getElem? fun i => ?_
  have hall : ∀ (f : Nat → Option Value) (g : Nat → Value), (∀ k, k < xs.size → f k = some (g k)) → (List.range xs.size).filterMap f = (List.range xs.size).map g := by
    intro f g h
    have : ∀ l : List Nat, (∀ k ∈ l, k < xs.size) → l.filterMap f = l.map g := by
      intro l
      induction l with
      | nil => intro _; rfl
      | cons a l ih =>
        intro hl
        rw [List.filterMap_cons, h a (hl a (by simp)), List.map_cons, ih fun k hk => hl k (by simp [hk])]
    exact this _ fun k hk => List.mem_range.mp hk
  have h1 := hall (fun k => xs[((xs.size : Int) - 1 + (k : Int) * (-1)).toNat]?) (fun k => xs.toList.reverse.getD k .none) fun k hk => by
    have e : ((xs.size : Int) - 1 + (k : Int) * (-1)).toNat = xs.size - 1 - k := by omega
    show xs[((xs.size : Int) - 1 + (k : Int) * (-1)).toNat]? = _
    rw [e, List.getD_eq_getElem?_getD, List.getElem?_reverse (by simp; exact hk)]
    simp
    rw [Array.getElem?_eq_getElem (by omega)]
    rfl
  rw [h1]
  by_cases hi : i < xs.size
  · rw [List.getElem?_map, List.getElem?_range hi]
    rw [List.getElem?_eq_getElem (by simp; exact hi)]
    simp [List.getD_eq_getElem?_getD, hi]
  · rw [List.getElem?_eq_none (by simp; omega), List.getElem?_eq_none (by simp; omega)]
theorem sliceApplied_rev {sl : Addr} {vl vu vs : Value} {n : Nat} {Q : Int × Int × Nat → Shared → Prop} (hs : s.heap.IsSliceOf sl vl vu vs) (pl : IsPart vl none) (pu : IsPart vu none) (ps : IsPart vs (some (-1)))
    (h : Q ((n : Int) - 1, -1, n) s) : wpAny (model prog w) A (Builtin.Slice.sliceApplied (.ref sl) (pure (n : Int))) Q E s := by
  obtain ⟨os, hos, hcs, hds⟩ := id hs
  unfold Builtin.Slice.sliceApplied Builtin.Slice.sliceFields
  refine wpAny_bind (wpAny_bind (wpAny_field hos hds (x := vl) rfl (wpAny_bind (wpAny_field hos hds (x := vu) rfl (wpAny_bind (wpAny_field hos hds (x := vs) rfl (wpAny_pure ?_)))))))
  refine wpAny_bind (HT.slicePart_ ps ?_)
  show wpAny _ _ (if ((-1 : Int) == 0) = true then _ else _) _ _ s
  rw [if_neg (by decide)]
  refine wpAny_bind (HT.slicePart_ pl (wpAny_bind (HT.slicePart_ pu (wpAny_bind (wpAny_pure ?_)))))
  show wpAny _ _ (match Builtin.Slice.sliceAdjust none none (-1) (n : Int) with | (lo, hi) => pure (lo, (-1 : Int), Builtin.Slice.slicePlaces lo hi (-1))) _ _ s
  rw [adj_rev n]
  show wpAny _ _ (pure ((n : Int) - 1, (-1 : Int), Builtin.Slice.slicePlaces ((n : Int) - 1) (-1) (-1))) _ _ s
  rw [places_rev]
  exact wpAny_pure h
theorem getItem_tuple_rev {t sl : Addr} {items : Array Value} {vl vu vs : Value} {Q : Value → Shared → Prop} (ht : IsTup s.heap t items) (hs : s.heap.IsSliceOf sl vl vu vs) (pl : IsPart vl none) (pu : IsPart vu none) (ps : IsPart vs (some (-1)))
    (h : Q (.ref s.heap.objs.size) { s with heap := s.heap.push { cls := .type "tuple", data := .seq items.toList.reverse.toArray } })
    (hsz : items.size ≤ sizeLine) : wpAny (model prog w) A (getItem (.ref t) (.ref sl)) Q E s := by
  have htake : sizeOk (.seq items.toList.reverse.toArray) := by
    show items.toList.reverse.toArray.size ≤ sizeLine
    simpa using hsz
  obtain ⟨os, hos, hcs, hds⟩ := id hs
  have hTs : s.TypeIs (.ref sl) "slice" := ⟨os, hos, hcs⟩
  unfold getItem
  try with_reducible refine wpAny_holding ?_
  first | refine wpAny_bind (wpAny_pure ?_) | skip
  refine wpAny_bind (wpAny_sequenceKey ht.typeIs (by decide) ?_)
  refine wpAny_bind (wpAny_callSpecial?_slot (name := Str.ofString "__getitem__") ht.typeIs PyProof.Rows.slot_tuple_getitem
    (wpAny_call_entry PyProof.Rows.slot_tuple_getitem ht.typeIs entry_tuple_getitem ?_ (args_tuple_getitem _ _)))
  show wpAny _ _ (Builtin.Tuple.tupleItemsOf (.ref t) >>= _) _ _ s
  refine wpAny_bind (tupleItemsOf_ ht ?_)
  refine wpAny_bind (wpAny_typeOf hTs ?_)
  rw [if_pos (by decide)]
  refine wpAny_bind (sliceApplied_rev hs pl pu ps ?_)
  have hno : ¬ ((((items.size : Int) - 1) == 0 && (-1 : Int) == 1 && items.size == items.size) = true) := by
    intro q
    rw [Bool.and_eq_true, Bool.and_eq_true] at q
    exact absurd q.1.2 (by decide)
  show wpAny _ _ (if (((items.size : Int) - 1) == 0 && (-1 : Int) == 1 && items.size == items.size) = true then _ else _) _ _ s
  rw [if_neg hno, pick_rev]
  first
    | exact wpAny_bind (m := Builtin.Tuple.tupleExact _) (wpAny_newObj_type (wpAny_pure ⟨_, rfl, wpAny_pure h⟩) htake)
    | exact wpAny_bind (m := Builtin.Tuple.tupleExact _) (wpAny_newObj_type (wpAny_bind (wpAny_pure (wpAny_pure ⟨_, rfl, wpAny_pure h⟩))) htake)
    | exact wpAny_bind (wpAny_bind (m := Builtin.Tuple.tupleExact _) (wpAny_newObj_type (wpAny_pure (wpAny_pure ⟨_, rfl, wpAny_pure h⟩)) htake))
    | exact wpAny_bind (wpAny_bind (m := Builtin.Tuple.tupleExact _) (wpAny_newObj_type (wpAny_pure ⟨_, rfl, wpAny_pure h⟩) htake))
end
section
variable {X : Cx}
def tRevA (K : PySem.W.Frag) (te : TE) : TE := fun σ H Q => te σ H fun x H1 => ∃ a xs, x = .ref a ∧ ((SqL K H1 a xs ∧ ∀ p, H1 p = none → Q (.ref p) (upd H1 p (.lst xs.reverse))) ∨ (SqT K H1 a xs ∧ ∀ p, H1 p = none → Q (.ref p) (upd H1 p (.tup xs.reverse))))
theorem pe_revA {e : Expr} {te : TE} {k : Nat} {p1 p2 p3 pos : Pos} (he : PE X e te) : PE X (.Subscript e (.Slice none none (some (.UnaryOp .USub (.Constant (.int 1) k p1) p2)) p3) pos) (tRevA X.K te) := by
  refine ⟨fun pins s σ H Q I h => ?_⟩
  refine Subscript_ (thn (he.run pins s σ H _ I h) fun v s1 ⟨x, H1, I1, r1, q1⟩ => ?_)
  obtain ⟨a, xs, ex, hx⟩ := q1
  subst ex
  cases r1
  have hst : PO X (some (.UnaryOp .USub (.Constant (.int 1) k p1) p2)) (tPart (tUn (rU fun i => .int (-i)) (tC (.int 1)))) := po_some (pe_un un_neg pe_int)
  refine wpAny_Slice (thn (po_none.run pins s1 σ H1 (fun o H2 => o = none ∧ H2 = H1) I1 ⟨rfl, rfl⟩) fun vl s2 ⟨l, H2, I2, pl, el, e2⟩ => ?_)
  subst el e2
  refine thn (po_none.run pins s2 σ H2 (fun o H3 => o = none ∧ H3 = H2) I2 ⟨rfl, rfl⟩) fun vu s3 ⟨u, H3, I3, pu, eu, e3⟩ => ?_
  subst eu e3
  refine thn (hst.run pins s3 σ H3 (fun o H4 => o = some (-1) ∧ H4 = H3) I3 ⟨1, rfl, -1, rfl, rfl, rfl⟩) fun vs s4 ⟨o, H4, I4, ps, eo, e4⟩ => ?_
  subst eo e4
  have I5 : Inv X pins σ H4 { s4 with heap := s4.heap.push { cls := .type "slice", data := .fields #[vl, vu, vs] } } := I4.kept (t' := s4.toks) fun b ob q => Heap.get?_push_of_some _ q
  rcases hx with ⟨hx, q⟩ | ⟨hx, q⟩
  · obtain ⟨its, r, ht, hz⟩ := I5.list hx
    have hlen := r.length
    show wpAny (model X.prog X.w) X.A (subscriptTail e (.Slice none none (some (.UnaryOp .USub (.Constant (.int 1) k p1) p2)) p3) (.ref a) (.ref s4.heap.objs.size)) (EP X pins σ Q) X.xe { s4 with heap := s4.heap.push { cls := .type "slice", data := .fields #[vl, vu, vs] } }
    refine tail_any (ops := [.ref a, .ref s4.heap.objs.size]) ht.isList.typeIs (PySem.slot_list_getitem.lookup) ?_ (by with_unfolding_all rfl)
    refine wpAny_getItem_list_slice ht.isList (Heap.IsSliceOf.new _ vl vu vs) pl pu ps (by decide) ?_ (by rw [List.size_toArray]; omega)
    rw [PySem.W.krv_pick]
    refine ⟨.ref _, _, I5.laid (t' := s4.toks) (o := .lst xs.reverse) (fun b ob q => Heap.get?_push_of_some _ q) (Nat.le_refl _) ?_, rfl, q _ (I5.hok.fresh (Nat.le_refl _))⟩
    exact ⟨by rw [List.length_reverse]; exact hz, _, 0, r.reverse, Heap.get?_push_size _ rfl⟩
  · obtain ⟨its, r, ht, hz⟩ := I5.tuple hx
    have hlen := r.length
    show wpAny (model X.prog X.w) X.A (subscriptTail e (.Slice none none (some (.UnaryOp .USub (.Constant (.int 1) k p1) p2)) p3) (.ref a) (.ref s4.heap.objs.size)) (EP X pins σ Q) X.xe { s4 with heap := s4.heap.push { cls := .type "slice", data := .fields #[vl, vu, vs] } }
    refine tail_any (ops := [.ref a, .ref s4.heap.objs.size]) ht.typeIs (PyProof.Rows.slot_tuple_getitem.lookup) ?_ (by with_unfolding_all rfl)
    refine getItem_tuple_rev ht (Heap.IsSliceOf.new _ vl vu vs) pl pu ps ?_ (by rw [List.size_toArray]; omega)
    refine ⟨.ref _, _, I5.laid (t' := s4.toks) (o := .tup xs.reverse) (fun b ob q => Heap.get?_push_of_some _ q) (Nat.le_refl _) ?_, rfl, q _ (I5.hok.fresh (Nat.le_refl _))⟩
    exact ⟨by rw [List.length_reverse]; exact hz, _, r.reverse, IsTup.new _ _⟩
end
def D.rev : D → R D
  | .tup xs => .ok (.tup xs.reverse)
  | .lst xs => .ok (.lst xs.reverse)
  | _ => .ub
section
variable {T : Tb} {X : Cx} {ds : DS} {m m' m1 : OM} {W : WX} {B B1 H H1 : Hp} {σ : St} {pos p p2 p1 p3 : Pos} {a : Expr} {ra : R D} {k : Nat}
theorem ev_rev (ha : EVw T X ds m a ra) : EV T X ds m (.Subscript a (.Slice none none (some (.UnaryOp .USub (.Constant (.int 1) k p1) p2)) p3) pos) (ra.bind D.rev) := by
  intro W tk B σ H hs w Q q
  refine wpE.of (pe_revA (pe_wp X a)) ?_
  refine ha W tk B σ H hs w _ (R.sat_mono (R.sat_bind q) (fun x hx B1 v1 H1 g1 r1 => ?_) fun _ z => z)
  unfold DL.D.rev at hx
  split at hx
  · obtain ⟨ad, vs, rfl, h1, h2⟩ := r1.itup g1.own
    exact ⟨ad, vs, rfl, .inr ⟨h1, fin_tup g1.own h2.reverse fun B4 v4 H4 g4 r4 => hx B4 v4 H4 (g1.trans g4) r4⟩⟩
  · obtain ⟨ad, vs, rfl, h1, h2⟩ := r1.ilst g1.own
    exact ⟨ad, vs, rfl, .inl ⟨.inl h1, fin_lst g1.own h2.reverse fun B4 v4 H4 g4 r4 => hx B4 v4 H4 (g1.trans g4) r4⟩⟩
  · exact hx.elim
end
@[simp] theorem rev_tup (xs : List D) : D.rev (.tup xs) = .ok (.tup xs.reverse) := rfl
@[simp] theorem rev_lst (xs : List D) : D.rev (.lst xs) = .ok (.lst xs.reverse) := rfl
/-! ### a def that calls itself: no fuel, no claim -/
section
variable {P : Program} {w : World} {K : PySem.W.Frag} {mg : Str → Option Value} {base : Heap} {T : Tb} {k : Nat} {f : Addr} {fd : FuncData} {ps : List Str}
theorem fnC_ub {rf : List D → List D → R (D × List D)} (h : ∀ c (xs : List D), xs.length + 1 = ps.length → rf c xs = .ub) : FnC P w K mg base T k f fd ps rf :=
  ⟨fun vs H Q E ⟨B, m, ds, r, h1, _, ⟨p, xs, rest, e1, e2, _, _⟩, _⟩ => by rw [h1.length, e1]; exact e2, fun A outer s H args us vs Q E hr he hb hv ⟨B, m, ds, r, h1, _, ⟨p, xs, rest, e1, e2, _, e4⟩, h4⟩ => by
    rw [e4, h xs rest e2] at h4
    exact h4.elim⟩
theorem fnP_ub {rf : List D → R D} (h : ∀ xs : List D, xs.length = ps.length → rf xs = .ub) : FnP P w K mg base T k f fd ps rf :=
  ⟨fun vs H Q E ⟨B, m, ds, r, h1, _, ⟨e2, _, _⟩, _⟩ => by rw [h1.length]; exact e2, fun A outer s H args us vs Q E hr he hb hv ⟨B, m, ds, r, h1, _, ⟨e2, _, e4⟩, h4⟩ => by
    rw [e4, h ds e2] at h4
    exact h4.elim⟩
end
theorem ar1_zero {α : Type} {f : D → R α} (h : ∀ a, f a = .ub) (xs : List D) : ar1 f xs = .ub := by
  by_cases e : xs.length = 1
  · match xs, e with
    | [a], _ => exact h a
  · exact ar1_ub f xs e
theorem ar2_zero {α : Type} {f : D → D → R α} (h : ∀ a b, f a b = .ub) (xs : List D) : ar2 f xs = .ub := by
  by_cases e : xs.length = 2
  · match xs, e with
    | [a, b], _ => exact h a b
  · exact ar2_ub f xs e
theorem ar3_zero {α : Type} {f : D → D → D → R α} (h : ∀ a b c, f a b c = .ub) (xs : List D) : ar3 f xs = .ub := by
  by_cases e : xs.length = 3
  · match xs, e with
    | [a, b, c], _ => exact h a b c
  · exact ar3_ub f xs e
theorem ar4_zero {α : Type} {f : D → D → D → D → R α} (h : ∀ a b c d, f a b c d = .ub) (xs : List D) : ar4 f xs = .ub := by
  by_cases e : xs.length = 4
  · match xs, e with
    | [a, b, c, d], _ => exact h a b c d
  · exact ar4_ub f xs e
end DL
namespace DL
open PySem PySem.Spec PyProof.Rows L2

/-! ### values of any kind, of depth n, no longer than L -/
inductive Vl (L : Nat) : Nat → D → Prop
  | non {n : Nat} : Vl L n .non
  | bl {n : Nat} (b : Bool) : Vl L n (.bl b)
  | int {n : Nat} (i : Int) : Vl L n (.int i)
  | one {n : Nat} : Vl L n (.str "1")
  | tup {n : Nat} {xs : List D} : xs.length ≤ L → (∀ x ∈ xs, Vl L n x) → Vl L (n + 1) (.tup xs)
  | lst {n : Nat} {xs : List D} : xs.length ≤ L → (∀ x ∈ xs, Vl L n x) → Vl L (n + 1) (.lst xs)
theorem Vl.mono {L L' : Nat} (hL : L ≤ L') : ∀ {n n' : Nat} {d : D}, Vl L n d → n ≤ n' → Vl L' n' d := by
  intro n n' d h
  induction h generalizing n' with
  | non => intro _; exact .non
  | bl b => intro _; exact .bl b
  | int i => intro _; exact .int i
  | one => intro _; exact .one
  | tup h1 _ ih =>
    intro hn
    obtain ⟨m, rfl⟩ : ∃ m, n' = m + 1 := ⟨n' - 1, by omega⟩
    exact .tup (Nat.le_trans h1 hL) fun x hx => ih x hx (by omega)
  | lst h1 _ ih =>
    intro hn
    obtain ⟨m, rfl⟩ : ∃ m, n' = m + 1 := ⟨n' - 1, by omega⟩
    exact .lst (Nat.le_trans h1 hL) fun x hx => ih x hx (by omega)
theorem flat_tup' {n : Nat} {xs : List D} (h : ∀ x ∈ xs, D.flat n x) : D.flat (n + 1) (.tup xs) := by
  have := flat_tup (f := id) (l := xs) h
  rwa [List.map_id] at this
theorem flat_lst' {n : Nat} {xs : List D} (h : ∀ x ∈ xs, D.flat n x) : D.flat (n + 1) (.lst xs) := by
  have := flat_lst (f := id) (l := xs) h
  rwa [List.map_id] at this
theorem one_ok : PyData.strOk "1" = true := by decide +kernel
theorem Vl.flat {L n : Nat} {d : D} (h : Vl L n d) : D.flat n d := by
  induction h with
  | non => exact flat_non _
  | bl b => exact flat_bl b _
  | int i => exact flat_int i _
  | one => exact flat_str one_ok _
  | tup _ _ ih => exact flat_tup' ih
  | lst _ _ ih => exact flat_lst' ih
theorem Vl.itup {L n : Nat} {xs : List D} (h : Vl L n (.tup xs)) : ∃ m, n = m + 1 ∧ xs.length ≤ L ∧ ∀ x ∈ xs, Vl L m x := by
  cases h with
  | tup h1 h2 => exact ⟨_, rfl, h1, h2⟩
def D.isTup : D → Bool
  | .tup _ => true
  | _ => false
theorem Vl.isT {L n : Nat} {d : D} (h : Vl L n d) : D.isi "tuple" d = .ok (.bl d.isTup) := by cases h <;> rfl
def numB (v : D) (l m : Int) : Bool := match v with
  | .int i => decide (l ≤ i ∧ i ≤ m)
  | _ => false
theorem eqv_nil (xs : List D) : PyData.eqvAll (D.toPyL xs) (D.toPyL []) = xs.isEmpty := by
  cases xs <;> simp [D.toPyL, PyData.eqvAll]
theorem eq_lnil {n : Nat} {xs : List D} (h : ∀ x ∈ xs, D.flat n x) (hn : n < 64 := by omega) : D.eq (.lst xs) (.lst []) = .ok (.bl xs.isEmpty) := by
  unfold D.eq
  rw [(flat_lst' h).shp (by omega), (flat_lst' (n := 0) (xs := []) (by simp)).shp (by omega)]
  show R.ok (D.bl (D.eqv (.lst xs) (.lst []))) = _
  unfold D.eqv
  simp only [D.toPy, PyData.eqv]
  rw [eqv_nil]
theorem ne_lnil {n : Nat} {xs : List D} (h : ∀ x ∈ xs, D.flat n x) (hn : n < 64 := by omega) : D.ne (.lst xs) (.lst []) = .ok (.bl (!xs.isEmpty)) := by
  unfold D.ne
  rw [(flat_lst' h).shp (by omega), (flat_lst' (n := 0) (xs := []) (by simp)).shp (by omega)]
  show R.ok (D.bl (!D.eqv (.lst xs) (.lst []))) = _
  unfold D.eqv
  simp only [D.toPy, PyData.eqv]
  rw [eqv_nil]
theorem eq_tnil {n : Nat} {xs : List D} (h : ∀ x ∈ xs, D.flat n x) (hn : n < 64 := by omega) : D.eq (.tup xs) (.tup []) = .ok (.bl xs.isEmpty) := by
  unfold D.eq
  rw [(flat_tup' h).shp (by omega), (flat_tup' (n := 0) (xs := []) (by simp)).shp (by omega)]
  show R.ok (D.bl (D.eqv (.tup xs) (.tup []))) = _
  unfold D.eqv
  simp only [D.toPy, PyData.eqv]
  rw [eqv_nil]
theorem nums_iff (m : Int) : ∀ xs : List D, (xs.all fun v => numB v 0 m) = true ↔ ∃ l : List Nat, xs = l.map I ∧ ∀ x ∈ l, (x : Int) ≤ m
  | [] => ⟨fun _ => ⟨[], rfl, by simp⟩, fun _ => rfl⟩
  | v :: xs => by
    rw [List.all_cons, Bool.and_eq_true, nums_iff m xs]
    constructor
    · rintro ⟨h1, l, rfl, h2⟩
      cases v with
      | int i =>
        have h3 : 0 ≤ i ∧ i ≤ m := of_decide_eq_true h1
        obtain ⟨a, rfl⟩ := Int.eq_ofNat_of_zero_le h3.1
        exact ⟨a :: l, rfl, fun x hx => by
          rcases List.mem_cons.mp hx with rfl | hx
          · exact h3.2
          · exact h2 x hx⟩
      | _ => cases h1
    · rintro ⟨l, e, h2⟩
      cases l with
      | nil => cases e
      | cons a l =>
        injection e with e1 e2
        subst e1 e2
        exact ⟨decide_eq_true ⟨by omega, h2 a (by simp)⟩, l, rfl, fun x hx => h2 x (by simp [hx])⟩
/-- a list as it stands -/
theorem lcR_self {α : Type} {un : D → R α} {ft : α → R Bool} {fe : α → R D} (xs : List D) (a : D → α) (p : D → Bool) (g : D → D) (hl : xs.length ≤ sizeLine) (hun : ∀ i ∈ xs, un i = .ok (a i)) (hft : ∀ i ∈ xs, ft (a i) = .ok (p i)) (hfe : ∀ i ∈ xs, p i = true → fe (a i) = .ok (g i)) :
    lcR un ft fe xs = .ok ((xs.filter p).map g) := by
  have := lcR_ok (un := un) (ft := ft) (fe := fe) xs id a p g hl hun hft hfe
  rwa [List.map_id] at this
theorem lcR_selfN {ft : D → R Bool} {fe : D → R D} (xs : List D) (p : D → Bool) (g : D → D) (hl : xs.length ≤ sizeLine) (hft : ∀ i ∈ xs, ft i = .ok (p i)) (hfe : ∀ i ∈ xs, p i = true → fe i = .ok (g i)) :
    lcR unN ft fe xs = .ok ((xs.filter p).map g) := lcR_self (un := unN) xs (fun x => x) p g hl (fun _ _ => rfl) hft hfe
theorem filter_not_empty {ι : Type} (p : ι → Bool) : ∀ xs : List ι, (xs.filter fun x => !p x).isEmpty = xs.all p
  | [] => rfl
  | x :: xs => by
    rw [List.all_cons, ← filter_not_empty p xs]
    cases h : p x
    · rw [List.filter_cons_of_pos (by simp [h])]; rfl
    · rw [List.filter_cons_of_neg (by simp [h])]; rfl
/-- what a rule is, what a form is -/
def IsR (v : D) : Prop := ∃ r : Ru, r.Ok ∧ v = r.d
def IsF (top : Nat) (v : D) : Prop := ∃ l : List Nat, v = TN l ∧ l.length ≤ 60 ∧ (∀ d ∈ l, d ≤ top) ∧ (l = [] ∨ l.getLastD 0 ≠ 0)
theorem TN_inj {l m : List Nat} (h : TN l = TN m) : l = m := by
  have := EqOk.nat.tup.eqv l m
  exact this.mp (by rw [show (D.tup (List.map I l)) = D.tup (List.map I m) from h]; exact (EqOk.nat.tup.eqv m m).mpr rfl)
/-- a loop of checks -/
theorem forL_chk {α ι : Type} {un : D → R α} {f : Unit → α → R (Fl Unit Unit D)} (xs : List ι) (e : ι → D) (a : ι → α) (p : ι → Bool) (hun : ∀ i ∈ xs, un (e i) = .ok (a i)) (hf : ∀ i ∈ xs, f () (a i) = if p i = true then .ok (.nx ()) else .ok (.rt (.bl false))) :
    forL un f (xs.map e) () = if xs.all p = true then .ok (.nx ()) else .ok (.rt (.bl false)) := by
  induction xs with
  | nil => rfl
  | cons x xs ih =>
    rw [List.map_cons, forL_cons, hun x (by simp), R.ok_bind, hf x (by simp), List.all_cons]
    cases hx : p x with
    | false => rfl
    | true => rw [if_pos rfl, R.ok_bind, turnK_nx, ih (fun i hi => hun i (by simp [hi])) fun i hi => hf i (by simp [hi]), Bool.true_and]
theorem forL_chkN {f : Unit → D → R (Fl Unit Unit D)} (xs : List D) (p : D → Bool) (hf : ∀ i ∈ xs, f () i = if p i = true then .ok (.nx ()) else .ok (.rt (.bl false))) :
    forL unN f xs () = if xs.all p = true then .ok (.nx ()) else .ok (.rt (.bl false)) := by
  have := forL_chk (un := unN) (f := f) xs (fun x => x) (fun x => x) p (fun _ _ => rfl) hf
  rwa [List.map_id'] at this
theorem ixN_last {n : Nat} (h : 0 < n) : ixN n (-1) = some (n - 1) := by
  unfold ixN
  rw [if_neg (by omega), if_pos (by omega)]
  congr 1
  omega
theorem setAt_last {xs : List D} {d : D} (h : 0 < xs.length) : D.setAt xs (.int (-1)) d = .ok (xs.set (xs.length - 1) d) := by
  show (match ixN xs.length (-1) with | some n => R.ok (xs.set n d) | none => .ub) = _
  rw [ixN_last h]
theorem setX_last {τ : Type} {xs : List D} {d : D} {t : τ} (h : 0 < xs.length) : setX xs (fun _ => .ok (.int (-1))) (d, t) = .ok (xs.set (xs.length - 1) d, t) := by
  show ((R.ok (D.int (-1))).bind fun n => (D.setAt xs n d).map fun ys => (ys, t)) = _
  rw [R.ok_bind, setAt_last h]
  rfl
theorem TN_last {l : List Nat} (h : l ≠ []) : D.ixA (TN l) (.int (-1)) = .ok (I (l.getLastD 0)) := by
  refine ixA_last ?_
  rw [List.length_map, List.getElem?_map, ← List.getLast?_eq_getElem?, List.getLastD_eq_getLast?]
  cases l with
  | nil => exact absurd rfl h
  | cons a t => rw [List.getLast?_eq_some_getLast (by simp)]; rfl
theorem LN_last {l : List Nat} (h : l ≠ []) : D.ixA (.lst (l.map I)) (.int (-1)) = .ok (I (l.getLastD 0)) := TN_last h
theorem cutD_to {xs : List D} {k : Nat} (h : k ≤ xs.length) : cutD xs none (some (k : Int)) = xs.take k := by
  unfold cutD
  rw [HT.sIx_nat, HT.sIx_none, Nat.min_eq_left h]
  simp
theorem sl_tup_to {xs : List D} {k : Nat} (h : k ≤ xs.length) : D.sl (.tup xs) none (some (k : Int)) = .ok (.tup (xs.take k)) := by
  show R.ok (D.tup (cutD xs none (some (k : Int)))) = _
  rw [cutD_to h]
def wth (base : Nat) (l : List Nat) : Nat := l.reverse.foldl (fun a d => a * base + d) 0
theorem IsF.inv {top : Nat} {xs : List D} (h : IsF top (.tup xs)) : ∃ l : List Nat, xs = l.map I ∧ l.length ≤ 60 ∧ (∀ d ∈ l, d ≤ top) ∧ (l = [] ∨ l.getLastD 0 ≠ 0) := by
  obtain ⟨l, e, h⟩ := h
  injection e with e
  exact ⟨l, e, h⟩
theorem ne_same {n : Nat} {d : D} (h : D.flat n d) (hn : n ≤ 64 := by omega) : D.ne d d = .ok (.bl false) := by
  unfold D.ne
  rw [h.shp hn]
  show R.ok (D.bl (!D.eqv d d)) = _
  unfold D.eqv
  rw [SeqAt.eqv_refl _ h.1]
  rfl
theorem eq_same {n : Nat} {d : D} (h : D.flat n d) (hn : n ≤ 64 := by omega) : D.eq d d = .ok (.bl true) := by
  unfold D.eq
  rw [h.shp hn]
  show R.ok (D.bl (D.eqv d d)) = _
  unfold D.eqv
  rw [SeqAt.eqv_refl _ h.1]
end DL
namespace DL
open PySem PySem.Spec PyProof.Rows L2
open Evl (Ex ex_l ex_t ex_rd)

/-! ### a, b = [..], y: the first a new list of its own -/
section
variable {T : Tb} {X : Cx} {ds : DS} {m m' m1 : OM} {S S' L γ α : Type} {E : Exits S L γ}
variable {rest : List Stmt} {pos p2 px py pt : Pos} {a b : Expr} {rl : R (List D)} {kt k2 : Nat}
theorem sb_par2LV (i j : Nat) {x y : Str} {rb : List D → R D} {K : List D → D → R (Fl S L γ)} (hc : X.calm = true) (hN : X.N.Nodup) (ha : ELp T X ds m a rl) (hb : ∀ pl xs, EV T X ds (m ++ [(pl, .l xs)]) b (rb xs))
    (k : ∀ pl xs d, SB T X ((ds.set i (some (.ref pl))).set j (some d)) (m ++ [(pl, .l xs)]) rest E (K xs d)) (hij : i ≠ j := by decide) (hi : X.N[i]? = some x := by rfl) (hj : X.N[j]? = some y := by rfl)
    (hx : X.env.scope.names.lookup x = some .local := by rfl) (hy : X.env.scope.names.lookup y = some .local := by rfl)
    (hw : swappedStores [.Tuple [.Name x px, .Name y py] kt pt] (.Tuple [a, b] k2 p2) X.env = pure (some [x, y]) := by rfl)
    (hs : swapsWithSole [.Tuple [.Name x px, .Name y py] kt pt] (.Tuple [a, b] k2 p2) pos.line X.env = pure false := by rfl)
    (hst : starEach [a, b] X.env = (false, eval a X.env) :: starEach [b] X.env := by exact se1 rfl) (hst2 : starEach [b] X.env = (false, eval b X.env) :: starEach [] X.env := by exact se1 rfl) :
    SB T X ds m (.Assign [.Tuple [.Name x px, .Name y py] kt pt] (.Tuple [a, b] k2 p2) pos :: rest) E (rl.bind fun xs => (rb xs).bind (K xs)) := fun W tk B σ H hs' w D q =>
  wpSs.of (pss_cons (ps_par hc hN hi hj hij hx hy (pa_cons (pe_wp X a) (pa_cons (pe_wp X b) pa_nil hst2) hst) hw hs) (pss_wp X rest)) (ha W tk B σ H hs' w _ (R.sat_mono (R.sat_bind q) (fun xs hxs B1 pl vs H1 g1 hB hfr hm hp r1 =>
    have g' := g1.cell (o := .l xs) hB (.inr hfr) hm ⟨vs, hp, r1⟩
    hb pl xs W tk B1 σ H1 (hs'.mono g1.ex) g'.own _ (R.sat_mono (R.sat_bind hxs) (fun d hd B2 v2 H2 g2 r2 =>
      ⟨_, _, rfl, (k pl xs d).cont tk (g'.trans g2) ((((hs'.mono g1.ex).mono g2.ex).set i (.ref pl)).set j r2) hd⟩) fun _ z => (z.go g').ek)) fun _ z => z.ek))
end
end DL
namespace DL
open PySem PySem.Spec PyProof.Rows L2
open Evl (Ex ex_l ex_t ex_rd)
open PySem.W (EachIs AllAlike Sortable dataLe)

/-! ### sorted(xs), any data that are alike -/
theorem CallR.or {X : Cx} {f : Value} {r r' : List V → Hp → VK → Prop} (h : CallR X f r) (h' : CallR X f r') : CallR X f (fun vs H Q => r vs H Q ∨ r' vs H Q) := by
  intro pins s σ H vs us Q I rv q
  rcases q with q | q
  · exact h pins s σ H vs us Q I rv q
  · exact h' pins s σ H vs us Q I rv q
def rSortA (K : PySem.W.Frag) : List V → Hp → VK → Prop := fun vs H Q => ∃ (a : Addr) (bs : List (V × D)), vs = [V.ref a] ∧ SqL K H a (bs.map (·.1)) ∧ (∀ p ∈ bs, Dp K H p.1 p.2.toPy) ∧ AllAlike (bs.map fun p => p.2.toPy) ∧ Sortable (bs.map fun p => p.2.toPy) ∧ (∀ p ∈ bs, p.2.toPy.depth ≤ 60) ∧
  ∀ p, H p = none → Q (.ref p) (upd H p (.lst ((bs.mergeSort (dataLe false fun p => p.2.toPy)).map (·.1))))
theorem each_of_vals : ∀ {bs : List (V × D)} {its : List Value}, Vals (bs.map (·.1)) its → EachIs (fun u (p : V × D) => RelV p.1 u) its bs
  | [], _, h => by cases h; exact .nil
  | p :: bs, _, h => by
    cases h with
    | cons r t => exact .cons r (each_of_vals t)
theorem vals_of_each : ∀ {bs : List (V × D)} {its : List Value}, EachIs (fun u (p : V × D) => RelV p.1 u) its bs → Vals (bs.map (·.1)) its
  | [], _, h => by cases h; exact .nil
  | p :: bs, _, h => by
    cases h with
    | cons r t => exact .cons r (vals_of_each t)
theorem each_imp {α β : Type} {R S : α → β → Prop} : ∀ {as : List α} {bs : List β}, (∀ a b, b ∈ bs → R a b → S a b) → EachIs R as bs → EachIs S as bs
  | _, _, h, .nil => .nil
  | _, _, h, .cons r t => .cons (h _ _ (List.mem_cons_self ..) r) (each_imp (fun a b hb => h a b (List.mem_cons_of_mem _ hb)) t)
theorem cr_sortA {X : Cx} (hu : X.A.units + 65 < cLine) : CallR X (.builtin "sorted") (rSortA X.K) := by
  intro pins s σ H vs us Q I r h
  obtain ⟨a, bs, rfl, hs, hd, hal, hk, hdp, q⟩ := h
  obtain ⟨its, rv, hl, hz⟩ := I.list hs
  rw [Vals.ref1 r]
  have e := each_of_vals rv
  have er : EachIs (fun v (b : V × D) => ∃ as, Reads s.heap v b.2.toPy as) its bs := each_imp (fun u p hp r => Dp.reads I _ _ _ (hd p hp) r) e
  rw [List.length_map] at hz
  refine PySem.W.sorted_data (R := fun u (p : V × D) => RelV p.1 u) (enc := fun p => p.2.toPy) hl.isList e er hal hk hz (fun b hb => by have := hdp b hb; omega) fun out h1 h2 => ?_
  obtain ⟨ep, he'⟩ := PyProof.Rows.sortedAll_at s.heap its out.toArray
  have hlen : ((bs.mergeSort (dataLe false fun p => p.2.toPy)).map (·.1)).length ≤ sizeLine := by
    rw [List.length_map, List.length_mergeSort]
    exact hz
  exact ⟨.ref _, upd H (s.heap.objs.size + 1) (.lst ((bs.mergeSort (dataLe false fun p => p.2.toPy)).map (·.1))), I.laid (t' := s.toks) (fun _ _ => PyProof.Rows.sortedAll_old) (Nat.le_succ _) ⟨hlen, out, ep, vals_of_each h2, he'⟩, rfl, q _ (I.hok.fresh (Nat.le_succ _))⟩
/-- sorted(xs), one item at most -/
def rSort1 (K : PySem.W.Frag) : List V → Hp → VK → Prop := fun vs H Q => ∃ (a : Addr) (xs : List V), vs = [V.ref a] ∧ SqL K H a xs ∧ xs.length ≤ 1 ∧ ∀ p, H p = none → Q (.ref p) (upd H p (.lst xs))
theorem perm_short {α : Type} {a b : List α} (h : a.Perm b) (hl : b.length ≤ 1) : a = b := by
  match b, hl with
  | [], _ => exact h.eq_nil
  | [x], _ => exact h.eq_singleton
theorem cr_sort1 {X : Cx} : CallR X (.builtin "sorted") (rSort1 X.K) := by
  intro pins s σ H vs us Q I r h
  obtain ⟨a, xs, rfl, hs, h1, q⟩ := h
  obtain ⟨its, rv, hl, hz⟩ := I.list hs
  rw [Vals.ref1 r]
  have hl1 : its.length ≤ 1 := by rw [← rv.length]; exact h1
  refine SrtO.sorted_ord (ltv := fun _ _ => false) ⟨(fun _ _ h => nomatch h), fun _ _ _ _ _ => rfl⟩ hl.isList (by rw [← rv.length]; exact hz) (fun h2 => absurd h2 (by omega)) fun out _ h2 => ?_
  obtain ⟨ep, he'⟩ := PyProof.Rows.sortedAll_at s.heap its out.toArray
  cases perm_short h2.perm hl1
  exact ⟨.ref _, upd H (s.heap.objs.size + 1) (.lst xs), I.laid (t' := s.toks) (fun _ _ => PyProof.Rows.sortedAll_old) (Nat.le_succ _) ⟨hz, _, ep, rv, he'⟩, rfl, q _ (I.hok.fresh (Nat.le_succ _))⟩
theorem cr_sortB {X : Cx} (hu : X.A.units + 65 < cLine) : CallR X (.builtin "sorted") (fun vs H Q => rSortA X.K vs H Q ∨ rSort1 X.K vs H Q) := CallR.or (cr_sortA hu) cr_sort1
/-- a ≤ b, by Python's order of alike data -/
def D.ple (a b : D) : Bool := dataLe false D.toPy a b
def D.sortOk (xs : List D) : Prop := (∀ d ∈ xs, d.toPy.canLay0 = true ∧ d.toPy.depth ≤ 60) ∧ AllAlike (xs.map D.toPy) ∧ Sortable (xs.map D.toPy)
noncomputable def D.sortA : D → R (List D)
  | .lst xs => @ite _ (D.sortOk xs ∨ xs.length ≤ 1) (Classical.propDecidable _) (.ok (xs.mergeSort D.ple)) .ub
  | _ => .ub
theorem sortA_ok {xs : List D} (h : D.sortOk xs ∨ xs.length ≤ 1) : D.sortA (.lst xs) = .ok (xs.mergeSort D.ple) := by
  exact if_pos h
section
variable {K : PySem.W.Frag} {T : Tb} {B H : Hp} {m : OM}
theorem RepL.pairs : ∀ {bs : List (V × D)}, (∀ p ∈ bs, Rep K B p.1 p.2) → RepL K B (bs.map (·.1)) (bs.map (·.2))
  | [], _ => .nil
  | p :: bs, h => .cons (h p (List.mem_cons_self ..)) (RepL.pairs fun q hq => h q (List.mem_cons_of_mem _ hq))
theorem RepL.unzip : ∀ {vs : List V} {ds : List D}, RepL K B vs ds → ∃ bs : List (V × D), bs.map (·.1) = vs ∧ bs.map (·.2) = ds ∧ ∀ p ∈ bs, Rep K B p.1 p.2
  | _, _, .nil => ⟨[], rfl, rfl, fun _ h => nomatch h⟩
  | v :: vs, d :: ds, .cons r t => by
    obtain ⟨bs, h1, h2, h3⟩ := RepL.unzip t
    refine ⟨(v, d) :: bs, by rw [List.map_cons, h1], by rw [List.map_cons, h2], fun p hp => ?_⟩
    rcases List.mem_cons.mp hp with rfl | hp
    · exact r
    · exact h3 p hp
theorem cl_sortA : CallL K T (fun vs H Q => rSortA K vs H Q ∨ rSort1 K vs H Q) D.sortA := by
  intro B m H x dx w rx Q Ee h
  unfold D.sortA at h
  split at h
  · split at h
    · rename_i xs hz
      obtain ⟨a, vs, rfl, h1, h2⟩ := rx.ilst w
      rcases hz with hz | hz
      rotate_left
      · have e : xs.mergeSort D.ple = xs := perm_short (List.mergeSort_perm _ _) hz
        rw [e] at h
        exact .inr ⟨a, vs, rfl, .inl h1, by rw [h2.length]; exact hz, fin_new w h2 h⟩
      obtain ⟨bs, rfl, rfl, h3⟩ := h2.unzip
      obtain ⟨hz1, hz2, hz3⟩ := hz
      rw [List.map_map] at hz2 hz3
      refine .inl ⟨a, bs, rfl, .inl h1, fun p hp => dp_of _ _ ((h3 p hp).mono w.ex) (hz1 _ (List.mem_map.mpr ⟨p, hp, rfl⟩)).1, hz2, hz3, fun p hp => (hz1 _ (List.mem_map.mpr ⟨p, hp, rfl⟩)).2, ?_⟩
      refine fin_new w ?_ h
      have e : (bs.map (·.2)).mergeSort D.ple = (bs.mergeSort (dataLe false fun p => p.2.toPy)).map (·.2) := by
        symm
        exact List.map_mergeSort fun a _ b _ => rfl
      rw [e]
      exact RepL.pairs fun p hp => h3 p (List.mem_mergeSort.mp hp)
    · exact h.elim
  · exact h.elim
end

/-! ### list(x), a dict too -/
def D.toLstA : D → R (List D)
  | .lst xs => .ok xs
  | .tup xs => .ok xs
  | .dct kd => .ok (D.keysK kd)
  | .dtt kd => .ok (D.keysT kd)
  | _ => .ub
abbrev rListA (K : PySem.W.Frag) : List V → Hp → VK → Prop := fun xs H Q => (∃ p ys, xs = [.ref p] ∧ (SqL K H p ys ∨ SqT K H p ys) ∧ ∀ l, H l = none → Q (.ref l) (upd H l (.lst ys))) ∨
  (∃ (a : Addr) (kvs : List (Key × V)), xs = [.ref a] ∧ Rd H a (.dK kvs) ∧ ∀ p, H p = none → Q (.ref p) (upd H p (.lst (kvs.map fun kv => kV kv.1)))) ∨
  (∃ d kvs, xs = [V.ref d] ∧ Rd H d (.dT kvs) ∧ ∀ p bs, H p = none → IsKeys H kvs bs → Q (.ref p) (upd H p (.lst (bs.map V.ref))))
theorem cr_listA {X : Cx} (hc : X.calm = true) : CallR X (.type "list") (rListA X.K) := CallR.or call_list_of (CallR.or (call_listD hc) (call_list_dT hc))
section
variable {K : PySem.W.Frag} {T : Tb} {B H : Hp} {m : OM}
theorem keysD_kV : ∀ {kvs : List (Key × V)} {kd : List (Key × D)}, kvs.map (·.1) = kd.map (·.1) → RepL K B (kvs.map fun kv => kV kv.1) (D.keysK kd)
  | [], [], _ => .nil
  | [], _ :: _, h => nomatch h
  | _ :: _, [], h => nomatch h
  | p :: kvs, q :: kd, h => by
    injection h with h1 h2
    refine .cons ?_ (keysD_kV h2)
    show Rep K B (kV p.1) (keyD q.1)
    have h1 : p.1 = q.1 := h1
    rw [h1]
    exact keyD_rep _
theorem adopt_keys : ∀ {kvs : List (List Key × V)} {bs : List Addr} {kd : List (List Key × D)} {B : Hp}, Own K T B m H → IsKeys H kvs bs → kvs.map (·.1) = kd.map (·.1) → ∃ B', Go K T B m H B' m H ∧ RepL K B' (bs.map V.ref) (D.keysT kd)
  | [], [], [], B, w, _, _ => ⟨B, .refl w, .nil⟩
  | [], _ :: _, _, _, w, h, _ => by cases h
  | _ :: _, [], _, _, w, h, _ => by cases h
  | [], [], _ :: _, _, w, _, h => nomatch h
  | _ :: _, _ :: _, [], _, w, _, h => nomatch h
  | p :: kvs, b :: bs, q :: kd, B, w, h, e => by
    injection e with e1 e2
    cases h with
    | cons hb ht =>
      obtain ⟨B1, g1, h1⟩ := w.adopt hb
      obtain ⟨B2, g2, h2⟩ := adopt_keys g1.own ht e2
      refine ⟨B2, g1.trans g2, .cons ?_ h2⟩
      have e3 : p.1 = q.1 := e1
      show Rep K B2 (V.ref b) (tkeyD q.1)
      rw [← e3]
      exact .tup (g2.ex _ _ h1) (keysD_rep _)
theorem cl_listA : CallL K T (rListA K) D.toLstA := by
  intro B m H x dx w rx Q Ee h
  unfold D.toLstA at h
  split at h
  · obtain ⟨a, vs, rfl, h1, h2⟩ := rx.ilst w
    exact .inl ⟨a, vs, rfl, .inl (.inl h1), fin_new w h2 h⟩
  · obtain ⟨a, vs, rfl, h1, h2⟩ := rx.itup w
    exact .inl ⟨a, vs, rfl, .inr h1, fin_new w h2 h⟩
  · obtain ⟨a, kvs, rfl, h1, h2⟩ := rx.idct w
    exact .inr (.inl ⟨a, kvs, rfl, h1, fin_new w (keysD_kV h2.1) h⟩)
  · obtain ⟨a, kvs, rfl, h1, h2⟩ := rx.idtt w
    refine .inr (.inr ⟨a, kvs, rfl, h1, fun p bs hp hk => ?_⟩)
    obtain ⟨B2, g2, r2⟩ := adopt_keys w hk h2.1
    exact fin_new (T := T) (m := m) g2.own r2 (fun B' p vs H' g hB hf hm hp r => h B' p vs H' (g2.trans g) hB hf hm hp r) p hp
  · exact h.elim
end

/-! ### x[-2::-1], x a list -/
theorem pick_rev2 (items : Array Value) : slicePick items (some (-2)) none (some (-1)) = (items.toList.take (items.size - 1)).reverse.toArray := by
  have hb : sliceBounds (some (-2)) none (some (-1)) items.size = (((items.size - 1 : Nat) : Int) - 1, -1, -1) := by
    unfold sliceBounds
    simp only [Option.getD_some]
    refine Prod.ext ?_ rfl
    show max (-1) (min ((if (-2 : Int) < 0 then -2 + (items.size : Int) else -2)) ((items.size : Int) - 1)) = _
    rw [if_pos (by decide)]
    omega
  unfold slicePick
  rw [hb]
  show ((sliceRange (((items.size - 1 : Nat) : Int) - 1) (-1) (-1)).filterMap (items[·]?)).toArray = _
  have e2 : ((List.range (items.size - 1)).filterMap (items[·]?)) = items.toList.take (items.size - 1) := by
    have h := pick_run items 0 (items.size - 1)
    have e : (List.range (items.size - 1)).map (0 + ·) = List.range (items.size - 1) := by
      rw [show ((0 + ·) : Nat → Nat) = id from funext fun k => Nat.zero_add k, List.map_id]
    rw [e, List.drop_zero] at h
    exact h
  rw [PySem.W.krv_sliceRange, PySem.W.krv_range, List.filterMap_reverse, e2]
def tRev2 (K : PySem.W.Frag) (te : TE) : TE := fun σ H Q => te σ H fun x H1 => ∃ a xs, x = .ref a ∧ SqL K H1 a xs ∧ ∀ p, H1 p = none → Q (.ref p) (upd H1 p (.lst (xs.take (xs.length - 1)).reverse))
theorem Vals.take {vs : List V} {us : List Value} (r : Vals vs us) : ∀ n : Nat, Vals (vs.take n) (us.take n)
  | 0 => .nil
  | n + 1 => by
    cases r with
    | nil => exact .nil
    | cons h t => exact .cons h (Vals.take t n)
section
variable {X : Cx}
theorem pe_rev2 {e : Expr} {te : TE} {k k2 : Nat} {p1 p2 p3 p4 p5 pos : Pos} (he : PE X e te) : PE X (.Subscript e (.Slice (some (.UnaryOp .USub (.Constant (.int 2) k2 p4) p5)) none (some (.UnaryOp .USub (.Constant (.int 1) k p1) p2)) p3) pos) (tRev2 X.K te) := by
  refine ⟨fun pins s σ H Q I h => ?_⟩
  refine Subscript_ (thn (he.run pins s σ H _ I h) fun v s1 ⟨x, H1, I1, r1, q1⟩ => ?_)
  obtain ⟨a, xs, ex, hx, q⟩ := q1
  subst ex
  cases r1
  have hst : PO X (some (.UnaryOp .USub (.Constant (.int 1) k p1) p2)) (tPart (tUn (rU fun i => .int (-i)) (tC (.int 1)))) := po_some (pe_un un_neg pe_int)
  have hst2 : PO X (some (.UnaryOp .USub (.Constant (.int 2) k2 p4) p5)) (tPart (tUn (rU fun i => .int (-i)) (tC (.int 2)))) := po_some (pe_un un_neg pe_int)
  refine wpAny_Slice (thn (hst2.run pins s1 σ H1 (fun o H2 => o = some (-2) ∧ H2 = H1) I1 ⟨2, rfl, -2, rfl, rfl, rfl⟩) fun vl s2 ⟨l, H2, I2, pl, el, e2⟩ => ?_)
  subst el e2
  refine thn (po_none.run pins s2 σ H2 (fun o H3 => o = none ∧ H3 = H2) I2 ⟨rfl, rfl⟩) fun vu s3 ⟨u, H3, I3, pu, eu, e3⟩ => ?_
  subst eu e3
  refine thn (hst.run pins s3 σ H3 (fun o H4 => o = some (-1) ∧ H4 = H3) I3 ⟨1, rfl, -1, rfl, rfl, rfl⟩) fun vs s4 ⟨o, H4, I4, ps, eo, e4⟩ => ?_
  subst eo e4
  have I5 : Inv X pins σ H4 { s4 with heap := s4.heap.push { cls := .type "slice", data := .fields #[vl, vu, vs] } } := I4.kept (t' := s4.toks) fun b ob q => Heap.get?_push_of_some _ q
  obtain ⟨its, r, ht, hz⟩ := I5.list hx
  have hlen := r.length
  show wpAny (model X.prog X.w) X.A (subscriptTail e (.Slice (some (.UnaryOp .USub (.Constant (.int 2) k2 p4) p5)) none (some (.UnaryOp .USub (.Constant (.int 1) k p1) p2)) p3) (.ref a) (.ref s4.heap.objs.size)) (EP X pins σ Q) X.xe { s4 with heap := s4.heap.push { cls := .type "slice", data := .fields #[vl, vu, vs] } }
  refine tail_any (ops := [.ref a, .ref s4.heap.objs.size]) ht.isList.typeIs (PySem.slot_list_getitem.lookup) ?_ (by with_unfolding_all rfl)
  refine wpAny_getItem_list_slice ht.isList (Heap.IsSliceOf.new _ vl vu vs) pl pu ps (by decide) ?_ (by rw [List.size_toArray]; omega)
  rw [pick_rev2]
  have el : its.toArray.toList.take (its.toArray.size - 1) = its.take (xs.length - 1) := by simp [hlen]
  rw [el]
  refine ⟨.ref _, _, I5.laid (t' := s4.toks) (o := .lst (xs.take (xs.length - 1)).reverse) (fun b ob q => Heap.get?_push_of_some _ q) (Nat.le_refl _) ?_, rfl, q _ (I5.hok.fresh (Nat.le_refl _))⟩
  exact ⟨by rw [List.length_reverse, List.length_take]; omega, _, 0, (DL.Vals.take r _).reverse, Heap.get?_push_size _ rfl⟩
end
def D.rev2 : D → R D
  | .lst xs => .ok (.lst (xs.take (xs.length - 1)).reverse)
  | _ => .ub
section
variable {T : Tb} {X : Cx} {ds : DS} {m m' m1 : OM} {W : WX} {B B1 H H1 : Hp} {σ : St} {pos p p2 p1 p3 p4 p5 : Pos} {a : Expr} {ra : R D} {k k2 : Nat}
theorem ev_rev2 (ha : EVw T X ds m a ra) : EV T X ds m (.Subscript a (.Slice (some (.UnaryOp .USub (.Constant (.int 2) k2 p4) p5)) none (some (.UnaryOp .USub (.Constant (.int 1) k p1) p2)) p3) pos) (ra.bind D.rev2) := by
  intro W tk B σ H hs w Q q
  refine wpE.of (pe_rev2 (pe_wp X a)) ?_
  refine ha W tk B σ H hs w _ (R.sat_mono (R.sat_bind q) (fun x hx B1 v1 H1 g1 r1 => ?_) fun _ z => z)
  unfold DL.D.rev2 at hx
  split at hx
  · rename_i xs
    obtain ⟨ad, vs, rfl, h1, h2⟩ := r1.ilst g1.own
    refine ⟨ad, vs, rfl, .inl h1, ?_⟩
    have hl := h2.length
    rw [hl]
    exact fin_lst g1.own (h2.take _).reverse fun B4 v4 H4 g4 r4 => hx B4 v4 H4 (g1.trans g4) r4
  · exact hx.elim
end
end DL
namespace DL
open PySem PySem.Spec PyProof.Rows L2
open Evl (Ex ex_l ex_t ex_rd)

/-! ### x = [{}], x[0][k] = v, and the dict stands still -/
section
variable {T : Tb} {X : Cx} {ds : DS} {m m' m1 : OM} {S S' L γ α : Type} {E : Exits S L γ} {W : WX} {B B1 H H1 : Hp} {σ : St}
variable {rest ss : List Stmt} {pos pos' p p2 : Pos} {o e k : Expr} {re rk ro : R D}
theorem Go.reo {K : PySem.W.Frag} {q : Addr} {o o' : MO} {pre post : OM} {B' H' : Hp} (g : Go K T B m H B' (pre ++ (q, o) :: post) H') (h : MoAt K B' H' q o') : Go K T B m H B' (pre ++ (q, o') :: post) H' := by
  have em : (pre ++ (q, o) :: post).map (·.1) = (pre ++ (q, o') :: post).map (·.1) := by simp
  refine ⟨g.ex, ⟨g.own.ex, fun r hr => ?_, by rw [← em]; exact g.own.nd, g.own.tb, g.own.nt⟩, g.frame, fun a ha => g.fresh a (by rw [em]; exact ha), g.grow⟩
  rcases List.mem_append.mp hr with hr | hr
  · exact g.own.at_ r (List.mem_append_left _ hr)
  · rcases List.mem_cons.mp hr with rfl | hr
    · exact ⟨(g.own.at_ (q, o) (by simp)).1, h⟩
    · exact g.own.at_ r (List.mem_append_right _ (List.mem_cons_of_mem _ hr))
theorem Own.noB {p : Addr} (w : Own X.K T B m H) (hp : H p = none) : B p = none := by
  cases q : B p with
  | none => rfl
  | some u => rw [w.ex p u q] at hp; cases hp
theorem sb_asgLD (i : Nat) {x : Str} {r : R (Fl S L γ)} (hN : X.N.Nodup) (k : ∀ pl ql, SB T X (ds.set i (some (.ref ql))) (m ++ [(pl, .t []), (ql, .l [.ref pl])]) rest E r) (hi : X.N[i]? = some x := by rfl) (hx : Loc X.env.scope x := by first | exact Or.inl rfl | exact Or.inr rfl)
    (hsw : swapsWith (.List [.Dict [] [] p] p2) (some (.Name x pos')) pos.line X.env = pure false := by rfl) (hf : X.fn x = true ∨ X.env.scope.names.lookup x = some .local := by first | exact .inl rfl | exact .inr rfl)
    (hst : starEach [.Dict [] [] p] X.env = (false, eval (.Dict [] [] p) X.env) :: starEach [] X.env := by exact se1 rfl) : SB T X ds m (.Assign [.Name x pos'] (.List [.Dict [] [] p] p2) pos :: rest) E r := fun W tk B σ H hs w D q =>
  wpSs.of (pss_cons (ps_set hN hi hx (pe_lst (pa_cons pe_dnewT pa_nil hst)) hsw hf) (pss_wp X rest)) (fun pl hp => ⟨by show 1 ≤ sizeLine; decide, fun ql hq => by
    have hB := w.noB hp
    have g1 := (Go.new w hp (o := .dT [])).cell (o := .t []) hB (.inr (.of hp)) (w.notIn (.of hp)) ⟨[], upd_same, rfl, .nil⟩
    have hB2 := g1.own.noB hq
    have hne : ql ≠ pl := fun z => by rw [z, upd_same] at hq; cases hq
    have hq0 : H ql = none := by rw [upd_ne hne] at hq; exact hq
    have g2 := (g1.trans (Go.new g1.own hq (o := .lst [.ref pl]))).cell (o := .l [.ref pl]) hB2 (.inr (.of hq0)) (g1.own.notIn (.of hq)) ⟨[.ref pl], upd_same, .cons (.ref pl) .nil⟩
    have e : m ++ [(pl, MO.t [])] ++ [(ql, MO.l [.ref pl])] = m ++ [(pl, .t []), (ql, .l [.ref pl])] := by simp
    rw [e] at g2
    exact (k pl ql).cont tk g2 (hs.set i (.ref ql)) q⟩)
/-- o[k] = e, o an expression that is an owned dict -/
theorem sb_putTo {pl : Addr} {kd : List (List Key × D)} {pre post : OM} {K : List (List Key × D) → R (Fl S L γ)} (hu : X.A.units + 1 < cLine) (ho : EV T X ds (pre ++ (pl, .t kd) :: post) o ro) (he : EV T X ds (pre ++ (pl, .t kd) :: post) e re) (hk : EV T X ds (pre ++ (pl, .t kd) :: post) k rk)
    (kk : ∀ ys, SB T X ds (pre ++ (pl, .t ys) :: post) rest E (K ys)) (hro : ro = .ok (.ref pl) := by rfl) (hs : swapsWith e (some (.Subscript o k p2)) pos.line X.env = pure false := by rfl) :
    SB T X ds (pre ++ (pl, .t kd) :: post) (.Assign [.Subscript o k p2] e pos :: rest) E (re.bind fun d => rk.bind fun n => (D.putT kd n d).bind K) := fun W tk B σ H hs' w D q => by
  subst hro
  refine wpSs.of (pss_cons (ps_dput hu (pe_wp X o) (pe_wp X k) (pe_wp X e) hs) (pss_wp X rest)) ?_
  refine he W tk B σ H hs' w _ (R.sat_mono (R.sat_bind q) (fun d hd B1 v1 H1 g1 r1 => ?_) fun _ z => z.ek)
  refine ho W tk B1 σ H1 (hs'.mono g1.ex) g1.own _ ?_
  intro B0 v0 H0 g0 r0
  cases r0.iref
  have g01 := g1.trans g0
  refine hk W tk B0 σ H0 (hs'.mono g01.ex) g01.own _ (R.sat_mono (R.sat_bind hd) (fun n hn B2 v2 H2 g2 r2 => ?_) fun _ z => (z.go g01).ek)
  obtain ⟨_, kvs, hp, h3, h4⟩ := g2.own.at_ (pl, .t kd) (by simp)
  have kdr : KD X.K B2 kvs kd := ⟨h3, h4⟩
  unfold DL.D.putT at hn
  split at hn
  · split at hn
    · rename_i ks k' ek
      split at hn
      · rename_i hz
        obtain ⟨b, vs, rfl, k1, k2⟩ := r2.itupH
        cases asKeys_ok ek k2
        refine ⟨pl, _, rfl, .t hp (g2.own.ex _ _ k1) (by rw [kdr.length]; exact hz), ?_⟩
        have kp := kdr.put k' ((r1.mono g0.ex).mono g2.ex)
        have g3 := Go.upd (o' := .t (dput kd k' d)) (u := .dT (L2.putK kvs k' v1)) g2.own (fun _ z => nomatch z) ⟨_, upd_same, kp.1, kp.2⟩
        exact (kk _).cont tk ((g01.trans g2).trans g3) (hs'.mono ((g01.trans g2).ex)) hn
      · exact False.elim hn
    · exact False.elim hn
  · exact False.elim hn
theorem sb_freezeLD {pl ql : Addr} {kd : List (List Key × D)} {pre post : OM} {r : R (Fl S L γ)} (k : SB T X ds (pre ++ (ql, .l [.dtt kd]) :: post) ss E r) : SB T X ds (pre ++ (pl, .t kd) :: (ql, .l [.ref pl]) :: post) ss E r := fun W tk B σ H hs w D q => by
  obtain ⟨hB, kvs, hp, h1, h2⟩ := w.at_ (pl, .t kd) (by simp)
  obtain ⟨hBq, vs, hq, hr⟩ := w.at_ (ql, .l [.ref pl]) (by simp)
  obtain ⟨g0, hn⟩ := freeze_core w
  refine wpSs_lock hp (.inr ⟨_, rfl⟩) fun od => ?_
  have g := g0.lock (od := od) hB (.inl (by simp)) hn hp (.inr ⟨_, rfl⟩)
  have hne : ql ≠ pl := fun z => by rw [z, hp] at hq; cases hq
  have ev : vs = [.ref pl] := by
    cases hr with
    | cons r1 r2 => cases r2; rw [r1.iref]
  subst ev
  have g' := g.reo (o' := .l [.dtt kd]) ⟨[.ref pl], by rw [upd_ne hne]; exact hq, .cons (.dT upd_same h1 (h2.mono g.ex)) .nil⟩
  exact k.cont tk g' (hs.mono g.ex) q
end
end DL
namespace DL
open PySem PySem.Spec PyProof.Rows L2
open Evl (Ex ex_l ex_t ex_rd)

/-! ### a call of a name that holds a def -/
section
variable {X : Cx} {CX : CXT} {k i : Nat} {f : Addr} {fd : FuncData} {ps : List Str} {sp : Sp} {E : St → XK} {x : Str} {p pos : Pos} {e : Expr} {es : List Expr} {t : TA}
theorem pe_callVS (F : FnOk X.prog X.w X.K X.mg X.base CX k f fd ps sp) (hr : Room k X.A) (hN : X.N[i]? = some x) (hv : Vis X.env.scope x) (hk : PySem.W.keepIn X.K (.ref f) = true) (hb : Binds X.K fd ps []) (hx : ∀ σ, PassesAt CX X σ (E σ)) (ha : PA X (e :: es) t)
    (hdb : (x == ("__debug__" : Str)) = false := by decide) (hcd : (x == ("__classdict__" : Str)) = false := by decide)
    (he : starEach (e :: es) X.env = (false, eval e X.env) :: starEach es X.env := by rfl) (hpl : (backTo pos (starEach es X.env)).any (·.1) = false := by rfl) : PE X (.Call (.Name x p) (e :: es) [] pos) (fun σ H Q => σ[i]? = some (some (.ref f)) ∧ t σ H fun vs H1 => sp vs H1 Q (E σ)) := by
  refine ⟨fun pins s σ H Q I h => ?_⟩
  obtain ⟨hs, ht⟩ := h
  refine wpAny_Call_Name_kw (thn ((pe_var (pos := p) hN hv hdb hcd).run pins s σ H (fun v H1 => v = .ref f ∧ H1 = H) I ⟨.ref f, hs, rfl, rfl⟩) fun u s1 ⟨v, H1, I1, r1, q1⟩ => ?_)
  obtain ⟨rfl, rfl⟩ := q1
  cases r1
  refine PySem.W.callWith_K (h₀ := X.base) I.ok.mod.kin hk (thn (ha.run pos pins s1 σ _ _ I1 ht) fun us s2 ⟨vs, H2, I2, r, q⟩ => ⟨I2.kIn, ?_⟩) he hpl
  exact run_fnS F hr hb (hx σ) I2 r q
end
section
variable {T : Tb} {X : Cx} {ds : DS} {m m' m1 : OM} {pos p p2 : Pos} {a b c e : Expr} {es : List Expr} {ra rb rc r : R D} {x y : Str} {f : Addr} {fd : FuncData} {ps : List Str} {k : Nat}
theorem ev_callV {i : Nat} {rf : List D → R D} {rs : R (List D)} (h : ds[i]? = some (some (.ref f))) (F : FnP X.prog X.w X.K X.mg X.base T k f fd ps rf) (C : Cal X.K X.mg X.A y f fd ps k) (hrf : ∀ xs : List D, xs.length ≠ ps.length → rf xs = .ub) (ha : EAp T X ds m (e :: es) rs)
    (hN : X.N[i]? = some x := by rfl) (hv : Vis X.env.scope x := by first | exact Or.inl rfl | exact Or.inr (Or.inl rfl) | exact Or.inr (Or.inr rfl)) (hdb : (x == ("__debug__" : Str)) = false := by decide) (hcd : (x == ("__classdict__" : Str)) = false := by decide)
    (hst : starEach (e :: es) X.env = (false, eval e X.env) :: starEach es X.env := by exact se1 rfl) (hpl : (backTo pos (starEach es X.env)).any (·.1) = false := by exact sepl rfl) : EV T X ds m (.Call (.Name x p) (e :: es) [] pos) (rs.bind rf) := by
  intro W tk B σ H hs w Q q
  refine wpE.of (pe_callVS F C.hr hN hv C.kp C.bi (fun σ => passAt tk σ) (pa_wp X (e :: es)) hdb hcd hst hpl) ?_
  obtain ⟨v, h1, h2⟩ := hs.at_ i _ h
  cases h2.iref
  refine ⟨h1, ha W tk B σ H hs w _ (R.sat_mono (R.sat_bind q) (fun xs hx B1 vs H1 g1 r1 => ?_) fun _ z => z)⟩
  exact sp_pure (W := W) g1.own r1 (len_of hrf hx) (R.sat_mono hx (fun d hd B' v H' g r => hd B' v H' (g1.trans g) r) fun _ z => z.go g1)
/-- a def's name as a value -/
theorem ev_fn (C : Cal X.K X.mg X.A x f fd ps k) (hg : Gl X x := by rfl) (hd : (x == ("__debug__" : Str)) = false := by decide) : EV T X ds m (.Name x pos) (.ok (.ref f)) :=
  ev_glob C.mg (show RelV (.ref f) (.ref f) from rfl) (fun B => .ref f) hg hd
end
/-! ### for x in (f, g, ..) -/
section
variable {T : Tb} {X : Cx} {ds : DS} {m : OM} {S S' L γ α β : Type} {E : Exits S L γ} {rest body : List Stmt} {pos : Pos} {tg iter c : Expr}
theorem sb_ub {ss : List Stmt} : SB T X ds m ss E .ub := fun W tk B σ H hs w D q => q.elim
theorem for_coreM {W : WX} {B B0 H H0 : Hp} {m0 m00 : OM} {ds0 : DS} {σ0 : St} {J : It} {xs ys : List D} {g : TG} {is : List Nat} {un : D → R α} {un' : D → R β} {fa : β → α} {put : DS → α → DS} {En : S' → DS → OM → Prop} {f : S' → β → R (Fl S' S' γ)} {K : S' → R (Fl S L γ)} {s0 : S'} {D0 : Ends} (tk : Takes X W)
    (hlen : ys.length = xs.length) (hmap : ∀ (i : Nat) x y, xs[i]? = some x → ys[i]? = some y → ∃ b, un' y = .ok b ∧ un x = .ok (fa b))
    (g0 : Go X.K T B m H B0 m0 H0) (hs0 : Sl X.K B0 σ0 ds) (dw : DW X.K T J B0 xs) (ht : TgD X.K T g is un put) (he : En s0 ds0 m00) (h0 : Fgt ds ds0) (h1 : m00.Sublist m0)
    (hb : ∀ s b ds' m', En s ds' m' → SB T X (put ds' (fa b)) m' body (E.loop En) (f s b)) (hr : ∀ s ds' m', En s ds' m' → SB T X ds' m' rest E (K s))
    (q : ((forL un' f ys s0).bind (Fl.after K)).sat (SBpost X.K T B m H E D0) (EB X T W B m H)) :
    ∃ W' : Nat → Nat → St → Hp → Prop, (∃ n, W' 0 n σ0 H0) ∧ ∀ i n σ H, W' i n σ H →
      (J.stop i H ∧ wpSs X rest D0 σ H) ∨ (J.go i H ∧ ∃ N : St → Hp → Prop, (∀ σ' H', N σ' H' → ∃ n', n' < n ∧ W' (i + 1) n' σ' H') ∧ ∀ x H', J.yld i H x H' → g x σ H' fun σ2 H2 => wpSs X body { nx := N, rt := D0.rt, bk := wpSs X rest D0, ct := N } σ2 H2) := by
  refine ⟨fun i n σ1 H1 => n = xs.length - i ∧ i ≤ xs.length ∧ ∃ s ds1 m1 B1, En s ds1 m1 ∧ Go X.K T B m H B1 m1 H1 ∧ Ex B0 B1 ∧ Sl X.K B1 σ1 ds1 ∧ ((forL un' f (ys.drop i) s).bind (Fl.after K)).sat (SBpost X.K T B m H E D0) (EB X T W B m H),
    ⟨xs.length, by simp, Nat.zero_le _, s0, ds0, m00, B0, he, g0.sub h1, fun _ _ h => h, hs0.fgt h0, q⟩, ?_⟩
  rintro i n σ1 H1 ⟨rfl, hi, s, ds1, m1, B1, en1, g1, e1, hs1, q1⟩
  by_cases hlt : i < xs.length
  · have hx : xs[i]? = some xs[i] := List.getElem?_eq_getElem hlt
    have hy : ys[i]? = some (ys[i]'(by omega)) := List.getElem?_eq_getElem (by omega)
    have hd : ys.drop i = (ys[i]'(by omega)) :: ys.drop (i + 1) := List.drop_eq_getElem_cons (by omega)
    obtain ⟨b, ub, ux⟩ := hmap i _ _ hx hy
    rw [hd] at q1
    refine .inr ⟨dw.goes i H1 hlt (e1.trans g1.own.ex), fun σ' H' => ∃ s ds2 m2 B2, En s ds2 m2 ∧ Go X.K T B m H B2 m2 H' ∧ Ex B0 B2 ∧ Sl X.K B2 σ' ds2 ∧ ((forL un' f (ys.drop (i + 1)) s).bind (Fl.after K)).sat (SBpost X.K T B m H E D0) (EB X T W B m H),
      fun σ' H' ⟨s', ds2, m2, B2, z0, z1, z2, z3, z4⟩ => ⟨xs.length - (i + 1), by omega, rfl, hlt, s', ds2, m2, B2, z0, z1, z2, z3, z4⟩, fun v H2 hyl => ?_⟩
    obtain ⟨B2, g2, rv⟩ := dw.yields i H1 v H2 B1 m1 _ hx e1 g1.own hyl
    have q2 : ((f s b).bind fun fl => (turnK (forL un' f (ys.drop (i + 1))) fl).bind (Fl.after K)).sat (SBpost X.K T B m H E D0) (EB X T W B m H) := by
      have : ((forL un' f ((ys[i]'(by omega)) :: ys.drop (i + 1)) s).bind (Fl.after K)) = ((f s b).bind fun fl => (turnK (forL un' f (ys.drop (i + 1))) fl).bind (Fl.after K)) := by
        show (((un' (ys[i]'(by omega))).bind fun a => (f s a).bind (turnK (forL un' f (ys.drop (i + 1))))).bind (Fl.after K)) = _
        rw [ub]
        show (((f s b).bind (turnK (forL un' f (ys.drop (i + 1))))).bind (Fl.after K)) = _
        rw [R.bind_assoc]
      rw [← this]
      exact q1
    refine ht B2 m1 H2 v xs[i] σ1 ds1 g2.own (hs1.mono g2.ex) rv _ (EB X T W B m H) (by
      rw [ux]
      intro B3 σ3 H3 g3 hs3 _
      have g13 := (g1.trans g2).trans g3
      refine hb s b ds1 m1 en1 W tk B3 σ3 H3 hs3 g13.own _ (R.sat_mono (R.sat_bind q2) (fun fl hfl => ?_) fun _ z => z.go g13)
      exact turn_post tk g13 hr (fun s' ds2 m2 z0 B' σ' H' z1 z2 z3 z4 => ⟨s', ds2, m2, B', z0, z1, ((e1.trans g2.ex).trans g3.ex).trans z2, z3, z4⟩) hfl)
  · have e : i = xs.length := by omega
    subst e
    rw [List.drop_of_length_le (by omega)] at q1
    exact .inl ⟨dw.stops H1 (e1.trans g1.own.ex), (hr s ds1 m1 en1).cont tk g1 hs1 q1⟩
theorem sb_forM {ri : R (List D)} {xs ys : List D} {g : TG} {is : List Nat} {un : D → R α} {un' : D → R β} {fa : β → α} {put : DS → α → DS} {f : S' → β → R (Fl S' S' γ)} {K : S' → R (Fl S L γ)} {ds0 : DS} {m0 : OM} (En : S' → DS → OM → Prop) (s0 : S') (hp : PassesOwn (model X.prog X.w) X.A X.env X.xe) (hc : X.calm = true) (hi : EI T X ds m tg iter ri) (hg : PG X tg g) (ht : TgD X.K T g is un put)
    (he : En s0 ds0 m0) (h0 : Fgt ds ds0) (h1 : m0.Sublist m) (hb : ∀ s b ds' m', En s ds' m' → SB T X (put ds' (fa b)) m' body (E.loop En) (f s b)) (hr : ∀ s ds' m', En s ds' m' → SB T X ds' m' rest E (K s))
    (hri : ri = .ok xs) (hlen : ys.length = xs.length) (hmap : ∀ (i : Nat) x y, xs[i]? = some x → ys[i]? = some y → ∃ b, un' y = .ok b ∧ un x = .ok (fa b)) (hst : ∀ x, foldedSetIterable iter X.env x = pure x := by intro _; rfl) :
    SB T X ds m (.For tg iter body [] pos :: rest) E ((forL un' f ys s0).bind (Fl.after K)) := fun W tk B σ H hs w D q => by
  subst hri
  exact wpSs.of (pss_cons (ps_for hp hc (pi_wp X tg iter) hg (pss_wp X body) hst) (pss_wp X rest)) (hi W tk B σ H hs w _ (fun B0 J H0 g0 dw => for_coreM tk hlen hmap g0 (hs.mono g0.ex) dw ht he h0 h1 hb hr q))
/-- places in a list of defs -/
def unI : D → R Nat
  | .int i => .ok i.toNat
  | _ => .ub
def ixs (n : Nat) : List D := (List.range n).map fun (i : Nat) => D.int (i : Int)
theorem ixs_len (n : Nat) : (ixs n).length = n := by unfold ixs; simp
theorem fn_map {fs : List Addr} {fa : Nat → D} (hfa : ∀ i f, fs[i]? = some f → fa i = .ref f) : ∀ (i : Nat) x y, (fs.map D.ref)[i]? = some x → (ixs fs.length)[i]? = some y → ∃ b, unI y = .ok b ∧ unN x = .ok (fa b) := fun i x y hx hy => by
  unfold ixs at hy
  rw [List.getElem?_map] at hx hy
  cases hf : fs[i]? with
  | none => rw [hf] at hx; cases hx
  | some f =>
    rw [hf] at hx
    cases hx
    have hi : i < fs.length := (List.getElem?_eq_some_iff.mp hf).1
    rw [List.getElem?_range hi] at hy
    cases hy
    exact ⟨i, rfl, by rw [hfa i f hf]⟩
end
end DL
namespace DL
open PySem PySem.Spec PyProof.Rows L2
open Evl (Ex ex_l ex_t ex_rd)

/-! ### {k: v}, k a tuple of ints and texts -/
def tDispT (tk tv : TE) : TE := fun σ H Q => ∀ p, H p = none → tk σ (L2.upd H p (.dT [])) fun x H1 => tv σ H1 fun y H2 => H2 p = some (.dT []) ∧ ∃ ks b, x = .ref b ∧ H2 b = some (.tup (ks.map kV)) ∧ Q (.ref p) (L2.upd H2 p (.dT [(ks, y)]))
theorem pe_dispT {X : Cx} {pos : Pos} {k v : Expr} {tk tv : TE} (hu : X.A.units + 1 < cLine) (hk : PE X k tk) (hv : PE X v tv) : PE X (.Dict [some k] [v] pos) (tDispT tk tv) := by
  refine ⟨fun pins s σ H Q I q => ?_⟩
  have hn := I.hok.fresh (Nat.le_refl s.heap.objs.size)
  have I1 := I.laid (a := s.heap.objs.size) (o := .dT []) (h' := s.heap.push { cls := .type "dict", data := .dict #[] }) (t' := s.toks) (fun _ _ q => Heap.get?_push_of_some _ q) (Nat.le_refl _) (dt_empty s.heap I.big)
  have hlen := pairTrees_length [some k] [v] X.env pos rfl rfl
  have h0 : pairTrees [some k] [v] X.env pos ≠ [] := fun z => by rw [z] at hlen; cases hlen
  have h15 : (pairTrees [some k] [v] X.env pos).length ≤ 15 := by rw [hlen]; exact (by decide : 1 ≤ 15)
  rw [arm_eval_Dict, zip_pairTrees [some k] [v] X.env pos rfl rfl, dictDisplay_pairs (pairTrees [some k] [v] X.env pos) h0 (by omega)]
  refine wpAny_bind (wpAny_standAt (wpAny_bind (wpAny_subDictH (knd := tupleKind (mixKind X.prog X.w)) (Q := fun d s' => wpAny (model X.prog X.w) X.A (pure (Value.ref d)) (EP X pins σ Q) X.xe s') (show X.A.units < cLine by omega) h15 ?_)))
  refine pairTrees_cons_walk (thn (hk.run pins _ σ _ _ I1 (q _ hn)) fun u s1 ⟨x, H1, I2, rx, q1⟩ => thn (hv.run pins s1 σ H1 _ I2 q1) fun w2 s2 ⟨y, H2, I3, ry, e, ks, b, ex, eb, q2⟩ => pairTrees_nil_walk ?_)
  subst ex
  obtain rfl : u = Value.ref b := rx
  obtain ⟨z, hd, xs, rel, dd⟩ := dt_of I3.hok e
  cases rel
  refine ⟨[(ks, b, w2)], ⟨rfl, rfl, key_of I3.hok eb, True.intro⟩, dd, fun h' tk' dd' hs => wpAny_pure ⟨.ref s.heap.objs.size, _, ?_, rfl, q2⟩⟩
  obtain ⟨o, es, ep, hq, h2, h3, h4, _, h5⟩ := dd'
  refine d_write (t' := tk') I3 (by rw [e]; exact True.intro) hs ⟨o, hq⟩ ⟨by show 1 ≤ sizeLine; decide, hd, _, (KT.put (xs := []) (kvs := []) .nil ks eb ry).keeps fun c ys ec => ?_, o, es, ep, hq, h2, h3, h4, h5⟩
  rw [upd_ne (ne_of ec e (fun z => nomatch z))]
  exact ec
def D.isTp : D → Bool
  | .tup _ => true
  | _ => false
def D.mkD1A (k v : D) : R D := if k.isTp then (match k with
  | .tup ks => (match asKeys ks with
    | some kk => .ok (.dtt [(kk, v)])
    | none => .ub)
  | _ => .ub) else D.mkD1 k v
section
variable {T : Tb} {X : Cx} {ds : DS} {m m' m1 : OM} {W : WX} {B B1 H H1 : Hp} {σ : St} {pos p p2 : Pos} {k v : Expr} {rk rv : R D}
theorem disp_keep {pd : Addr} (w : Own X.K T B m H) (hp : H pd = none) {B2 H2 : Hp} (g : Go X.K T B m (L2.upd H pd (.dT [])) B2 m H2) : H2 pd = some (.dT []) ∧ B2 pd = none := by
  have hB := w.noB hp
  have hm : pd ∉ m.map (·.1) := w.notIn (.of hp)
  refine ⟨g.frame pd _ upd_same (fun _ z => nomatch z) hm, ?_⟩
  cases e : B2 pd with
  | none => rfl
  | some u =>
    rcases g.grow pd u e with z | z | z | ⟨xs, z⟩ | ⟨xs, z⟩
    · rw [hB] at z; cases z
    · exact absurd z hm
    · obtain ⟨ps, z⟩ := z _ upd_same; cases z
    · rw [upd_same] at z; cases z
    · rw [upd_same] at z; cases z
/-- the object of a display is written -/
theorem disp_put {pd : Addr} {u : HO} (w : Own X.K T B m H) (hp : H pd = none) {B2 H2 : Hp} (g3 : Go X.K T B m H B2 m H2) (h1 : H2 pd = some (.dT [])) (h2 : B2 pd = none) : Go X.K T B m H B2 m (L2.upd H2 pd u) := by
  have hm : pd ∉ m.map (·.1) := w.notIn (.of hp)
  refine ⟨g3.ex, ⟨fun a u e => ?_, fun q hq => ?_, g3.own.nd, fun q hq => ?_, g3.own.nt⟩, fun a o e nt ha => ?_, g3.fresh, g3.grow⟩
  · have hne : a ≠ pd := fun z => by rw [z, h2] at e; cases e
    rw [upd_ne hne]; exact g3.own.ex a u e
  · obtain ⟨k1, k2⟩ := g3.own.at_ q hq
    have hne : q.1 ≠ pd := fun z => hm (z ▸ List.mem_map.mpr ⟨q, hq, rfl⟩)
    exact ⟨k1, k2.mono (fun _ _ h => h) fun u e => by rw [upd_ne hne]; exact e⟩
  · obtain ⟨ps, k1, k2, k3⟩ := g3.own.tb q hq
    have ne1 : q.1 ≠ pd := fun z => by rw [z, h1] at k1; cases k1
    refine ⟨ps, by rw [upd_ne ne1]; exact k1, k2, fun pos cv hc => ?_⟩
    obtain ⟨c, hc1, hc2⟩ := k3 pos cv hc
    have ne2 : c ≠ pd := fun z => by rw [z, h1] at hc2; cases hc2
    exact ⟨c, hc1, by rw [upd_ne ne2]; exact hc2⟩
  · have hne : a ≠ pd := fun z => by rw [z, hp] at e; cases e
    rw [upd_ne hne]
    exact g3.frame a o e nt ha
/-- .. not standing still yet -/
theorem dispT_core {P : List (List Key × D) → Prop} {Q : VK} (hu : X.A.units + 1 < cLine) (tk : Takes X W) (hs : Sl X.K B σ ds) (w : Own X.K T B m H) (hk : EV T X ds m k rk) (hv : EV T X ds m v rv)
    (hP : ∀ kd, P kd → ∀ B' p kvs H', Go X.K T B m H B' m H' → B' p = none → Fre H p → p ∉ m.map (·.1) → H' p = some (.dT kvs) → KD X.K B' kvs kd → Q (.ref p) H')
    (q : (rk.bind fun x => rv.bind fun y => (match x with | .tup ks => (match asKeys ks with | some kk => R.ok [(kk, y)] | none => .ub) | _ => .ub)).sat P (EK T X W B m σ H m)) : wpE X (.Dict [some k] [v] pos) σ H Q := by
  refine wpE.of (pe_dispT hu (pe_wp X k) (pe_wp X v)) ?_
  intro pd hp
  have hB := w.noB hp
  have g0 : Go X.K T B m H B m (L2.upd H pd (.dT [])) := Go.new w hp
  have hm : pd ∉ m.map (·.1) := w.notIn (.of hp)
  refine hk W tk B σ _ hs g0.own _ (R.sat_mono (R.sat_bind q) (fun x hx B1 v1 H1 g1 r1 => ?_) fun _ z => z.go g0)
  refine hv W tk B1 σ H1 (hs.mono g1.ex) g1.own _ (R.sat_mono (R.sat_bind hx) (fun y hy B2 v2 H2 g2 r2 => ?_) fun _ z => (z.go g0).go g1)
  have g12 := g1.trans g2
  obtain ⟨h1, h2⟩ := disp_keep w hp g12
  split at hy
  · split at hy
    · rename_i ks kk ek
      obtain ⟨b, vs, rfl, k1, k2⟩ := r1.itupH
      cases asKeys_ok ek k2
      refine ⟨h1, kk, b, rfl, g2.own.ex _ _ (g2.ex _ _ k1), ?_⟩
      exact hP _ hy B2 pd [(kk, v2)] _ (disp_put w hp (g0.trans g12) h1 h2) h2 (.of hp) hm upd_same (KD.cons r2 KD.nil)
    · exact hy.elim
  · exact hy.elim
theorem ev_dict1A (hu : X.A.units + 1 < cLine) (hk : EV T X ds m k rk) (hv : EV T X ds m v rv) : EV T X ds m (.Dict [some k] [v] pos) (rk.bind fun x => rv.bind fun y => D.mkD1A x y) := by
  intro W tk B σ H hs w Q q
  by_cases hd : ∃ x, rk = .ok x ∧ x.isTp = true
  · obtain ⟨x0, rfl, hx0⟩ := hd
    refine wpE_lock (dispT_core (P := fun kd => ∀ B' v H', Go X.K T B m H B' m H' → Rep X.K B' v (.dtt kd) → Q v H') hu tk hs w hk hv (fun kd hkd B' p kvs H' g hB hf hm hp hkv => ⟨p, _, hp, .inr ⟨_, rfl⟩, fun od => ?_⟩) ?_)
    · have g5 := g.lock (od := od) hB (.inr hf) hm hp (.inr ⟨_, rfl⟩)
      exact hkd _ _ _ g5 (.dT upd_same hkv.1 (hkv.2.mono (Evl.Ex.new hB)))
    · refine R.sat_bind' (R.sat_mono (R.sat_self (R.sat_bind q)) (fun x ⟨ex, hx⟩ => ?_) fun _ z => z)
      cases ex
      refine R.sat_bind' (R.sat_mono (R.sat_bind hx) (fun y hy => ?_) fun _ z => z)
      unfold D.mkD1A at hy
      cases x0 with
      | tup ks =>
        show R.sat (match asKeys ks with | some kk => R.ok [(kk, y)] | none => .ub) _ _
        have hy : R.sat (match asKeys ks with | some kk => R.ok (D.dtt [(kk, y)]) | none => .ub) _ _ := hy
        cases e : asKeys ks with
        | none => rw [e] at hy; exact hy.elim
        | some kk => rw [e] at hy; exact hy
      | _ => cases hx0
  · refine ev_dict1 hk hv W tk B σ H hs w Q ?_
    refine R.sat_bind' (R.sat_mono (R.sat_self (R.sat_bind q)) (fun x ⟨ex, hx⟩ => ?_) fun _ z => z)
    refine R.sat_bind' (R.sat_mono (R.sat_bind hx) (fun y hy => ?_) fun _ z => z)
    unfold D.mkD1A at hy
    rw [if_neg (fun z => hd ⟨x, ex, z⟩)] at hy
    exact hy
end
/-! ### a, b = {k: v}, y: the first a new dict of its own -/
def D.mkTT (k v : D) : R (List (List Key × D)) := match k with
  | .tup ks => (match asKeys ks with
    | some kk => .ok [(kk, v)]
    | none => .ub)
  | _ => .ub
section
variable {T : Tb} {X : Cx} {ds : DS} {m m' m1 : OM} {S S' L γ α : Type} {E : Exits S L γ}
variable {rest : List Stmt} {pos p2 pd px py pt pos' : Pos} {k v b : Expr} {rk rv : R D} {kt k2 : Nat}
theorem sb_par2DV (i j : Nat) {x y : Str} {rb : List (List Key × D) → R D} {K : List (List Key × D) → D → R (Fl S L γ)} (hu : X.A.units + 1 < cLine) (hc : X.calm = true) (hN : X.N.Nodup) (hk : EV T X ds m k rk) (hv : EV T X ds m v rv) (hb : ∀ pl kd, EV T X ds (m ++ [(pl, .t kd)]) b (rb kd))
    (kk : ∀ pl kd d, SB T X ((ds.set i (some (.ref pl))).set j (some d)) (m ++ [(pl, .t kd)]) rest E (K kd d)) (hij : i ≠ j := by decide) (hi : X.N[i]? = some x := by rfl) (hj : X.N[j]? = some y := by rfl)
    (hx : X.env.scope.names.lookup x = some .local := by rfl) (hy : X.env.scope.names.lookup y = some .local := by rfl)
    (hw : swappedStores [.Tuple [.Name x px, .Name y py] kt pt] (.Tuple [.Dict [some k] [v] pd, b] k2 p2) X.env = pure (some [x, y]) := by rfl)
    (hs : swapsWithSole [.Tuple [.Name x px, .Name y py] kt pt] (.Tuple [.Dict [some k] [v] pd, b] k2 p2) pos.line X.env = pure false := by rfl)
    (hst : starEach [.Dict [some k] [v] pd, b] X.env = (false, eval (.Dict [some k] [v] pd) X.env) :: starEach [b] X.env := by exact se1 rfl) (hst2 : starEach [b] X.env = (false, eval b X.env) :: starEach [] X.env := by exact se1 rfl) :
    SB T X ds m (.Assign [.Tuple [.Name x px, .Name y py] kt pt] (.Tuple [.Dict [some k] [v] pd, b] k2 p2) pos :: rest) E (rk.bind fun a => rv.bind fun c => (D.mkTT a c).bind fun kd => (rb kd).bind (K kd)) := fun W tk B σ H hs' w D q =>
  wpSs.of (pss_cons (ps_par hc hN hi hj hij hx hy (pa_cons (pe_wp X (.Dict [some k] [v] pd)) (pa_cons (pe_wp X b) pa_nil hst2) hst) hw hs) (pss_wp X rest)) (dispT_core (P := fun kd => ((rb kd).bind (K kd)).sat (SBpost X.K T B m H E D) (EB X T W B m H)) hu tk hs' w hk hv
    (fun kd hkd B1 pl kvs H1 g1 hB hfr hm hp r1 => by
      have g' := g1.cell (o := .t kd) hB (.inr hfr) hm ⟨kvs, hp, r1.1, r1.2⟩
      exact hb pl kd W tk B1 σ H1 (hs'.mono g1.ex) g'.own _ (R.sat_mono (R.sat_bind hkd) (fun d hd B2 v2 H2 g2 r2 =>
        ⟨_, _, rfl, (kk pl kd d).cont tk (g'.trans g2) ((((hs'.mono g1.ex).mono g2.ex).set i (.ref pl)).set j r2) hd⟩) fun _ z => (z.go g').ek))
    (by
      refine R.sat_bind' (R.sat_mono (R.sat_bind q) (fun a ha => ?_) fun _ z => z.ek)
      refine R.sat_bind' (R.sat_mono (R.sat_bind ha) (fun c hc' => ?_) fun _ z => z.ek)
      have hc' := R.sat_bind hc'
      refine R.sat_mono (show (DL.D.mkTT a c).sat _ _ from hc') (fun kd z => z) fun _ z => z.ek))
end
end DL
namespace DL
open PySem PySem.Spec PyProof.Rows L2
open PySem.W (EachIs AllAlike Sortable dataLe)

/-! ### let forms of a number, by what is left -/
abbrev Pr : Type := Nat × Nat
def Ru.digF (r : Ru) (l : Nat) : List Nat := (List.range (r.top + 1)).filter fun d => decide (d ≤ l ∧ (l - d) % r.base = 0)
def Ru.nx (r : Ru) (p : Pr) (d : Nat) : Pr := (r.step p.1 d, (p.2 - d) / r.base)
def Ru.endB (r : Ru) (p : Pr) : Bool := decide (p.1 ∈ r.good ∧ p.2 = 0)
def Ru.ways (r : Ru) : Nat → Pr → Nat
  | 0, p => if r.endB p then 1 else 0
  | n + 1, p => ((r.digF p.2).map fun d => r.ways n (r.nx p d)).sum
def Ru.fms (r : Ru) : Nat → Pr → List (List Nat)
  | 0, p => if r.endB p then [[]] else []
  | n + 1, p => if p.2 = 0 then (if r.endB p then [[]] else []) else (r.digF p.2).flatMap fun d => (r.fms n (r.nx p d)).map (d :: ·)
/-- n turns lead to nought in any case -/
def Ru.Z (r : Ru) : Nat → Pr → Prop
  | 0, p => p.2 = 0
  | n + 1, p => ∀ d ∈ r.digF p.2, r.Z n (r.nx p d)
section
variable {r : Ru}
theorem digF_mem {l d : Nat} : d ∈ r.digF l ↔ d ≤ r.top ∧ d ≤ l ∧ (l - d) % r.base = 0 := by
  unfold Ru.digF
  rw [List.mem_filter, List.mem_range, decide_eq_true_iff]
  omega
theorem digF_0 : r.digF 0 = [0] := by
  unfold Ru.digF
  rw [List.range_succ_eq_map, List.filter_cons_of_pos (by simp), List.filter_eq_nil_iff.mpr]
  intro a ha
  obtain ⟨b, _, rfl⟩ := List.mem_map.mp ha
  simp
theorem Ru.Ok.end_0 (h : r.Ok) {s : Nat} (hs : s < r.rows.length) : r.endB (r.nx (s, 0) 0) = r.endB (s, 0) := by
  unfold Ru.endB Ru.nx
  have := h.zero s hs
  simp only [Nat.sub_self, Nat.zero_div, this]
theorem Ru.Ok.nx_lt (h : r.Ok) {p : Pr} {d : Nat} (hs : p.1 < r.rows.length) (hd : d ∈ r.digF p.2) : (r.nx p d).1 < r.rows.length := h.step_lt hs (digF_mem.mp hd).1
theorem Ru.Ok.nx_half (h : r.Ok) (p : Pr) (d : Nat) : (r.nx p d).2 ≤ p.2 / 2 := by
  unfold Ru.nx
  have h1 : (p.2 - d) / r.base ≤ (p.2 - d) / 2 := Nat.div_le_div_left h.b1 (by decide)
  have h2 : (p.2 - d) / 2 ≤ p.2 / 2 := Nat.div_le_div_right (Nat.sub_le _ _)
  exact Nat.le_trans h1 h2
theorem Ru.Ok.nx_pow (h : r.Ok) {p : Pr} {n : Nat} (d : Nat) (hp : p.2 < 2 ^ (n + 1)) : (r.nx p d).2 < 2 ^ n := by
  have := h.nx_half p d
  have h2 : 2 ^ (n + 1) = 2 ^ n * 2 := Nat.pow_succ 2 n
  omega
theorem Ru.Ok.z_of (h : r.Ok) : ∀ {n : Nat} {p : Pr}, p.2 < 2 ^ n → r.Z n p
  | 0, p, hp => by
    show p.2 = 0
    simpa using hp
  | n + 1, p, hp => fun d _ => h.z_of (h.nx_pow d hp)
theorem ways_0 (h : r.Ok) {s : Nat} (hs : s < r.rows.length) : ∀ n, r.ways n (s, 0) = if r.endB (s, 0) then 1 else 0 := by
  intro n
  induction n generalizing s with
  | zero => rfl
  | succ n ih =>
    show ((r.digF 0).map fun d => r.ways n (r.nx (s, 0) d)).sum = _
    rw [digF_0]
    have e : r.nx (s, 0) 0 = (r.step s 0, 0) := by unfold Ru.nx; simp
    have hs' : r.step s 0 < r.rows.length := h.step_lt hs (Nat.zero_le _)
    have e2 := h.end_0 hs
    rw [e] at e2
    simp only [List.map_cons, List.map_nil, List.sum_cons, List.sum_nil, e, ih hs', e2, Nat.add_zero]
theorem fms_0 (r : Ru) (n s : Nat) : r.fms n (s, 0) = if r.endB (s, 0) then [[]] else [] := by
  cases n <;> rfl
theorem z_0 (h : r.Ok) : ∀ (n s : Nat), r.Z n (s, 0)
  | n, s => h.z_of (Nat.pow_pos (by decide))
theorem fms_mono (h : r.Ok) : ∀ {n m : Nat} {p : Pr}, r.Z n p → n ≤ m → r.fms m p = r.fms n p
  | 0, m, (s, l), hz, _ => by
    have : l = 0 := hz
    subst this
    rw [fms_0, fms_0]
  | n + 1, 0, p, hz, hm => absurd hm (by omega)
  | n + 1, m + 1, (s, l), hz, hm => by
    by_cases hl : l = 0
    · subst hl
      rw [fms_0, fms_0]
    · unfold Ru.fms
      rw [if_neg (show ¬ (s, l).2 = 0 from hl), if_neg (show ¬ (s, l).2 = 0 from hl)]
      have : ∀ ds : List Nat, (∀ d ∈ ds, d ∈ r.digF l) → (ds.flatMap fun d => (r.fms m (r.nx (s, l) d)).map (d :: ·)) = ds.flatMap fun d => (r.fms n (r.nx (s, l) d)).map (d :: ·) := by
        intro ds
        induction ds with
        | nil => intro _; rfl
        | cons d ds ih =>
          intro hd
          rw [List.flatMap_cons, List.flatMap_cons, ih fun e he => hd e (by simp [he]), fms_mono h (hz d (hd d (by simp))) (by omega)]
      exact this _ fun d hd => hd
theorem ways_len (h : r.Ok) : ∀ {n : Nat} {p : Pr}, p.1 < r.rows.length → r.Z n p → r.ways n p = (r.fms n p).length
  | 0, p, hs, hz => by
    unfold Ru.ways Ru.fms
    split <;> rfl
  | n + 1, (s, l), hs, hz => by
    by_cases hl : l = 0
    · subst hl
      rw [ways_0 h hs, fms_0]
      split <;> rfl
    · unfold Ru.ways Ru.fms
      rw [if_neg (show ¬ (s, l).2 = 0 from hl), List.length_flatMap]
      congr 1
      refine List.map_congr_left fun d hd => ?_
      rw [List.length_map]
      exact ways_len h (h.nx_lt (p := (s, l)) hs hd) (hz d hd)
/-! what the forms are -/
theorem digF_val {l d : Nat} (h : r.Ok) (hd : d ∈ r.digF l) : l = d + r.base * ((l - d) / r.base) := by
  obtain ⟨_, h1, h2⟩ := digF_mem.mp hd
  have := Nat.div_add_mod (l - d) r.base
  omega
theorem wth_cons (b d : Nat) (l : List Nat) : wth b (d :: l) = d + b * wth b l := by
  unfold wth
  rw [List.reverse_cons, List.foldl_append]
  simp only [List.foldl_cons, List.foldl_nil]
  rw [Nat.mul_comm]
  omega
theorem fms_sound (h : r.Ok) : ∀ {n : Nat} {p : Pr} {w : List Nat}, w ∈ r.fms n p → (∀ d ∈ w, d ≤ r.top) ∧ wth r.base w = p.2 ∧ w.foldl r.step p.1 ∈ r.good ∧ (w = [] → p.2 = 0) ∧ (w = [] ∨ w.getLastD 0 ≠ 0) ∧ w.length ≤ n
  | 0, p, w, hw => by
    unfold Ru.fms at hw
    split at hw
    · rename_i he
      have he := of_decide_eq_true he
      simp only [List.mem_singleton] at hw
      subst hw
      exact ⟨fun _ z => absurd z (by simp), he.2.symm, he.1, fun _ => he.2, .inl rfl, Nat.le_refl _⟩
    · simp at hw
  | n + 1, (s, l), w, hw => by
    by_cases hl : l = 0
    · subst hl
      rw [fms_0] at hw
      split at hw
      · rename_i he
        have he := of_decide_eq_true he
        simp only [List.mem_singleton] at hw
        subst hw
        exact ⟨fun _ z => absurd z (by simp), rfl, he.1, fun _ => rfl, .inl rfl, Nat.zero_le _⟩
      · simp at hw
    · unfold Ru.fms at hw
      rw [if_neg (show ¬ (s, l).2 = 0 from hl)] at hw
      obtain ⟨d, hd, hw⟩ := List.mem_flatMap.mp hw
      obtain ⟨u, hu, rfl⟩ := List.mem_map.mp hw
      obtain ⟨i1, i2, i3, i4, i5, i6⟩ := fms_sound h hu
      have hv := digF_val h hd
      refine ⟨fun e he => ?_, ?_, i3, fun z => absurd z (by simp), .inr ?_, by simp; omega⟩
      · rcases List.mem_cons.mp he with rfl | he
        · exact (digF_mem.mp hd).1
        · exact i1 e he
      · rw [wth_cons, i2]
        exact hv.symm
      · rcases i5 with i5 | i5
        · subst i5
          have i4 : (l - d) / r.base = 0 := i4 rfl
          rw [i4] at hv
          show d ≠ 0
          omega
        · cases u with
          | nil => simp at i5
          | cons a u =>
            rw [List.getLastD_cons] at i5 ⊢
            rw [List.getLastD_cons]
            exact i5
theorem fms_nil_mem {n s l : Nat} (hl : l ≠ 0) : ∀ w ∈ r.fms n (s, l), w ≠ [] := by
  intro w hw
  cases n with
  | zero =>
    unfold Ru.fms at hw
    rw [if_neg (by unfold Ru.endB; simp [hl])] at hw
    simp at hw
  | succ n =>
    unfold Ru.fms at hw
    rw [if_neg (show ¬ (s, l).2 = 0 from hl)] at hw
    obtain ⟨d, hd, hw⟩ := List.mem_flatMap.mp hw
    obtain ⟨u, hu, rfl⟩ := List.mem_map.mp hw
    simp
/-! ascending -/
theorem digF_asc (r : Ru) (l : Nat) : (r.digF l).Pairwise (· < ·) := List.Pairwise.sublist List.filter_sublist List.pairwise_lt_range
theorem fms_asc : ∀ (n : Nat) (p : Pr), (r.fms n p).Pairwise (· < ·)
  | 0, p => by
    unfold Ru.fms
    split
    · exact List.pairwise_singleton _ _
    · exact .nil
  | n + 1, p => by
    unfold Ru.fms
    split
    · split
      · exact List.pairwise_singleton _ _
      · exact .nil
    · have : ∀ ds : List Nat, ds.Pairwise (· < ·) → (ds.flatMap fun d => (r.fms n (r.nx p d)).map (d :: ·)).Pairwise (· < ·) := by
        intro ds
        induction ds with
        | nil => intro _; exact .nil
        | cons d ds ih =>
          intro hp
          obtain ⟨h1, h2⟩ := List.pairwise_cons.mp hp
          rw [List.flatMap_cons, List.pairwise_append]
          refine ⟨List.pairwise_map.mpr ((fms_asc n (r.nx p d)).imp fun {a b} hab => List.cons_lt_cons_iff.mpr (.inr ⟨rfl, hab⟩)), ih h2, fun a ha b hb => ?_⟩
          obtain ⟨u, _, rfl⟩ := List.mem_map.mp ha
          obtain ⟨e, he, hb⟩ := List.mem_flatMap.mp hb
          obtain ⟨v, _, rfl⟩ := List.mem_map.mp hb
          exact List.cons_lt_cons_iff.mpr (.inl (h1 e he))
      exact this _ (digF_asc r p.2)
end
/-! ### by breadth -/
section
variable {r : Ru}
abbrev En : Type := List Nat × Nat
def Ru.exps (r : Ru) (e : En) : List En := if 0 < e.2 then (r.digF e.2).map fun d => (e.1 ++ [d], (e.2 - d) / r.base) else []
def Ru.hits (r : Ru) (line : List En) : List (List Nat) := (line.filter fun e => decide (e.2 = 0) && r.lets e.1).map (·.1)
def Ru.all (r : Ru) : Nat → List En → List (List Nat)
  | 0, _ => []
  | n + 1, line => r.hits line ++ r.all n (line.flatMap r.exps)
theorem flatMap_perm {α β : Type} (f g : α → List β) : ∀ l : List α, (l.flatMap fun x => f x ++ g x).Perm (l.flatMap f ++ l.flatMap g)
  | [] => .refl _
  | a :: l => by
    rw [List.flatMap_cons, List.flatMap_cons, List.flatMap_cons]
    have ih := flatMap_perm f g l
    have h1 : (f a ++ g a ++ l.flatMap fun x => f x ++ g x).Perm (f a ++ (g a ++ (l.flatMap f ++ l.flatMap g))) := by
      rw [List.append_assoc]
      exact (ih.append_left _).append_left _
    refine h1.trans ?_
    rw [List.append_assoc]
    refine List.Perm.append_left _ ?_
    rw [← List.append_assoc, ← List.append_assoc]
    exact List.perm_append_comm.append_right _
def Ru.ext (r : Ru) (n : Nat) (e : En) : List (List Nat) := (r.fms n (r.led e.1, e.2)).map (e.1 ++ ·)
theorem fms_succ (r : Ru) {n s l : Nat} (hl : l ≠ 0) : r.fms (n + 1) (s, l) = (r.digF l).flatMap fun d => (r.fms n (r.nx (s, l) d)).map (d :: ·) := by
  show (if l = 0 then _ else _) = _
  rw [if_neg hl]
theorem ext_split (h : r.Ok) {n : Nat} (e : En) : r.ext (n + 1) e = (if decide (e.2 = 0) && r.lets e.1 then [e.1] else []) ++ (r.exps e).flatMap (r.ext n) := by
  obtain ⟨ds, l⟩ := e
  show (r.fms (n + 1) (r.led ds, l)).map (ds ++ ·) = (if decide (l = 0) && r.lets ds then [ds] else []) ++ (if 0 < l then (r.digF l).map fun d => (ds ++ [d], (l - d) / r.base) else []).flatMap (r.ext n)
  by_cases hl : l = 0
  · subst hl
    have : r.endB (r.led ds, 0) = r.lets ds := by unfold Ru.endB Ru.lets; simp
    rw [fms_0, if_neg (Nat.lt_irrefl 0), List.flatMap_nil, List.append_nil, this]
    simp only [decide_true, Bool.true_and]
    split <;> simp
  · have e1 : (decide (l = 0) && r.lets ds) = false := by simp [hl]
    rw [fms_succ r hl, e1, if_neg (by simp), List.nil_append, if_pos (Nat.pos_of_ne_zero hl), List.map_flatMap, List.flatMap_map]
    congr 1
    funext d
    show ((r.fms n (r.nx (r.led ds, l) d)).map (d :: ·)).map (ds ++ ·) = (r.fms n (r.led (ds ++ [d]), (l - d) / r.base)).map ((ds ++ [d]) ++ ·)
    rw [List.map_map, led_snoc]
    refine List.map_congr_left fun u _ => ?_
    simp
theorem hits_flat (r : Ru) : ∀ line : List En, r.hits line = line.flatMap fun e => if decide (e.2 = 0) && r.lets e.1 then [e.1] else []
  | [] => rfl
  | e :: line => by
    rw [List.flatMap_cons, ← hits_flat r line]
    unfold Ru.hits
    rw [List.filter_cons]
    split <;> simp
theorem exps_half (h : r.Ok) {e f : En} (hf : f ∈ r.exps e) : f.2 ≤ e.2 / 2 ∧ 0 < e.2 := by
  unfold Ru.exps at hf
  split at hf
  · rename_i hp
    obtain ⟨d, hd, rfl⟩ := List.mem_map.mp hf
    exact ⟨h.nx_half (0, e.2) d, hp⟩
  · simp at hf
/-- by breadth come all of them -/
theorem all_perm (h : r.Ok) : ∀ (n : Nat) (line : List En), (∀ e ∈ line, e.2 < 2 ^ n) → (r.all (n + 1) line).Perm (line.flatMap (r.ext n))
  | 0, line, hl => by
    show (r.hits line ++ []).Perm _
    rw [List.append_nil, hits_flat]
    have : ∀ l : List En, (∀ e ∈ l, e.2 < 2 ^ 0) → (l.flatMap fun e => if decide (e.2 = 0) && r.lets e.1 then [e.1] else []) = l.flatMap (r.ext 0) := by
      intro l
      induction l with
      | nil => intro _; rfl
      | cons e l ih =>
        intro hl
        rw [List.flatMap_cons, List.flatMap_cons, ih fun f hf => hl f (by simp [hf])]
        congr 1
        have h0 : e.2 = 0 := by have := hl e (by simp); simpa using this
        obtain ⟨ds, l0⟩ := e
        have h0 : l0 = 0 := h0
        subst h0
        unfold Ru.ext
        rw [fms_0]
        have : r.endB (r.led ds, 0) = r.lets ds := by unfold Ru.endB Ru.lets; simp
        rw [this]
        simp only [decide_true, Bool.true_and]
        split <;> simp
    rw [this line hl]
  | n + 1, line, hl => by
    show (r.hits line ++ r.all (n + 1) (line.flatMap r.exps)).Perm _
    have ih := all_perm h n (line.flatMap r.exps) fun f hf => by
      obtain ⟨e, he, hf⟩ := List.mem_flatMap.mp hf
      have h1 := exps_half h hf
      have h2 := hl e he
      have h3 : 2 ^ (n + 1) = 2 ^ n * 2 := Nat.pow_succ 2 n
      omega
    refine (ih.append_left _).trans ?_
    rw [hits_flat]
    have : line.flatMap (r.ext (n + 1)) = line.flatMap fun e => (if decide (e.2 = 0) && r.lets e.1 then [e.1] else []) ++ (r.exps e).flatMap (r.ext n) := by
      congr 1
      funext e
      exact ext_split h e
    rw [this, List.flatMap_assoc]
    exact (flatMap_perm _ _ line).symm
theorem all_start (h : r.Ok) {n num : Nat} (hn : num < 2 ^ n) : (r.all (n + 1) [([], num)]).Perm (r.fms n (0, num)) := by
  have := all_perm h n [([], num)] (by simpa using hn)
  have e : [(([], num) : En)].flatMap (r.ext n) = r.fms n (0, num) := by
    simp only [List.flatMap_cons, List.flatMap_nil, List.append_nil]
    unfold Ru.ext
    simp only [List.nil_append, List.map_id']
    rfl
  rwa [e] at this
end
/-! ### sorted rows of digits -/
theorem ple_TN (a b : List Nat) : D.ple (TN a) (TN b) = !decide (b.map (fun n : Nat => (n : Int)) < a.map (fun n : Nat => (n : Int))) := by
  have e : ∀ l : List Nat, (TN l).toPy = .tuple ((l.map (fun n : Nat => (n : Int))).map .int) := fun l => by
    simp only [D.toPy, toPyL_map, List.map_map]
    rfl
  show (!PySem.W.dataLt (TN b).toPy (TN a).toPy) = _
  rw [e, e, PySem.W.dataLt_tuple]
  exact congrArg (!·) (PySem.W.dataLt_ints _ _)
theorem map_lt {a b : List Nat} : a.map (fun n : Nat => (n : Int)) < b.map (fun n : Nat => (n : Int)) ↔ a < b := by
  induction a generalizing b with
  | nil => cases b <;> simp
  | cons x a ih =>
    cases b with
    | nil => simp
    | cons y b =>
      rw [List.map_cons, List.map_cons, List.cons_lt_cons_iff, List.cons_lt_cons_iff, ih]
      constructor
      · rintro (h | ⟨h, h2⟩)
        · exact .inl (by omega)
        · exact .inr ⟨by omega, h2⟩
      · rintro (h | ⟨h, h2⟩)
        · exact .inl (by omega)
        · exact .inr ⟨by omega, h2⟩
theorem ple_iff (a b : List Nat) : D.ple (TN a) (TN b) = true ↔ ¬ b < a := by
  rw [ple_TN, Bool.not_eq_true', decide_eq_false_iff_not, map_lt]
theorem ple_total (a b : D) : (D.ple a b || D.ple b a) = true := Bool.or_eq_true_iff.mpr ((PySem.W.sortLe_total (listOrd itemOrd) false fun b : D => PySem.W.keyToks b.toPy).total a b)
theorem ple_trans (a b c : D) (h1 : D.ple a b = true) (h2 : D.ple b c = true) : D.ple a c = true := (PySem.W.sortLe_total (listOrd itemOrd) false fun b : D => PySem.W.keyToks b.toPy).trans a b c h1 h2
/-- sorting rows of digits -/
theorem sort_TN {L F : List (List Nat)} (hp : L.Perm F) (hs : F.Pairwise (· < ·)) : (L.map TN).mergeSort D.ple = F.map TN := by
  have h1 : ((L.map TN).mergeSort D.ple).Perm (F.map TN) := (List.mergeSort_perm _ _).trans (hp.map TN)
  have h2 := List.pairwise_mergeSort (le := D.ple) ple_trans ple_total (L.map TN)
  have h3 : (F.map TN).Pairwise fun a b => D.ple a b = true := List.pairwise_map.mpr (hs.imp fun {a b} hab => (ple_iff a b).mpr fun hba => List.lt_irrefl a (List.lt_trans hab hba))
  refine h1.eq_of_pairwise (fun a b ha hb h4 h5 => ?_) h2 h3
  obtain ⟨b, _, rfl⟩ := List.mem_map.mp hb
  obtain ⟨a, _, rfl⟩ := List.mem_map.mp (h1.mem_iff.mp ha)
  have h6 := (ple_iff a b).mp h4
  have h7 := (ple_iff b a).mp h5
  exact congrArg TN (List.le_antisymm (List.not_lt.mp h6) (List.not_lt.mp h7))
theorem alike_TN (a b : List Nat) : PySem.W.alike (TN a).toPy (TN b).toPy = true := by
  have e : ∀ l : List Nat, (TN l).toPy = .tuple ((l.map (fun n : Nat => (n : Int))).map .int) := fun l => by
    simp only [D.toPy, toPyL_map, List.map_map]
    rfl
  rw [e, e]
  show PySem.W.alikeAll _ _ = true
  exact PySem.W.alike_ints _ _
theorem sortOk_TN {L : List (List Nat)} (h : ∀ l ∈ L, l ≠ []) : D.sortOk (L.map TN) := by
  refine ⟨fun d hd => ?_, fun d hd d' hd' => ?_, .inl fun d hd => ?_⟩
  · obtain ⟨l, _, rfl⟩ := List.mem_map.mp hd
    have := flat_tup (n := 0) (f := I) (l := l) fun i _ => flat_int i 0
    exact ⟨this.1, Nat.le_trans this.2 (by decide)⟩
  · rw [List.map_map] at hd hd'
    obtain ⟨a, _, rfl⟩ := List.mem_map.mp hd
    obtain ⟨b, _, rfl⟩ := List.mem_map.mp hd'
    exact alike_TN a b
  · rw [List.map_map] at hd
    obtain ⟨a, ha, rfl⟩ := List.mem_map.mp hd
    cases a with
    | nil => exact absurd rfl (h _ ha)
    | cons x a => exact ⟨_, _, by simp only [Function.comp, List.map_cons, D.toPy, D.toPyL]; rfl⟩
theorem sortA_TN {L F : List (List Nat)} (hp : L.Perm F) (hs : F.Pairwise (· < ·)) (h : (∀ l ∈ L, l ≠ []) ∨ L.length ≤ 1) : D.sortA (.lst (L.map TN)) = .ok (F.map TN) := by
  rw [sortA_ok (h.imp sortOk_TN fun z => by rw [List.length_map]; exact z), sort_TN hp hs]
end DL
namespace DL
open PySem PySem.Spec PyProof.Rows L2

/-! ### lines of pairs -/
def kputP {α : Type} [DecidableEq α] (K : List α) (q : α) : List α := if q ∈ K then K else K ++ [q]
section
variable {α : Type} [DecidableEq α]
theorem kputP_mem {K : List α} {p q : α} : p ∈ kputP K q ↔ p ∈ K ∨ p = q := by
  unfold kputP
  split
  · rename_i h
    constructor
    · exact .inl
    · rintro (z | rfl)
      · exact z
      · exact h
  · simp
theorem kputP_nodup {K : List α} {q : α} (h : K.Nodup) : (kputP K q).Nodup := by
  unfold kputP
  split
  · exact h
  · rename_i hq
    rw [List.nodup_append]
    refine ⟨h, by simp, fun a ha b hb e => ?_⟩
    simp at hb
    exact hq (by rw [← hb, ← e]; exact ha)
def kputs (K : List α) (l : List α) : List α := l.foldl kputP K
theorem kputs_mem : ∀ {l K : List α} {p : α}, p ∈ kputs K l ↔ p ∈ K ∨ p ∈ l
  | [], K, p => by simp [kputs]
  | a :: l, K, p => by
    show p ∈ kputs (kputP K a) l ↔ _
    rw [kputs_mem, kputP_mem, List.mem_cons]
    constructor
    · rintro ((h | h) | h)
      · exact .inl h
      · exact .inr (.inl h)
      · exact .inr (.inr h)
    · rintro (h | h | h)
      · exact .inl (.inl h)
      · exact .inl (.inr h)
      · exact .inr h
theorem kputs_nodup : ∀ {l K : List α}, K.Nodup → (kputs K l).Nodup
  | [], K, h => h
  | a :: l, K, h => kputs_nodup (l := l) (kputP_nodup h)
theorem nodup_lenG : ∀ {l D : List α}, l.Nodup → (∀ x ∈ l, x ∈ D) → l.length ≤ D.length
  | [], _, _, _ => Nat.zero_le _
  | x :: l, D, hn, hs => by
    obtain ⟨h1, h2⟩ := List.nodup_cons.mp hn
    have hx : x ∈ D := hs x (by simp)
    have ih := nodup_lenG (l := l) (D := D.erase x) h2 fun y hy => by
      have hne : y ≠ x := fun e => h1 (e ▸ hy)
      exact (List.mem_erase_of_ne hne).2 (hs y (by simp [hy]))
    have e := List.length_erase_of_mem hx
    have hp : 0 < D.length := List.length_pos_of_mem hx
    rw [List.length_cons]
    omega
end
section
variable {r : Ru}
/-- one place on -/
def Ru.line (r : Ru) (line : List Pr) : List Pr := line.foldl (fun K p => (r.digF p.2).foldl (fun K d => kputP K (r.nx p d)) K) []
def Ru.lin (r : Ru) (num : Nat) : Nat → List Pr
  | 0 => [(0, num)]
  | k + 1 => r.line (r.lin num k)
theorem line_fold (r : Ru) : ∀ (line K : List Pr), line.foldl (fun K p => (r.digF p.2).foldl (fun K d => kputP K (r.nx p d)) K) K = kputs K (line.flatMap fun p => (r.digF p.2).map (r.nx p))
  | [], K => rfl
  | p :: line, K => by
    rw [List.foldl_cons, line_fold r line, List.flatMap_cons]
    unfold kputs
    rw [List.foldl_append, List.foldl_map]
theorem line_mem {line : List Pr} {q : Pr} : q ∈ r.line line ↔ ∃ p ∈ line, ∃ d ∈ r.digF p.2, r.nx p d = q := by
  unfold Ru.line
  rw [line_fold, kputs_mem, List.mem_flatMap]
  simp only [List.mem_map, List.not_mem_nil, false_or]
theorem line_nodup (line : List Pr) : (r.line line).Nodup := by
  unfold Ru.line
  rw [line_fold]
  exact kputs_nodup List.nodup_nil
theorem lin_nodup (num : Nat) : ∀ k, (r.lin num k).Nodup
  | 0 => by show [(0, num)].Nodup; simp
  | k + 1 => line_nodup _
theorem lin_next {num k : Nat} {p : Pr} (hp : p ∈ r.lin num k) {d : Nat} (hd : d ∈ r.digF p.2) : r.nx p d ∈ r.lin num (k + 1) := line_mem.mpr ⟨p, hp, d, hd, rfl⟩
structure Ru.In (r : Ru) (num k : Nat) (p : Pr) : Prop where
  s : p.1 < r.rows.length
  lo : p.2 * r.base ^ k ≤ num
  hi : num ≤ (p.2 + 3) * r.base ^ k
theorem lin_in (h : r.Ok) (num : Nat) : ∀ k, ∀ p ∈ r.lin num k, r.In num k p
  | 0, p, hp => by
    have : p = (0, num) := by simpa [Ru.lin] using hp
    subst this
    exact ⟨by have := h.m1; show 0 < _; omega, by simp, by simp⟩
  | k + 1, q, hq => by
    obtain ⟨p, hp, d, hd, rfl⟩ := line_mem.mp hq
    have i := lin_in h num k p hp
    have hv := digF_val h hd
    have hdt := (digF_mem.mp hd).1
    have hb := h.b1
    have ht := h.t2
    obtain ⟨x, hx⟩ : ∃ x, x = (p.2 - d) / r.base := ⟨_, rfl⟩
    rw [← hx] at hv
    have e2 : (r.nx p d).2 = x := hx.symm
    refine ⟨h.nx_lt i.s hd, ?_, ?_⟩
    · rw [e2, Nat.pow_succ, ← Nat.mul_assoc, Nat.mul_right_comm]
      refine Nat.le_trans (Nat.mul_le_mul_right _ ?_) i.lo
      rw [Nat.mul_comm]; omega
    · rw [e2, Nat.pow_succ, ← Nat.mul_assoc, Nat.mul_right_comm]
      refine Nat.le_trans i.hi (Nat.mul_le_mul_right _ ?_)
      have h3 : (x + 3) * r.base = r.base * x + 3 * r.base := by rw [Nat.add_mul, Nat.mul_comm x]
      omega
theorem lin_len (h : r.Ok) (num k : Nat) : (r.lin num k).length ≤ 20 := by
  have hb : 0 < r.base ^ k := Nat.pow_pos (by have := h.b1; omega)
  obtain ⟨A, hA⟩ : ∃ A, A = num / r.base ^ k := ⟨_, rfl⟩
  have key := nodup_lenG (l := r.lin num k) (D := (List.range 5).flatMap fun s => [(s, A), (s, A - 1), (s, A - 2), (s, A - 3)]) (lin_nodup num k) fun p hp => by
    have i := lin_in h num k p hp
    have h1 : p.2 ≤ A := by rw [hA]; exact (Nat.le_div_iff_mul_le hb).mpr i.lo
    have h2 : A ≤ p.2 + 3 := by
      rw [hA]
      exact Nat.le_trans (Nat.div_le_div_right i.hi) (by rw [Nat.mul_div_cancel _ hb]; exact Nat.le_refl _)
    rw [List.mem_flatMap]
    refine ⟨p.1, by simp; have := i.s; have := h.m2; omega, ?_⟩
    obtain ⟨s, l⟩ := p
    have h1 : l ≤ A := h1
    have h2 : A ≤ l + 3 := h2
    have : l = A ∨ l = A - 1 ∨ l = A - 2 ∨ l = A - 3 := by omega
    rcases this with rfl | rfl | rfl | rfl <;> simp
  have e : ((List.range 5).flatMap fun s => [(s, A), (s, A - 1), (s, A - 2), (s, A - 3)]).length = 20 := by
    rw [List.length_flatMap]
    rfl
  omega
theorem lin_zero (h : r.Ok) {num n : Nat} (hn : num < 2 ^ n) : ∀ p ∈ r.lin num n, p.2 = 0 := fun p hp => by
  have i := lin_in h num n p hp
  have h1 : 2 ^ n ≤ r.base ^ n := Nat.pow_le_pow_left h.b1 n
  by_cases hz : p.2 = 0
  · exact hz
  · have h2 : 1 * r.base ^ n ≤ p.2 * r.base ^ n := Nat.mul_le_mul_right _ (by omega)
    have := i.lo
    omega
theorem lin_z {num L : Nat} (hL : ∀ p ∈ r.lin num L, p.2 = 0) : ∀ {j k : Nat}, k + j = L → ∀ p ∈ r.lin num k, r.Z j p
  | 0, k, e, p, hp => by
    have : k = L := by omega
    subst this
    exact hL p hp
  | j + 1, k, e, p, hp => fun d hd => lin_z hL (j := j) (k := k + 1) (by omega) _ (lin_next hp hd)
theorem fms_eq (h : r.Ok) {n m : Nat} {p : Pr} (hn : r.Z n p) (hm : r.Z m p) : r.fms n p = r.fms m p := by
  rcases Nat.le_total n m with c | c
  · exact (fms_mono h hn c).symm
  · exact fms_mono h hm c
theorem digF_len (h : r.Ok) (l : Nat) : (r.digF l).length ≤ 2 := by
  have hb := h.b1
  have := nodup_lenG (l := r.digF l) (D := [l % r.base, l % r.base + r.base]) ((digF_asc r l).imp fun h => Nat.ne_of_lt h) fun d hd => by
    obtain ⟨h1, h2, h3⟩ := digF_mem.mp hd
    have e : l % r.base = d % r.base := by
      have : l = (l - d) + d := by omega
      rw [this, Nat.add_mod, h3, Nat.zero_add, Nat.mod_mod]
    rw [e]
    have ht := h.t2
    by_cases hd : d < r.base
    · rw [Nat.mod_eq_of_lt hd]; simp
    · have : d % r.base = d - r.base := by
        rw [Nat.mod_eq_sub_mod (by omega), Nat.mod_eq_of_lt (by omega)]
      rw [this]
      simp; omega
  simpa using this
/-! by breadth, how many -/
theorem exps_len (h : r.Ok) (e : En) : (r.exps e).length ≤ 2 := by
  unfold Ru.exps
  split
  · rw [List.length_map]; exact digF_len h _
  · simp
theorem flatMap_len {α β : Type} {f : α → List β} {c : Nat} (h : ∀ a, (f a).length ≤ c) : ∀ l : List α, (l.flatMap f).length ≤ l.length * c
  | [] => by simp
  | a :: l => by
    rw [List.flatMap_cons, List.length_append, List.length_cons, Nat.succ_mul]
    have := h a
    have := flatMap_len h l
    omega
theorem hits_len (r : Ru) (line : List En) : (r.hits line).length ≤ line.length := by
  unfold Ru.hits
  rw [List.length_map]
  exact List.length_filter_le _ _
theorem all_nil (r : Ru) : ∀ n, r.all n [] = []
  | 0 => rfl
  | n + 1 => by
    show r.hits [] ++ r.all n (List.flatMap r.exps []) = []
    rw [List.flatMap_nil, all_nil r n]
    rfl
end
/-! ### dicts with pairs of whole numbers -/
abbrev TQ (p : Pr) : D := .tup [I p.1, I p.2]
def keyP (p : Pr) : List Key := [.inl (p.1 : Int), .inl (p.2 : Int)]
theorem keyP_inj {p q : Pr} (h : keyP p = keyP q) : p = q := by
  unfold keyP at h
  injection h with h1 h2
  injection h2 with h2 _
  injection h1 with h1
  injection h2 with h2
  exact Prod.ext (by omega) (by omega)
abbrev DT (f : Pr → D) (K : List Pr) : List (List Key × D) := K.map fun p => (keyP p, f p)
theorem asKeys_TQ (p : Pr) : asKeys [I p.1, I p.2] = some (keyP p) := rfl
theorem DT_get (f : Pr → D) (p : Pr) : ∀ K : List Pr, dget (DT f K) (keyP p) = if p ∈ K then some (f p) else none
  | [] => rfl
  | k :: K => by
    have ih := DT_get f p K
    unfold dget DT at ih ⊢
    rw [List.map_cons, List.find?_cons]
    by_cases h : k = p
    · subst h
      simp
    · have : decide (keyP k = keyP p) = false := decide_eq_false fun e => h (keyP_inj e)
      simp only [this]
      rw [ih]
      simp only [List.mem_cons, Ne.symm h, false_or]
theorem DT_look (f : Pr → D) (p : Pr) (K : List Pr) : D.look (.dtt (DT f K)) (TQ p) = .ok (if p ∈ K then some (f p) else none) := by
  show R.ok (dget (DT f K) (keyP p)) = _
  rw [DT_get]
theorem DT_ix {f : Pr → D} {p : Pr} {K : List Pr} (h : p ∈ K) : D.ixA (.dtt (DT f K)) (TQ p) = .ok (f p) := by
  show (D.look (.dtt (DT f K)) (TQ p)).bind D.need = _
  rw [DT_look, if_pos h]
  rfl
theorem DT_in (f : Pr → D) (p : Pr) (K : List Pr) : D.inA (TQ p) (.dtt (DT f K)) = .ok (.bl (decide (p ∈ K))) := by
  show (D.look (.dtt (DT f K)) (TQ p)).map (fun o => D.bl o.isSome) = _
  rw [DT_look]
  by_cases h : p ∈ K
  · simp [h]
  · simp [h]
theorem DT_notIn (f : Pr → D) (p : Pr) (K : List Pr) : D.notInA (TQ p) (.dtt (DT f K)) = .ok (.bl (!decide (p ∈ K))) := by
  show (D.look (.dtt (DT f K)) (TQ p)).map (fun o => D.bl (!o.isSome)) = _
  rw [DT_look]
  by_cases h : p ∈ K
  · simp [h]
  · simp [h]
theorem DT_put {f g : Pr → D} {p : Pr} {K : List Pr} (hl : K.length < sizeLine) (hg : ∀ q ∈ K, q ≠ p → g q = f q) {v : D} (hv : g p = v) : D.putT (DT f K) (TQ p) v = .ok (DT g (kputP K p)) := by
  show (if (DT f K).length < sizeLine then R.ok (dput (DT f K) (keyP p) v) else .ub) = _
  rw [if_pos (by rw [List.length_map]; exact hl)]
  congr 1
  unfold dput kputP DT
  by_cases h : p ∈ K
  · rw [if_pos h, if_pos (by
      rw [List.any_eq_true]
      exact ⟨(keyP p, f p), List.mem_map.mpr ⟨p, h, rfl⟩, decide_eq_true rfl⟩), List.map_map]
    refine List.map_congr_left fun q hq => ?_
    by_cases e : q = p
    · subst e
      simp [hv]
    · have : ¬ keyP q = keyP p := fun z => e (keyP_inj z)
      simp only [Function.comp, this, if_false, hg q hq e]
  · rw [if_neg h, if_neg (by
      rw [Bool.not_eq_true, List.any_eq_false]
      intro x hx
      obtain ⟨q, hq, rfl⟩ := List.mem_map.mp hx
      simp only [decide_eq_true_eq]
      exact fun z => h (keyP_inj z ▸ hq)), List.map_append, List.map_cons, List.map_nil, hv]
    congr 1
    exact List.map_congr_left fun q hq => by rw [hg q hq fun z => h (z ▸ hq)]
theorem DT_keys (f : Pr → D) (K : List Pr) : D.keysT (DT f K) = K.map TQ := by
  unfold D.keysT DT
  rw [List.map_map]
  rfl
@[simp] theorem toLstA_dtt (kd : List (List Key × D)) : D.toLstA (.dtt kd) = .ok (D.keysT kd) := rfl
@[simp] theorem toLstA_lst (xs : List D) : D.toLstA (.lst xs) = .ok xs := rfl
@[simp] theorem toLstA_tup (xs : List D) : D.toLstA (.tup xs) = .ok xs := rfl
@[simp] theorem rev2_lst (xs : List D) : D.rev2 (.lst xs) = .ok (.lst (xs.take (xs.length - 1)).reverse) := rfl
theorem ixA_lastL {xs : List D} {d : D} (h : xs[xs.length - 1]? = some d) : D.ixA (.lst xs) (.int (-1)) = .ok d := ixA_last (xs := xs) h
theorem ixA_last1 (xs : List D) (d : D) : D.ixA (.lst (xs ++ [d])) (.int (-1)) = .ok d := ixA_lastL (by simp)
/-- a loop while .. -/
theorem whileR_ind {S γ : Type} {c : S → R Bool} {f : S → R (Fl S S γ)} (Q : Nat → S → Prop) (P : S → Prop) (N : Nat)
    (step : ∀ k s, k < N → Q k s → (c s = .ok false ∧ P s) ∨ (c s = .ok true ∧ ∃ s', f s = .ok (.nx s') ∧ Q (k + 1) s')) (hend : ∀ s, Q N s → c s = .ok false ∧ P s) : ∀ (fuel k : Nat) (s : S), N < fuel + k → k ≤ N → Q k s → ∃ s', whileR c f fuel s = .ok (.nx s') ∧ P s'
  | 0, k, s, h, hk, _ => absurd h (by omega)
  | fuel + 1, k, s, h, hk, hq => by
    have fin : c s = .ok false ∧ P s → ∃ s', whileR c f (fuel + 1) s = .ok (.nx s') ∧ P s' := fun ⟨h1, h2⟩ => ⟨s, by
      unfold whileR
      rw [h1, R.ok_bind, if_neg (by simp)], h2⟩
    by_cases e : k = N
    · subst e
      exact fin (hend s hq)
    · rcases step k s (by omega) hq with h1 | ⟨h1, s', h2, h3⟩
      · exact fin h1
      · obtain ⟨s2, h4, h5⟩ := whileR_ind Q P N step hend fuel (k + 1) s' (by omega) (by omega) h3
        refine ⟨s2, ?_, h5⟩
        unfold whileR
        rw [h1, R.ok_bind, if_pos rfl, h2, R.ok_bind, turnK_nx, h4]
theorem whileR_to {S γ : Type} {c : S → R Bool} {f : S → R (Fl S S γ)} (Q : Nat → S → Prop) (P : S → Prop) (N : Nat) {fuel : Nat} {s : S} (h0 : Q 0 s) (hN : N < fuel)
    (step : ∀ k s, k < N → Q k s → (c s = .ok false ∧ P s) ∨ (c s = .ok true ∧ ∃ s', f s = .ok (.nx s') ∧ Q (k + 1) s')) (hend : ∀ s, Q N s → c s = .ok false ∧ P s) : ∃ s', whileR c f fuel s = .ok (.nx s') ∧ P s' :=
  whileR_ind Q P N step hend fuel 0 s (by omega) (Nat.zero_le _) h0
theorem room_ok {xs : List D} (h : xs.length ≤ 1000000) : D.room xs = .ok () := if_pos (szl h)
theorem R.bind_to {α β : Type} {r : R α} {k : α → R β} {a : α} {b : R β} (h : r = .ok a) (h2 : k a = b) : r.bind k = b := by
  rw [h]
  exact h2
theorem forL_to {α ι σ S γ : Type} {un : D → R α} {f : S → α → R (Fl S S γ)} (xs : List ι) (e : ι → D) (a : ι → α) (es : σ → S) (g : σ → ι → σ) (P : σ → Prop) (s0 : σ) (h0 : P s0) (hun : ∀ i ∈ xs, un (e i) = .ok (a i))
    (hf : ∀ i ∈ xs, ∀ s, P s → f (es s) (a i) = .ok (.nx (es (g s i))) ∧ P (g s i)) : forL un f (xs.map e) (es s0) = .ok (.nx (es (xs.foldl g s0))) := (forL_nx xs e a es g P hun hf s0 h0).1
/-- .. the states told by the number of turns -/
theorem forL_at {α ι S γ : Type} {un : D → R α} {f : S → α → R (Fl S S γ)} (xs : List ι) (e : ι → D) (a : ι → α) (st : Nat → S) (hun : ∀ i ∈ xs, un (e i) = .ok (a i))
    (hf : ∀ k i, xs[k]? = some i → f (st k) (a i) = .ok (.nx (st (k + 1)))) : forL un f (xs.map e) (st 0) = .ok (.nx (st xs.length)) := by
  obtain ⟨s', h1, h2⟩ := forL_ex (f := f) xs e a (fun k s => s = st k) hun (fun k i hi s hs => ⟨_, by rw [hs]; exact hf k i hi, rfl⟩) (st 0) rfl
  rw [h1, h2]
theorem kputP_len {α : Type} [DecidableEq α] (K : List α) (q : α) : (kputP K q).length ≤ K.length + 1 := by
  unfold kputP
  split <;> simp
theorem kputs_len {α ι : Type} [DecidableEq α] (f : ι → α) : ∀ (l : List ι) (K : List α), (l.foldl (fun K d => kputP K (f d)) K).length ≤ K.length + l.length
  | [], K => Nat.le_refl _
  | d :: l, K => by
    have h1 := kputs_len f l (kputP K (f d))
    have h2 := kputP_len K (f d)
    rw [List.foldl_cons, List.length_cons]
    omega
theorem take_snoc {α : Type} {l : List α} {k : Nat} {a : α} (h : l[k]? = some a) : l.take (k + 1) = l.take k ++ [a] := by
  rw [List.take_add_one, h]
  rfl
theorem not_mem_take {α : Type} {l : List α} {k : Nat} {a : α} (nd : l.Nodup) (h : l[k]? = some a) : a ∉ l.take k := fun hm => by
  obtain ⟨j, hj, e⟩ := List.mem_iff_getElem.mp hm
  obtain ⟨hk, e2⟩ := List.getElem?_eq_some_iff.mp h
  rw [List.length_take] at hj
  have h1 := List.pairwise_iff_getElem.mp nd j k (by omega) hk (by omega)
  rw [List.getElem_take] at e
  exact h1 (e.trans e2.symm)
theorem whileR_has {S γ : Type} {c : S → R Bool} {f : S → R (Fl S S γ)} (Q : Nat → S → Prop) (P : S → Prop) (N : Nat) {fuel : Nat} {s : S} (h0 : Q 0 s) (hN : N < fuel)
    (step : ∀ k s, k < N → Q k s → (c s = .ok false ∧ P s) ∨ (c s = .ok true ∧ ∃ s', f s = .ok (.nx s') ∧ Q (k + 1) s')) (hend : ∀ s, Q N s → c s = .ok false ∧ P s) : (whileR c f fuel s).has fun fl => ∃ s', fl = .nx s' ∧ P s' := by
  obtain ⟨s', h1, h2⟩ := whileR_to Q P N h0 hN step hend
  exact ⟨_, h1, s', rfl, h2⟩
theorem rev_range {α : Type} (n : Nat) (f : Nat → α) : ((List.range n).map f).reverse = (List.range n).map fun i => f (n - 1 - i) := by
  refine List.ext_getElem (by simp) fun i h1 h2 => ?_
  simp only [List.length_reverse, List.length_map, List.length_range] at h1
  rw [List.getElem_reverse]
  simp
theorem range_snoc {α : Type} (n : Nat) (f : Nat → α) : (List.range n).map f ++ [f n] = (List.range (n + 1)).map f := by
  rw [List.range_succ, List.map_append]
  rfl
theorem range_last {α : Type} (n : Nat) (f : Nat → α) : ((List.range (n + 1)).map f)[((List.range (n + 1)).map f).length - 1]? = some (f n) := by
  simp
theorem any_map {ι : Type} (l : List ι) (b : ι → Bool) : D.any (.lst (l.map fun i => D.bl (b i))) = .ok (.bl (l.any b)) := by
  have : (l.map fun i => D.bl (b i)) = (l.map b).map D.bl := by rw [List.map_map]; rfl
  rw [this, any_bl, List.any_map]
  rfl
theorem all_map {ι : Type} (l : List ι) (b : ι → Bool) : D.all (.lst (l.map fun i => D.bl (b i))) = .ok (.bl (l.all b)) := by
  have : (l.map fun i => D.bl (b i)) = (l.map b).map D.bl := by rw [List.map_map]; rfl
  rw [this, all_bl, List.all_map]
  rfl
theorem sum_map (l : List Nat) (f : Nat → Nat) : D.sum (.lst (l.map fun i => I (f i))) = .ok (I (l.map f).sum) := by
  have : (l.map fun i => I (f i)) = (l.map fun i => (f i : Int)).map D.int := by rw [List.map_map]; rfl
  rw [this, d_sum, ← cast_sum]
section
variable {r : Ru}
abbrev LNe (r : Ru) (num k : Nat) : D := .lst ((r.lin num k).map TQ)
abbrev GDt (r : Ru) (num L i : Nat) : D := .dtt (DT (fun p => I (r.ways i p)) (r.lin num (L - i)))
/-- what goals_of gives -/
abbrev GLs (r : Ru) (num L : Nat) : D := .lst ((List.range (L + 1)).map fun k => D.dtt (DT (fun p => I (r.ways (L - k) p)) (r.lin num k)))
theorem DT_snoc {f : Pr → D} {l : List Pr} {k : Nat} {p : Pr} (nd : l.Nodup) (hk : l[k]? = some p) (hz : l.length ≤ 1000000) {v : D} (hv : f p = v) : D.putT (DT f (l.take k)) (TQ p) v = .ok (DT f (l.take (k + 1))) := by
  rw [DT_put (g := f) (szl (by rw [List.length_take]; omega)) (fun _ _ _ => rfl) hv, take_snoc hk]
  unfold kputP
  rw [if_neg (not_mem_take nd hk)]
end
theorem forL_brk {α ι S γ : Type} {un : D → R α} {f : S → α → R (Fl S S γ)} (xs : List ι) (e : ι → D) (a : ι → α) (Q : Nat → S → Prop) (P : S → Prop) (hun : ∀ i ∈ xs, un (e i) = .ok (a i))
    (hf : ∀ k i, xs[k]? = some i → ∀ s, Q k s → (f s (a i)).has fun fl => (∃ s', fl = .nx s' ∧ Q (k + 1) s') ∨ ∃ s', fl = .bk s' ∧ P s') (hend : ∀ s, Q xs.length s → P s) {s0 : S} (h0 : Q 0 s0) : (forL un f (xs.map e) s0).has fun fl => ∃ s', fl = .nx s' ∧ P s' := by
  induction xs generalizing s0 Q with
  | nil => exact ⟨_, rfl, s0, rfl, hend s0 h0⟩
  | cons x xs ih =>
    obtain ⟨fl, h1, h2⟩ := hf 0 x rfl s0 h0
    have e1 : forL un f ((x :: xs).map e) s0 = (f s0 (a x)).bind (turnK (forL un f (xs.map e))) := by
      rw [List.map_cons]
      show ((un (e x)).bind fun q => (f s0 q).bind (turnK (forL un f (xs.map e)))) = _
      rw [hun x (by simp), R.ok_bind]
    rw [e1, h1, R.ok_bind]
    rcases h2 with ⟨s', rfl, h3⟩ | ⟨s', rfl, h3⟩
    · rw [turnK_nx]
      exact ih (fun k => Q (k + 1)) (fun i hi => hun i (by simp [hi])) (fun k i hi s hs => hf (k + 1) i (by simpa using hi) s hs) (fun s hs => hend s hs) h3
    · rw [turnK_bk]
      exact ⟨_, rfl, s', rfl, h3⟩
theorem flat_head {α β : Type} {f : α → List β} : ∀ {l : List α} {j : Nat} {d : α} {v : β} {tl : List β}, l[j]? = some d → (∀ i, i < j → ∀ x, l[i]? = some x → f x = []) → f d = v :: tl → ∃ tl', l.flatMap f = v :: tl'
  | [], j, d, v, tl, h, _, _ => by simp at h
  | a :: l, 0, d, v, tl, h, _, hd => by
    have : a = d := by simpa using h
    subst this
    rw [List.flatMap_cons, hd]
    exact ⟨_, rfl⟩
  | a :: l, j + 1, d, v, tl, h, h0, hd => by
    rw [List.flatMap_cons, h0 0 (by omega) a rfl, List.nil_append]
    exact flat_head (l := l) (j := j) (by simpa using h) (fun i hi x hx => h0 (i + 1) (by omega) x (by simpa using hx)) hd
theorem flat_none {α β : Type} {f : α → List β} {l : List α} (h : ∀ i, i < l.length → ∀ x, l[i]? = some x → f x = []) : l.flatMap f = [] := by
  rw [List.flatMap_eq_nil_iff]
  intro x hx
  obtain ⟨i, hi, e⟩ := List.mem_iff_getElem.mp hx
  exact h i hi x (by rw [List.getElem?_eq_getElem hi, e])
/-- the first one, or None -/
def optF : List (List Nat) → D
  | [] => .non
  | w :: _ => TN w
theorem forL_atE {α ι S γ : Type} {un : D → R α} {f : S → α → R (Fl S S γ)} (xs : List ι) (e : ι → D) (a : ι → α) (st : Nat → S) {s0 : S} (h0 : st 0 = s0) (hun : ∀ i ∈ xs, un (e i) = .ok (a i))
    (hf : ∀ k i, xs[k]? = some i → f (st k) (a i) = .ok (.nx (st (k + 1)))) : forL un f (xs.map e) s0 = .ok (.nx (st xs.length)) := by
  subst h0
  exact forL_at xs e a st hun hf
theorem range_get {n k i : Nat} (h : (List.range n)[k]? = some i) : k < n ∧ k = i := by
  obtain ⟨h1, h2⟩ := List.getElem?_eq_some_iff.mp h
  simp at h1 h2
  exact ⟨h1, h2⟩
end DL
namespace DL
open PySem PySem.Spec PyProof.Rows L2 LamX
open Evl (Ex ex_l ex_t ex_rd)

/-! ### a lambda is made -/
section
variable {X : Cx} {pins : List (Addr × Obj)} {σ : L2.St} {H : Hp} {s : Shared}
theorem inv_lamO {l : Lam} {cl : List (Str × Addr)} {c' : Addr} {t' : Nat} {pm ctv : Value} (I : Inv X pins σ H s) :
    Inv X pins σ (L2.upd H s.heap.objs.size (LamO s.heap.objs.size c' l cl)) { s with heap := s.heap.push (PySem.W.kla_obj "<lambda>" l.qual l.params l.body l.scope cl pm c' ctv), toks := t' } := by
  refine I.laid (a := s.heap.objs.size) (fun b u e => Heap.get?_push_of_some _ e) (Nat.le_refl _) ?_
  have e : (s.heap.push (PySem.W.kla_obj "<lambda>" l.qual l.params l.body l.scope cl pm c' ctv)).get? s.heap.objs.size = some (PySem.W.kla_obj "<lambda>" l.qual l.params l.body l.scope cl pm c' ctv) := Heap.get?_push_size _ rfl
  exact ⟨⟨pm, ctv, e⟩, ⟨_, e⟩, fun h1 h2 ⟨p, t, z⟩ st => ⟨p, t, st _ z⟩⟩
theorem lamO_make {T : List (Addr × Str)} {c P : Addr} {params : Arguments} {body : Expr} {scope : Scope} {pos : Pos} {E : Value → Shared → Prop} {Q : Value → Shared → Prop} (I : Inv X pins σ H s) (TB : TabB X.base X.mg c P) (hcode : X.env.code = .ref c)
    (hm : (P, X.env.qual ++ "<lambda>") ∈ T) (hu : ∀ p ∈ T, p.1 = P → p.2 = X.env.qual ++ "<lambda>") (hT : Tabs T H) (hdef : defaultsOf params X.env = ([], [])) (hfree : ∀ y ∈ scope.names, y.2 = .free → ∃ c, X.env.cells.lookup y.1 = some c)
    (h : ∀ (f c' : Addr) (H1 : Hp) (s' : Shared), Inv X pins σ H1 s' → ExtN H H1 → Tabs T H1 → (∀ b, H1 b = none → H b = none) → H f = none →
      H1 f = some (LamO f c' ⟨X.env.qual ++ "<lambda>", params, body, scope⟩ (cloFrom X.env.cells scope.names [])) → H1 c' = some (CodeO c' (X.env.qual ++ "<lambda>")) → Q (.ref f) s') :
    wpAny (model X.prog X.w) X.A (eval (.Lambda params body scope pos) X.env) Q E s := by
  obtain ⟨ps, hP, ht, ha⟩ := hT _ hm
  refine PySem.W.kla_eval hdef ?_
  have bP : s.heap.BuiltinsAt X.mg P := TB.bm.keeps I.bk
  have hP' : s.heap.get? P = some { cls := .none, data := .fields ps } := I.hok P _ hP
  cases hc : codeAmong pos ps.toList with
  | none =>
    refine PySem.W.kla_makeFunction (mg := X.mg) (c := c) (P := P) (ps := ps) (closure_ok hfree) I.ok.glob (I.mod.glob.keeps I.bk) hcode (TB.code.keeps I.bk) hP' ht hc TB.gP bP fun c' ctv h' tk hx hge hlt hrec htb => ?_
    obtain ⟨c2, oc, vs, t, e2, hoc, hd, hv⟩ := hrec
    cases e2
    have nC : H c' = none := I.hok.fresh hge
    have I1 := inv_table (t' := tk) (more := #[rawInt pos.line, rawInt pos.col, .ref c']) (h' := h') I hP (fun b o hb e => hx b o hb e) htb hge ⟨oc, vs, t, hoc, hd, hv⟩
    have hE : ExtN H (upd (upd H P (.tbl (ps ++ #[rawInt pos.line, rawInt pos.col, .ref c']))) c' (CodeO c' (X.env.qual ++ "<lambda>"))) := fun b o e n => by
      rw [upd_ne (ne_of_none e nC), upd_ne (fun z => n ps (Option.some.inj (e.symm.trans (by rw [z]; exact hP))))]
      exact e
    have eL : (ps ++ #[rawInt pos.line, rawInt pos.col, .ref c']).toList = ps.toList ++ [rawInt pos.line, rawInt pos.col, .ref c'] := by simp
    have T1 : Tabs T (upd (upd H P (.tbl (ps ++ #[rawInt pos.line, rawInt pos.col, .ref c']))) c' (CodeO c' (X.env.qual ++ "<lambda>"))) := fun p hp => by
      by_cases hb : p.1 = P
      · rw [hu p hp hb, hb]
        refine ⟨_, by rw [upd_ne (ne_of_none hP nC), upd_same], by rw [eL]; exact PySem.TriplesOk_snoc _ _ _ _ ht, fun p' cv hcv => ?_⟩
        rw [eL] at hcv
        rcases among_app _ ht hcv with z | z
        · obtain ⟨c0, e1, e2⟩ := ha p' cv z
          exact ⟨c0, e1, hE _ _ e2 codeO_ne⟩
        · exact ⟨c', z, upd_same⟩
      · obtain ⟨ps', a1, a2, a3⟩ := hT p hp
        refine ⟨ps', by rw [upd_ne (ne_of_none a1 nC), upd_ne hb]; exact a1, a2, fun p' cv hcv => ?_⟩
        obtain ⟨c0, e1, e2⟩ := a3 p' cv hcv
        exact ⟨c0, e1, hE _ _ e2 codeO_ne⟩
    have nF := I1.hok.fresh (Nat.le_refl _)
    have I2 := inv_lamO (l := ⟨X.env.qual ++ "<lambda>", params, body, scope⟩) (cl := cloFrom X.env.cells scope.names []) (c' := c') (t' := tk) (pm := (X.mg "__name__").getD .none) (ctv := ctv) I1
    refine h h'.objs.size c' _ _ I2 (fun b o e n => ?_) (T1.ext fun b o e => ?_) (fun b e => NdefX.upd_none (NdefX.upd_none (NdefX.upd_none e))) (I.hok.fresh (Nat.le_trans hge (Nat.le_of_lt hlt))) upd_same ?_
    · have e1 := hE b o e n
      exact (upd_ne (ne_of_none e1 nF)).trans e1
    · exact (upd_ne (ne_of_none e nF)).trans e
    · exact (upd_ne (Nat.ne_of_lt hlt)).trans upd_same
  | some cv =>
    obtain ⟨c', e, hco⟩ := ha pos cv hc
    subst e
    refine PySem.W.kla_makeFunctionHit (mg := X.mg) (c := c) (P := P) (ps := ps) (closure_ok hfree) I.ok.glob (I.mod.glob.keeps I.bk) hcode (TB.code.keeps I.bk) hP' ht hc bP fun ctv h' tk hx hsz => ?_
    have I1 : Inv X pins σ H { s with heap := h', toks := tk } := I.kept hx
    have nF : H h'.objs.size = none := I1.hok.fresh (Nat.le_refl _)
    have I2 := inv_lamO (l := ⟨X.env.qual ++ "<lambda>", params, body, scope⟩) (cl := cloFrom X.env.cells scope.names []) (c' := c') (t' := tk) (pm := (X.mg "__name__").getD .none) (ctv := ctv) I1
    refine h h'.objs.size c' _ _ I2 (fun b o e n => ?_) (hT.ext fun b o e => ?_) (fun b e => NdefX.upd_none e) nF upd_same ?_
    · exact (upd_ne (ne_of_none e nF)).trans e
    · exact (upd_ne (ne_of_none e nF)).trans e
    · exact (upd_ne (ne_of_none hco nF)).trans hco
end
theorem cloFrom_nil {cells : List (Str × Addr)} {names : List (Str × NameKind)} (h : ∀ y ∈ names, y.2 ≠ .free) : cloFrom cells names [] = [] := by
  refine List.eq_nil_iff_forall_not_mem.mpr fun a ha => ?_
  rcases cloFrom_mem ha with hm | ⟨h1, h2⟩
  · cases hm
  · exact h _ h1 rfl
/-- an object that stands there for good belongs to the ground from now on -/
theorem Own.adoptX {K : PySem.W.Frag} {T : Tb} {B H : Hp} {m : OM} {q : Addr} {φ : Heap → Prop} (w : Own K T B m H) (hq : H q = some (.ext φ)) : ∃ B', Go K T B m H B' m H ∧ B' q = some (.ext φ) := by
  cases e : B q with
  | some o =>
    have z := w.ex q o e
    rw [hq] at z
    cases z
    exact ⟨B, .refl w, e⟩
  | none =>
    have eB : Ex B (L2.upd B q (.ext φ)) := Evl.Ex.new e
    refine ⟨L2.upd B q (.ext φ), ⟨eB, ⟨fun a u h => ?_, fun p hp => ?_, w.nd, w.tb, fun a ps h => ?_⟩, fun a o h _ _ => h, fun a h => .inl h, fun a u h => ?_⟩, upd_same⟩
    · by_cases ha : a = q
      · subst ha; rw [upd_same] at h; rw [hq]; exact h
      · rw [upd_ne ha] at h; exact w.ex a u h
    · obtain ⟨h1, h2⟩ := w.at_ p hp
      have hne : p.1 ≠ q := fun z => h2.next φ (by rw [z]; exact hq)
      exact ⟨by rw [upd_ne hne]; exact h1, h2.mono eB fun u h => h⟩
    · by_cases ha : a = q
      · subst ha; rw [upd_same] at h; cases h
      · rw [upd_ne ha] at h; exact w.nt a ps h
    · by_cases ha : a = q
      · subst ha; exact .inr (.inr (.inr (.inr ⟨φ, hq⟩)))
      · rw [upd_ne ha] at h; exact .inl h
section
variable {T : Tb} {X : Cx} {ds : DS} {m : OM} {c P : Addr} {params : Arguments} {body : Expr} {scope : Scope} {lpos : Pos}
def noFreeB (sc : Scope) : Bool := sc.names.all fun y => !decide (y.2 = .free)
theorem noFree_by {sc : Scope} (h : noFreeB sc = true) : ∀ y ∈ sc.names, y.2 ≠ .free := fun y hy e => by
  unfold noFreeB at h
  have := List.all_eq_true.mp h y hy
  simp [e] at this
/-- a lambda that captures nothing -/
theorem ev_mklam {q : Str} (hqe : X.env.qual = q) (TB : LamX.TabB X.base X.mg c P) (hcode : X.env.code = .ref c) (hmT : (P, q ++ "<lambda>") ∈ T) (hu : ∀ p ∈ T, p.1 = P → p.2 = q ++ "<lambda>") (hnf : noFreeB scope = true) (hdef : defaultsOf params X.env = ([], []) := by rfl) :
    EV T X ds m (.Lambda params body scope lpos) (.ok (.clo ⟨q ++ "<lambda>", params, body, scope⟩ [])) := by
  subst hqe
  intro W tk B σ H hs w Q hq
  have nf := noFree_by hnf
  refine ⟨fun pins s I => lamO_make I TB hcode hmT hu w.tb hdef (fun y hy e => absurd e (nf y hy)) fun f c' H1 s' I1 e1 t1 n1 f0 hf hc => ?_⟩
  rw [cloFrom_nil nf] at hf
  have g0 := Go.extN w e1 t1
  obtain ⟨B1, g1, h1⟩ := g0.own.adoptX (show H1 c' = some (.ext _) from hc)
  obtain ⟨B2, g2, h2⟩ := g1.own.adoptX (show H1 f = some (.ext _) from hf)
  exact ⟨.ref f, H1, I1, rfl, hq B2 (.ref f) H1 ((g0.trans g1).trans g2) (.clo (cl := []) (vs := []) (c' := c') h2 (g2.ex _ _ h1) rfl (fun i p v a _ => by simp at a) .nil)⟩
end

/-! ### what it promises -/
abbrev lNF (l : Lam) (c' : Addr) : NdefX.NF := ⟨"<lambda>", l.qual, l.params, [], l.scope, [], c'⟩
abbrev lcx (P : Program) (w : World) (K : PySem.W.Frag) (mg : Str → Option Value) (base : Heap) (N : List Str) (l : Lam) (f c' : Addr) (A : Around) (outer : List Env) (s : Shared) (H : Hp) (E : XK) : Cx := NdefX.ncx (L2.CX P w) P w K mg base N (lNF l c') f A outer s H E
structure LamP (P : Program) (w : World) (K : PySem.W.Frag) (mg : Str → Option Value) (base : Heap) (T : Tb) (k : Nat) (l : Lam) (n : Nat) (rf : List D → R D) : Prop where
  run : ∀ (f c' : Addr) (A : Around) (outer : List Env) (s : Shared) (H : Hp) (us : List Value) (vs : List V) (Q : VK) (E : XK), Room k A → Env0 P w K mg base A outer s H → H f = some (LamO f c' l []) → H c' = some (LamX.CodeO c' l.qual) →
    Vals vs us → spD K T mg (trP n rf) vs H Q E → codeAny (model P w) A (.call (.ref f) ⟨us, []⟩) (CR (L2.CX P w) outer P w H s Q E) s
section
variable {P : Program} {w : World} {K : PySem.W.Frag} {mg : Str → Option Value} {base : Heap} {T : Tb} {k n : Nat} {l : Lam} {rf : List D → R D} {N ps : List Str}
theorem lamP_ub : LamP P w K mg base T k l n fun _ => .ub := ⟨fun f c' A outer s H us vs Q E hr e0 hf hc r h => by
  obtain ⟨B, m, ds, rr, rv, w, tr, sat⟩ := h
  obtain ⟨hl, rfl, rfl⟩ := tr
  exact sat.elim⟩
theorem LamP.mono {j : Nat} (L : LamP P w K mg base T j l n rf) (h : j ≤ k) : LamP P w K mg base T k l n rf := ⟨fun f c' A outer s H us vs Q E hr => L.run f c' A outer s H us vs Q E (hr.mono h)⟩
theorem lamO_at {H : Hp} {h : Heap} {f c' : Addr} {cl : List (Str × Addr)} (hok : HOk P w H h) (e : H f = some (LamO f c' l cl)) : ∃ pm ctv, h.get? f = some (PySem.W.kla_obj "<lambda>" l.qual l.params l.body l.scope cl pm c' ctv) := by
  obtain ⟨z, _, _⟩ := hok f _ e
  exact z
theorem lamP_of (S : NdefX.NScope N ps [] l.scope) (hb : ∀ (cl : List (Str × Addr)) (pm cv ctv : Value) (us : List Value), us.length = ps.length → bindArgs (PySem.W.kla_fn "<lambda>" l.qual l.params l.body l.scope cl pm cv ctv) ⟨us, []⟩ = pure (ps.zip us))
    (hbody : ∀ (A : Around) (outer : List Env) (s : Shared) (H : Hp) (E : XK) (f c' : Addr), Room k (A.deeper (NdefX.envF (lNF l c') f s.heap.objs.size)) → ∀ ds : List D, ds.length = ps.length → EV T (lcx P w K mg base N l f c' A outer s H E) (startD N ds) [] l.body (rf ds)) :
    LamP P w K mg base T (k + 1) l ps.length rf := by
  refine ⟨fun f c' A outer s H us vs Q E hr e0 hf hc r h => ?_⟩
  obtain ⟨B, m, ds, rr, rv, own, tr, sat⟩ := h
  obtain ⟨hl, rfl, rfl⟩ := tr
  obtain ⟨pm, ctv, of1⟩ := lamO_at e0.hok hf
  have hlv : vs.length = ps.length := by rw [rv.length]; exact hl
  have lim : s.heap.NoLimit := e0.mod.nolimit.keeps fun b o e => (e0.bs b o e).1
  refine PySem.W.kla_callFunE hr.depth of1 rfl S.co S.gen rfl (NdefX.codeO_at e0.hok hc) ?_
  rw [hb [] pm _ ctv us (by rw [← r.length]; exact hlv)]
  refine wpAny_pure (wpAny_newFunctionEnv S.nocell (fun ⟨n, _⟩ hy => S.par n (List.of_mem_zip hy).1) (fun h₁ hns hsb => ⟨lim.fresh _ hsb, ?_⟩) S.kind)
  show codeAny _ _ (.expr l.body (NdefX.envF (lNF l c') f s.heap.objs.size)) _ _
  have kp : ∀ b o, s.heap.get? b = some o → h₁.get? b = some o := fun b o e => hsb.extBut b o (Nat.ne_of_lt (Heap.lt_size e)) (Heap.get?_push_of_some _ e)
  have C : NdefX.CellsAt (lNF l c').cl [] [] s.heap H := ⟨rfl, fun y c e => by simp at e, fun x y c e => by simp at e, fun i y e => by simp at e⟩
  have I : Inv (lcx P w K mg base N l f c' A outer s H E) [] (NdefX.startF N vs []) H { s with heap := h₁, toks := s.toks + (ps.zip us).length } := NdefX.inv_startN S hr.hd e0 hlv r C hns kp
  have e1 : NdefX.startF N vs [] = L2.start N vs := by
    unfold NdefX.startF L2.start
    simp
  rw [e1] at I
  refine PySem.W.kla_codeExpr (wpAny_mono ((hbody A outer s H E f c' (hr.deeper _) ds hl (fun cls d _ H => E cls d H) (takes_of rfl rfl rfl rfl) B _ H (sl_start rv) own Q (R.sat_mono (R.sat_map sat) (fun d hd B' v H' g rd => ?_) fun er he B' H' cls dd g ea => ?_)).run [] _ I) (fun v s' hq => ?_) fun e s' hq => hq)
  · exact hd B' v H' g rd
  · exact he B' H' cls dd (g.sub (List.nil_sublist _)) ea
  · obtain ⟨w', H', J', rv', q⟩ := hq
    exact ⟨w', H', J'.os, J'.bare, J'.base, J'.hok, rv', q⟩
end

/-! ### a name that holds a lambda is called -/
section
variable {T : Tb} {X : Cx} {ds : DS} {m m' m1 : OM} {pos p p2 : Pos} {a b c e : Expr} {es : List Expr} {ra rb rc r : R D} {x y : Str} {k i n : Nat}
/-- the promises of the lambdas that are called here -/
abbrev LamPs (X : Cx) (T : Tb) (k n : Nat) (cal : Lam → List D → R D) : Prop := ∀ l : Lam, LamP X.prog X.w X.K X.mg X.base T k l n (cal l)
def D.callC (cal : Lam → List D → R D) (rs : R (List D)) : D → R D
  | .clo l [] => rs.bind (cal l)
  | _ => .ub
theorem lam_fnAt {B H : Hp} {pins : List (Addr × Obj)} {σ : St} {s : Shared} {f c' : Addr} {l : Lam} {cl : List (Str × Addr)} (I : Inv X pins σ H s) (e : H f = some (LamO f c' l cl)) : PySem.W.FnAt f s.heap := by
  obtain ⟨pm, ctv, h⟩ := lamO_at I.hok e
  exact ⟨_, _, _, _, h⟩
theorem ev_callC {cal : Lam → List D → R D} {d : D} {rs : R (List D)} (h : ds[i]? = some (some d)) (F : LamPs X T k n cal) (hr : Room k X.A) (hcal : ∀ l xs, xs.length ≠ n → cal l xs = .ub) (ha : EAp T X ds m (e :: es) rs)
    (hN : X.N[i]? = some x := by rfl) (hv : Vis X.env.scope x := by first | exact Or.inl rfl | exact Or.inr (Or.inl rfl) | exact Or.inr (Or.inr rfl)) (hdb : (x == ("__debug__" : Str)) = false := by decide) (hcd : (x == ("__classdict__" : Str)) = false := by decide)
    (hst : starEach (e :: es) X.env = (false, eval e X.env) :: starEach es X.env := by exact se1 rfl) (hpl : (backTo pos (starEach es X.env)).any (·.1) = false := by exact sepl rfl) : EV T X ds m (.Call (.Name x p) (e :: es) [] pos) (d.callC cal rs) := by
  intro W tk B σ H hs w Q q
  refine ⟨fun pins s I => ?_⟩
  obtain ⟨v0, h1, h2⟩ := hs.at_ i _ h
  refine wpAny_Call_Name_kw (thn ((pe_var (pos := p) hN hv hdb hcd).run pins s σ H (fun v H1 => v = v0 ∧ H1 = H) I ⟨v0, h1, rfl, rfl⟩) fun u s1 ⟨v, H1, I1, r1, q1⟩ => ?_)
  obtain ⟨rfl, rfl⟩ := q1
  by_cases hd : ∃ l, d = .clo l []
  · obtain ⟨l, rfl⟩ := hd
    cases h2 with
    | @clo f c' _ cl vs _ hf hc hlen hcells rds =>
      cases rds
      have ecl : cl = [] := List.length_eq_zero_iff.mp (by rw [hlen]; rfl)
      subst ecl
      cases r1
      have hf1 := w.ex _ _ hf
      refine PySem.W.callWith_F (first := []) (lam_fnAt (B := B) I1 hf1) (thn ((ha W tk B σ _ hs w (fun vs H2 => ∃ B2 xs, Go X.K T B m H1 B2 m H2 ∧ RepL X.K B2 vs xs ∧ (cal l xs).sat (fun d => ∀ B' v H', Go X.K T B m H1 B' m H' → Rep X.K B' v d → Q v H') (EK T X W B m σ H1 m)) (R.sat_mono (R.sat_bind q) (fun xs hx B2 vs H2 g2 r2 => ⟨B2, xs, g2, r2, hx⟩) fun _ z => z)).run pos pins s1 I1) fun us s2 ⟨vs, H2, I2, rv, B2, xs, g2, r2, q2⟩ => ?_) hst hpl
      have hf2 := g2.own.ex _ _ (g2.ex _ _ hf)
      have hc2 := g2.own.ex _ _ (g2.ex _ _ hc)
      refine ⟨lam_fnAt (B := B) I2 hf2, ?_⟩
      show wpAny _ _ (call (.ref f) us) _ _ _
      by_cases hn : xs.length = n
      · have hsp : spD X.K T X.mg (trP n (cal l)) vs H2 Q (fun cls dd H' => W cls dd σ H') := sp_pure (W := W) g2.own r2 hn (R.sat_mono q2 (fun d hd B' v H' g rd => hd B' v H' (g2.trans g) rd) fun _ z => z.go g2)
        refine wpAny_call (codeAny_mono ((F l).run f c' X.A X.stack s2 H2 us vs Q (fun cls dd H' => W cls dd σ H') hr I2.env0 hf2 hc2 rv hsp) fun r s' hq => ?_)
        cases r with
        | error e => exact (passAt tk σ) pins H2 s2 e s' I2 hq
        | ok fl =>
          cases fl with
          | ret u => exact I2.after hq
          | next => exact False.elim hq
          | brk => exact False.elim hq
          | cont => exact False.elim hq
      · rw [hcal l xs hn] at q2
        exact q2.elim
  · have : d.callC cal rs = .ub := by
      cases d with
      | clo l cs =>
        cases cs with
        | nil => exact absurd ⟨l, rfl⟩ hd
        | cons c cs => rfl
      | _ => rfl
    rw [this] at q
    exact q.elim
end
end DL
namespace DL
open PySem PySem.Spec PyProof.Rows L2
open Evl (Ex ex_l ex_t ex_rd)

/-! ### list(range(..)), tuple(range(..)) -/
def D.rgB (i j : Int) : Prop := RgOk i j
open Classical in
noncomputable def D.rgL : D → D → R (List D)
  | .int i, .int j => if D.rgB i j then .ok ((List.range (j - i).toNat).map fun k => D.int (i + (k : Nat))) else .ub
  | _, _ => .ub
theorem rgL_sat {x y : D} {P : List D → Prop} {Q : Err → Prop} (h : (D.rgL x y).sat P Q) : ∃ i j, x = .int i ∧ y = .int j ∧ RgOk i j ∧ P ((List.range (j - i).toNat).map fun k => D.int (i + (k : Nat))) := by
  unfold D.rgL at h
  split at h
  · split at h
    · rename_i hz
      exact ⟨_, _, rfl, rfl, hz, h⟩
    · exact h.elim
  · exact h.elim
theorem rgV_rep {K : PySem.W.Frag} {B : Hp} {a b : Int} : RepL K B (rgV a b) ((List.range (b - a).toNat).map fun k => D.int (a + (k : Nat))) := by
  unfold rgV
  have : ∀ l : List Nat, RepL K B (l.map fun i => V.int (a + (i : Nat))) (l.map fun k => D.int (a + (k : Nat))) := fun l => by
    induction l with
    | nil => exact .nil
    | cons x l ih => exact .cons (.int _) ih
  exact this _
section
variable {T : Tb} {X : Cx} {ds : DS} {m m' m1 : OM} {pos p p2 p3 apos cpos : Pos} {a b c e : Expr} {ra rb rc r : R D}
theorem el_listRg2 (hc : X.calm = true) (hmr : X.mg "range" = none) (hml : X.mg "list" = none) (ha : EV T X ds m a ra) (hb : EV T X ds m b rb) (hgr : Gl X "range" := by rfl) (hgl : Gl X "list" := by rfl)
    (na : starEach [a, b] X.env = (false, eval a X.env) :: starEach [b] X.env := by exact se1 rfl) (nb : starEach [b] X.env = (false, eval b X.env) :: starEach [] X.env := by exact se1 rfl) (hp : (backTo p2 (starEach [b] X.env)).any (·.1) = false := by exact sepl rfl)
    (nc : starEach [Expr.Call (.Name "range" p) [a, b] [] p2] X.env = (false, eval (.Call (.Name "range" p) [a, b] [] p2) X.env) :: starEach [] X.env := by exact se1 rfl) :
    ELp T X ds m (.Call (.Name "list" p3) [.Call (.Name "range" p) [a, b] [] p2] [] pos) (ra.bind fun x => rb.bind fun y => D.rgL x y) := by
  intro W tk B σ H hs w Q q
  refine wpE.of (pe_listRg hc hgl hml (prg_2 hgr hmr (pe_wp X a) (pe_wp X b) na nb hp) nc) ?_
  refine ha W tk B σ H hs w _ (R.sat_mono (R.sat_bind q) (fun x hx B1 v1 H1 g1 r1 => ?_) fun _ z => z)
  refine hb W tk B1 σ H1 (hs.mono g1.ex) g1.own _ (R.sat_mono (R.sat_bind hx) (fun y hy B2 v2 H2 g2 r2 => ?_) fun _ z => z.go g1)
  have g12 := g1.trans g2
  obtain ⟨i, j, rfl, rfl, hz, hy⟩ := rgL_sat hy
  exact ⟨i, j, r1.iint, r2.iint, hz, fin_new g2.own rgV_rep fun B3 pl vs' H3 g3 hB hf hm hp r3 => hy B3 pl vs' H3 (g12.trans g3) hB (Fre.back g12 hf hm) hm hp r3⟩
theorem ev_tupRg2 (hc : X.calm = true) (hmr : X.mg "range" = none) (hml : X.mg "tuple" = none) (ha : EV T X ds m a ra) (hb : EV T X ds m b rb) (hgr : Gl X "range" := by rfl) (hgl : Gl X "tuple" := by rfl)
    (na : starEach [a, b] X.env = (false, eval a X.env) :: starEach [b] X.env := by exact se1 rfl) (nb : starEach [b] X.env = (false, eval b X.env) :: starEach [] X.env := by exact se1 rfl) (hp : (backTo p2 (starEach [b] X.env)).any (·.1) = false := by exact sepl rfl)
    (nc : starEach [Expr.Call (.Name "range" p) [a, b] [] p2] X.env = (false, eval (.Call (.Name "range" p) [a, b] [] p2) X.env) :: starEach [] X.env := by exact se1 rfl) :
    EV T X ds m (.Call (.Name "tuple" p3) [.Call (.Name "range" p) [a, b] [] p2] [] pos) (ra.bind fun x => rb.bind fun y => (D.rgL x y).map D.tup) := by
  intro W tk B σ H hs w Q q
  refine wpE.of (pe_tupRg hc hgl hml (prg_2 hgr hmr (pe_wp X a) (pe_wp X b) na nb hp) nc) ?_
  refine ha W tk B σ H hs w _ (R.sat_mono (R.sat_bind q) (fun x hx B1 v1 H1 g1 r1 => ?_) fun _ z => z)
  refine hb W tk B1 σ H1 (hs.mono g1.ex) g1.own _ (R.sat_mono (R.sat_bind hx) (fun y hy B2 v2 H2 g2 r2 => ?_) fun _ z => z.go g1)
  obtain ⟨i, j, rfl, rfl, hz, hy⟩ := rgL_sat (R.sat_map hy)
  refine ⟨i, j, r1.iint, r2.iint, hz, fun q hq => ?_⟩
  have g3 := Go.lay (p := q) (o := .tup (rgV i j)) g2.own hq fun ps z => nomatch z
  exact hy _ _ _ ((g1.trans g2).trans g3) (.tup upd_same rgV_rep)
theorem ev_tupRg1 (hc : X.calm = true) (hmr : X.mg "range" = none) (hml : X.mg "tuple" = none) (ha : EV T X ds m a ra) (hgr : Gl X "range" := by rfl) (hgl : Gl X "tuple" := by rfl)
    (na : starEach [a] X.env = (false, eval a X.env) :: starEach [] X.env := by exact se1 rfl)
    (nc : starEach [Expr.Call (.Name "range" p) [a] [] p2] X.env = (false, eval (.Call (.Name "range" p) [a] [] p2) X.env) :: starEach [] X.env := by exact se1 rfl) :
    EV T X ds m (.Call (.Name "tuple" p3) [.Call (.Name "range" p) [a] [] p2] [] pos) (ra.bind fun x => (D.rgL (.int 0) x).map D.tup) := by
  intro W tk B σ H hs w Q q
  refine wpE.of (pe_tupRg hc hgl hml (prg_1 hgr hmr (pe_wp X a) na) nc) ?_
  refine ha W tk B σ H hs w _ (R.sat_mono (R.sat_bind q) (fun x hx B1 v1 H1 g1 r1 => ?_) fun _ z => z)
  obtain ⟨i, j, e0, rfl, hz, hx⟩ := rgL_sat (R.sat_map hx)
  cases e0
  refine ⟨j, r1.iint, hz, fun q hq => ?_⟩
  have g3 := Go.lay (p := q) (o := .tup (rgV 0 j)) g1.own hq fun ps z => nomatch z
  exact hx _ _ _ (g1.trans g3) (.tup upd_same rgV_rep)

/-! ### x.index(y), ints -/
def D.ints : D → R (List Int)
  | .lst xs => match asInts xs with
    | some ns => .ok ns
    | none => .ub
  | _ => .ub
def D.idx (ns : List Int) : D → R D
  | .int y => if y ∈ ns then .ok (.int (ns.idxOf y : Nat)) else .ub
  | _ => .ub
theorem idx_spec {ns : List Int} {y : Int} (h : y ∈ ns) : ns[ns.idxOf y]? = some y ∧ ∀ k z, k < ns.idxOf y → ns[k]? = some z → z ≠ y := by
  have hl := List.idxOf_lt_length_of_mem h
  refine ⟨by rw [List.getElem?_eq_getElem hl, List.getElem_idxOf hl], fun k z hk hz e => ?_⟩
  subst e
  have := List.not_of_lt_findIdx (xs := ns) (p := (· == z)) (i := k) hk
  obtain ⟨h1, h2⟩ := List.getElem?_eq_some_iff.mp hz
  rw [h2] at this
  simp at this
theorem ev_index (ha : EVw T X ds m a ra) (hb : EV T X ds m b rb) (hbase : attributeBase a "index" X.env (eval a X.env) = eval a X.env := by rfl)
    (hfew : ((backTo cpos (starEach [b] X.env)).all (fun x => !x.1) && (backToKw cpos (keywordEach [] X.env)).all (fun x => x.1.isSome)
      && decide ([b].length + ([] : List Keyword).length + (if ([] : List Keyword).isEmpty then 0 else 1) < 30)) = true := by rfl)
    (hline : (apos.endLine == cpos.line) = true := by rfl) (hs : starEach [b] X.env = (false, eval b X.env) :: starEach [] X.env := by exact se1 rfl) (hplain : (backTo cpos (starEach [] X.env)).any (·.1) = false := by rfl) :
    EV T X ds m (.Call (.Attribute a "index" apos) [b] [] cpos) (ra.bind fun x => (D.ints x).bind fun ns => rb.bind fun y => D.idx ns y) := by
  intro W tk B σ H hs' w Q q
  refine wpE.of (pe_bm PySem.F.plainAttrs_list PySem.F.slot_list_index PySem.F.type_list_index mt_index (pe_wp X a) (pa_cons (pe_wp X b) pa_nil hs) hbase hfew hline hs hplain) ?_
  refine ha W tk B σ H hs' w _ (R.sat_mono (R.sat_bind q) (fun x hx B1 v1 H1 g1 r1 => ?_) fun _ z => z)
  unfold D.ints at hx
  split at hx
  · split at hx
    · rename_i xs ns hz
      have ez := asInts_eq hz
      subst ez
      obtain ⟨ad, vs, rfl, h1, h2⟩ := r1.ilst g1.own
      refine ⟨.inl ⟨rfl, vs, .inl h1⟩, ?_⟩
      refine hb W tk B1 σ H1 (hs'.mono g1.ex) g1.own _ (R.sat_mono (R.sat_bind (show ((rb.bind fun y => D.idx ns y)).sat _ _ from hx)) (fun y hy B2 v2 H2 g2 r2 => ?_) fun _ z => z.go g1)
      unfold D.idx at hy
      split at hy
      · split at hy
        · rename_i n hn
          obtain ⟨i1, i2⟩ := idx_spec hn
          obtain ⟨ad', vs', e, h3, h4⟩ := (r1.go g2).ilst g2.own
          cases e
          have ev := h4.ints
          subst ev
          cases r2.iint
          refine ⟨ad, ns.map V.int, .int n, ns.idxOf n, .int n, rfl, rfl, .inl h3, rfl, ?_, ?_, ?_, fun k z hk hz => ?_, hy B2 _ H2 (g1.trans g2) (.int _)⟩
          · exact List.all_eq_true.mpr fun v hv => by
              obtain ⟨i, _, rfl⟩ := List.mem_map.mp hv
              rfl
          · rw [List.getElem?_map, i1]; rfl
          · show (n == n) = true
            simp
          · rw [List.getElem?_map] at hz
            cases e : ns[k]? with
            | none => rw [e] at hz; cases hz
            | some z' =>
              rw [e] at hz
              cases hz
              show (z' == n) = false
              simp [i2 k z' hk e]
        · exact hy.elim
      · exact hy.elim
    · exact hx.elim
  · exact hx.elim
end
end DL

/-! ### where a lambda stands in a def's text -/
namespace DL
open PySem
def eKids : Expr → List Expr
  | .BoolOp _ vs _ => vs
  | .BinOp l _ r _ => [l, r]
  | .UnaryOp _ e _ => [e]
  | .IfExp t b o _ => [t, b, o]
  | .Compare l _ cs _ => l :: cs
  | .Call f as _ _ => f :: as
  | .List es _ => es
  | .Tuple es _ _ => es
  | .Subscript v s _ => [v, s]
  | _ => []
def sKids : Stmt → List Expr
  | .Return (some e) _ => [e]
  | .Expr e _ => [e]
  | .Assign _ v _ => [v]
  | .If t _ _ _ => [t]
  | .For _ i _ _ _ => [i]
  | .While t _ _ _ => [t]
  | _ => []
def sSubs : Stmt → List Stmt
  | .If _ b o _ => b ++ o
  | .For _ _ b o _ => b ++ o
  | .While _ b o _ => b ++ o
  | _ => []
def exAt : List Nat → Expr → Expr
  | [], e => e
  | i :: p, e => exAt p ((eKids e).getD i e)
def stAt : List Nat → List Stmt → Stmt
  | [], b => b.getD 0 (.Pass ⟨0, 0, 0, 0⟩)
  | [i], b => b.getD i (.Pass ⟨0, 0, 0, 0⟩)
  | i :: p, b => stAt p (sSubs (b.getD i (.Pass ⟨0, 0, 0, 0⟩)))
def lamOf (q : Str) : Expr → Lam
  | .Lambda p b s _ => ⟨q, p, b, s⟩
  | e => ⟨q, ⟨[], [], none, [], [], none, []⟩, e, default⟩
def lamAt (q : Str) (b : List Stmt) (sp : List Nat) (i : Nat) (ep : List Nat) : Lam := lamOf q (exAt ep ((sKids (stAt sp b)).getD i (.Constant .none 0 ⟨0, 0, 0, 0⟩)))
section
open PySem PySem.Spec PyProof.Rows L2
variable {T : Tb} {X : Cx} {ds : DS} {m : OM} {c P : Addr} {params : Arguments} {body : Expr} {scope : Scope} {lpos : Pos}
theorem ev_mklamN {q : Str} {l : Lam} (hqe : X.env.qual = q) (TB : LamX.TabB X.base X.mg c P) (hcode : X.env.code = .ref c) (hmT : (P, q ++ "<lambda>") ∈ T) (hu : ∀ p ∈ T, p.1 = P → p.2 = q ++ "<lambda>") (hnf : noFreeB scope = true) (hl : l = ⟨q ++ "<lambda>", params, body, scope⟩ := by rfl) (hdef : defaultsOf params X.env = ([], []) := by rfl) :
    EV T X ds m (.Lambda params body scope lpos) (.ok (.clo l [])) := by
  subst hl
  exact ev_mklam hqe TB hcode hmT hu hnf hdef
end
end DL
namespace DL
open PySem

/-! ### shorter first, then ascending -/
def sl (a b : List Nat) : Prop := a.length < b.length ∨ (a.length = b.length ∧ a < b)
instance (a b : List Nat) : Decidable (sl a b) := by unfold sl; infer_instance
theorem sl_irrefl (a : List Nat) : ¬ sl a a := fun h => by
  rcases h with h | ⟨_, h⟩
  · omega
  · exact List.lt_irrefl a h
theorem sl_trans {a b c : List Nat} (h1 : sl a b) (h2 : sl b c) : sl a c := by
  rcases h1 with h1 | ⟨h1, h1'⟩ <;> rcases h2 with h2 | ⟨h2, h2'⟩
  · exact .inl (by omega)
  · exact .inl (by omega)
  · exact .inl (by omega)
  · exact .inr ⟨by omega, List.lt_trans h1' h2'⟩
theorem lt_snoc : ∀ {a b : List Nat} {x y : Nat}, a.length = b.length → a < b → a ++ [x] < b ++ [y]
  | [], [], _, _, _, h => absurd h (List.lt_irrefl _)
  | [], _ :: _, _, _, h, _ => by simp at h
  | _ :: _, [], _, _, h, _ => by simp at h
  | a :: as, b :: bs, x, y, hl, h => by
    rcases List.cons_lt_cons_iff.mp h with h | ⟨h, h2⟩
    · exact List.cons_lt_cons_iff.mpr (.inl h)
    · exact List.cons_lt_cons_iff.mpr (.inr ⟨h, lt_snoc (by simpa using hl) h2⟩)
theorem lt_snoc2 : ∀ {a : List Nat} {x y : Nat}, x < y → a ++ [x] < a ++ [y]
  | [], x, y, h => List.cons_lt_cons_iff.mpr (.inl h)
  | a :: as, x, y, h => List.cons_lt_cons_iff.mpr (.inr ⟨rfl, lt_snoc2 h⟩)
theorem sl_snoc {a b : List Nat} {x y : Nat} (h : sl a b) : sl (a ++ [x]) (b ++ [y]) := by
  rcases h with h | ⟨h, h'⟩
  · exact .inl (by simp; omega)
  · exact .inr ⟨by simp [h], lt_snoc h h'⟩
theorem sl_snoc2 {a : List Nat} {x y : Nat} (h : x < y) : sl (a ++ [x]) (a ++ [y]) := .inr ⟨by simp, lt_snoc2 h⟩
/-- at most -/
def sle (a b : List Nat) : Prop := a = b ∨ sl a b
theorem sle_sl {a b c : List Nat} (h1 : sle a b) (h2 : sl b c) : sl a c := by
  rcases h1 with rfl | h1
  · exact h2
  · exact sl_trans h1 h2
theorem sle_trans {a b c : List Nat} (h1 : sle a b) (h2 : sle b c) : sle a c := by
  rcases h2 with rfl | h2
  · exact h1
  · exact .inr (sle_sl h1 h2)
theorem sle_len {a b : List Nat} (h : sle a b) : a.length ≤ b.length := by
  rcases h with rfl | h | ⟨h, _⟩ <;> omega
theorem sle_snoc {a b : List Nat} {d : Nat} (h : sle a b) : sle (a ++ [d]) (b ++ [d]) := by
  rcases h with rfl | h
  · exact .inl rfl
  · exact .inr (sl_snoc h)

/-! ### the search of two rules -/
abbrev E2 : Type := Pr × List Nat
section
variable (r q : Ru)
def nx2 (p : Pr) (d : Nat) : Pr := (r.step p.1 d, q.step p.2 d)
def led2 (w : List Nat) : Pr := (r.led w, q.led w)
def want2 (W : Bool → Bool → Bool) (p : Pr) : Bool := W (decide (p.1 ∈ r.good)) (decide (p.2 ∈ q.good))
def put2 (e : E2) (st : List Pr × List E2) (d : Nat) : List Pr × List E2 := if nx2 r q e.1 d ∈ st.1 then st else (st.1 ++ [nx2 r q e.1 d], st.2 ++ [(nx2 r q e.1 d, e.2 ++ [d])])
def exp2 (st : List Pr × List E2) (e : E2) : List Pr × List E2 := (List.range (r.top + 1)).foldl (put2 r q e) st
def turn2 (K : List Pr) (line : List E2) : List Pr × List E2 := line.foldl (exp2 r q) (K, [])
def go2 (W : Bool → Bool → Bool) : Nat → List Pr → List E2 → Option (List Nat)
  | 0, _, _ => none
  | n + 1, K, line => match line.find? fun e => want2 r q W e.1 with
    | some e => some e.2
    | none => go2 W n (turn2 r q K line).1 (turn2 r q K line).2
def bfs2 (W : Bool → Bool → Bool) : Option (List Nat) := go2 r q W 26 [(0, 0)] [((0, 0), [])]
end
section
variable {r q : Ru} {W : Bool → Bool → Bool}
theorem led2_snoc (w : List Nat) (d : Nat) : led2 r q (w ++ [d]) = nx2 r q (led2 r q w) d := by
  unfold led2 nx2
  rw [led_snoc, led_snoc]
abbrev reqs (r : Ru) (line : List E2) : List (E2 × Nat) := line.flatMap fun e => (List.range (r.top + 1)).map fun d => (e, d)
theorem turn_reqs (K : List Pr) (line : List E2) : turn2 r q K line = (reqs r line).foldl (fun st x => put2 r q x.1 st x.2) (K, []) := by
  unfold turn2 reqs
  generalize ((K, []) : List Pr × List E2) = st
  induction line generalizing st with
  | nil => rfl
  | cons e l ih =>
    rw [List.foldl_cons, List.flatMap_cons, List.foldl_append, ih]
    unfold exp2
    rw [List.foldl_map]
/-- what a turn has found when it has asked P -/
structure Mid (r q : Ru) (old : List E2) (P : List (E2 × Nat)) (st : List Pr × List E2) : Prop where
  keys : st.1 = (old ++ st.2).map (·.1)
  nd : st.1.Nodup
  from_ : ∀ f ∈ st.2, ∃ x ∈ P, f = (nx2 r q x.1.1 x.2, x.1.2 ++ [x.2])
  asc : (st.2.map (·.2)).Pairwise sl
  clos : ∀ x ∈ P, ∃ f ∈ old ++ st.2, f.1 = nx2 r q x.1.1 x.2 ∧ sle f.2 (x.1.2 ++ [x.2])
theorem Mid.put {old : List E2} {P : List (E2 × Nat)} {st : List Pr × List E2} (h : Mid r q old P st) (x : E2 × Nat) (ho : ∀ f ∈ old, sl f.2 (x.1.2 ++ [x.2])) (hP : ∀ y ∈ P, sl (y.1.2 ++ [y.2]) (x.1.2 ++ [x.2])) : Mid r q old (P ++ [x]) (put2 r q x.1 st x.2) := by
  have hn : ∀ f ∈ st.2, sl f.2 (x.1.2 ++ [x.2]) := fun f hf => by
    obtain ⟨y, hy, rfl⟩ := h.from_ f hf
    exact hP y hy
  unfold put2
  split
  · rename_i hm
    refine ⟨h.keys, h.nd, fun f hf => ?_, h.asc, fun y hy => ?_⟩
    · obtain ⟨y, hy, e⟩ := h.from_ f hf
      exact ⟨y, List.mem_append_left _ hy, e⟩
    · rcases List.mem_append.mp hy with hy | hy
      · exact h.clos y hy
      · cases List.mem_singleton.mp hy
        rw [h.keys] at hm
        obtain ⟨f, hf, e⟩ := List.mem_map.mp hm
        refine ⟨f, hf, e, .inr ?_⟩
        rcases List.mem_append.mp hf with hf | hf
        · exact ho f hf
        · exact hn f hf
  · rename_i hm
    refine ⟨?_, ?_, fun f hf => ?_, ?_, fun y hy => ?_⟩
    · show st.1 ++ [nx2 r q x.1.1 x.2] = (old ++ (st.2 ++ [(nx2 r q x.1.1 x.2, x.1.2 ++ [x.2])])).map (fun e : E2 => e.1)
      rw [← List.append_assoc, List.map_append, ← h.keys]
      rfl
    · exact List.nodup_append.mpr ⟨h.nd, by simp, fun a ha b hb e => by
        cases List.mem_singleton.mp hb
        exact hm (e ▸ ha)⟩
    · rcases List.mem_append.mp hf with hf | hf
      · obtain ⟨y, hy, e⟩ := h.from_ f hf
        exact ⟨y, List.mem_append_left _ hy, e⟩
      · cases List.mem_singleton.mp hf
        exact ⟨x, by simp, rfl⟩
    · rw [List.map_append]
      refine List.pairwise_append.mpr ⟨h.asc, by simp, fun a ha b hb => ?_⟩
      obtain ⟨f, hf, rfl⟩ := List.mem_map.mp ha
      cases List.mem_singleton.mp hb
      exact hn f hf
    · rcases List.mem_append.mp hy with hy | hy
      · obtain ⟨f, hf, e⟩ := h.clos y hy
        refine ⟨f, ?_, e⟩
        rcases List.mem_append.mp hf with hf | hf
        · exact List.mem_append_left _ hf
        · exact List.mem_append_right _ (List.mem_append_left _ hf)
      · cases List.mem_singleton.mp hy
        exact ⟨(nx2 r q x.1.1 x.2, x.1.2 ++ [x.2]), by simp, rfl, .inl rfl⟩
theorem mid_all {old : List E2} : ∀ (R P : List (E2 × Nat)) (st : List Pr × List E2), Mid r q old P st → (∀ x ∈ R, ∀ f ∈ old, sl f.2 (x.1.2 ++ [x.2])) → ((P ++ R).map fun x : E2 × Nat => x.1.2 ++ [x.2]).Pairwise sl → Mid r q old (P ++ R) (R.foldl (fun st x => put2 r q x.1 st x.2) st)
  | [], P, st, h, _, _ => by rw [List.append_nil]; exact h
  | x :: R, P, st, h, ho, hp => by
    have e : P ++ x :: R = (P ++ [x]) ++ R := by simp
    rw [e] at hp ⊢
    refine mid_all R (P ++ [x]) _ (h.put x (ho x (by simp)) fun y hy => ?_) (fun y hy => ho y (by simp [hy])) hp
    rw [List.append_assoc, List.map_append, List.pairwise_append] at hp
    exact hp.2.2 _ (List.mem_map.mpr ⟨y, hy, rfl⟩) _ (by simp)
/-- the state of the search before turn k -/
structure Bf (r q : Ru) (W : Bool → Bool → Bool) (k : Nat) (K : List Pr) (line done : List E2) : Prop where
  keys : K = (done ++ line).map (·.1)
  nd : K.Nodup
  at_ : ∀ e ∈ done ++ line, e.1 = led2 r q e.2 ∧ ∀ d ∈ e.2, d ≤ r.top
  asc : ((done ++ line).map (·.2)).Pairwise sl
  no : ∀ e ∈ done, want2 r q W e.1 = false
  len : ∀ e ∈ line, e.2.length = k
  lenD : ∀ e ∈ done, e.2.length < k
  clos : ∀ e ∈ done, ∀ d, d ≤ r.top → ∃ f ∈ done ++ line, f.1 = nx2 r q e.1 d ∧ sle f.2 (e.2 ++ [d])
  start : ∃ f ∈ done ++ line, f.2 = [] ∧ f.1 = (0, 0)
  last : ∀ e ∈ line, ∀ u, e.2 = u ++ [0] → want2 r q W e.1 = false
  many : k + 1 ≤ K.length ∨ line = []
theorem bf_start : Bf r q W 0 [(0, 0)] [((0, 0), [])] [] :=
  ⟨rfl, by simp, fun e he => by cases List.mem_singleton.mp he; exact ⟨rfl, fun d hd => by simp at hd⟩, by simp, fun e he => by simp at he, fun e he => by cases List.mem_singleton.mp he; rfl, fun e he => by simp at he, fun e he => by simp at he, ⟨((0, 0), []), by simp, rfl, rfl⟩, fun e he u hu => by cases List.mem_singleton.mp he; simp at hu, .inl (by simp)⟩
theorem reqs_asc {line : List E2} (h : (line.map (·.2)).Pairwise sl) {k : Nat} : ((reqs r line).map fun x : E2 × Nat => x.1.2 ++ [x.2]).Pairwise sl := by
  induction line with
  | nil => simp
  | cons e l ih =>
    rw [List.map_cons, List.pairwise_cons] at h
    unfold reqs at ih ⊢
    rw [List.flatMap_cons, List.map_append, List.pairwise_append]
    refine ⟨?_, ih h.2, fun a ha b hb => ?_⟩
    · rw [List.map_map]
      refine List.pairwise_map.mpr (List.Pairwise.imp (fun {a b} hab => ?_) (List.pairwise_lt_range (n := r.top + 1)))
      exact sl_snoc2 hab
    · obtain ⟨x, hx, rfl⟩ := List.mem_map.mp ha
      obtain ⟨d, _, rfl⟩ := List.mem_map.mp hx
      obtain ⟨y, hy, rfl⟩ := List.mem_map.mp hb
      obtain ⟨f, hf, hy⟩ := List.mem_flatMap.mp hy
      obtain ⟨d2, _, rfl⟩ := List.mem_map.mp hy
      exact sl_snoc (h.1 _ (List.mem_map.mpr ⟨f, hf, rfl⟩))
theorem want_0 (hr : r.Ok) (hq : q.Ok) {p : Pr} (h1 : p.1 < r.rows.length) (h2 : p.2 < q.rows.length) : want2 r q W (nx2 r q p 0) = want2 r q W p := by
  unfold want2 nx2
  have e1 := hr.zero p.1 h1
  have e2 := hq.zero p.2 h2
  rw [decide_eq_decide.mpr e1, decide_eq_decide.mpr e2]
theorem Bf.next (hr : r.Ok) (hq : q.Ok) (ht : q.top = r.top) {k : Nat} {K : List Pr} {line done : List E2} (b : Bf r q W k K line done) (hn : ∀ e ∈ line, want2 r q W e.1 = false) : Bf r q W (k + 1) (turn2 r q K line).1 (turn2 r q K line).2 (done ++ line) := by
  have m := mid_all (r := r) (q := q) (old := done ++ line) (reqs r line) [] (K, []) ⟨by rw [List.append_nil]; exact b.keys, b.nd, fun f hf => by simp at hf, by simp, fun x hx => by simp at hx⟩ (fun x hx f hf => by
      obtain ⟨e, he, hx⟩ := List.mem_flatMap.mp hx
      obtain ⟨d, hd, rfl⟩ := List.mem_map.mp hx
      have l1 := b.len e he
      refine .inl ?_
      rw [List.length_append, l1]
      show f.2.length < k + 1
      rcases List.mem_append.mp hf with hf | hf
      · have := b.lenD f hf; omega
      · have := b.len f hf; omega) (by
      rw [List.nil_append]
      have := b.asc
      rw [List.map_append, List.pairwise_append] at this
      exact reqs_asc (k := k) this.2.1)
  rw [List.nil_append, ← turn_reqs] at m
  have hfrom : ∀ f ∈ (turn2 r q K line).2, ∃ e ∈ line, ∃ d, d ≤ r.top ∧ f = (nx2 r q e.1 d, e.2 ++ [d]) := fun f hf => by
    obtain ⟨x, hx, rfl⟩ := m.from_ f hf
    obtain ⟨e, he, hx⟩ := List.mem_flatMap.mp hx
    obtain ⟨d, hd, rfl⟩ := List.mem_map.mp hx
    exact ⟨e, he, d, by have := List.mem_range.mp hd; omega, rfl⟩
  refine ⟨m.keys, m.nd, fun e he => ?_, ?_, fun e he => ?_, fun e he => ?_, fun e he => ?_, fun e he d hd => ?_, ?_, fun e he u hu => ?_, ?_⟩
  · rcases List.mem_append.mp he with he | he
    · exact b.at_ e he
    · obtain ⟨f, hf, d, hd, rfl⟩ := hfrom e he
      obtain ⟨a1, a2⟩ := b.at_ f (List.mem_append_right _ hf)
      refine ⟨by show nx2 r q f.1 d = _; rw [led2_snoc, a1], fun x hx => ?_⟩
      rcases List.mem_append.mp hx with hx | hx
      · exact a2 x hx
      · cases List.mem_singleton.mp hx; exact hd
  · rw [List.map_append]
    refine List.pairwise_append.mpr ⟨b.asc, m.asc, fun x hx y hy => ?_⟩
    obtain ⟨f, hf, rfl⟩ := List.mem_map.mp hx
    obtain ⟨g, hg, rfl⟩ := List.mem_map.mp hy
    obtain ⟨e, he, d, hd, rfl⟩ := hfrom g hg
    refine .inl ?_
    show f.2.length < (e.2 ++ [d]).length
    rw [List.length_append, b.len e he]
    show f.2.length < k + 1
    rcases List.mem_append.mp hf with hf | hf
    · have := b.lenD f hf; omega
    · have := b.len f hf; omega
  · rcases List.mem_append.mp he with he | he
    · exact b.no e he
    · exact hn e he
  · obtain ⟨f, hf, d, hd, rfl⟩ := hfrom e he
    show (f.2 ++ [d]).length = k + 1
    rw [List.length_append, b.len f hf]
    rfl
  · rcases List.mem_append.mp he with he | he
    · have := b.lenD e he; omega
    · have := b.len e he; omega
  · rcases List.mem_append.mp he with he | he
    · obtain ⟨f, hf, h1, h2⟩ := b.clos e he d hd
      exact ⟨f, List.mem_append_left _ hf, h1, h2⟩
    · exact m.clos (e, d) (List.mem_flatMap.mpr ⟨e, he, List.mem_map.mpr ⟨d, List.mem_range.mpr (by omega), rfl⟩⟩)
  · obtain ⟨f, hf, h1⟩ := b.start
    exact ⟨f, List.mem_append_left _ hf, h1⟩
  · obtain ⟨f, hf, d, hd, rfl⟩ := hfrom e he
    have hu : f.2 ++ [d] = u ++ [0] := hu
    have e0 : d = 0 := by
      have := congrArg List.getLast? hu
      simpa using this
    subst e0
    obtain ⟨a1, a2⟩ := b.at_ f (List.mem_append_right _ hf)
    show want2 r q W (nx2 r q f.1 0) = false
    rw [want_0 hr hq (by rw [a1]; exact hr.led_lt a2) (by rw [a1]; exact hq.led_lt fun x hx => by rw [ht]; exact a2 x hx)]
    exact hn f hf
  · by_cases hl : (turn2 r q K line).2 = []
    · exact .inr hl
    · refine .inl ?_
      have h1 : 1 ≤ (turn2 r q K line).2.length := List.length_pos_iff.mpr hl
      have h2 : K.length = (done ++ line).length := by rw [b.keys, List.length_map]
      rw [m.keys, List.length_map, List.length_append]
      rcases b.many with h3 | h3
      · omega
      · subst h3
        exact absurd rfl hl
/-- the pairs are few -/
theorem Bf.few (hr : r.Ok) (hq : q.Ok) (ht : q.top = r.top) {k : Nat} {K : List Pr} {line done : List E2} (b : Bf r q W k K line done) : K.length ≤ 25 := by
  have h := nodup_lenG (D := (List.range r.rows.length).flatMap fun i => (List.range q.rows.length).map fun j => (i, j)) b.nd fun p hp => by
    rw [b.keys] at hp
    obtain ⟨e, he, rfl⟩ := List.mem_map.mp hp
    obtain ⟨a1, a2⟩ := b.at_ e he
    rw [a1]
    exact List.mem_flatMap.mpr ⟨_, List.mem_range.mpr (hr.led_lt a2), List.mem_map.mpr ⟨_, List.mem_range.mpr (hq.led_lt fun x hx => by rw [ht]; exact a2 x hx), rfl⟩⟩
  have h2 := flatMap_len (f := fun i => (List.range q.rows.length).map fun j => (i, j)) (c := q.rows.length) (fun i => by rw [List.length_map, List.length_range]; exact Nat.le_refl _) (List.range r.rows.length)
  rw [List.length_range] at h2
  have m1 := hr.m2
  have m2 := hq.m2
  have : r.rows.length * q.rows.length ≤ 5 * 5 := Nat.mul_le_mul m1 m2
  omega
theorem Bf.end_ (hr : r.Ok) (hq : q.Ok) (ht : q.top = r.top) {K : List Pr} {line done : List E2} (b : Bf r q W 25 K line done) : line = [] := by
  rcases b.many with h | h
  · have := b.few hr hq ht; omega
  · exact h
/-- every word's pair is known by a word that is not behind it, if the line begins late enough -/
theorem Bf.known {k : Nat} {K : List Pr} {line done : List E2} (b : Bf r q W k K line done) : ∀ (n : Nat) (w : List Nat), w.length = n → (∀ d ∈ w, d ≤ r.top) → (w.length ≤ k ∨ line = []) → ∃ f ∈ done ++ line, f.1 = led2 r q w ∧ sle f.2 w
  | 0, w, hn, _, _ => by
    obtain ⟨f, hf, h1, h2⟩ := b.start
    have : w = [] := List.length_eq_zero_iff.mp hn
    subst this
    exact ⟨f, hf, h2, .inl h1⟩
  | n + 1, w, hn, hd, hk => by
    obtain ⟨u, d, rfl⟩ : ∃ u d, w = u ++ [d] := ⟨w.dropLast, w.getLast (fun z => by rw [z] at hn; simp at hn), (List.dropLast_concat_getLast _).symm⟩
    have hlu : u.length = n := by simpa using hn
    have hlw : (u ++ [d]).length = n + 1 := hn
    obtain ⟨f, hf, h1, h2⟩ := b.known n u hlu (fun x hx => hd x (List.mem_append_left _ hx)) (hk.elim (fun z => .inl (by omega)) .inr)
    have hfd : f ∈ done := by
      rcases List.mem_append.mp hf with hf | hf
      · exact hf
      · rcases hk with hk | hk
        · have l1 := b.len f hf
          have l2 := sle_len h2
          omega
        · rw [hk] at hf; simp at hf
    obtain ⟨g, hg, h3, h4⟩ := b.clos f hfd d (hd d (by simp))
    refine ⟨g, hg, by rw [led2_snoc, h3, h1], ?_⟩
    exact sle_trans h4 (sle_snoc h2)
/-- none wanted at all -/
theorem Bf.none_ {k : Nat} {K : List Pr} {done : List E2} (b : Bf r q W k K [] done) (w : List Nat) (hw : ∀ d ∈ w, d ≤ r.top) : want2 r q W (led2 r q w) = false := by
  obtain ⟨f, hf, h1, _⟩ := b.known _ w rfl hw (.inr rfl)
  rw [List.append_nil] at hf
  rw [← h1]
  exact b.no f hf
structure Hit (r q : Ru) (W : Bool → Bool → Bool) (w : List Nat) : Prop where
  yes : want2 r q W (led2 r q w) = true
  dig : ∀ d ∈ w, d ≤ r.top
  last : ∀ u, w ≠ u ++ [0]
  len : w.length ≤ 25
  first : ∀ u, (∀ d ∈ u, d ≤ r.top) → sl u w → want2 r q W (led2 r q u) = false
theorem Bf.some_ {k : Nat} {K : List Pr} {line done : List E2} (b : Bf r q W k K line done) (hk : k ≤ 25) {e : E2} (h : line.find? (fun e => want2 r q W e.1) = some e) : Hit r q W e.2 := by
  have he : e ∈ line := List.mem_of_find?_eq_some h
  have hw : want2 r q W e.1 = true := by have := List.find?_some h; simpa using this
  obtain ⟨a1, a2⟩ := b.at_ e (List.mem_append_right _ he)
  refine ⟨by rw [← a1]; exact hw, a2, fun u hu => ?_, by rw [b.len e he]; exact hk, fun u hu hs => ?_⟩
  · rw [b.last e he u hu] at hw; cases hw
  · have lu : u.length ≤ k := by
      have := b.len e he
      have := sle_len (.inr hs)
      omega
    obtain ⟨f, hf, h1, h2⟩ := b.known _ u rfl hu (.inl lu)
    rw [← h1]
    have hs2 := sle_sl h2 hs
    rcases List.mem_append.mp hf with hf | hf
    · exact b.no f hf
    · -- before e in the line
      obtain ⟨hp, l1, l2, el, hno⟩ := List.find?_eq_some_iff_append.mp h
      have asc := b.asc
      rw [List.map_append, List.pairwise_append] at asc
      have asc := asc.2.1
      rw [el, List.map_append, List.pairwise_append] at asc
      rw [el] at hf
      rcases List.mem_append.mp hf with hf | hf
      · have := hno f hf
        simpa using this
      · refine absurd hs2 ?_
        rcases List.mem_cons.mp hf with rfl | hf
        · exact sl_irrefl _
        · intro z
          rw [List.map_cons, List.pairwise_cons] at asc
          have := asc.2.1.1 _ (List.mem_map.mpr ⟨f, hf, rfl⟩)
          exact sl_irrefl _ (sl_trans this z)
theorem go_spec (hr : r.Ok) (hq : q.Ok) (ht : q.top = r.top) : ∀ (n k : Nat) (K : List Pr) (line done : List E2), n + k = 26 → 1 ≤ n → Bf r q W k K line done →
    (∃ w, go2 r q W n K line = some w ∧ Hit r q W w) ∨ (go2 r q W n K line = none ∧ ∀ w, (∀ d ∈ w, d ≤ r.top) → want2 r q W (led2 r q w) = false)
  | 0, k, K, line, done, h, h1, b => by omega
  | n + 1, k, K, line, done, h, h1, b => by
    unfold go2
    cases e : line.find? fun e => want2 r q W e.1 with
    | some x => exact .inl ⟨x.2, rfl, b.some_ (by omega) e⟩
    | none =>
      have hn : ∀ e ∈ line, want2 r q W e.1 = false := fun f hf => by
        have := List.find?_eq_none.mp e f hf
        simpa using this
      cases n with
      | zero =>
        have hk : k = 25 := by omega
        subst hk
        have := b.end_ hr hq ht
        subst this
        exact .inr ⟨rfl, fun w hw => b.none_ w hw⟩
      | succ n => exact go_spec hr hq ht (n + 1) (k + 1) _ _ _ (by omega) (by omega) (b.next hr hq ht hn)
theorem bfs_spec (hr : r.Ok) (hq : q.Ok) (ht : q.top = r.top) : (∃ w, bfs2 r q W = some w ∧ Hit r q W w) ∨ (bfs2 r q W = none ∧ ∀ w, (∀ d ∈ w, d ≤ r.top) → want2 r q W (led2 r q w) = false) :=
  go_spec hr hq ht 26 0 _ _ _ rfl (by omega) bf_start
/-- the first is the only one -/
theorem Hit.uniq {w u : List Nat} (h : Hit r q W w) (g : Hit r q W u) : w = u := by
  rcases Nat.lt_trichotomy w.length u.length with z | z | z
  · have := g.first w h.dig (.inl z); rw [h.yes] at this; cases this
  · by_cases h1 : w < u
    · have := g.first w h.dig (.inr ⟨z, h1⟩); rw [h.yes] at this; cases this
    · by_cases h2 : u < w
      · have := h.first u g.dig (.inr ⟨z.symm, h2⟩); rw [g.yes] at this; cases this
      · exact List.le_antisymm (List.not_lt.mp h2) (List.not_lt.mp h1)
  · have := h.first u g.dig (.inl z); rw [g.yes] at this; cases this
theorem want_swap (p : Pr) : want2 q r (fun a b => W b a) (p.2, p.1) = want2 r q W p := rfl
theorem Hit.swap (ht : q.top = r.top) {w : List Nat} (h : Hit r q W w) : Hit q r (fun a b => W b a) w :=
  ⟨h.yes, fun d hd => by rw [ht]; exact h.dig d hd, h.last, h.len, fun u hu hs => h.first u (fun d hd => by rw [← ht]; exact hu d hd) hs⟩
theorem bfs_swap (hr : r.Ok) (hq : q.Ok) (ht : q.top = r.top) : bfs2 q r (fun a b => W b a) = bfs2 r q W := by
  rcases bfs_spec (W := W) hr hq ht with ⟨w, h1, h2⟩ | ⟨h1, h2⟩ <;> rcases bfs_spec (W := fun a b => W b a) hq hr ht.symm with ⟨u, h3, h4⟩ | ⟨h3, h4⟩
  · rw [h1, h3, (h2.swap ht).uniq h4]
  · have z := h4 w fun d hd => by rw [ht]; exact h2.dig d hd
    have : want2 r q W (led2 r q w) = false := z
    rw [h2.yes] at this; cases this
  · have z := h2 u fun d hd => by rw [← ht]; exact h4.dig d hd
    have : want2 q r (fun a b => W b a) (led2 q r u) = false := z
    rw [h4.yes] at this; cases this
  · rw [h1, h3]
end
/-! ### for the walk -/
def optD : Option (List Nat) → D
  | none => .non
  | some w => TN w
abbrev T2 (e : E2) : D := .tup [TQ e.1, TN e.2]
theorem flat_T2 (e : E2) : D.flat 2 (T2 e) := flat_tup' fun x hx => by
  simp only [List.mem_cons, List.not_mem_nil, or_false] at hx
  rcases hx with rfl | rfl
  · exact flat_tup' fun x hx => by
      simp only [List.mem_cons, List.not_mem_nil, or_false] at hx
      rcases hx with rfl | rfl <;> exact flat_int _ 0
  · exact flat_tup (n := 0) fun i _ => flat_int _ 0
@[simp] theorem callC_clo (cal : Lam → List D → R D) (rs : R (List D)) (l : Lam) : D.callC cal rs (.clo l []) = rs.bind (cal l) := rfl
theorem whileR_ret {S γ : Type} {c : S → R Bool} {f : S → R (Fl S S γ)} (Q : Nat → S → Prop) (P : Fl S Empty γ → Prop) (N : Nat) (step : ∀ k s, k ≤ N → Q k s → (c s = .ok false ∧ P (.nx s)) ∨ (c s = .ok true ∧ ((∃ g, f s = .ok (.rt g) ∧ P (.rt g)) ∨ (k < N ∧ ∃ s', f s = .ok (.nx s') ∧ Q (k + 1) s')))) :
    ∀ (fuel k : Nat) (s : S), N < fuel + k → k ≤ N → Q k s → (whileR c f fuel s).has P
  | 0, k, s, h, hk, _ => absurd h (by omega)
  | fuel + 1, k, s, h, hk, hq => by
    unfold whileR
    rcases step k s hk hq with ⟨h1, h2⟩ | ⟨h1, ⟨g, h2, h3⟩ | ⟨h2, s', h3, h4⟩⟩
    · rw [h1, R.ok_bind, if_neg (by simp)]
      exact ⟨_, rfl, h2⟩
    · rw [h1, R.ok_bind, if_pos rfl, h2, R.ok_bind, turnK_rt]
      exact ⟨_, rfl, h3⟩
    · rw [h1, R.ok_bind, if_pos rfl, h3, R.ok_bind, turnK_nx]
      exact whileR_ret Q P N step fuel (k + 1) s' (by omega) (by omega) h4
theorem forL_find {α ι σ S γ : Type} {un : D → R α} {f : S → α → R (Fl S S γ)} (e : ι → D) (a : ι → α) (w : ι → Bool) (v : ι → γ) (es : σ → S) (g : σ → ι → σ) (P : σ → Prop) : ∀ (xs : List ι) (hun : ∀ i ∈ xs, un (e i) = .ok (a i))
    (hf : ∀ i ∈ xs, ∀ s, P s → (w i = true → f (es s) (a i) = .ok (.rt (v i))) ∧ (w i = false → f (es s) (a i) = .ok (.nx (es (g s i))) ∧ P (g s i))) (s0 : σ) (h0 : P s0),
    forL un f (xs.map e) (es s0) = .ok (match xs.find? w with
      | some i => .rt (v i)
      | none => .nx (es (xs.foldl g s0)))
  | [], _, _, _, _ => rfl
  | x :: xs, hun, hf, s0, h0 => by
    have e1 : forL un f ((x :: xs).map e) (es s0) = (f (es s0) (a x)).bind (turnK (forL un f (xs.map e))) := by
      rw [List.map_cons]
      show ((un (e x)).bind fun q => (f (es s0) q).bind (turnK (forL un f (xs.map e)))) = _
      rw [hun x (by simp), R.ok_bind]
    rw [e1]
    obtain ⟨h1, h2⟩ := hf x (by simp) s0 h0
    cases hw : w x with
    | true =>
      rw [h1 hw, R.ok_bind, turnK_rt, List.find?_cons_of_pos hw]
    | false =>
      obtain ⟨h3, h4⟩ := h2 hw
      rw [h3, R.ok_bind, turnK_nx, List.find?_cons_of_neg (by simp [hw]), List.foldl_cons]
      exact forL_find e a w v es g P xs (fun i hi => hun i (by simp [hi])) (fun i hi => hf i (by simp [hi])) _ h4
/-- small states -/
structure Sz2 (r q : Ru) (st : List Pr × List E2) : Prop where
  nd : st.1.Nodup
  rg : ∀ p ∈ st.1, p.1 < r.rows.length ∧ p.2 < q.rows.length
  len : st.2.length ≤ st.1.length
section
variable {r q : Ru} {W : Bool → Bool → Bool}
theorem Sz2.few (hr : r.Ok) (hq : q.Ok) {st : List Pr × List E2} (s : Sz2 r q st) : st.1.length ≤ 25 := by
  have h := nodup_lenG (D := (List.range r.rows.length).flatMap fun i => (List.range q.rows.length).map fun j => (i, j)) s.nd fun p hp =>
    List.mem_flatMap.mpr ⟨_, List.mem_range.mpr (s.rg p hp).1, List.mem_map.mpr ⟨_, List.mem_range.mpr (s.rg p hp).2, rfl⟩⟩
  have h2 := flatMap_len (f := fun i => (List.range q.rows.length).map fun j => (i, j)) (c := q.rows.length) (fun i => by rw [List.length_map, List.length_range]; exact Nat.le_refl _) (List.range r.rows.length)
  rw [List.length_range] at h2
  have : r.rows.length * q.rows.length ≤ 5 * 5 := Nat.mul_le_mul hr.m2 hq.m2
  omega
theorem Sz2.put (hr : r.Ok) (hq : q.Ok) (ht : q.top = r.top) {st : List Pr × List E2} (s : Sz2 r q st) {e : E2} {d : Nat} (h1 : e.1.1 < r.rows.length) (h2 : e.1.2 < q.rows.length) (hd : d ≤ r.top) : Sz2 r q (put2 r q e st d) := by
  unfold put2
  split
  · exact s
  · rename_i hm
    refine ⟨List.nodup_append.mpr ⟨s.nd, by simp, fun a ha b hb e => ?_⟩, fun p hp => ?_, ?_⟩
    · cases List.mem_singleton.mp hb
      exact hm (e ▸ ha)
    · rcases List.mem_append.mp hp with hp | hp
      · exact s.rg p hp
      · cases List.mem_singleton.mp hp
        exact ⟨hr.step_lt h1 hd, hq.step_lt h2 (by rw [ht]; exact hd)⟩
    · have := s.len
      simp only [List.length_append, List.length_cons, List.length_nil]
      omega
theorem Sz2.exp (hr : r.Ok) (hq : q.Ok) (ht : q.top = r.top) {st : List Pr × List E2} (s : Sz2 r q st) {e : E2} (h1 : e.1.1 < r.rows.length) (h2 : e.1.2 < q.rows.length) : Sz2 r q (exp2 r q st e) := by
  unfold exp2
  have : ∀ (l : List Nat) (st : List Pr × List E2), (∀ d ∈ l, d ≤ r.top) → Sz2 r q st → Sz2 r q (l.foldl (put2 r q e) st) := fun l => by
    induction l with
    | nil => intro st _ s; exact s
    | cons d l ih => intro st hl s; exact ih _ (fun x hx => hl x (by simp [hx])) (s.put hr hq ht h1 h2 (hl d (by simp)))
  exact this _ st (fun d hd => by have := List.mem_range.mp hd; omega) s
theorem Bf.sz (hr : r.Ok) (hq : q.Ok) (ht : q.top = r.top) {k : Nat} {K : List Pr} {line done : List E2} (b : Bf r q W k K line done) : Sz2 r q (K, []) :=
  ⟨b.nd, fun p hp => by
    have hp : p ∈ K := hp
    rw [b.keys] at hp
    obtain ⟨e, he, rfl⟩ := List.mem_map.mp hp
    obtain ⟨a1, a2⟩ := b.at_ e he
    rw [a1]
    exact ⟨hr.led_lt a2, hq.led_lt fun x hx => by rw [ht]; exact a2 x hx⟩, Nat.zero_le _⟩
theorem go_nil : ∀ (n : Nat) (K : List Pr), go2 r q W n K [] = none
  | 0, _ => rfl
  | n + 1, K => by
    unfold go2
    exact go_nil n _
end
end DL
namespace DL
open PySem PySem.Spec PyProof.Rows L2
open Evl (Ex ex_l ex_t ex_rd)

/-! ### x < y, alike data -/
def rLtA (K : PySem.W.Frag) : R2 := fun x y H Q => ∃ d e : PyData, Dp K H x d ∧ Dp K H y e ∧ PySem.W.alike d e = true ∧ d ≠ .none ∧ d.depth ≤ 60 ∧ Q (.bl (PySem.W.dataLt d e)) H
theorem op_ltA {X : Cx} (hu : X.A.units + 64 < cLine) : OpR X (compareOp .Lt) (rLtA X.K) := by
  intro pins s σ H x y v u Q I rx ry h
  obtain ⟨d, e, hd, he, ha, hn, hz, q⟩ := h
  obtain ⟨as, r1⟩ := Dp.reads I d x v hd rx
  obtain ⟨bs, r2⟩ := Dp.reads I e y u he ry
  exact PySem.W.lt_data r1 r2 ha hn (by omega) ⟨.bl _, H, I, rfl, q⟩
noncomputable def D.ltA (x y : D) : R D := @ite _ (x.toPy.canLay0 = true ∧ y.toPy.canLay0 = true ∧ PySem.W.alike x.toPy y.toPy = true ∧ x.toPy ≠ .none ∧ x.toPy.depth ≤ 60) (Classical.propDecidable _) (.ok (.bl (PySem.W.dataLt x.toPy y.toPy))) .ub
theorem opd_ltA {K : PySem.W.Frag} {T : Tb} : OpD K T (rLtA K) D.ltA := by
  intro B m H x y dx dy w rx ry Q Ee h
  unfold D.ltA at h
  by_cases hc : dx.toPy.canLay0 = true ∧ dy.toPy.canLay0 = true ∧ PySem.W.alike dx.toPy dy.toPy = true ∧ dx.toPy ≠ .none ∧ dx.toPy.depth ≤ 60
  · rw [if_pos hc] at h
    exact ⟨_, _, rx.dp w hc.1, ry.dp w hc.2.1, hc.2.2.1, hc.2.2.2.1, hc.2.2.2.2, h B _ H (.refl w) (.bl _)⟩
  · rw [if_neg hc] at h
    exact h.elim
theorem listLt_nat : ∀ a b : List Nat, PySem.W.listLt (a.map fun n : Nat => (n : Int)) (b.map fun n : Nat => (n : Int)) = decide (a < b)
  | [], [] => by simp [PySem.W.listLt]
  | [], y :: b => by simp [PySem.W.listLt]
  | x :: a, [] => by simp [PySem.W.listLt]
  | x :: a, y :: b => by
    rw [List.map_cons, List.map_cons, PySem.W.listLt, listLt_nat a b]
    by_cases h : x = y
    · subst h
      rw [if_pos rfl]
      exact decide_eq_decide.mpr ⟨fun h => List.cons_lt_cons_iff.mpr (.inr ⟨rfl, h⟩), fun h => by
        rcases List.cons_lt_cons_iff.mp h with h | ⟨_, h⟩
        · omega
        · exact h⟩
    · rw [if_neg (fun e => h (by omega))]
      show decide ((x : Int) < (y : Int)) = _
      exact decide_eq_decide.mpr ⟨fun h => List.cons_lt_cons_iff.mpr (.inl (by omega)), fun h2 => by
        rcases List.cons_lt_cons_iff.mp h2 with h2 | ⟨h2, _⟩
        · omega
        · exact absurd h2 h⟩
theorem toPy_LT (a : List Nat) : (D.tup [I a.length, TN a]).toPy = PySem.W.Datum.toD (α := Int × PySem.W.Tup Int) ((a.length : Int), ⟨a.map fun n : Nat => (n : Int)⟩) := by
  show PyData.tuple [.int a.length, .tuple (D.toPyL (a.map I))] = PyData.tuple [.int a.length, .tuple ((a.map fun n : Nat => (n : Int)).map PyData.int)]
  rw [toPyL_map, List.map_map]
  rfl
theorem flat_LT (a : List Nat) : D.flat 2 (D.tup [I a.length, TN a]) := flat_tup' fun x hx => by
  simp only [List.mem_cons, List.not_mem_nil, or_false] at hx
  rcases hx with rfl | rfl
  · exact flat_int _ 1
  · exact flat_tup (n := 0) fun i _ => flat_int _ 0
theorem ltA_sl (a b : List Nat) : D.ltA (.tup [I a.length, TN a]) (.tup [I b.length, TN b]) = .ok (.bl (decide (sl a b))) := by
  unfold D.ltA
  have e := PySem.W.DatumOrd.lt_eq (α := Int × PySem.W.Tup Int) ((a.length : Int), ⟨a.map fun n : Nat => (n : Int)⟩) ((b.length : Int), ⟨b.map fun n : Nat => (n : Int)⟩)
  have ha := PySem.W.DatumOrd.alike (α := Int × PySem.W.Tup Int) ((a.length : Int), ⟨a.map fun n : Nat => (n : Int)⟩) ((b.length : Int), ⟨b.map fun n : Nat => (n : Int)⟩)
  rw [← toPy_LT, ← toPy_LT] at e ha
  rw [if_pos ⟨(flat_LT a).1, (flat_LT b).1, ha, (fun z => by cases z), Nat.le_trans (flat_LT a).2 (by decide)⟩, e]
  congr 2
  show (if (a.length : Int) = (b.length : Int) then PySem.W.listLt (a.map fun n : Nat => (n : Int)) (b.map fun n : Nat => (n : Int)) else decide ((a.length : Int) < (b.length : Int))) = _
  rw [listLt_nat]
  unfold sl
  by_cases h : a.length = b.length
  · rw [if_pos (by omega)]
    exact decide_eq_decide.mpr ⟨fun z => .inr ⟨h, z⟩, fun z => by
      rcases z with z | ⟨_, z⟩
      · omega
      · exact z⟩
  · rw [if_neg (by omega)]
    exact decide_eq_decide.mpr ⟨fun z => .inl (by omega), fun z => by
      rcases z with z | ⟨z, _⟩
      · omega
      · exact absurd z h⟩
end DL
namespace DL
open PySem

/-! ### sorted ints -/
theorem ple_nat (a b : Nat) : D.ple (I a) (I b) = true ↔ a ≤ b := by
  show (!PySem.W.dataLt (.int b) (.int a)) = true ↔ _
  rw [PySem.W.dataLt_int]
  simp
theorem sortOk_nat (L : List Nat) : D.sortOk (L.map I) := by
  refine ⟨fun d hd => ?_, fun d hd d' hd' => ?_, .inr fun d hd => ?_⟩
  · obtain ⟨l, _, rfl⟩ := List.mem_map.mp hd
    exact ⟨(flat_int _ 0).1, Nat.le_trans (flat_int _ 0).2 (by decide)⟩
  · rw [List.map_map] at hd hd'
    obtain ⟨a, _, rfl⟩ := List.mem_map.mp hd
    obtain ⟨b, _, rfl⟩ := List.mem_map.mp hd'
    show PySem.W.alike (.int a) (.int b) = true
    simp only [PySem.W.alike]
  · rw [List.map_map] at hd
    obtain ⟨a, _, rfl⟩ := List.mem_map.mp hd
    exact ⟨(fun e => by cases e), (fun xs e => by cases e)⟩
theorem sortA_nat {L : List Nat} (nd : L.Nodup) : ∃ F : List Nat, D.sortA (.lst (L.map I)) = .ok (F.map I) ∧ F.Perm L ∧ F.Pairwise (· < ·) := by
  have h1 : ((L.map I).mergeSort D.ple).Perm (L.map I) := List.mergeSort_perm _ _
  have h2 := List.pairwise_mergeSort (le := D.ple) ple_trans ple_total (L.map I)
  obtain ⟨F, hF⟩ : ∃ F : List Nat, (L.map I).mergeSort D.ple = F.map I := by
    obtain ⟨w, hw, _⟩ := nats_of (P := fun _ => True) (ds := (L.map I).mergeSort D.ple) fun d hd => by
      obtain ⟨x, _, rfl⟩ := List.mem_map.mp (h1.mem_iff.mp hd)
      exact ⟨x, rfl, trivial⟩
    exact ⟨w, hw⟩
  rw [hF] at h1 h2
  have hp : F.Perm L := by
    have z := h1.map fun d : D => match d with
      | .int i => i.toNat
      | _ => 0
    rw [List.map_map, List.map_map] at z
    have e : ∀ l : List Nat, l.map ((fun d : D => match d with
      | .int i => i.toNat
      | _ => 0) ∘ I) = l := fun l => by
      induction l with
      | nil => rfl
      | cons x l ih => rw [List.map_cons, ih]; rfl
    rw [e, e] at z
    exact z
  refine ⟨F, by rw [sortA_ok (.inl (sortOk_nat L)), hF], hp, ?_⟩
  have ndF : F.Nodup := hp.nodup_iff.mpr nd
  have h3 : F.Pairwise fun a b => a ≤ b := (List.pairwise_map.mp h2).imp fun {a b} h => (ple_nat a b).mp h
  exact (h3.and ndF).imp fun {a b} ⟨x, y⟩ => by omega

/-! ### standings in another order -/
def tau (m x : Nat) : Nat := if x = 0 then 0 else m - x
theorem tau_lt {m x : Nat} (h : x < m) : tau m x < m := by unfold tau; split <;> omega
theorem tau_tau {m x : Nat} (h : x < m) : tau m (tau m x) = x := by
  unfold tau
  by_cases h0 : x = 0
  · rw [if_pos h0, if_pos rfl, h0]
  · rw [if_neg h0, if_neg (by omega)]; omega
theorem tau_inj {m x y : Nat} (hx : x < m) (hy : y < m) (h : tau m x = tau m y) : x = y := by
  rw [← tau_tau hx, ← tau_tau hy, h]
def turned (m : Nat) : List Nat := (List.range m).map (tau m)
theorem turned_idx {m x : Nat} (h : x < m) : (turned m).idxOf x = tau m x := by
  have ht := tau_lt h
  have e : (turned m)[tau m x]? = some x := by
    unfold turned
    rw [List.getElem?_map, List.getElem?_range ht]
    exact congrArg some (tau_tau h)
  have nd : (turned m).Nodup := by
    unfold turned
    exact List.nodup_iff_pairwise_ne.mpr (List.pairwise_map.mpr ((List.pairwise_lt_range (n := m)).imp_of_mem fun {a b} ha hb hab e => by
      have := tau_inj (List.mem_range.mp ha) (List.mem_range.mp hb) e
      omega))
  obtain ⟨h1, h2⟩ := List.getElem?_eq_some_iff.mp e
  have z := nd.idxOf_getElem (tau m x) h1
  rw [h2] at z
  exact z
theorem turned_mem {m x : Nat} : x ∈ turned m ↔ x < m := by
  unfold turned
  constructor
  · intro h
    obtain ⟨y, hy, rfl⟩ := List.mem_map.mp h
    exact tau_lt (List.mem_range.mp hy)
  · exact fun h => List.mem_map.mpr ⟨tau m x, List.mem_range.mpr (tau_lt h), tau_tau h⟩
def Ru.turn (r : Ru) (F : List Nat) : Ru := ⟨r.base, r.top, (turned r.rows.length).map fun s => (r.row s).map (tau r.rows.length), F⟩
section
variable {r : Ru}
theorem turn_row (h : r.Ok) {F : List Nat} {i : Nat} (hi : i < r.rows.length) : (r.turn F).row i = (r.row (tau r.rows.length i)).map (tau r.rows.length) := by
  unfold Ru.turn
  show ((turned r.rows.length).map fun s => (r.row s).map (tau r.rows.length)).getD i [] = _
  unfold turned
  rw [List.getD_eq_getElem?_getD, List.getElem?_map, List.getElem?_map, List.getElem?_range hi]
  rfl
theorem turn_step (h : r.Ok) {F : List Nat} {i d : Nat} (hi : i < r.rows.length) (hd : d ≤ r.top) : (r.turn F).step i d = tau r.rows.length (r.step (tau r.rows.length i) d) := by
  unfold Ru.step
  rw [turn_row h hi, List.getD_eq_getElem?_getD, List.getElem?_map, h.step_get (tau_lt hi) hd]
  rfl
theorem turn_ok (h : r.Ok) {F : List Nat} (hF : F.Perm (r.good.map (tau r.rows.length))) (asc : F.Pairwise (· < ·)) : (r.turn F).Ok := by
  have hl : (r.turn F).rows.length = r.rows.length := by
    unfold Ru.turn turned
    simp
  have hm : ∀ x, x < r.rows.length → (x ∈ F ↔ tau r.rows.length x ∈ r.good) := fun x hx => by
    rw [hF.mem_iff]
    constructor
    · intro hm
      obtain ⟨y, hy, e⟩ := List.mem_map.mp hm
      rw [← e, tau_tau (h.gl y hy)]
      exact hy
    · exact fun hm => List.mem_map.mpr ⟨_, hm, tau_tau hx⟩
  refine ⟨h.b1, h.b2, h.t1, h.t2, by rw [hl]; exact h.m1, by rw [hl]; exact h.m2, fun w hw => ?_, fun w hw x hx => ?_, asc, fun x hx => ?_, fun i hi => ?_⟩
  · obtain ⟨s, hs, rfl⟩ := List.mem_map.mp hw
    rw [List.length_map]
    exact h.row_len (turned_mem.mp hs)
  · obtain ⟨s, hs, rfl⟩ := List.mem_map.mp hw
    obtain ⟨y, hy, rfl⟩ := List.mem_map.mp hx
    rw [hl]
    exact tau_lt (h.ent _ (h.row_mem (turned_mem.mp hs)) y hy)
  · rw [hl]
    obtain ⟨y, hy, rfl⟩ := List.mem_map.mp (hF.mem_iff.mp hx)
    exact tau_lt (h.gl y hy)
  · rw [hl] at hi
    rw [turn_step h hi (Nat.zero_le _)]
    show tau r.rows.length (r.step (tau r.rows.length i) 0) ∈ F ↔ i ∈ F
    have hs := h.step_lt (tau_lt hi) (Nat.zero_le r.top)
    rw [hm _ (tau_lt hs), tau_tau hs, hm i hi]
    exact h.zero _ (tau_lt hi)
/-- one leading is another -/
def Ru.bend (r : Ru) (s d v : Nat) : Ru := ⟨r.base, r.top, r.rows.set s ((r.row s).set d v), r.good⟩
theorem bend_ok (h : r.Ok) {s d v : Nat} (hs : s < r.rows.length) (hd : 1 ≤ d) (hv : v < r.rows.length) : (r.bend s d v).Ok := by
  have hl : (r.bend s d v).rows.length = r.rows.length := List.length_set
  refine ⟨h.b1, h.b2, h.t1, h.t2, by rw [hl]; exact h.m1, by rw [hl]; exact h.m2, fun w hw => ?_, fun w hw x hx => ?_, h.asc, fun x hx => ?_, fun i hi => ?_⟩
  · rcases List.mem_or_eq_of_mem_set hw with hw | rfl
    · exact h.len w hw
    · rw [List.length_set]; exact h.row_len hs
  · rw [hl]
    rcases List.mem_or_eq_of_mem_set hw with hw | rfl
    · exact h.ent w hw x hx
    · rcases List.mem_or_eq_of_mem_set hx with hx | rfl
      · exact h.ent _ (h.row_mem hs) x hx
      · exact hv
  · rw [hl]; exact h.gl x hx
  · rw [hl] at hi
    have e : (r.bend s d v).step i 0 = r.step i 0 := by
      unfold Ru.step Ru.row Ru.bend
      simp only
      by_cases he : s = i
      · subst he
        rw [List.getD_eq_getElem?_getD, List.getD_eq_getElem?_getD, List.getElem?_set_self hi]
        show ((r.row s).set d v)[0]?.getD 0 = (r.rows.getD s []).getD 0 0
        rw [List.getElem?_set_ne (by omega)]
        rfl
      · rw [List.getD_eq_getElem?_getD (l := r.rows.set s _), List.getElem?_set_ne he, ← List.getD_eq_getElem?_getD]
    rw [e]
    exact h.zero i hi
end
end DL
namespace K08
open PySem PySem.Spec PyProof.Rows L2 DL
open DL (D R)
abbrev top (i : Nat) : Stmt := PySem.Challenge.pw_shortcarry_k08_whole_rules_compared.main.body.getD i (.Pass ⟨0, 0, 0, 0⟩)
abbrev s_is_number : Stmt := top 5
abbrev N_is_number : List Str := ["value", "least", "most"]
theorem sc_is_number : FnScope N_is_number ["value", "least", "most"] (defScope s_is_number) := ⟨rfl, rfl, rfl, by decide +kernel, rfl, by decide +kernel, by decide +kernel⟩
abbrev s_is_tuple : Stmt := top 6
abbrev N_is_tuple : List Str := ["value", "least", "most"]
theorem sc_is_tuple : FnScope N_is_tuple ["value", "least", "most"] (defScope s_is_tuple) := ⟨rfl, rfl, rfl, by decide +kernel, rfl, by decide +kernel, by decide +kernel⟩
abbrev s_are_spots : Stmt := top 7
abbrev N_are_spots : List Str := ["value", "size", "many", "spot"]
theorem sc_are_spots : FnScope N_are_spots ["value", "size", "many"] (defScope s_are_spots) := ⟨rfl, rfl, rfl, by decide +kernel, rfl, by decide +kernel, by decide +kernel⟩
abbrev s_are_ascending : Stmt := top 8
abbrev N_are_ascending : List Str := ["values", "one", "other"]
theorem sc_are_ascending : FnScope N_are_ascending ["values"] (defScope s_are_ascending) := ⟨rfl, rfl, rfl, by decide +kernel, rfl, by decide +kernel, by decide +kernel⟩
abbrev s_is_good_rule : Stmt := top 9
abbrev N_is_good_rule : List Str := ["value", "base", "top", "rows", "good", "spot", "row"]
theorem sc_is_good_rule : FnScope N_is_good_rule ["value"] (defScope s_is_good_rule) := ⟨rfl, rfl, rfl, by decide +kernel, rfl, by decide +kernel, by decide +kernel⟩
abbrev s_need_rule : Stmt := top 10
abbrev N_need_rule : List Str := ["value"]
theorem sc_need_rule : FnScope N_need_rule ["value"] (defScope s_need_rule) := ⟨rfl, rfl, rfl, by decide +kernel, rfl, by decide +kernel, by decide +kernel⟩
abbrev s_first_unlike : Stmt := top 12
abbrev N_first_unlike : List Str := ["one", "other", "is_wanted", "known", "line", "later", "spots", "digits", "digit", "there"]
theorem sc_first_unlike : FnScope N_first_unlike ["one", "other", "is_wanted"] (defScope s_first_unlike) := ⟨rfl, rfl, rfl, by decide +kernel, rfl, by decide +kernel, by decide +kernel⟩
abbrev s_need_both : Stmt := top 13
abbrev N_need_both : List Str := ["one", "other"]
theorem sc_need_both : FnScope N_need_both ["one", "other"] (defScope s_need_both) := ⟨rfl, rfl, rfl, by decide +kernel, rfl, by decide +kernel, by decide +kernel⟩
abbrev s_alike : Stmt := top 14
abbrev N_alike : List Str := ["one", "other"]
theorem sc_alike : FnScope N_alike ["one", "other"] (defScope s_alike) := ⟨rfl, rfl, rfl, by decide +kernel, rfl, by decide +kernel, by decide +kernel⟩
abbrev s_within : Stmt := top 15
abbrev N_within : List Str := ["one", "other"]
theorem sc_within : FnScope N_within ["one", "other"] (defScope s_within) := ⟨rfl, rfl, rfl, by decide +kernel, rfl, by decide +kernel, by decide +kernel⟩
abbrev s_parting : Stmt := top 16
abbrev N_parting : List Str := ["one", "other"]
theorem sc_parting : FnScope N_parting ["one", "other"] (defScope s_parting) := ⟨rfl, rfl, rfl, by decide +kernel, rfl, by decide +kernel, by decide +kernel⟩
abbrev s__law_source : Stmt := top 18
abbrev N__law_source : List Str := ["_law_script", "_law_k", "_law_cell"]
theorem sc__law_source : FnScope N__law_source ["_law_script", "_law_k"] (defScope s__law_source) := ⟨rfl, rfl, rfl, by decide +kernel, rfl, by decide +kernel, by decide +kernel⟩
abbrev s__law_draw : Stmt := top 19
abbrev N__law_draw : List Str := ["_law_source_here", "_law_many", "_law_found"]
theorem sc__law_draw : FnScope N__law_draw ["_law_source_here", "_law_many"] (defScope s__law_draw) := ⟨rfl, rfl, rfl, by decide +kernel, rfl, by decide +kernel, by decide +kernel⟩
abbrev s__law_of : Stmt := top 20
abbrev N__law_of : List Str := ["_law_source_here", "_law_items"]
theorem sc__law_of : FnScope N__law_of ["_law_source_here", "_law_items"] (defScope s__law_of) := ⟨rfl, rfl, rfl, by decide +kernel, rfl, by decide +kernel, by decide +kernel⟩
abbrev s__law_known : Stmt := top 21
abbrev N__law_known : List Str := ["_law_spread", "_law_plain_so", "_law_loose"]
theorem sc__law_known : FnScope N__law_known [] (defScope s__law_known) := ⟨rfl, rfl, rfl, by decide +kernel, rfl, by decide +kernel, by decide +kernel⟩
abbrev s__law_rule : Stmt := top 22
abbrev N__law_rule : List Str := ["_law_source_here", "_law_most", "_law_base", "_law_top", "_law_many", "_law_rows", "_law_spot", "_law_good", "_law_good_so", "_law_same", "_law_there", "_law_digit", "_law_row"]
theorem sc__law_rule : FnScope N__law_rule ["_law_source_here", "_law_most"] (defScope s__law_rule) := ⟨rfl, rfl, rfl, by decide +kernel, rfl, by decide +kernel, by decide +kernel⟩
abbrev s__law_led : Stmt := top 23
abbrev N__law_led : List Str := ["_law_rule_here", "_law_form", "_law_spot", "_law_digit"]
theorem sc__law_led : FnScope N__law_led ["_law_rule_here", "_law_form"] (defScope s__law_led) := ⟨rfl, rfl, rfl, by decide +kernel, rfl, by decide +kernel, by decide +kernel⟩
abbrev s__law_lets : Stmt := top 24
abbrev N__law_lets : List Str := ["_law_rule_here", "_law_form"]
theorem sc__law_lets : FnScope N__law_lets ["_law_rule_here", "_law_form"] (defScope s__law_lets) := ⟨rfl, rfl, rfl, by decide +kernel, rfl, by decide +kernel, by decide +kernel⟩
abbrev s__law_short_forms : Stmt := top 25
abbrev N__law_short_forms : List Str := ["_law_rule_here", "_law_most", "_law_found", "_law_line", "_law_turn", "_law_longer", "_law_digits", "_law_digit"]
theorem sc__law_short_forms : FnScope N__law_short_forms ["_law_rule_here", "_law_most"] (defScope s__law_short_forms) := ⟨rfl, rfl, rfl, by decide +kernel, rfl, by decide +kernel, by decide +kernel⟩
abbrev s__law_truly : Stmt := top 26
abbrev N__law_truly : List Str := ["_law_found_so", "_law_due"]
theorem sc__law_truly : FnScope N__law_truly ["_law_found_so", "_law_due"] (defScope s__law_truly) := ⟨rfl, rfl, rfl, by decide +kernel, rfl, by decide +kernel, by decide +kernel⟩
abbrev s__law_near : Stmt := top 27
abbrev N__law_near : List Str := ["_law_source_here", "_law_rule_here", "_law_base", "_law_top", "_law_rows", "_law_good", "_law_many", "_law_turned", "_law_fresh", "_law_spot", "_law_goods", "_law_digit", "_law_old", "_law_row", "_law_there"]
theorem sc__law_near : FnScope N__law_near ["_law_source_here", "_law_rule_here"] (defScope s__law_near) := ⟨rfl, rfl, rfl, by decide +kernel, rfl, by decide +kernel, by decide +kernel⟩
abbrev s__law_first : Stmt := top 28
abbrev N__law_first : List Str := ["_law_one", "_law_other", "_law_mode", "_law_known_here", "_law_line", "_law_later", "_law_spots", "_law_digits", "_law_mine", "_law_yours", "_law_digit", "_law_there"]
theorem sc__law_first : FnScope N__law_first ["_law_one", "_law_other", "_law_mode"] (defScope s__law_first) := ⟨rfl, rfl, rfl, by decide +kernel, rfl, by decide +kernel, by decide +kernel⟩
abbrev s__law_right : Stmt := top 29
abbrev N__law_right : List Str := ["_law_one", "_law_other", "_law_due", "_law_only", "_law_told", "_law_form"]
theorem sc__law_right : FnScope N__law_right ["_law_one", "_law_other"] (defScope s__law_right) := ⟨rfl, rfl, rfl, by decide +kernel, rfl, by decide +kernel, by decide +kernel⟩
abbrev s__law_word : Stmt := top 30
abbrev N__law_word : List Str := ["_law_call", "e"]
theorem sc__law_word : FnScope N__law_word ["_law_call"] (defScope s__law_word) := ⟨rfl, rfl, rfl, by decide +kernel, rfl, by decide +kernel, by decide +kernel⟩
abbrev s_law : Stmt := top 31
abbrev N_law : List Str := ["_law_script", "_law_k", "_law_source_here", "_law_turn", "_law_one", "_law_other", "_law_due", "_law_words", "_law_call", "_law_spread", "_law_plain_so", "_law_loose", "_law_alone", "_law_dead"]
theorem sc_law : FnScope N_law ["_law_script"] (defScope s_law) := ⟨rfl, rfl, rfl, by decide +kernel, rfl, by decide +kernel, by decide +kernel⟩
abbrev errs : List Str := ["CarryError", "InvalidRule", "Unlike"]
def sub (a b : Str) : Bool := decide (a = b) || decide (b = "CarryError")
def FUEL : Nat := 1099511627776
structure Gd (mg : Str → Option Value) : Prop where
  abs : mg "abs" = none
  all : mg "all" = none
  bool : mg "bool" = none
  enumerate : mg "enumerate" = none
  int : mg "int" = none
  isinstance : mg "isinstance" = none
  len : mg "len" = none
  list : mg "list" = none
  min : mg "min" = none
  range : mg "range" = none
  sorted : mg "sorted" = none
  tuple : mg "tuple" = none
  zip : mg "zip" = none

end K08
namespace K08
open PySem PySem.Spec PyProof.Rows L2 DL
open DL (D R)
noncomputable def M_is_number (a0 : D) (a1 : D) (a2 : D) : R D := R.bind (α := Fl Unit Empty D) ((((R.ok a0).bind (D.isi "int")).bind fun x29 => x29.asB.bind fun k30 => if k30 then ((((R.ok a0).bind (D.isi "bool")).bind fun x => x.asB.map fun k => D.bl (!k)).bind fun x27 => x27.asB.bind fun k28 => if k28 then ((R.ok a1).bind fun x22 => (R.ok a0).bind fun x23 => (D.le x22 x23).bind fun x24 => x24.asB.bind fun x25 => if x25 then ((R.ok a2).bind fun x26 => (D.le x23 x26)) else R.ok (D.bl false)) else R.ok (D.bl false)) else R.ok (D.bl false)).bind fun d21 => R.ok (Fl.rt d21)) Fl.val
theorem ok_is_number {P : Program} {w : World} {K : PySem.W.Frag} {mg : Str → Option Value} {base : Heap} {T : Tb} {f_is_number : Addr} {fd_is_number : FuncData} (G : Gd mg) (FF : L2.Fun K "is_number" "is_number" s_is_number f_is_number fd_is_number)  : FnP P w K mg base T 1 f_is_number fd_is_number ["value", "least", "most"] (ar3 M_is_number) :=
  fn_body2 FF sc_is_number (fun ds m r h => h.1) fun cdv A outer s H E hcd hr ds m r h => by
    obtain ⟨hl, rfl, rfl⟩ := h
    match ds, hl with
    | [a0, a1, a2], _ => exact fn_P (show SB T _ [some a0, some a1, some a2] [] _ (exP 3) _ from (sb_ret (fun d21 => d21) (ev_and (ev_isi G.isinstance G.int b_int (EV.w (ev_name (i := 0) rfl rfl (.inl rfl)))) (ev_and (ev_not (ev_isi G.isinstance G.bool b_bool (EV.w (ev_name (i := 0) rfl rfl (.inl rfl))))) (ev_one (ev_chain op_le opd_le op_le opd_le (EV.w (ev_name (i := 1) rfl rfl (.inl rfl))) (EV.w (ev_name (i := 0) rfl rfl (.inl rfl))) (EV.w (ev_name (i := 2) rfl rfl (.inl rfl))))))) (fun _ => rfl) (fun _ => List.nil_sublist _)))
end K08
namespace K08
open PySem PySem.Spec PyProof.Rows L2 DL
open DL (D R)
noncomputable def M_is_tuple (a0 : D) (a1 : D) (a2 : D) : R D := R.bind (α := Fl Unit Empty D) ((((R.ok a0).bind (D.isi "tuple")).bind fun x27 => x27.asB.bind fun k28 => if k28 then ((R.ok a1).bind fun x22 => ((R.ok a0).bind D.len).bind fun x23 => (D.le x22 x23).bind fun x24 => x24.asB.bind fun x25 => if x25 then ((R.ok a2).bind fun x26 => (D.le x23 x26)) else R.ok (D.bl false)) else R.ok (D.bl false)).bind fun d21 => R.ok (Fl.rt d21)) Fl.val
theorem ok_is_tuple {P : Program} {w : World} {K : PySem.W.Frag} {mg : Str → Option Value} {base : Heap} {T : Tb} {f_is_tuple : Addr} {fd_is_tuple : FuncData} (G : Gd mg) (FF : L2.Fun K "is_tuple" "is_tuple" s_is_tuple f_is_tuple fd_is_tuple)  : FnP P w K mg base T 1 f_is_tuple fd_is_tuple ["value", "least", "most"] (ar3 M_is_tuple) :=
  fn_body2 FF sc_is_tuple (fun ds m r h => h.1) fun cdv A outer s H E hcd hr ds m r h => by
    obtain ⟨hl, rfl, rfl⟩ := h
    match ds, hl with
    | [a0, a1, a2], _ => exact fn_P (show SB T _ [some a0, some a1, some a2] [] _ (exP 3) _ from (sb_ret (fun d21 => d21) (ev_and (ev_isi G.isinstance G.tuple b_tuple (EV.w (ev_name (i := 0) rfl rfl (.inl rfl)))) (ev_one (ev_chain op_le opd_le op_le opd_le (EV.w (ev_name (i := 1) rfl rfl (.inl rfl))) (EV.w (ev_callB call_len cd_len G.len b_len (EV.w (ev_name (i := 0) rfl rfl (.inl rfl))))) (EV.w (ev_name (i := 2) rfl rfl (.inl rfl)))))) (fun _ => rfl) (fun _ => List.nil_sublist _)))
end K08
namespace K08
open PySem PySem.Spec PyProof.Rows L2 DL
open DL (D R)
noncomputable def M_are_ascending (a0 : D) : R D := R.bind (α := Fl Unit Empty D) ((((((R.ok a0).bind fun x25 => ((R.ok a0).bind fun x22 => ((R.ok (D.int 1)).bind D.part).bind fun l23 => (R.ok none).bind fun h24 => D.sl x22 l23 h24).bind fun x26 => D.zip x25 x26).bind (lcR (unT2 unN unN) (fun (a27 : (D × D)) => (R.ok true)) (fun (a27 : (D × D)) => ((R.ok a27.1).bind fun x28 => (R.ok a27.2).bind fun x29 => (D.lt x28 x29))))).map D.lst).bind D.all).bind fun d21 => R.ok (Fl.rt d21)) Fl.val
theorem ok_are_ascending {P : Program} {w : World} {K : PySem.W.Frag} {mg : Str → Option Value} {base : Heap} {T : Tb} {f_are_ascending : Addr} {fd_are_ascending : FuncData} (G : Gd mg) (FF : L2.Fun K "are_ascending" "are_ascending" s_are_ascending f_are_ascending fd_are_ascending)  : FnP P w K mg base T 1 f_are_ascending fd_are_ascending ["values"] (ar1 M_are_ascending) :=
  fn_body2 FF sc_are_ascending (fun ds m r h => h.1) fun cdv A outer s H E hcd hr ds m r h => by
    obtain ⟨hl, rfl, rfl⟩ := h
    match ds, hl with
    | [a0], _ => exact fn_P (show SB T _ [some a0, none, none] [] _ (exP 3) _ from (sb_ret (fun d21 => d21) (ev_callB (cr_all rfl) cd_all G.all b_all (EV.w (ELp.ev (el_lc (own := [("one", 1), ("other", 2)]) rfl sc_are_ascending.nd (ei_zip G.zip (ev_name (i := 0) rfl rfl (.inl rfl)) (ev_sl (EV.w (ev_name (i := 0) rfl rfl (.inl rfl))) (ep_some ev_int) ep_none)) (blkOk_by (N := N_are_ascending) (sc := defScope s_are_ascending) (by decide +kernel)) (fun _ _ _ _ _ => (pg_tup rfl (pgs_cons (pg_name sc_are_ascending.nd rfl (.inl rfl)) (pgs_cons (pg_name sc_are_ascending.nd rfl (.inl rfl)) pgs_nil)))) (tgd_tup2 (tgd_name 1) (tgd_name 2)) (fun _ _ _ _ _ a27 => EC.as (ds' := [some a0, some a27.1, some a27.2]) ec_nil) (fun _ _ _ _ _ a27 => EV.as (ds' := [some a0, some a27.1, some a27.2]) (ev_cmp (op_ltD (hu0 hr)) opd_lt (EV.w (ev_name (i := 1) rfl rfl (.inl rfl))) (EV.w (ev_name (i := 2) rfl rfl (.inl rfl))))))))) (fun _ => rfl) (fun _ => List.nil_sublist _)))
end K08
namespace K08
open PySem PySem.Spec PyProof.Rows L2 DL
open DL (D R)
noncomputable def M__law_source (a0 : D) (a1 : D) : R (List D) := R.bind (α := Fl Unit Empty (List D)) ((R.ok (D.int 0)).bind fun d21 => ((((R.ok a1).bind fun x24 => ((R.ok a0).bind D.len).bind fun x25 => (D.lt x24 x25).bind D.asB).bind fun k26 => if k26 then (((((R.ok a0).bind fun x28 => (R.ok a1).bind fun x29 => D.ixA x28 x29).bind D.toInt).bind D.abs).bind fun d27 => (R.ok (Fl.nx d27))) else (R.ok (Fl.nx d21))).bind (Fl.next fun (s23 : D) => (((R.ok s23).bind fun x32 => ((R.ok (D.int 10)).bind fun x30 => (R.ok (D.int 18)).bind fun x31 => D.pow x30 x31).bind fun x33 => (D.lt x32 x33).bind D.asB).bind fun k34 => if k34 then (((((R.ok (D.int 0)).bind fun x48 => (((R.ok (D.int 1)).bind fun x44 => (((((R.ok s23).bind fun x36 => (R.ok (D.int 7919)).bind fun x37 => D.mul x36 x37).bind fun x40 => ((R.ok (D.int 104729)).bind fun x38 => (R.ok a1).bind fun x39 => D.mul x38 x39).bind fun x41 => D.add x40 x41).bind D.toInt).bind fun x42 => (R.ok (D.int 2147483646)).bind fun x43 => D.mod x42 x43).bind fun x45 => D.add x44 x45).bind fun x46 => (R.ok []).bind fun x47 => R.ok (x46 :: x47)).bind fun x49 => R.ok (x48 :: x49)).bind D.mkL).bind fun d35 => R.ok (Fl.rt d35))).map Fl.up else ((((R.ok s23).bind fun x59 => (((R.ok (D.int 1)).bind fun x55 => ((((R.ok s23).bind fun x51 => (R.ok a1).bind fun x52 => D.add x51 x52).bind D.toInt).bind fun x53 => (R.ok (D.int 2147483646)).bind fun x54 => D.mod x53 x54).bind fun x56 => D.add x55 x56).bind fun x57 => (R.ok []).bind fun x58 => R.ok (x57 :: x58)).bind fun x60 => R.ok (x59 :: x60)).bind D.mkL).bind fun d50 => R.ok (Fl.rt d50)))))) Fl.valL
theorem ok__law_source {P : Program} {w : World} {K : PySem.W.Frag} {mg : Str → Option Value} {base : Heap} {T : Tb} {f__law_source : Addr} {fd__law_source : FuncData} (G : Gd mg) (FF : L2.Fun K "_law_source" "_law_source" s__law_source f__law_source fd__law_source)  : FnL P w K mg base T 1 f__law_source fd__law_source ["_law_script", "_law_k"] (ar2 M__law_source) :=
  fn_body2 FF sc__law_source (fun ds m r h => h.1) fun cdv A outer s H E hcd hr ds m r h => by
    obtain ⟨hl, rfl, rfl⟩ := h
    match ds, hl with
    | [a0, a1], _ => exact fn_L (show SB T _ [some a0, some a1, none] [] _ (exL 3) _ from (sb_asg 2 sc__law_source.nd ev_int (fun d21 => (SB.as (ds' := [some a0, some a1, some d21]) (m' := []) (sb_ifJ (fnx fun (s22 : D) => ([some a0, some a1, some s22], [])) (et_cmp (op_ltD (hu0 hr)) opd_lt (EV.w (ev_name (i := 1) rfl rfl (.inl rfl))) (EV.w (ev_callB call_len cd_len G.len b_len (EV.w (ev_name (i := 0) rfl rfl (.inl rfl)))))) (sb_asg 2 sc__law_source.nd (ev_callB call_abs cd_abs G.abs b_abs (EV.w (ev_callTy cr_intT cd_int G.int b_int (EV.w (ev_ixA (hu1 hr) ix_seq (EV.w (ev_name (i := 0) rfl rfl (.inl rfl))) (EV.w (ev_name (i := 1) rfl rfl (.inl rfl)))))))) (fun d27 => (SB.as (ds' := [some a0, some a1, some d27]) (m' := []) (sb_end ⟨rfl, rfl⟩ (Fgt.keep (Fgt.keep (Fgt.keep Fgt.nil))) List.Sublist.slnil))) rfl (.inl rfl)) (sb_end ⟨rfl, rfl⟩ (Fgt.keep (Fgt.keep (Fgt.keep Fgt.nil))) List.Sublist.slnil) (fun s23 => (fnxE (SB.as (ds' := [some a0, some a1, some s23]) (m' := []) (sb_ifT (et_cmp (op_ltD (hu0 hr)) opd_lt (EV.w (ev_name (i := 2) rfl rfl (.inl rfl))) (EV.w (ev_bin op_pow opd_pow (EV.w ev_int) (EV.w ev_int)))) (sb_retL (fun d35 => d35) (el_lst (ea_cons ev_int (ea_cons (ev_bin op_addD opd_add (EV.w ev_int) (EV.w (ev_bin op_modN opd_mod (EV.w (ev_callTy cr_intT cd_int G.int b_int (EV.w (ev_bin op_addD opd_add (EV.w (ev_bin op_mulD opd_mul (EV.w (ev_name (i := 2) rfl rfl (.inl rfl))) (EV.w ev_int))) (EV.w (ev_bin op_mulD opd_mul (EV.w ev_int) (EV.w (ev_name (i := 1) rfl rfl (.inl rfl))))))))) (EV.w ev_int)))) ea_nil))) (fun _ => rfl) (fun _ => List.nil_sublist _)) (sb_retL (fun d50 => d50) (el_lst (ea_cons (ev_name (i := 2) rfl rfl (.inl rfl)) (ea_cons (ev_bin op_addD opd_add (EV.w ev_int) (EV.w (ev_bin op_modN opd_mod (EV.w (ev_callTy cr_intT cd_int G.int b_int (EV.w (ev_bin op_addD opd_add (EV.w (ev_name (i := 2) rfl rfl (.inl rfl))) (EV.w (ev_name (i := 1) rfl rfl (.inl rfl))))))) (EV.w ev_int)))) ea_nil))) (fun _ => rfl) (fun _ => List.nil_sublist _))))))))) rfl (.inl rfl)))
end K08
namespace K08
open PySem PySem.Spec PyProof.Rows L2 DL
open DL (D R)
noncomputable def M__law_draw (c0 : List D) (a1 : D) : R (D × List D) := R.bind (α := Fl (List D) Empty (D × List D)) ((((R.ok (D.lst c0)).bind fun x21 => (R.ok (D.int 0)).bind fun x22 => D.ixA x21 x22).bind fun x23 => (R.ok (D.int 0)).bind fun x24 => (D.gt x23 x24).bind D.asB).bind fun k25 => if k25 then ((((((R.ok (D.lst c0)).bind fun x27 => (R.ok (D.int 0)).bind fun x28 => D.ixA x27 x28).bind D.toInt).bind fun x29 => (R.ok a1).bind fun x30 => D.mod x29 x30).bind fun d26 => ((((R.ok (D.lst c0)).bind fun x32 => (R.ok (D.int 0)).bind fun x33 => D.ixA x32 x33).bind fun x34 => (R.ok a1).bind fun x35 => D.fdiv x34 x35).bind fun d36 => (R.ok (D.int 0)).bind fun n37 => (D.setAt c0 n37 d36).bind fun y31 => ((R.ok d26).bind fun d38 => R.ok (Fl.rt (d38, y31)))))).map Fl.up else ((((((R.ok (D.lst c0)).bind fun x40 => (R.ok (D.int 1)).bind fun x41 => D.ixA x40 x41).bind fun x42 => (R.ok (D.int 48271)).bind fun x43 => D.mul x42 x43).bind D.toInt).bind fun x44 => (R.ok (D.int 2147483647)).bind fun x45 => D.mod x44 x45).bind fun d46 => (R.ok (D.int 1)).bind fun n47 => (D.setAt c0 n47 d46).bind fun y39 => (((((((((R.ok (D.lst y39)).bind fun x49 => (R.ok (D.int 1)).bind fun x50 => D.ixA x49 x50).bind fun x53 => ((R.ok (D.lst y39)).bind fun x51 => (R.ok (D.int 1)).bind fun x52 => D.ixA x51 x52).bind fun x54 => D.mul x53 x54).bind D.toInt).bind fun x55 => (R.ok (D.int 2147483629)).bind fun x56 => D.mod x55 x56).bind fun x57 => (R.ok (D.int 64)).bind fun x58 => D.fdiv x57 x58).bind D.toInt).bind fun x59 => (R.ok a1).bind fun x60 => D.mod x59 x60).bind fun d48 => R.ok (Fl.rt (d48, y39))))) Fl.valC
theorem ok__law_draw {P : Program} {w : World} {K : PySem.W.Frag} {mg : Str → Option Value} {base : Heap} {T : Tb} {f__law_draw : Addr} {fd__law_draw : FuncData} (G : Gd mg) (FF : L2.Fun K "_law_draw" "_law_draw" s__law_draw f__law_draw fd__law_draw)  : FnC P w K mg base T 1 f__law_draw fd__law_draw ["_law_source_here", "_law_many"] (fun c => ar1 (M__law_draw c)) :=
  fn_body2 FF sc__law_draw (fun ds m r h => by
    obtain ⟨pc, c0, rest, rfl, hl, rfl, rfl⟩ := h
    exact hl) fun cdv A outer s H E hcd hr ds m r h => by
    obtain ⟨pc, c0, rest, rfl, hl, rfl, rfl⟩ := h
    match rest, hl with
    | [a1], _ => exact fn_C (show SB T _ [some (D.ref pc), some a1, none] [(pc, .l c0)] _ (exC 3 pc) _ from (sb_ifT (et_cmp op_gt opd_gt (EV.w (ev_ixA (hu1 hr) ix_seq (ev_own (i := 0) (p := pc) (o := .l c0) rfl (.head _) rfl (.inl rfl)) (EV.w ev_int))) (EV.w ev_int)) (sb_asg 2 sc__law_draw.nd (ev_bin op_modN opd_mod (EV.w (ev_callTy cr_intT cd_int G.int b_int (EV.w (ev_ixA (hu1 hr) ix_seq (ev_own (i := 0) (p := pc) (o := .l c0) rfl (.head _) rfl (.inl rfl)) (EV.w ev_int))))) (EV.w (ev_name (i := 1) rfl rfl (.inl rfl)))) (fun d26 => (SB.as (ds' := [some (D.ref pc), some a1, some d26]) (m' := [(pc, .l c0)]) (sb_setL 0 (pl := pc) (xs := c0) (pre := []) (post := []) rfl (ev_bin op_fdivA opd_fdiv (EV.w (ev_ixA (hu1 hr) ix_seq (ev_own (i := 0) (p := pc) (o := .l c0) rfl (.head _) rfl (.inl rfl)) (EV.w ev_int))) (EV.w (ev_name (i := 1) rfl rfl (.inl rfl)))) ev_int (fun y31 => (SB.as (ds' := [some (D.ref pc), some a1, some d26]) (m' := [(pc, .l y31)]) (sb_ret (fun d38 => (d38, y31)) (ev_name (i := 2) rfl rfl (.inl rfl)) (fun _ => rfl) (fun _ => .cons₂ _ (List.nil_sublist _))))) (ps_asg (pe_wp _ _) (pg_sub (pe_var rfl (.inl rfl)) (pe_wp _ _) set_list))))) rfl (.inl rfl)) (sb_setL 0 (pl := pc) (xs := c0) (pre := []) (post := []) rfl (ev_bin op_modN opd_mod (EV.w (ev_callTy cr_intT cd_int G.int b_int (EV.w (ev_bin op_mulD opd_mul (EV.w (ev_ixA (hu1 hr) ix_seq (ev_own (i := 0) (p := pc) (o := .l c0) rfl (.head _) rfl (.inl rfl)) (EV.w ev_int))) (EV.w ev_int))))) (EV.w ev_int)) ev_int (fun y39 => (SB.as (ds' := [some (D.ref pc), some a1, none]) (m' := [(pc, .l y39)]) (sb_ret (fun d48 => (d48, y39)) (ev_bin op_modN opd_mod (EV.w (ev_callTy cr_intT cd_int G.int b_int (EV.w (ev_bin op_fdivA opd_fdiv (EV.w (ev_bin op_modN opd_mod (EV.w (ev_callTy cr_intT cd_int G.int b_int (EV.w (ev_bin op_mulD opd_mul (EV.w (ev_ixA (hu1 hr) ix_seq (ev_own (i := 0) (p := pc) (o := .l y39) rfl (.head _) rfl (.inl rfl)) (EV.w ev_int))) (EV.w (ev_ixA (hu1 hr) ix_seq (ev_own (i := 0) (p := pc) (o := .l y39) rfl (.head _) rfl (.inl rfl)) (EV.w ev_int))))))) (EV.w ev_int))) (EV.w ev_int))))) (EV.w (ev_name (i := 1) rfl rfl (.inl rfl)))) (fun _ => rfl) (fun _ => .cons₂ _ (List.nil_sublist _))))) (ps_asg (pe_wp _ _) (pg_sub (pe_var rfl (.inl rfl)) (pe_wp _ _) set_list)))))
end K08
namespace K08
open PySem PySem.Spec PyProof.Rows L2 DL
open DL (D R)
noncomputable def M__law_known : R D := R.bind (α := Fl Unit Empty D) ((((R.ok (D.int 2)).bind fun x56 => ((R.ok (D.int 2)).bind fun x54 => ((((((R.ok (D.int 0)).bind fun x26 => ((R.ok (D.int 0)).bind fun x24 => ((R.ok (D.int 1)).bind fun x22 => (R.ok []).bind fun x23 => R.ok (x22 :: x23)).bind fun x25 => R.ok (x24 :: x25)).bind fun x27 => R.ok (x26 :: x27)).bind D.mkT).bind fun x44 => ((((R.ok (D.int 0)).bind fun x32 => ((R.ok (D.int 1)).bind fun x30 => ((R.ok (D.int 2)).bind fun x28 => (R.ok []).bind fun x29 => R.ok (x28 :: x29)).bind fun x31 => R.ok (x30 :: x31)).bind fun x33 => R.ok (x32 :: x33)).bind D.mkT).bind fun x42 => ((((R.ok (D.int 2)).bind fun x38 => ((R.ok (D.int 2)).bind fun x36 => ((R.ok (D.int 2)).bind fun x34 => (R.ok []).bind fun x35 => R.ok (x34 :: x35)).bind fun x37 => R.ok (x36 :: x37)).bind fun x39 => R.ok (x38 :: x39)).bind D.mkT).bind fun x40 => (R.ok []).bind fun x41 => R.ok (x40 :: x41)).bind fun x43 => R.ok (x42 :: x43)).bind fun x45 => R.ok (x44 :: x45)).bind D.mkT).bind fun x52 => ((((R.ok (D.int 0)).bind fun x48 => ((R.ok (D.int 1)).bind fun x46 => (R.ok []).bind fun x47 => R.ok (x46 :: x47)).bind fun x49 => R.ok (x48 :: x49)).bind D.mkT).bind fun x50 => (R.ok []).bind fun x51 => R.ok (x50 :: x51)).bind fun x53 => R.ok (x52 :: x53)).bind fun x55 => R.ok (x54 :: x55)).bind fun x57 => R.ok (x56 :: x57)).bind D.mkT).bind fun d21 => ((((((R.ok (D.int 2)).bind fun x73 => ((R.ok (D.int 1)).bind fun x71 => ((((((R.ok (D.int 0)).bind fun x61 => ((R.ok (D.int 0)).bind fun x59 => (R.ok []).bind fun x60 => R.ok (x59 :: x60)).bind fun x62 => R.ok (x61 :: x62)).bind D.mkT).bind fun x63 => (R.ok []).bind fun x64 => R.ok (x63 :: x64)).bind D.mkT).bind fun x69 => ((((R.ok (D.int 0)).bind fun x65 => (R.ok []).bind fun x66 => R.ok (x65 :: x66)).bind D.mkT).bind fun x67 => (R.ok []).bind fun x68 => R.ok (x67 :: x68)).bind fun x70 => R.ok (x69 :: x70)).bind fun x72 => R.ok (x71 :: x72)).bind fun x74 => R.ok (x73 :: x74)).bind D.mkT).bind fun x95 => ((((R.ok (D.int 2)).bind fun x91 => ((R.ok (D.int 2)).bind fun x89 => ((((((R.ok (D.int 0)).bind fun x79 => ((R.ok (D.int 0)).bind fun x77 => ((R.ok (D.int 0)).bind fun x75 => (R.ok []).bind fun x76 => R.ok (x75 :: x76)).bind fun x78 => R.ok (x77 :: x78)).bind fun x80 => R.ok (x79 :: x80)).bind D.mkT).bind fun x81 => (R.ok []).bind fun x82 => R.ok (x81 :: x82)).bind D.mkT).bind fun x87 => ((((R.ok (D.int 0)).bind fun x83 => (R.ok []).bind fun x84 => R.ok (x83 :: x84)).bind D.mkT).bind fun x85 => (R.ok []).bind fun x86 => R.ok (x85 :: x86)).bind fun x88 => R.ok (x87 :: x88)).bind fun x90 => R.ok (x89 :: x90)).bind fun x92 => R.ok (x91 :: x92)).bind D.mkT).bind fun x93 => (R.ok []).bind fun x94 => R.ok (x93 :: x94)).bind fun x96 => R.ok (x95 :: x96)).bind D.mkT).bind fun d97 => ((unT2 unN unN) d97).bind fun (a58 : (D × D)) => ((((R.ok d21).bind fun x135 => ((R.ok a58.1).bind fun x133 => ((R.ok a58.2).bind fun x131 => ((((R.ok (D.int 2)).bind fun x127 => ((R.ok (D.int 1)).bind fun x125 => ((((((R.ok (D.int 0)).bind fun x101 => ((R.ok (D.int 1)).bind fun x99 => (R.ok []).bind fun x100 => R.ok (x99 :: x100)).bind fun x102 => R.ok (x101 :: x102)).bind D.mkT).bind fun x115 => ((((R.ok (D.int 0)).bind fun x105 => ((R.ok (D.int 2)).bind fun x103 => (R.ok []).bind fun x104 => R.ok (x103 :: x104)).bind fun x106 => R.ok (x105 :: x106)).bind D.mkT).bind fun x113 => ((((R.ok (D.int 2)).bind fun x109 => ((R.ok (D.int 2)).bind fun x107 => (R.ok []).bind fun x108 => R.ok (x107 :: x108)).bind fun x110 => R.ok (x109 :: x110)).bind D.mkT).bind fun x111 => (R.ok []).bind fun x112 => R.ok (x111 :: x112)).bind fun x114 => R.ok (x113 :: x114)).bind fun x116 => R.ok (x115 :: x116)).bind D.mkT).bind fun x123 => ((((R.ok (D.int 0)).bind fun x119 => ((R.ok (D.int 1)).bind fun x117 => (R.ok []).bind fun x118 => R.ok (x117 :: x118)).bind fun x120 => R.ok (x119 :: x120)).bind D.mkT).bind fun x121 => (R.ok []).bind fun x122 => R.ok (x121 :: x122)).bind fun x124 => R.ok (x123 :: x124)).bind fun x126 => R.ok (x125 :: x126)).bind fun x128 => R.ok (x127 :: x128)).bind D.mkT).bind fun x129 => (R.ok []).bind fun x130 => R.ok (x129 :: x130)).bind fun x132 => R.ok (x131 :: x132)).bind fun x134 => R.ok (x133 :: x134)).bind fun x136 => R.ok (x135 :: x136)).bind D.mkT).bind fun d98 => R.ok (Fl.rt d98)))) Fl.val
theorem ok__law_known {P : Program} {w : World} {K : PySem.W.Frag} {mg : Str → Option Value} {base : Heap} {T : Tb} {f__law_known : Addr} {fd__law_known : FuncData} (G : Gd mg) (FF : L2.Fun K "_law_known" "_law_known" s__law_known f__law_known fd__law_known)  : FnP P w K mg base T 1 f__law_known fd__law_known [] (ar0 M__law_known) :=
  fn_body2 FF sc__law_known (fun ds m r h => h.1) fun cdv A outer s H E hcd hr ds m r h => by
    obtain ⟨hl, rfl, rfl⟩ := h
    match ds, hl with
    | [], _ => exact fn_P (show SB T _ [none, none, none] [] _ (exP 3) _ from (sb_asg 0 sc__law_known.nd (ev_tup (ea_cons ev_int (ea_cons ev_int (ea_cons (ev_tup (ea_cons (ev_tup (ea_cons ev_int (ea_cons ev_int (ea_cons ev_int ea_nil)))) (ea_cons (ev_tup (ea_cons ev_int (ea_cons ev_int (ea_cons ev_int ea_nil)))) (ea_cons (ev_tup (ea_cons ev_int (ea_cons ev_int (ea_cons ev_int ea_nil)))) ea_nil)))) (ea_cons (ev_tup (ea_cons ev_int (ea_cons ev_int ea_nil))) ea_nil))))) (fun d21 => (SB.as (ds' := [some d21, none, none]) (m' := []) (sb_unp (ev_tup (ea_cons (ev_tup (ea_cons ev_int (ea_cons ev_int (ea_cons (ev_tup (ea_cons (ev_tup (ea_cons ev_int (ea_cons ev_int ea_nil))) ea_nil)) (ea_cons (ev_tup (ea_cons ev_int ea_nil)) ea_nil))))) (ea_cons (ev_tup (ea_cons ev_int (ea_cons ev_int (ea_cons (ev_tup (ea_cons (ev_tup (ea_cons ev_int (ea_cons ev_int (ea_cons ev_int ea_nil)))) ea_nil)) (ea_cons (ev_tup (ea_cons ev_int ea_nil)) ea_nil))))) ea_nil))) (pg_tup rfl (pgs_cons (pg_name sc__law_known.nd rfl (.inl rfl)) (pgs_cons (pg_name sc__law_known.nd rfl (.inl rfl)) pgs_nil))) (tgd_tup2 (tgd_name 1) (tgd_name 2)) (fun a58 => (SB.as (ds' := [some d21, some a58.1, some a58.2]) (m' := []) (sb_ret (fun d98 => d98) (ev_tup (ea_cons (ev_name (i := 0) rfl rfl (.inl rfl)) (ea_cons (ev_name (i := 1) rfl rfl (.inl rfl)) (ea_cons (ev_name (i := 2) rfl rfl (.inl rfl)) (ea_cons (ev_tup (ea_cons ev_int (ea_cons ev_int (ea_cons (ev_tup (ea_cons (ev_tup (ea_cons ev_int (ea_cons ev_int ea_nil))) (ea_cons (ev_tup (ea_cons ev_int (ea_cons ev_int ea_nil))) (ea_cons (ev_tup (ea_cons ev_int (ea_cons ev_int ea_nil))) ea_nil)))) (ea_cons (ev_tup (ea_cons ev_int (ea_cons ev_int ea_nil))) ea_nil))))) ea_nil))))) (fun _ => rfl) (fun _ => List.nil_sublist _))))))) rfl (.inl rfl)))
end K08
namespace K08
open PySem PySem.Spec PyProof.Rows L2 DL
open DL (D R)
noncomputable def M__law_led (a0 : D) (a1 : D) : R D := R.bind (α := Fl Unit Empty D) ((R.ok (D.int 0)).bind fun d21 => (((R.ok a1).bind D.itemsA).bind fun xs34 => (forL unN (fun (s23 : D) (a24 : D) => (((((R.ok a0).bind fun x26 => (R.ok (D.int 2)).bind fun x27 => D.ixA x26 x27).bind fun x28 => (R.ok s23).bind fun x29 => D.ixA x28 x29).bind fun x30 => (R.ok a24).bind fun x31 => D.ixA x30 x31).bind fun d25 => (R.ok (Fl.nx d25)))) xs34 d21).bind (Fl.after fun (s32 : D) => ((R.ok s32).bind fun d33 => R.ok (Fl.rt d33))))) Fl.val
theorem ok__law_led {P : Program} {w : World} {K : PySem.W.Frag} {mg : Str → Option Value} {base : Heap} {T : Tb} {f__law_led : Addr} {fd__law_led : FuncData} (G : Gd mg) (FF : L2.Fun K "_law_led" "_law_led" s__law_led f__law_led fd__law_led)  : FnP P w K mg base T 1 f__law_led fd__law_led ["_law_rule_here", "_law_form"] (ar2 M__law_led) :=
  fn_body2 FF sc__law_led (fun ds m r h => h.1) fun cdv A outer s H E hcd hr ds m r h => by
    obtain ⟨hl, rfl, rfl⟩ := h
    match ds, hl with
    | [a0, a1], _ => exact fn_P (show SB T _ [some a0, some a1, none, none] [] _ (exP 4) _ from (sb_asg 2 sc__law_led.nd ev_int (fun d21 => (SB.as (ds' := [some a0, some a1, some d21, none]) (m' := []) (sb_for (fnx fun (s22 : D) => ([some a0, some a1, some s22, none], [])) d21 (passes_of rfl) rfl (ei_any (ev_name (i := 1) rfl rfl (.inl rfl))) (pg_name sc__law_led.nd rfl (.inl rfl)) (tgd_name 3) ⟨rfl, rfl⟩ (Fgt.keep (Fgt.keep (Fgt.keep (Fgt.keep Fgt.nil)))) List.Sublist.slnil (fun s23 a24 => (fnxE (SB.as (ds' := [some a0, some a1, some s23, some a24]) (m' := []) (sb_asg 2 sc__law_led.nd (ev_ixA (hu1 hr) ix_seq (EV.w (ev_ixA (hu1 hr) ix_seq (EV.w (ev_ixA (hu1 hr) ix_seq (EV.w (ev_name (i := 0) rfl rfl (.inl rfl))) (EV.w ev_int))) (EV.w (ev_name (i := 2) rfl rfl (.inl rfl))))) (EV.w (ev_name (i := 3) rfl rfl (.inl rfl)))) (fun d25 => (SB.as (ds' := [some a0, some a1, some d25, some a24]) (m' := []) (sb_end ⟨rfl, rfl⟩ (Fgt.keep (Fgt.keep (Fgt.keep (Fgt.drop Fgt.nil)))) List.Sublist.slnil))) rfl (.inl rfl))))) (fun s32 => (fnxE (SB.as (ds' := [some a0, some a1, some s32, none]) (m' := []) (sb_ret (fun d33 => d33) (ev_name (i := 2) rfl rfl (.inl rfl)) (fun _ => rfl) (fun _ => List.nil_sublist _)))))))) rfl (.inl rfl)))
end K08
namespace K08
open PySem PySem.Spec PyProof.Rows L2 DL
open DL (D R)
noncomputable def M__law_short_forms (a0 : D) (a1 : D) : R D := R.bind (α := Fl Unit Empty D) (((((((R.ok []).bind D.mkT).bind fun x23 => (R.ok []).bind fun x24 => R.ok (x23 :: x24)).bind D.mkL).map D.lst).bind fun x29 => ((((((R.ok []).bind D.mkT).bind fun x25 => (R.ok []).bind fun x26 => R.ok (x25 :: x26)).bind D.mkL).map D.lst).bind fun x27 => (R.ok []).bind fun x28 => R.ok (x27 :: x28)).bind fun x30 => R.ok (x29 :: x30)).bind (par2 fun d21 d22 => (((R.ok a1).bind D.range1).bind fun xs63 => (forL unN (fun (s32 : D × D) (a33 : D) => ((((R.ok []).bind D.mkL).map D.lst).bind fun d34 => (((R.ok s32.2).bind D.itemsA).bind fun xs60 => (forL unN (fun (s36 : D) (a37 : D) => (((R.ok s36).bind fun x48 => ((((((R.ok a0).bind fun x39 => (R.ok (D.int 1)).bind fun x40 => D.ixA x39 x40).bind fun x41 => (R.ok (D.int 1)).bind fun x42 => D.add x41 x42).bind D.range1).bind (lcR unN (fun (a43 : D) => (R.ok true)) (fun (a43 : D) => ((R.ok a37).bind fun x46 => (((R.ok a43).bind fun x44 => (R.ok []).bind fun x45 => R.ok (x44 :: x45)).bind D.mkT).bind fun x47 => D.add x46 x47)))).map D.lst).bind fun x49 => D.add x48 x49).bind fun d38 => (R.ok (Fl.nx d38)))) xs60 d34).bind (Fl.after fun (s50 : D) => (((R.ok s32.1).bind fun x57 => ((((R.ok s50).bind D.itemsA).bind (lcR unN (fun (a52 : D) => (((R.ok a52).bind fun x53 => ((R.ok (D.int 1)).bind D.neg).bind fun x54 => D.ixA x53 x54).bind fun x55 => (R.ok (D.int 0)).bind fun x56 => (D.ne x55 x56).bind D.asB)) (fun (a52 : D) => (R.ok a52)))).map D.lst).bind fun x58 => D.add x57 x58).bind fun d51 => ((R.ok s50).bind fun d59 => (R.ok (Fl.nx (d51, d59))))))))) xs63 (d21, d22)).bind (Fl.after fun (s61 : D × D) => ((R.ok s61.1).bind fun d62 => R.ok (Fl.rt d62)))))) Fl.val
theorem ok__law_short_forms {P : Program} {w : World} {K : PySem.W.Frag} {mg : Str → Option Value} {base : Heap} {T : Tb} {f__law_short_forms : Addr} {fd__law_short_forms : FuncData} (G : Gd mg) (FF : L2.Fun K "_law_short_forms" "_law_short_forms" s__law_short_forms f__law_short_forms fd__law_short_forms)  : FnP P w K mg base T 1 f__law_short_forms fd__law_short_forms ["_law_rule_here", "_law_most"] (ar2 M__law_short_forms) :=
  fn_body2 FF sc__law_short_forms (fun ds m r h => h.1) fun cdv A outer s H E hcd hr ds m r h => by
    obtain ⟨hl, rfl, rfl⟩ := h
    match ds, hl with
    | [a0, a1], _ => exact fn_P (show SB T _ [some a0, some a1, none, none, none, none, none, none] [] _ (exP 8) _ from (sb_par2k 2 3 rfl sc__law_short_forms.nd (ea_cons (ELp.ev (el_lst (ea_cons (ev_tup ea_nil) ea_nil))) (ea_cons (ELp.ev (el_lst (ea_cons (ev_tup ea_nil) ea_nil))) ea_nil)) (fun d21 d22 => (SB.as (ds' := [some a0, some a1, some d21, some d22, none, none, none, none]) (m' := []) (sb_for (fnx fun (s31 : D × D) => ([some a0, some a1, some s31.1, some s31.2, none, none, none, none], [])) (d21, d22) (passes_of rfl) rfl (ei_range1 G.range (ev_name (i := 1) rfl rfl (.inl rfl))) (pg_name sc__law_short_forms.nd rfl (.inl rfl)) (tgd_name 4) ⟨rfl, rfl⟩ (Fgt.keep (Fgt.keep (Fgt.keep (Fgt.keep (Fgt.keep (Fgt.keep (Fgt.keep (Fgt.keep Fgt.nil)))))))) List.Sublist.slnil (fun s32 a33 => (fnxE (SB.as (ds' := [some a0, some a1, some s32.1, some s32.2, some a33, none, none, none]) (m' := []) (sb_asg 5 sc__law_short_forms.nd (ELp.ev (el_lst ea_nil)) (fun d34 => (SB.as (ds' := [some a0, some a1, some s32.1, some s32.2, some a33, some d34, none, none]) (m' := []) (sb_for (fnx fun (s35 : D) => ([some a0, some a1, some s32.1, some s32.2, some a33, some s35, none, none], [])) d34 (passes_of rfl) rfl (ei_any (ev_name (i := 3) rfl rfl (.inl rfl))) (pg_name sc__law_short_forms.nd rfl (.inr rfl)) (tgd_name 6) ⟨rfl, rfl⟩ (Fgt.keep (Fgt.keep (Fgt.keep (Fgt.keep (Fgt.keep (Fgt.keep (Fgt.keep (Fgt.keep Fgt.nil)))))))) List.Sublist.slnil (fun s36 a37 => (fnxE (SB.as (ds' := [some a0, some a1, some s32.1, some s32.2, some a33, some s36, some a37, none]) (m' := []) (sb_asg 5 sc__law_short_forms.nd (ev_bin op_addD opd_add (EV.w (ev_name (i := 5) rfl rfl (.inl rfl))) (EV.w (ELp.ev (el_lc (own := [("_law_digit", 7)]) rfl sc__law_short_forms.nd (ei_range1 G.range (ev_bin op_addD opd_add (EV.w (ev_ixA (hu1 hr) ix_seq (EV.w (ev_name (i := 0) rfl rfl (.inl rfl))) (EV.w ev_int))) (EV.w ev_int))) (blkOk_by (N := N__law_short_forms) (sc := defScope s__law_short_forms) (by decide +kernel)) (fun _ _ _ _ _ => (pg_name sc__law_short_forms.nd rfl (.inl rfl))) (tgd_name 7) (fun _ _ _ _ _ a43 => EC.as (ds' := [some a0, some a1, some s32.1, some s32.2, some a33, some s36, some a37, some a43]) ec_nil) (fun _ _ _ _ _ a43 => EV.as (ds' := [some a0, some a1, some s32.1, some s32.2, some a33, some s36, some a37, some a43]) (ev_bin op_addD opd_add (EV.w (ev_name (i := 6) rfl rfl (.inr (.inl rfl)))) (EV.w (ev_tup (ea_cons (ev_name (i := 7) rfl rfl (.inl rfl)) ea_nil))))))))) (fun d38 => (SB.as (ds' := [some a0, some a1, some s32.1, some s32.2, some a33, some d38, some a37, none]) (m' := []) (sb_end ⟨rfl, rfl⟩ (Fgt.keep (Fgt.keep (Fgt.keep (Fgt.keep (Fgt.keep (Fgt.keep (Fgt.drop (Fgt.keep Fgt.nil)))))))) List.Sublist.slnil))) rfl (.inl rfl))))) (fun s50 => (fnxE (SB.as (ds' := [some a0, some a1, some s32.1, some s32.2, some a33, some s50, none, none]) (m' := []) (sb_asg 2 sc__law_short_forms.nd (ev_bin op_addD opd_add (EV.w (ev_name (i := 2) rfl rfl (.inl rfl))) (EV.w (ELp.ev (el_lc (own := [("_law_digits", 6)]) rfl sc__law_short_forms.nd (ei_any (ev_name (i := 5) rfl rfl (.inl rfl))) (blkOk_by (N := N__law_short_forms) (sc := defScope s__law_short_forms) (by decide +kernel)) (fun _ _ _ _ _ => (pg_name sc__law_short_forms.nd rfl (.inl rfl))) (tgd_name 6) (fun _ _ _ _ _ a52 => EC.as (ds' := [some a0, some a1, some s32.1, some s32.2, some a33, some s50, some a52, none]) (ec_one (et_cmp (op_neD (hu64 hr)) opd_ne (EV.w (ev_ixA (hu1 hr) ix_seq (EV.w (ev_name (i := 6) rfl rfl (.inl rfl))) (EV.w (ev_neg ev_int)))) (EV.w ev_int)))) (fun _ _ _ _ _ a52 => EV.as (ds' := [some a0, some a1, some s32.1, some s32.2, some a33, some s50, some a52, none]) (ev_name (i := 6) rfl rfl (.inl rfl))))))) (fun d51 => (SB.as (ds' := [some a0, some a1, some d51, some s32.2, some a33, some s50, none, none]) (m' := []) (sb_asg 3 sc__law_short_forms.nd (ev_name (i := 5) rfl rfl (.inl rfl)) (fun d59 => (SB.as (ds' := [some a0, some a1, some d51, some d59, some a33, some s50, none, none]) (m' := []) (sb_end ⟨rfl, rfl⟩ (Fgt.keep (Fgt.keep (Fgt.keep (Fgt.keep (Fgt.drop (Fgt.drop (Fgt.keep (Fgt.keep Fgt.nil)))))))) List.Sublist.slnil))) rfl (.inl rfl)))) rfl (.inl rfl)))))))) rfl (.inl rfl))))) (fun s61 => (fnxE (SB.as (ds' := [some a0, some a1, some s61.1, some s61.2, none, none, none, none]) (m' := []) (sb_ret (fun d62 => d62) (ev_name (i := 2) rfl rfl (.inl rfl)) (fun _ => rfl) (fun _ => List.nil_sublist _))))))))))
end K08
namespace K08
open PySem PySem.Spec PyProof.Rows L2 DL
open DL (D R)
noncomputable def M__law_truly (a0 : D) (a1 : D) : R D := R.bind (α := Fl Unit Empty D) ((((R.ok a0).bind (D.isi "bool")).bind fun x24 => x24.asB.bind fun k25 => if k25 then ((R.ok a0).bind fun x22 => (R.ok a1).bind fun x23 => (D.eq x22 x23)) else R.ok (D.bl false)).bind fun d21 => R.ok (Fl.rt d21)) Fl.val
theorem ok__law_truly {P : Program} {w : World} {K : PySem.W.Frag} {mg : Str → Option Value} {base : Heap} {T : Tb} {f__law_truly : Addr} {fd__law_truly : FuncData} (G : Gd mg) (FF : L2.Fun K "_law_truly" "_law_truly" s__law_truly f__law_truly fd__law_truly)  : FnP P w K mg base T 1 f__law_truly fd__law_truly ["_law_found_so", "_law_due"] (ar2 M__law_truly) :=
  fn_body2 FF sc__law_truly (fun ds m r h => h.1) fun cdv A outer s H E hcd hr ds m r h => by
    obtain ⟨hl, rfl, rfl⟩ := h
    match ds, hl with
    | [a0, a1], _ => exact fn_P (show SB T _ [some a0, some a1] [] _ (exP 2) _ from (sb_ret (fun d21 => d21) (ev_and (ev_isi G.isinstance G.bool b_bool (EV.w (ev_name (i := 0) rfl rfl (.inl rfl)))) (ev_one (ev_cmp (op_eqD (hu64 hr)) opd_eq (EV.w (ev_name (i := 0) rfl rfl (.inl rfl))) (EV.w (ev_name (i := 1) rfl rfl (.inl rfl)))))) (fun _ => rfl) (fun _ => List.nil_sublist _)))
end K08
namespace K08
open PySem PySem.Spec PyProof.Rows L2 DL
open DL (D R)
noncomputable def M__law_first (a0 : D) (a1 : D) (a2 : D) : R D := R.bind (α := Fl Unit Empty D) ((((R.ok (D.int 0)).bind fun x23 => ((R.ok (D.int 0)).bind fun x21 => (R.ok []).bind fun x22 => R.ok (x21 :: x22)).bind fun x24 => R.ok (x23 :: x24)).bind D.mkT).bind fun x28 => (R.ok (D.bl true)).bind fun x29 => (D.mkTT x28 x29).bind fun v25 => ((((((((R.ok (D.int 0)).bind fun x32 => ((R.ok (D.int 0)).bind fun x30 => (R.ok []).bind fun x31 => R.ok (x30 :: x31)).bind fun x33 => R.ok (x32 :: x33)).bind D.mkT).bind fun x36 => (((R.ok []).bind D.mkT).bind fun x34 => (R.ok []).bind fun x35 => R.ok (x34 :: x35)).bind fun x37 => R.ok (x36 :: x37)).bind D.mkT).bind fun x38 => (R.ok []).bind fun x39 => R.ok (x38 :: x39)).bind D.mkL).map D.lst).bind fun d27 => ((whileR (fun (s41 : List (List Key × D) × D) => ((R.ok s41.2).bind fun x42 => (((R.ok []).bind D.mkL).map D.lst).bind fun x43 => (D.ne x42 x43).bind D.asB)) (fun (s41 : List (List Key × D) × D) => (((R.ok s41.2).bind D.itemsA).bind fun xs124 => (forL (unT2 unN unN) (fun (s46 : List (List Key × D) × List D) (a47 : (D × D)) => (((((R.ok a47.1).bind fun x50 => (R.ok (D.int 0)).bind fun x51 => D.ixA x50 x51).bind fun x54 => ((R.ok a0).bind fun x52 => (R.ok (D.int 3)).bind fun x53 => D.ixA x52 x53).bind fun x55 => (D.inA x54 x55)).bind fun x64 => ((((R.ok a47.1).bind fun x56 => (R.ok (D.int 1)).bind fun x57 => D.ixA x56 x57).bind fun x60 => ((R.ok a1).bind fun x58 => (R.ok (D.int 3)).bind fun x59 => D.ixA x58 x59).bind fun x61 => (D.inA x60 x61)).bind fun x62 => (R.ok []).bind fun x63 => R.ok (x62 :: x63)).bind fun x65 => R.ok (x64 :: x65)).bind (par2 fun d48 d49 => (((((R.ok d48).bind D.asB).bind fun k66 => if k66 then (((R.ok d49).bind D.asB).map fun b => !b) else R.ok false).bind fun k71 => if k71 then R.ok true else (((R.ok a2).bind fun x67 => (R.ok (D.str "both")).bind fun x68 => (D.eq x67 x68).bind D.asB).bind fun k70 => if k70 then (((R.ok d49).bind D.asB).bind fun k69 => if k69 then (((R.ok d48).bind D.asB).map fun b => !b) else R.ok false) else R.ok false)).bind fun k72 => if k72 then (((R.ok a47.2).bind fun d73 => R.ok (Fl.rt d73))).map Fl.up else (((((R.ok a0).bind fun x117 => (R.ok (D.int 1)).bind fun x118 => D.ixA x117 x118).bind fun x119 => (R.ok (D.int 1)).bind fun x120 => D.add x119 x120).bind D.range1).bind fun xs121 => (forL unN (fun (s75 : List (List Key × D) × List D) (a76 : D) => (((((((R.ok a0).bind fun x78 => (R.ok (D.int 2)).bind fun x79 => D.ixA x78 x79).bind fun x82 => ((R.ok a47.1).bind fun x80 => (R.ok (D.int 0)).bind fun x81 => D.ixA x80 x81).bind fun x83 => D.ixA x82 x83).bind fun x84 => (R.ok a76).bind fun x85 => D.ixA x84 x85).bind fun x96 => (((((R.ok a1).bind fun x86 => (R.ok (D.int 2)).bind fun x87 => D.ixA x86 x87).bind fun x90 => ((R.ok a47.1).bind fun x88 => (R.ok (D.int 1)).bind fun x89 => D.ixA x88 x89).bind fun x91 => D.ixA x90 x91).bind fun x92 => (R.ok a76).bind fun x93 => D.ixA x92 x93).bind fun x94 => (R.ok []).bind fun x95 => R.ok (x94 :: x95)).bind fun x97 => R.ok (x96 :: x97)).bind D.mkT).bind fun d77 => ((((R.ok d77).bind fun x100 => (R.ok (D.dtt s75.1)).bind fun x101 => (D.notInA x100 x101).bind D.asB).bind fun k102 => if k102 then ((R.ok (D.bl true)).bind fun d104 => (R.ok d77).bind fun n105 => (D.putT s75.1 n105 d104).bind fun y103 => ((((R.ok d77).bind fun x113 => (((R.ok a47.2).bind fun x109 => (((R.ok a76).bind fun x107 => (R.ok []).bind fun x108 => R.ok (x107 :: x108)).bind D.mkT).bind fun x110 => D.add x109 x110).bind fun x111 => (R.ok []).bind fun x112 => R.ok (x111 :: x112)).bind fun x114 => R.ok (x113 :: x114)).bind D.mkT).bind fun d115 => ((D.room s75.2).map fun _ => s75.2 ++ [d115]).bind fun y106 => (R.ok (Fl.nx (y103, y106))))) else (R.ok (Fl.nx (s75.1, s75.2)))).bind (Fl.next fun (s99 : List (List Key × D) × List D) => (R.ok (Fl.nx (s99.1, s99.2))))))) xs121 (s46.1, s46.2)).bind (Fl.after fun (s116 : List (List Key × D) × List D) => (R.ok (Fl.nx (s116.1, s116.2))))))))) xs124 (s41.1, [])).bind (Fl.after fun (s122 : List (List Key × D) × List D) => ((R.ok (D.lst s122.2)).bind fun d123 => (R.ok (Fl.nx (s122.1, d123))))))) FUEL (v25, d27)).bind (Fl.after fun (s125 : List (List Key × D) × D) => ((R.ok D.non).bind fun d126 => R.ok (Fl.rt d126))))) Fl.val
theorem ok__law_first {P : Program} {w : World} {K : PySem.W.Frag} {mg : Str → Option Value} {base : Heap} {T : Tb} {f__law_first : Addr} {fd__law_first : FuncData} (G : Gd mg) (FF : L2.Fun K "_law_first" "_law_first" s__law_first f__law_first fd__law_first)  : FnP P w K mg base T 1 f__law_first fd__law_first ["_law_one", "_law_other", "_law_mode"] (ar3 M__law_first) :=
  fn_body2 FF sc__law_first (fun ds m r h => h.1) fun cdv A outer s H E hcd hr ds m r h => by
    obtain ⟨hl, rfl, rfl⟩ := h
    match ds, hl with
    | [a0, a1, a2], _ => exact fn_P (show SB T _ [some a0, some a1, some a2, none, none, none, none, none, none, none, none, none] [] _ (exP 12) _ from (sb_par2DV 3 4 (hu1 hr) rfl sc__law_first.nd (ev_tup (ea_cons ev_int (ea_cons ev_int ea_nil))) ev_bl (fun p26 v25 => (ELp.ev (el_lst (ea_cons (ev_tup (ea_cons (ev_tup (ea_cons ev_int (ea_cons ev_int ea_nil))) (ea_cons (ev_tup ea_nil) ea_nil))) ea_nil)))) (fun p26 v25 d27 => (SB.as (ds' := [some a0, some a1, some a2, some (D.ref p26), some d27, none, none, none, none, none, none, none]) (m' := [(p26, .t v25)]) (sb_while (fnx fun (s40 : List (List Key × D) × D) => ([some a0, some a1, some a2, some (D.ref p26), some s40.2, none, none, none, none, none, none, none], [(p26, .t s40.1)])) (v25, d27) FUEL (passes_of rfl) ⟨rfl, rfl⟩ (Fgt.keep (Fgt.keep (Fgt.keep (Fgt.keep (Fgt.keep (Fgt.keep (Fgt.keep (Fgt.keep (Fgt.keep (Fgt.keep (Fgt.keep (Fgt.keep Fgt.nil)))))))))))) (List.Sublist.cons₂ _ List.Sublist.slnil) (fun s41 => fnxE (ETp.as (ds' := [some a0, some a1, some a2, some (D.ref p26), some s41.2, none, none, none, none, none, none, none]) (m' := [(p26, .t s41.1)]) (et_cmp (op_neD (hu64 hr)) opd_ne (EV.w (ev_name (i := 4) rfl rfl (.inl rfl))) (EV.w (ELp.ev (el_lst ea_nil)))))) (fun s41 => (fnxE (SB.as (ds' := [some a0, some a1, some a2, some (D.ref p26), some s41.2, none, none, none, none, none, none, none]) (m' := [(p26, .t s41.1)]) (sb_asgNil 5 sc__law_first.nd (fun p44 => (SB.as (ds' := [some a0, some a1, some a2, some (D.ref p26), some s41.2, some (D.ref p44), none, none, none, none, none, none]) (m' := [(p26, .t s41.1), (p44, .l [])]) (sb_for (fnx fun (s45 : List (List Key × D) × List D) => ([some a0, some a1, some a2, some (D.ref p26), some s41.2, some (D.ref p44), none, none, none, none, none, none], [(p26, .t s45.1), (p44, .l s45.2)])) (s41.1, []) (passes_of rfl) rfl (ei_any (ev_name (i := 4) rfl rfl (.inl rfl))) (pg_tup rfl (pgs_cons (pg_name sc__law_first.nd rfl (.inl rfl)) (pgs_cons (pg_name sc__law_first.nd rfl (.inl rfl)) pgs_nil))) (tgd_tup2 (tgd_name 6) (tgd_name 7)) ⟨rfl, rfl⟩ (Fgt.keep (Fgt.keep (Fgt.keep (Fgt.keep (Fgt.keep (Fgt.keep (Fgt.keep (Fgt.keep (Fgt.keep (Fgt.keep (Fgt.keep (Fgt.keep Fgt.nil)))))))))))) (List.Sublist.cons₂ _ (List.Sublist.cons₂ _ List.Sublist.slnil)) (fun s46 a47 => (fnxE (SB.as (ds' := [some a0, some a1, some a2, some (D.ref p26), some s41.2, some (D.ref p44), some a47.1, some a47.2, none, none, none, none]) (m' := [(p26, .t s46.1), (p44, .l s46.2)]) (sb_par2k 8 9 rfl sc__law_first.nd (ea_cons (ev_in (hu65 hr) (EV.w (ev_ixA (hu1 hr) ix_seq (EV.w (ev_name (i := 6) rfl rfl (.inl rfl))) (EV.w ev_int))) (EV.w (ev_ixA (hu1 hr) ix_seq (EV.w (ev_name (i := 0) rfl rfl (.inl rfl))) (EV.w ev_int)))) (ea_cons (ev_in (hu65 hr) (EV.w (ev_ixA (hu1 hr) ix_seq (EV.w (ev_name (i := 6) rfl rfl (.inl rfl))) (EV.w ev_int))) (EV.w (ev_ixA (hu1 hr) ix_seq (EV.w (ev_name (i := 1) rfl rfl (.inl rfl))) (EV.w ev_int)))) ea_nil)) (fun d48 d49 => (SB.as (ds' := [some a0, some a1, some a2, some (D.ref p26), some s41.2, some (D.ref p44), some a47.1, some a47.2, some d48, some d49, none, none]) (m' := [(p26, .t s46.1), (p44, .l s46.2)]) (sb_ifT (et_w (ew_or (et_w (ew_and (et_ev (ev_name (i := 8) rfl rfl (.inl rfl))) (ew_and1 (et_not (et_ev (ev_name (i := 9) rfl rfl (.inl rfl))))))) (ew_or1 (et_w (ew_and (et_cmp (op_eqD (hu64 hr)) opd_eq (EV.w (ev_name (i := 2) rfl rfl (.inl rfl))) (EV.w ev_str)) (ew_and (et_ev (ev_name (i := 9) rfl rfl (.inl rfl))) (ew_and1 (et_not (et_ev (ev_name (i := 8) rfl rfl (.inl rfl))))))))))) (sb_ret (fun d73 => d73) (ev_name (i := 7) rfl rfl (.inl rfl)) (fun _ => rfl) (fun _ => List.nil_sublist _)) (sb_for (fnx fun (s74 : List (List Key × D) × List D) => ([some a0, some a1, some a2, some (D.ref p26), some s41.2, some (D.ref p44), some a47.1, some a47.2, some d48, some d49, none, none], [(p26, .t s74.1), (p44, .l s74.2)])) (s46.1, s46.2) (passes_of rfl) rfl (ei_range1 G.range (ev_bin op_addD opd_add (EV.w (ev_ixA (hu1 hr) ix_seq (EV.w (ev_name (i := 0) rfl rfl (.inl rfl))) (EV.w ev_int))) (EV.w ev_int))) (pg_name sc__law_first.nd rfl (.inl rfl)) (tgd_name 10) ⟨rfl, rfl⟩ (Fgt.keep (Fgt.keep (Fgt.keep (Fgt.keep (Fgt.keep (Fgt.keep (Fgt.keep (Fgt.keep (Fgt.keep (Fgt.keep (Fgt.keep (Fgt.keep Fgt.nil)))))))))))) (List.Sublist.cons₂ _ (List.Sublist.cons₂ _ List.Sublist.slnil)) (fun s75 a76 => (fnxE (SB.as (ds' := [some a0, some a1, some a2, some (D.ref p26), some s41.2, some (D.ref p44), some a47.1, some a47.2, some d48, some d49, some a76, none]) (m' := [(p26, .t s75.1), (p44, .l s75.2)]) (sb_asg 11 sc__law_first.nd (ev_tup (ea_cons (ev_ixA (hu1 hr) ix_seq (EV.w (ev_ixA (hu1 hr) ix_seq (EV.w (ev_ixA (hu1 hr) ix_seq (EV.w (ev_name (i := 0) rfl rfl (.inl rfl))) (EV.w ev_int))) (EV.w (ev_ixA (hu1 hr) ix_seq (EV.w (ev_name (i := 6) rfl rfl (.inl rfl))) (EV.w ev_int))))) (EV.w (ev_name (i := 10) rfl rfl (.inl rfl)))) (ea_cons (ev_ixA (hu1 hr) ix_seq (EV.w (ev_ixA (hu1 hr) ix_seq (EV.w (ev_ixA (hu1 hr) ix_seq (EV.w (ev_name (i := 1) rfl rfl (.inl rfl))) (EV.w ev_int))) (EV.w (ev_ixA (hu1 hr) ix_seq (EV.w (ev_name (i := 6) rfl rfl (.inl rfl))) (EV.w ev_int))))) (EV.w (ev_name (i := 10) rfl rfl (.inl rfl)))) ea_nil))) (fun d77 => (SB.as (ds' := [some a0, some a1, some a2, some (D.ref p26), some s41.2, some (D.ref p44), some a47.1, some a47.2, some d48, some d49, some a76, some d77]) (m' := [(p26, .t s75.1), (p44, .l s75.2)]) (sb_ifJ (fnx fun (s98 : List (List Key × D) × List D) => ([some a0, some a1, some a2, some (D.ref p26), some s41.2, some (D.ref p44), some a47.1, some a47.2, some d48, some d49, some a76, some d77], [(p26, .t s98.1), (p44, .l s98.2)])) (et_notIn (hu65 hr) (EV.w (ev_name (i := 11) rfl rfl (.inl rfl))) (ev_own (i := 3) (p := p26) (o := .t s75.1) rfl (.head _) rfl (.inl rfl))) (sb_putT 3 (pl := p26) (kd := s75.1) (pre := []) (post := [(p44, .l s75.2)]) (hu1 hr) rfl ev_bl (ev_name (i := 11) rfl rfl (.inl rfl)) (fun y103 => (SB.as (ds' := [some a0, some a1, some a2, some (D.ref p26), some s41.2, some (D.ref p44), some a47.1, some a47.2, some d48, some d49, some a76, some d77]) (m' := [(p26, .t y103), (p44, .l s75.2)]) (sb_appendk 5 (pl := p44) (xs := s75.2) (pre := [(p26, .t y103)]) (post := []) rfl (ev_tup (ea_cons (ev_name (i := 11) rfl rfl (.inl rfl)) (ea_cons (ev_bin op_addD opd_add (EV.w (ev_name (i := 7) rfl rfl (.inl rfl))) (EV.w (ev_tup (ea_cons (ev_name (i := 10) rfl rfl (.inl rfl)) ea_nil)))) ea_nil))) (fun y106 => (SB.as (ds' := [some a0, some a1, some a2, some (D.ref p26), some s41.2, some (D.ref p44), some a47.1, some a47.2, some d48, some d49, some a76, some d77]) (m' := [(p26, .t y103), (p44, .l y106)]) (sb_end ⟨rfl, rfl⟩ (Fgt.keep (Fgt.keep (Fgt.keep (Fgt.keep (Fgt.keep (Fgt.keep (Fgt.keep (Fgt.keep (Fgt.keep (Fgt.keep (Fgt.keep (Fgt.keep Fgt.nil)))))))))))) (List.Sublist.cons₂ _ (List.Sublist.cons₂ _ List.Sublist.slnil))))) (pe_bm PySem.F.plainAttrs_list PySem.F.slot_list_append PySem.F.type_list_append mt_append (pe_var rfl (.inl rfl)) (pa_cons (pe_wp _ _) pa_nil))))) rfl (.inl rfl)) (sb_end ⟨rfl, rfl⟩ (Fgt.keep (Fgt.keep (Fgt.keep (Fgt.keep (Fgt.keep (Fgt.keep (Fgt.keep (Fgt.keep (Fgt.keep (Fgt.keep (Fgt.keep (Fgt.keep Fgt.nil)))))))))))) (List.Sublist.cons₂ _ (List.Sublist.cons₂ _ List.Sublist.slnil))) (fun s99 => (fnxE (SB.as (ds' := [some a0, some a1, some a2, some (D.ref p26), some s41.2, some (D.ref p44), some a47.1, some a47.2, some d48, some d49, some a76, some d77]) (m' := [(p26, .t s99.1), (p44, .l s99.2)]) (sb_end ⟨rfl, rfl⟩ (Fgt.keep (Fgt.keep (Fgt.keep (Fgt.keep (Fgt.keep (Fgt.keep (Fgt.keep (Fgt.keep (Fgt.keep (Fgt.keep (Fgt.drop (Fgt.drop Fgt.nil)))))))))))) (List.Sublist.cons₂ _ (List.Sublist.cons₂ _ List.Sublist.slnil))))))))) rfl (.inl rfl))))) (fun s116 => (fnxE (SB.as (ds' := [some a0, some a1, some a2, some (D.ref p26), some s41.2, some (D.ref p44), some a47.1, some a47.2, some d48, some d49, none, none]) (m' := [(p26, .t s116.1), (p44, .l s116.2)]) (sb_end ⟨rfl, rfl⟩ (Fgt.keep (Fgt.keep (Fgt.keep (Fgt.keep (Fgt.keep (Fgt.keep (Fgt.drop (Fgt.drop (Fgt.drop (Fgt.drop (Fgt.keep (Fgt.keep Fgt.nil)))))))))))) (List.Sublist.cons₂ _ (List.Sublist.cons₂ _ List.Sublist.slnil)))))))))))))) (fun s122 => (fnxE (SB.as (ds' := [some a0, some a1, some a2, some (D.ref p26), some s41.2, some (D.ref p44), none, none, none, none, none, none]) (m' := [(p26, .t s122.1), (p44, .l s122.2)]) (sb_freeze 5 (pl := p44) (xs := s122.2) (pre := [(p26, .t s122.1)]) (post := []) rfl (SB.as (ds' := [some a0, some a1, some a2, some (D.ref p26), some s41.2, some (D.lst s122.2), none, none, none, none, none, none]) (m' := [(p26, .t s122.1)]) (sb_asg 4 sc__law_first.nd (ev_name (i := 5) rfl rfl (.inl rfl)) (fun d123 => (SB.as (ds' := [some a0, some a1, some a2, some (D.ref p26), some d123, some (D.lst s122.2), none, none, none, none, none, none]) (m' := [(p26, .t s122.1)]) (sb_end ⟨rfl, rfl⟩ (Fgt.keep (Fgt.keep (Fgt.keep (Fgt.keep (Fgt.keep (Fgt.drop (Fgt.keep (Fgt.keep (Fgt.keep (Fgt.keep (Fgt.keep (Fgt.keep Fgt.nil)))))))))))) (List.Sublist.cons₂ _ List.Sublist.slnil)))) rfl (.inl rfl)))))))))) rfl (.inl rfl))))) (fun s125 => (fnxE (SB.as (ds' := [some a0, some a1, some a2, some (D.ref p26), some s125.2, none, none, none, none, none, none, none]) (m' := [(p26, .t s125.1)]) (sb_ret (fun d126 => d126) ev_non (fun _ => rfl) (fun _ => List.nil_sublist _))))))))))
end K08
namespace K08
open PySem PySem.Spec PyProof.Rows L2 DL
open DL (D R)
noncomputable def hs__law_word : List (HdM Empty Empty D) := [("InvalidRule", fun er23 => ((((R.ok (D.bl (sub er23.cls "CarryError"))).bind D.asB).bind fun k24 => if k24 then (R.ok (D.str "rule")) else (R.ok (D.str "else"))).bind fun d => R.ok (Fl.rt d))), ("Unlike", fun er21 => ((((R.ok (D.bl (sub er21.cls "CarryError"))).bind D.asB).bind fun k22 => if k22 then (R.ok (D.str "unlike")) else (R.ok (D.str "else"))).bind fun d => R.ok (Fl.rt d)))]
noncomputable def W__law_word : R D → R D := wfA errs sub hs__law_word "none"
theorem gives__law_word {X : Cx} {T : Tb} (G : Gd X.mg) {C_CarryError : Addr} (Rz_CarryError : Rz X.K X.mg "CarryError" C_CarryError) {C_InvalidRule : Addr} (Rz_InvalidRule : Rz X.K X.mg "InvalidRule" C_InvalidRule) {C_Unlike : Addr} (Rz_Unlike : Rz X.K X.mg "Unlike" C_Unlike) (QE : Exs X.K X.mg errs sub) (cdg : Value) (g : Addr) (qq : Str) : LamX.GivesTo X N__law_word "_law_word" (defScope s__law_word) g cdg (defBody s__law_word) "_law_call" qq (TTW X.K T X.mg W__law_word) :=
  word_givesA (T := T) QE (fun s H => (.consAs 1 Rz_InvalidRule.mg (by decide) sc__law_word.nd (fun aaer23 oeer23 er23 C1er23 pner23 hper23 hner23 heer23 hzer23 hfer23 => (show SB T _ [none, some (D.ref aaer23)] [] _ exW _ from sb_ret (fun d => d) (ev_if (et_ev (ev_isE (X := (wCx X N__law_word "_law_word" (defScope s__law_word) g cdg s H)) (i := 1) QE hner23 heer23 hzer23 hfer23 rfl (by decide) Rz_CarryError.mg G.isinstance)) ev_str ev_str) (fun _ => rfl) (fun _ => List.nil_sublist _))) ⟨fun s => s.elim, fun l => l.elim⟩ (.consAs 1 Rz_Unlike.mg (by decide) sc__law_word.nd (fun aaer21 oeer21 er21 C1er21 pner21 hper21 hner21 heer21 hzer21 hfer21 => (show SB T _ [none, some (D.ref aaer21)] [] _ exW _ from sb_ret (fun d => d) (ev_if (et_ev (ev_isE (X := (wCx X N__law_word "_law_word" (defScope s__law_word) g cdg s H)) (i := 1) QE hner21 heer21 hzer21 hfer21 rfl (by decide) Rz_CarryError.mg G.isinstance)) ev_str ev_str) (fun _ => rfl) (fun _ => List.nil_sublist _))) ⟨fun s => s.elim, fun l => l.elim⟩ .nil))) (fun f => rfl)
end K08
namespace K08
open PySem PySem.Spec PyProof.Rows L2 DL
open DL (D R)
noncomputable def M_are_spots (a0 : D) (a1 : D) (a2 : D) : R D := R.bind (α := Fl Unit Empty D) (((((R.ok a0).bind fun x26 => ((R.ok a1).bind fun x24 => ((R.ok a1).bind fun x22 => (R.ok []).bind fun x23 => R.ok (x22 :: x23)).bind fun x25 => R.ok (x24 :: x25)).bind fun x27 => R.ok (x26 :: x27)).bind (ar3 M_is_tuple)).bind fun x37 => x37.asB.bind fun k38 => if k38 then (((((R.ok a0).bind D.itemsA).bind (lcR unN (fun (a28 : D) => (R.ok true)) (fun (a28 : D) => (((R.ok a28).bind fun x35 => ((R.ok (D.int 0)).bind fun x33 => (((R.ok a2).bind fun x29 => (R.ok (D.int 1)).bind fun x30 => D.sub x29 x30).bind fun x31 => (R.ok []).bind fun x32 => R.ok (x31 :: x32)).bind fun x34 => R.ok (x33 :: x34)).bind fun x36 => R.ok (x35 :: x36)).bind (ar3 M_is_number))))).map D.lst).bind D.all) else R.ok (D.bl false)).bind fun d21 => R.ok (Fl.rt d21)) Fl.val
theorem ok_are_spots {P : Program} {w : World} {K : PySem.W.Frag} {mg : Str → Option Value} {base : Heap} {T : Tb} {f_are_spots : Addr} {fd_are_spots : FuncData} (G : Gd mg) (FF : L2.Fun K "are_spots" "are_spots" s_are_spots f_are_spots fd_are_spots) {f_is_number : Addr} {fd_is_number : FuncData} (F_is_number : FnP P w K mg base T 1 f_is_number fd_is_number ["value", "least", "most"] (ar3 M_is_number)) (c_is_number : Ca K mg "is_number" f_is_number fd_is_number ["value", "least", "most"]) {f_is_tuple : Addr} {fd_is_tuple : FuncData} (F_is_tuple : FnP P w K mg base T 1 f_is_tuple fd_is_tuple ["value", "least", "most"] (ar3 M_is_tuple)) (c_is_tuple : Ca K mg "is_tuple" f_is_tuple fd_is_tuple ["value", "least", "most"]) : FnP P w K mg base T 2 f_are_spots fd_are_spots ["value", "size", "many"] (ar3 M_are_spots) :=
  fn_body2 FF sc_are_spots (fun ds m r h => h.1) fun cdv A outer s H E hcd hr ds m r h => by
    obtain ⟨hl, rfl, rfl⟩ := h
    match ds, hl with
    | [a0, a1, a2], _ => exact fn_P (show SB T _ [some a0, some a1, some a2, none] [] _ (exP 4) _ from (sb_ret (fun d21 => d21) (ev_and (ev_call F_is_tuple (c_is_tuple.at_ hr) (ar3_ub _) (ea_cons (ev_name (i := 0) rfl rfl (.inl rfl)) (ea_cons (ev_name (i := 1) rfl rfl (.inl rfl)) (ea_cons (ev_name (i := 1) rfl rfl (.inl rfl)) ea_nil)))) (ev_one (ev_callB (cr_all rfl) cd_all G.all b_all (EV.w (ELp.ev (el_lc (own := [("spot", 3)]) rfl sc_are_spots.nd (ei_any (ev_name (i := 0) rfl rfl (.inl rfl))) (blkOk_by (N := N_are_spots) (sc := defScope s_are_spots) (by decide +kernel)) (fun _ _ _ _ _ => (pg_name sc_are_spots.nd rfl (.inl rfl))) (tgd_name 3) (fun _ _ _ _ _ a28 => EC.as (ds' := [some a0, some a1, some a2, some a28]) ec_nil) (fun _ _ _ _ _ a28 => EV.as (ds' := [some a0, some a1, some a2, some a28]) (ev_call F_is_number (c_is_number.at_ hr) (ar3_ub _) (ea_cons (ev_name (i := 3) rfl rfl (.inl rfl)) (ea_cons ev_int (ea_cons (ev_bin op_sub opd_sub (EV.w (ev_name (i := 2) rfl rfl (.inr (.inl rfl)))) (EV.w ev_int)) ea_nil))))))))))) (fun _ => rfl) (fun _ => List.nil_sublist _)))
end K08
namespace K08
open PySem PySem.Spec PyProof.Rows L2 DL
open DL (D R)
def lam_alike_0 : Lam := lamAt (("alike" : Str) ++ ".<locals>." ++ "<lambda>") (defBody s_alike) [1] 0 [0, 3]
noncomputable def M_lam_alike_0 (a0 : D) (a1 : D) : R D := ((R.ok a0).bind fun x21 => (R.ok a1).bind fun x22 => (D.ne x21 x22))
theorem okl_alike_0 {P : Program} {w : World} {K : PySem.W.Frag} {mg : Str → Option Value} {base : Heap} {T : Tb} (G : Gd mg)  : LamP P w K mg base T 1 lam_alike_0 2 (ar2 M_lam_alike_0) :=
  lamP_of (l := lam_alike_0) (N := ["mine", "yours"]) (ps := ["mine", "yours"]) (NdefX.nscope_by (by decide +kernel)) (fun _ _ _ _ us hl => match us, hl with | [_, _], _ => rfl) fun A outer s H E f c' hr ds hl => match ds, hl with | [a0, a1], _ => (show EV T _ [some a0, some a1] [] _ _ from (ev_cmp (op_neD (hu64 hr)) opd_ne (EV.w (ev_name (i := 0) rfl rfl (.inl rfl))) (EV.w (ev_name (i := 1) rfl rfl (.inl rfl)))))
def lam_within_0 : Lam := lamAt (("within" : Str) ++ ".<locals>." ++ "<lambda>") (defBody s_within) [1] 0 [0, 3]
noncomputable def M_lam_within_0 (a0 : D) (a1 : D) : R D := ((R.ok a0).bind fun x21 => x21.asB.bind fun k22 => if k22 then ((R.ok a1).bind fun x => x.asB.map fun k => D.bl (!k)) else R.ok (D.bl false))
theorem okl_within_0 {P : Program} {w : World} {K : PySem.W.Frag} {mg : Str → Option Value} {base : Heap} {T : Tb} (G : Gd mg)  : LamP P w K mg base T 1 lam_within_0 2 (ar2 M_lam_within_0) :=
  lamP_of (l := lam_within_0) (N := ["mine", "yours"]) (ps := ["mine", "yours"]) (NdefX.nscope_by (by decide +kernel)) (fun _ _ _ _ us hl => match us, hl with | [_, _], _ => rfl) fun A outer s H E f c' hr ds hl => match ds, hl with | [a0, a1], _ => (show EV T _ [some a0, some a1] [] _ _ from (ev_and (ev_name (i := 0) rfl rfl (.inl rfl)) (ev_one (ev_not (ev_name (i := 1) rfl rfl (.inl rfl))))))
def lam_parting_0 : Lam := lamAt (("parting" : Str) ++ ".<locals>." ++ "<lambda>") (defBody s_parting) [1] 0 [3]
noncomputable def M_lam_parting_0 (a0 : D) (a1 : D) : R D := ((R.ok a0).bind fun x21 => (R.ok a1).bind fun x22 => (D.ne x21 x22))
theorem okl_parting_0 {P : Program} {w : World} {K : PySem.W.Frag} {mg : Str → Option Value} {base : Heap} {T : Tb} (G : Gd mg)  : LamP P w K mg base T 1 lam_parting_0 2 (ar2 M_lam_parting_0) :=
  lamP_of (l := lam_parting_0) (N := ["mine", "yours"]) (ps := ["mine", "yours"]) (NdefX.nscope_by (by decide +kernel)) (fun _ _ _ _ us hl => match us, hl with | [_, _], _ => rfl) fun A outer s H E f c' hr ds hl => match ds, hl with | [a0, a1], _ => (show EV T _ [some a0, some a1] [] _ _ from (ev_cmp (op_neD (hu64 hr)) opd_ne (EV.w (ev_name (i := 0) rfl rfl (.inl rfl))) (EV.w (ev_name (i := 1) rfl rfl (.inl rfl)))))
open Classical in
noncomputable def cal_first_unlike (l : Lam) : List D → R D := if l = lam_alike_0 then ar2 M_lam_alike_0 else if l = lam_within_0 then ar2 M_lam_within_0 else if l = lam_parting_0 then ar2 M_lam_parting_0 else fun _ => .ub
theorem cals_first_unlike {P : Program} {w : World} {K : PySem.W.Frag} {mg : Str → Option Value} {base : Heap} {T : Tb} (h_alike_0 : LamP P w K mg base T 1 lam_alike_0 2 (ar2 M_lam_alike_0)) (h_within_0 : LamP P w K mg base T 1 lam_within_0 2 (ar2 M_lam_within_0)) (h_parting_0 : LamP P w K mg base T 1 lam_parting_0 2 (ar2 M_lam_parting_0)) : ∀ l : Lam, LamP P w K mg base T 1 l 2 (cal_first_unlike l) := fun l => by
  unfold cal_first_unlike
  split
  · rename_i e; subst e; exact h_alike_0.mono (by decide)
  split
  · rename_i e; subst e; exact h_within_0.mono (by decide)
  split
  · rename_i e; subst e; exact h_parting_0.mono (by decide)
  exact lamP_ub
theorem calz_first_unlike : ∀ (l : Lam) (xs : List D), xs.length ≠ 2 → cal_first_unlike l xs = .ub := fun l xs h => by
  unfold cal_first_unlike
  split
  · exact ar2_ub _ xs h
  split
  · exact ar2_ub _ xs h
  split
  · exact ar2_ub _ xs h
  rfl
noncomputable def M_first_unlike (a0 : D) (a1 : D) (a2 : D) : R D := R.bind (α := Fl Unit Empty D) ((((R.ok (D.int 0)).bind fun x23 => ((R.ok (D.int 0)).bind fun x21 => (R.ok []).bind fun x22 => R.ok (x21 :: x22)).bind fun x24 => R.ok (x23 :: x24)).bind D.mkT).bind fun x28 => (R.ok (D.bl true)).bind fun x29 => (D.mkTT x28 x29).bind fun v25 => ((((((((R.ok (D.int 0)).bind fun x32 => ((R.ok (D.int 0)).bind fun x30 => (R.ok []).bind fun x31 => R.ok (x30 :: x31)).bind fun x33 => R.ok (x32 :: x33)).bind D.mkT).bind fun x36 => (((R.ok []).bind D.mkT).bind fun x34 => (R.ok []).bind fun x35 => R.ok (x34 :: x35)).bind fun x37 => R.ok (x36 :: x37)).bind D.mkT).bind fun x38 => (R.ok []).bind fun x39 => R.ok (x38 :: x39)).bind D.mkL).map D.lst).bind fun d27 => ((whileR (fun (s41 : List (List Key × D) × D) => ((R.ok s41.2).bind fun x42 => (((R.ok []).bind D.mkL).map D.lst).bind fun x43 => (D.ne x42 x43).bind D.asB)) (fun (s41 : List (List Key × D) × D) => (((R.ok s41.2).bind D.itemsA).bind fun xs116 => (forL (unT2 unN unN) (fun (s46 : List (List Key × D) × List D) (a47 : (D × D)) => (((D.callC cal_first_unlike ((((R.ok a47.1).bind fun x48 => (R.ok (D.int 0)).bind fun x49 => D.ixA x48 x49).bind fun x52 => ((R.ok a0).bind fun x50 => (R.ok (D.int 3)).bind fun x51 => D.ixA x50 x51).bind fun x53 => (D.inA x52 x53)).bind fun x62 => ((((R.ok a47.1).bind fun x54 => (R.ok (D.int 1)).bind fun x55 => D.ixA x54 x55).bind fun x58 => ((R.ok a1).bind fun x56 => (R.ok (D.int 3)).bind fun x57 => D.ixA x56 x57).bind fun x59 => (D.inA x58 x59)).bind fun x60 => (R.ok []).bind fun x61 => R.ok (x60 :: x61)).bind fun x63 => R.ok (x62 :: x63)) a2).bind D.asB).bind fun k64 => if k64 then (((R.ok a47.2).bind fun d65 => R.ok (Fl.rt d65))).map Fl.up else (((((R.ok a0).bind fun x109 => (R.ok (D.int 1)).bind fun x110 => D.ixA x109 x110).bind fun x111 => (R.ok (D.int 1)).bind fun x112 => D.add x111 x112).bind D.range1).bind fun xs113 => (forL unN (fun (s67 : List (List Key × D) × List D) (a68 : D) => (((((((R.ok a0).bind fun x70 => (R.ok (D.int 2)).bind fun x71 => D.ixA x70 x71).bind fun x74 => ((R.ok a47.1).bind fun x72 => (R.ok (D.int 0)).bind fun x73 => D.ixA x72 x73).bind fun x75 => D.ixA x74 x75).bind fun x76 => (R.ok a68).bind fun x77 => D.ixA x76 x77).bind fun x88 => (((((R.ok a1).bind fun x78 => (R.ok (D.int 2)).bind fun x79 => D.ixA x78 x79).bind fun x82 => ((R.ok a47.1).bind fun x80 => (R.ok (D.int 1)).bind fun x81 => D.ixA x80 x81).bind fun x83 => D.ixA x82 x83).bind fun x84 => (R.ok a68).bind fun x85 => D.ixA x84 x85).bind fun x86 => (R.ok []).bind fun x87 => R.ok (x86 :: x87)).bind fun x89 => R.ok (x88 :: x89)).bind D.mkT).bind fun d69 => ((((R.ok d69).bind fun x92 => (R.ok (D.dtt s67.1)).bind fun x93 => (D.notInA x92 x93).bind D.asB).bind fun k94 => if k94 then ((R.ok (D.bl true)).bind fun d96 => (R.ok d69).bind fun n97 => (D.putT s67.1 n97 d96).bind fun y95 => ((((R.ok d69).bind fun x105 => (((R.ok a47.2).bind fun x101 => (((R.ok a68).bind fun x99 => (R.ok []).bind fun x100 => R.ok (x99 :: x100)).bind D.mkT).bind fun x102 => D.add x101 x102).bind fun x103 => (R.ok []).bind fun x104 => R.ok (x103 :: x104)).bind fun x106 => R.ok (x105 :: x106)).bind D.mkT).bind fun d107 => ((D.room s67.2).map fun _ => s67.2 ++ [d107]).bind fun y98 => (R.ok (Fl.nx (y95, y98))))) else (R.ok (Fl.nx (s67.1, s67.2)))).bind (Fl.next fun (s91 : List (List Key × D) × List D) => (R.ok (Fl.nx (s91.1, s91.2))))))) xs113 (s46.1, s46.2)).bind (Fl.after fun (s108 : List (List Key × D) × List D) => (R.ok (Fl.nx (s108.1, s108.2))))))) xs116 (s41.1, [])).bind (Fl.after fun (s114 : List (List Key × D) × List D) => ((R.ok (D.lst s114.2)).bind fun d115 => (R.ok (Fl.nx (s114.1, d115))))))) FUEL (v25, d27)).bind (Fl.after fun (s117 : List (List Key × D) × D) => ((R.ok D.non).bind fun d118 => R.ok (Fl.rt d118))))) Fl.val
theorem ok_first_unlike {P : Program} {w : World} {K : PySem.W.Frag} {mg : Str → Option Value} {base : Heap} {T : Tb} {f_first_unlike : Addr} {fd_first_unlike : FuncData} (G : Gd mg) (FF : L2.Fun K "first_unlike" "first_unlike" s_first_unlike f_first_unlike fd_first_unlike) (CL_first_unlike : ∀ l : Lam, LamP P w K mg base T 1 l 2 (cal_first_unlike l)) : FnP P w K mg base T 2 f_first_unlike fd_first_unlike ["one", "other", "is_wanted"] (ar3 M_first_unlike) :=
  fn_body2 FF sc_first_unlike (fun ds m r h => h.1) fun cdv A outer s H E hcd hr ds m r h => by
    obtain ⟨hl, rfl, rfl⟩ := h
    match ds, hl with
    | [a0, a1, a2], _ => exact fn_P (show SB T _ [some a0, some a1, some a2, none, none, none, none, none, none, none] [] _ (exP 10) _ from (sb_par2DV 3 4 (hu1 hr) rfl sc_first_unlike.nd (ev_tup (ea_cons ev_int (ea_cons ev_int ea_nil))) ev_bl (fun p26 v25 => (ELp.ev (el_lst (ea_cons (ev_tup (ea_cons (ev_tup (ea_cons ev_int (ea_cons ev_int ea_nil))) (ea_cons (ev_tup ea_nil) ea_nil))) ea_nil)))) (fun p26 v25 d27 => (SB.as (ds' := [some a0, some a1, some a2, some (D.ref p26), some d27, none, none, none, none, none]) (m' := [(p26, .t v25)]) (sb_while (fnx fun (s40 : List (List Key × D) × D) => ([some a0, some a1, some a2, some (D.ref p26), some s40.2, none, none, none, none, none], [(p26, .t s40.1)])) (v25, d27) FUEL (passes_of rfl) ⟨rfl, rfl⟩ (Fgt.keep (Fgt.keep (Fgt.keep (Fgt.keep (Fgt.keep (Fgt.keep (Fgt.keep (Fgt.keep (Fgt.keep (Fgt.keep Fgt.nil)))))))))) (List.Sublist.cons₂ _ List.Sublist.slnil) (fun s41 => fnxE (ETp.as (ds' := [some a0, some a1, some a2, some (D.ref p26), some s41.2, none, none, none, none, none]) (m' := [(p26, .t s41.1)]) (et_cmp (op_neD (hu64 hr)) opd_ne (EV.w (ev_name (i := 4) rfl rfl (.inl rfl))) (EV.w (ELp.ev (el_lst ea_nil)))))) (fun s41 => (fnxE (SB.as (ds' := [some a0, some a1, some a2, some (D.ref p26), some s41.2, none, none, none, none, none]) (m' := [(p26, .t s41.1)]) (sb_asgNil 5 sc_first_unlike.nd (fun p44 => (SB.as (ds' := [some a0, some a1, some a2, some (D.ref p26), some s41.2, some (D.ref p44), none, none, none, none]) (m' := [(p26, .t s41.1), (p44, .l [])]) (sb_for (fnx fun (s45 : List (List Key × D) × List D) => ([some a0, some a1, some a2, some (D.ref p26), some s41.2, some (D.ref p44), none, none, none, none], [(p26, .t s45.1), (p44, .l s45.2)])) (s41.1, []) (passes_of rfl) rfl (ei_any (ev_name (i := 4) rfl rfl (.inl rfl))) (pg_tup rfl (pgs_cons (pg_name sc_first_unlike.nd rfl (.inl rfl)) (pgs_cons (pg_name sc_first_unlike.nd rfl (.inl rfl)) pgs_nil))) (tgd_tup2 (tgd_name 6) (tgd_name 7)) ⟨rfl, rfl⟩ (Fgt.keep (Fgt.keep (Fgt.keep (Fgt.keep (Fgt.keep (Fgt.keep (Fgt.keep (Fgt.keep (Fgt.keep (Fgt.keep Fgt.nil)))))))))) (List.Sublist.cons₂ _ (List.Sublist.cons₂ _ List.Sublist.slnil)) (fun s46 a47 => (fnxE (SB.as (ds' := [some a0, some a1, some a2, some (D.ref p26), some s41.2, some (D.ref p44), some a47.1, some a47.2, none, none]) (m' := [(p26, .t s46.1), (p44, .l s46.2)]) (sb_ifT (et_ev (ev_callC (i := 2) rfl CL_first_unlike (hr.mono (by decide)) calz_first_unlike (ea_cons (ev_in (hu65 hr) (EV.w (ev_ixA (hu1 hr) ix_seq (EV.w (ev_name (i := 6) rfl rfl (.inl rfl))) (EV.w ev_int))) (EV.w (ev_ixA (hu1 hr) ix_seq (EV.w (ev_name (i := 0) rfl rfl (.inl rfl))) (EV.w ev_int)))) (ea_cons (ev_in (hu65 hr) (EV.w (ev_ixA (hu1 hr) ix_seq (EV.w (ev_name (i := 6) rfl rfl (.inl rfl))) (EV.w ev_int))) (EV.w (ev_ixA (hu1 hr) ix_seq (EV.w (ev_name (i := 1) rfl rfl (.inl rfl))) (EV.w ev_int)))) ea_nil)))) (sb_ret (fun d65 => d65) (ev_name (i := 7) rfl rfl (.inl rfl)) (fun _ => rfl) (fun _ => List.nil_sublist _)) (sb_for (fnx fun (s66 : List (List Key × D) × List D) => ([some a0, some a1, some a2, some (D.ref p26), some s41.2, some (D.ref p44), some a47.1, some a47.2, none, none], [(p26, .t s66.1), (p44, .l s66.2)])) (s46.1, s46.2) (passes_of rfl) rfl (ei_range1 G.range (ev_bin op_addD opd_add (EV.w (ev_ixA (hu1 hr) ix_seq (EV.w (ev_name (i := 0) rfl rfl (.inl rfl))) (EV.w ev_int))) (EV.w ev_int))) (pg_name sc_first_unlike.nd rfl (.inl rfl)) (tgd_name 8) ⟨rfl, rfl⟩ (Fgt.keep (Fgt.keep (Fgt.keep (Fgt.keep (Fgt.keep (Fgt.keep (Fgt.keep (Fgt.keep (Fgt.keep (Fgt.keep Fgt.nil)))))))))) (List.Sublist.cons₂ _ (List.Sublist.cons₂ _ List.Sublist.slnil)) (fun s67 a68 => (fnxE (SB.as (ds' := [some a0, some a1, some a2, some (D.ref p26), some s41.2, some (D.ref p44), some a47.1, some a47.2, some a68, none]) (m' := [(p26, .t s67.1), (p44, .l s67.2)]) (sb_asg 9 sc_first_unlike.nd (ev_tup (ea_cons (ev_ixA (hu1 hr) ix_seq (EV.w (ev_ixA (hu1 hr) ix_seq (EV.w (ev_ixA (hu1 hr) ix_seq (EV.w (ev_name (i := 0) rfl rfl (.inl rfl))) (EV.w ev_int))) (EV.w (ev_ixA (hu1 hr) ix_seq (EV.w (ev_name (i := 6) rfl rfl (.inl rfl))) (EV.w ev_int))))) (EV.w (ev_name (i := 8) rfl rfl (.inl rfl)))) (ea_cons (ev_ixA (hu1 hr) ix_seq (EV.w (ev_ixA (hu1 hr) ix_seq (EV.w (ev_ixA (hu1 hr) ix_seq (EV.w (ev_name (i := 1) rfl rfl (.inl rfl))) (EV.w ev_int))) (EV.w (ev_ixA (hu1 hr) ix_seq (EV.w (ev_name (i := 6) rfl rfl (.inl rfl))) (EV.w ev_int))))) (EV.w (ev_name (i := 8) rfl rfl (.inl rfl)))) ea_nil))) (fun d69 => (SB.as (ds' := [some a0, some a1, some a2, some (D.ref p26), some s41.2, some (D.ref p44), some a47.1, some a47.2, some a68, some d69]) (m' := [(p26, .t s67.1), (p44, .l s67.2)]) (sb_ifJ (fnx fun (s90 : List (List Key × D) × List D) => ([some a0, some a1, some a2, some (D.ref p26), some s41.2, some (D.ref p44), some a47.1, some a47.2, some a68, some d69], [(p26, .t s90.1), (p44, .l s90.2)])) (et_notIn (hu65 hr) (EV.w (ev_name (i := 9) rfl rfl (.inl rfl))) (ev_own (i := 3) (p := p26) (o := .t s67.1) rfl (.head _) rfl (.inl rfl))) (sb_putT 3 (pl := p26) (kd := s67.1) (pre := []) (post := [(p44, .l s67.2)]) (hu1 hr) rfl ev_bl (ev_name (i := 9) rfl rfl (.inl rfl)) (fun y95 => (SB.as (ds' := [some a0, some a1, some a2, some (D.ref p26), some s41.2, some (D.ref p44), some a47.1, some a47.2, some a68, some d69]) (m' := [(p26, .t y95), (p44, .l s67.2)]) (sb_appendk 5 (pl := p44) (xs := s67.2) (pre := [(p26, .t y95)]) (post := []) rfl (ev_tup (ea_cons (ev_name (i := 9) rfl rfl (.inl rfl)) (ea_cons (ev_bin op_addD opd_add (EV.w (ev_name (i := 7) rfl rfl (.inl rfl))) (EV.w (ev_tup (ea_cons (ev_name (i := 8) rfl rfl (.inl rfl)) ea_nil)))) ea_nil))) (fun y98 => (SB.as (ds' := [some a0, some a1, some a2, some (D.ref p26), some s41.2, some (D.ref p44), some a47.1, some a47.2, some a68, some d69]) (m' := [(p26, .t y95), (p44, .l y98)]) (sb_end ⟨rfl, rfl⟩ (Fgt.keep (Fgt.keep (Fgt.keep (Fgt.keep (Fgt.keep (Fgt.keep (Fgt.keep (Fgt.keep (Fgt.keep (Fgt.keep Fgt.nil)))))))))) (List.Sublist.cons₂ _ (List.Sublist.cons₂ _ List.Sublist.slnil))))) (pe_bm PySem.F.plainAttrs_list PySem.F.slot_list_append PySem.F.type_list_append mt_append (pe_var rfl (.inl rfl)) (pa_cons (pe_wp _ _) pa_nil))))) rfl (.inl rfl)) (sb_end ⟨rfl, rfl⟩ (Fgt.keep (Fgt.keep (Fgt.keep (Fgt.keep (Fgt.keep (Fgt.keep (Fgt.keep (Fgt.keep (Fgt.keep (Fgt.keep Fgt.nil)))))))))) (List.Sublist.cons₂ _ (List.Sublist.cons₂ _ List.Sublist.slnil))) (fun s91 => (fnxE (SB.as (ds' := [some a0, some a1, some a2, some (D.ref p26), some s41.2, some (D.ref p44), some a47.1, some a47.2, some a68, some d69]) (m' := [(p26, .t s91.1), (p44, .l s91.2)]) (sb_end ⟨rfl, rfl⟩ (Fgt.keep (Fgt.keep (Fgt.keep (Fgt.keep (Fgt.keep (Fgt.keep (Fgt.keep (Fgt.keep (Fgt.drop (Fgt.drop Fgt.nil)))))))))) (List.Sublist.cons₂ _ (List.Sublist.cons₂ _ List.Sublist.slnil))))))))) rfl (.inl rfl))))) (fun s108 => (fnxE (SB.as (ds' := [some a0, some a1, some a2, some (D.ref p26), some s41.2, some (D.ref p44), some a47.1, some a47.2, none, none]) (m' := [(p26, .t s108.1), (p44, .l s108.2)]) (sb_end ⟨rfl, rfl⟩ (Fgt.keep (Fgt.keep (Fgt.keep (Fgt.keep (Fgt.keep (Fgt.keep (Fgt.drop (Fgt.drop (Fgt.keep (Fgt.keep Fgt.nil)))))))))) (List.Sublist.cons₂ _ (List.Sublist.cons₂ _ List.Sublist.slnil))))))))))) (fun s114 => (fnxE (SB.as (ds' := [some a0, some a1, some a2, some (D.ref p26), some s41.2, some (D.ref p44), none, none, none, none]) (m' := [(p26, .t s114.1), (p44, .l s114.2)]) (sb_freeze 5 (pl := p44) (xs := s114.2) (pre := [(p26, .t s114.1)]) (post := []) rfl (SB.as (ds' := [some a0, some a1, some a2, some (D.ref p26), some s41.2, some (D.lst s114.2), none, none, none, none]) (m' := [(p26, .t s114.1)]) (sb_asg 4 sc_first_unlike.nd (ev_name (i := 5) rfl rfl (.inl rfl)) (fun d115 => (SB.as (ds' := [some a0, some a1, some a2, some (D.ref p26), some d115, some (D.lst s114.2), none, none, none, none]) (m' := [(p26, .t s114.1)]) (sb_end ⟨rfl, rfl⟩ (Fgt.keep (Fgt.keep (Fgt.keep (Fgt.keep (Fgt.keep (Fgt.drop (Fgt.keep (Fgt.keep (Fgt.keep (Fgt.keep Fgt.nil)))))))))) (List.Sublist.cons₂ _ List.Sublist.slnil)))) rfl (.inl rfl)))))))))) rfl (.inl rfl))))) (fun s117 => (fnxE (SB.as (ds' := [some a0, some a1, some a2, some (D.ref p26), some s117.2, none, none, none, none, none]) (m' := [(p26, .t s117.1)]) (sb_ret (fun d118 => d118) ev_non (fun _ => rfl) (fun _ => List.nil_sublist _))))))))))
end K08
namespace K08
open PySem PySem.Spec PyProof.Rows L2 DL
open DL (D R)
noncomputable def M__law_of (c0 : List D) (a1 : D) : R (D × List D) := R.bind (α := Fl (List D) Empty (D × List D)) ((((R.ok a1).map fun d22 => (d22, c0)).bind fun p28 => (((((R.ok a1).bind D.len).bind fun x24 => (R.ok []).bind fun x25 => R.ok (x24 :: x25)).map fun d26 => (d26, p28.2)).bind fun z27 => ar1 (M__law_draw z27.2) z27.1).bind fun q29 => (D.ixA p28.1 q29.1).map fun d30 => (d30, q29.2)).bind fun z31 => R.ok (Fl.rt (z31.1, z31.2))) Fl.valC
theorem ok__law_of {P : Program} {w : World} {K : PySem.W.Frag} {mg : Str → Option Value} {base : Heap} {T : Tb} {f__law_of : Addr} {fd__law_of : FuncData} (G : Gd mg) (FF : L2.Fun K "_law_of" "_law_of" s__law_of f__law_of fd__law_of) {f__law_draw : Addr} {fd__law_draw : FuncData} (F__law_draw : FnC P w K mg base T 1 f__law_draw fd__law_draw ["_law_source_here", "_law_many"] (fun c => ar1 (M__law_draw c))) (c__law_draw : Ca K mg "_law_draw" f__law_draw fd__law_draw ["_law_source_here", "_law_many"]) : FnC P w K mg base T 2 f__law_of fd__law_of ["_law_source_here", "_law_items"] (fun c => ar1 (M__law_of c)) :=
  fn_body2 FF sc__law_of (fun ds m r h => by
    obtain ⟨pc, c0, rest, rfl, hl, rfl, rfl⟩ := h
    exact hl) fun cdv A outer s H E hcd hr ds m r h => by
    obtain ⟨pc, c0, rest, rfl, hl, rfl, rfl⟩ := h
    match rest, hl with
    | [a1], _ => exact fn_C (show SB T _ [some (D.ref pc), some a1] [(pc, .l c0)] _ (exC 2 pc) _ from (sb_retX (M := (fun u : List D => [(pc, .l u)])) (t := c0) (fun d u => (d, u)) (ex_ixA (hu1 hr) ix_seq (EV.x (ev_name (i := 1) rfl rfl (.inl rfl))) (fb := fun u23 => (((((R.ok a1).bind D.len).bind fun x24 => (R.ok []).bind fun x25 => R.ok (x24 :: x25)).map fun d26 => (d26, u23)).bind fun z27 => ar1 (M__law_draw z27.2) z27.1)) (fun u23 => (EXt.w' (ex_callCX (ps := ["_law_source_here", "_law_many"]) (rf := fun c => ar1 (M__law_draw c)) F__law_draw (c__law_draw.at_ hr) (arC fun c => ar1_ub (M__law_draw c)) (ev_name (i := 0) rfl rfl (.inl rfl)) (EAp.x (ea_cons (ev_callB call_len cd_len G.len b_len (EV.w (ev_name (i := 1) rfl rfl (.inl rfl)))) ea_nil)))))) (fun _ _ => rfl) (fun _ _ => .cons₂ _ (List.nil_sublist _))))
end K08
namespace K08
open PySem PySem.Spec PyProof.Rows L2 DL
open DL (D R)
noncomputable def M__law_lets (a0 : D) (a1 : D) : R D := R.bind (α := Fl Unit Empty D) (((((R.ok a0).bind fun x24 => ((R.ok a1).bind fun x22 => (R.ok []).bind fun x23 => R.ok (x22 :: x23)).bind fun x25 => R.ok (x24 :: x25)).bind (ar2 M__law_led)).bind fun x28 => ((R.ok a0).bind fun x26 => (R.ok (D.int 3)).bind fun x27 => D.ixA x26 x27).bind fun x29 => (D.inA x28 x29)).bind fun d21 => R.ok (Fl.rt d21)) Fl.val
theorem ok__law_lets {P : Program} {w : World} {K : PySem.W.Frag} {mg : Str → Option Value} {base : Heap} {T : Tb} {f__law_lets : Addr} {fd__law_lets : FuncData} (G : Gd mg) (FF : L2.Fun K "_law_lets" "_law_lets" s__law_lets f__law_lets fd__law_lets) {f__law_led : Addr} {fd__law_led : FuncData} (F__law_led : FnP P w K mg base T 1 f__law_led fd__law_led ["_law_rule_here", "_law_form"] (ar2 M__law_led)) (c__law_led : Ca K mg "_law_led" f__law_led fd__law_led ["_law_rule_here", "_law_form"]) : FnP P w K mg base T 2 f__law_lets fd__law_lets ["_law_rule_here", "_law_form"] (ar2 M__law_lets) :=
  fn_body2 FF sc__law_lets (fun ds m r h => h.1) fun cdv A outer s H E hcd hr ds m r h => by
    obtain ⟨hl, rfl, rfl⟩ := h
    match ds, hl with
    | [a0, a1], _ => exact fn_P (show SB T _ [some a0, some a1] [] _ (exP 2) _ from (sb_ret (fun d21 => d21) (ev_in (hu65 hr) (EV.w (ev_call F__law_led (c__law_led.at_ hr) (ar2_ub _) (ea_cons (ev_name (i := 0) rfl rfl (.inl rfl)) (ea_cons (ev_name (i := 1) rfl rfl (.inl rfl)) ea_nil)))) (EV.w (ev_ixA (hu1 hr) ix_seq (EV.w (ev_name (i := 0) rfl rfl (.inl rfl))) (EV.w ev_int)))) (fun _ => rfl) (fun _ => List.nil_sublist _)))
end K08
namespace K08
open PySem PySem.Spec PyProof.Rows L2 DL
open DL (D R)
noncomputable def M__law_near (c0 : List D) (a1 : D) : R (D × List D) := R.bind (α := Fl (List D) Empty (D × List D)) ((R.ok a1).bind fun d22 => ((unT4 unN unN unN unN) d22).bind fun (a21 : (D × D × D × D)) => (((R.ok a21.2.2.1).bind D.len).bind fun d23 => ((((((R.ok (D.int 3)).bind fun x24 => (R.ok []).bind fun x25 => R.ok (x24 :: x25)).map fun d26 => (d26, c0)).bind fun z27 => ar1 (M__law_draw z27.2) z27.1).bind fun p30 => ((R.ok (D.int 0)).map fun d29 => (d29, p30.2)).bind fun q31 => (D.eq p30.1 q31.1).bind fun d32 => d32.asB.map fun k => (k, q31.2)).bind fun k34 => iteX k34 (fun u33 => (((((((R.ok (D.int 0)).bind fun x36 => (R.ok []).bind fun x37 => R.ok (x36 :: x37)).bind D.mkL).map D.lst).bind fun x40 => ((((R.ok (D.int 1)).bind fun x38 => (R.ok d23).bind fun x39 => D.rgL x38 x39).map D.lst).bind D.rev).bind fun x41 => D.add x40 x41).bind fun d35 => (((R.ok []).bind D.mkT).bind fun d42 => (((R.ok d35).bind D.itemsA).bind fun xs72 => (forL unN (fun (s44 : D) (a45 : D) => (((R.ok s44).bind fun x55 => ((((((((R.ok a21.2.2.1).bind fun x47 => (R.ok a45).bind fun x48 => D.ixA x47 x48).bind D.itemsA).bind (lcR unN (fun (a49 : D) => (R.ok true)) (fun (a49 : D) => ((R.ok d35).bind fun x50 => (D.ints x50).bind fun x51 => (R.ok a49).bind fun x52 => D.idx x51 x52)))).map D.lst).bind D.toTup).bind fun x53 => (R.ok []).bind fun x54 => R.ok (x53 :: x54)).bind D.mkT).bind fun x56 => D.add x55 x56).bind fun d46 => (R.ok (Fl.nx d46)))) xs72 d42).bind (Fl.after fun (s57 : D) => (((((((R.ok a21.2.2.2).bind D.itemsA).bind (lcR unN (fun (a59 : D) => (R.ok true)) (fun (a59 : D) => ((R.ok d35).bind fun x60 => (D.ints x60).bind fun x61 => (R.ok a59).bind fun x62 => D.idx x61 x62)))).map D.lst).bind D.sortA).map D.lst).bind fun d58 => ((((R.ok a21.1).bind fun x70 => ((R.ok a21.2.1).bind fun x68 => ((R.ok s57).bind fun x66 => (((R.ok d58).bind D.toTup).bind fun x64 => (R.ok []).bind fun x65 => R.ok (x64 :: x65)).bind fun x67 => R.ok (x66 :: x67)).bind fun x69 => R.ok (x68 :: x69)).bind fun x71 => R.ok (x70 :: x71)).bind D.mkT).bind fun d63 => R.ok (Fl.rt (d63, u33))))))))).map Fl.up) (fun u33 => ((((((R.ok d23).bind fun x75 => (R.ok []).bind fun x76 => R.ok (x75 :: x76)).map fun d77 => (d77, u33)).bind fun z78 => ar1 (M__law_draw z78.2) z78.1).bind fun z93 => ((((R.ok (D.int 1)).map fun d80 => (d80, z93.2)).bind fun p86 => ((((R.ok a21.2.1).bind fun x82 => (R.ok []).bind fun x83 => R.ok (x82 :: x83)).map fun d84 => (d84, p86.2)).bind fun z85 => ar1 (M__law_draw z85.2) z85.1).bind fun q87 => (D.add p86.1 q87.1).map fun d88 => (d88, q87.2)).bind fun z91 => ((R.ok []).map fun d90 => (d90, z91.2)).bind fun q92 => R.ok (z91.1 :: q92.1, q92.2)).bind fun q94 => R.ok (z93.1 :: q94.1, q94.2)).bind (par2X fun d73 d74 u95 => (((R.ok a21.2.2.1).bind fun x97 => (R.ok d73).bind fun x98 => D.ixA x97 x98).bind fun d96 => ((((((R.ok d96).bind fun x100 => (R.ok none).bind fun l101 => ((R.ok d74).bind D.part).bind fun h102 => D.sl x100 l101 h102).map fun d103 => (d103, u95)).bind fun p115 => ((((((R.ok d23).bind fun x105 => (R.ok []).bind fun x106 => R.ok (x105 :: x106)).map fun d107 => (d107, p115.2)).bind fun z108 => ar1 (M__law_draw z108.2) z108.1).bind fun z111 => ((R.ok []).map fun d110 => (d110, z111.2)).bind fun q112 => R.ok (z111.1 :: q112.1, q112.2)).bind fun z113 => (D.mkT z113.1).map fun d114 => (d114, z113.2)).bind fun q116 => (D.add p115.1 q116.1).map fun d117 => (d117, q116.2)).bind fun p125 => (((R.ok d96).bind fun x121 => (((R.ok d74).bind fun x119 => (R.ok (D.int 1)).bind fun x120 => D.add x119 x120).bind D.part).bind fun l122 => (R.ok none).bind fun h123 => D.sl x121 l122 h123).map fun d124 => (d124, p125.2)).bind fun q126 => (D.add p125.1 q126.1).map fun d127 => (d127, q126.2)).bind fun z129 => ((((R.ok a21.1).bind fun x151 => ((R.ok a21.2.1).bind fun x149 => (((((R.ok a21.2.2.1).bind fun x131 => (R.ok none).bind fun l132 => ((R.ok d73).bind D.part).bind fun h133 => D.sl x131 l132 h133).bind fun x136 => (((R.ok z129.1).bind fun x134 => (R.ok []).bind fun x135 => R.ok (x134 :: x135)).bind D.mkT).bind fun x137 => D.add x136 x137).bind fun x143 => ((R.ok a21.2.2.1).bind fun x140 => (((R.ok d73).bind fun x138 => (R.ok (D.int 1)).bind fun x139 => D.add x138 x139).bind D.part).bind fun l141 => (R.ok none).bind fun h142 => D.sl x140 l141 h142).bind fun x144 => D.add x143 x144).bind fun x147 => ((R.ok a21.2.2.2).bind fun x145 => (R.ok []).bind fun x146 => R.ok (x145 :: x146)).bind fun x148 => R.ok (x147 :: x148)).bind fun x150 => R.ok (x149 :: x150)).bind fun x152 => R.ok (x151 :: x152)).bind D.mkT).bind fun d130 => R.ok (Fl.rt (d130, z129.2))))))))))) Fl.valC
theorem ok__law_near {P : Program} {w : World} {K : PySem.W.Frag} {mg : Str → Option Value} {base : Heap} {T : Tb} {f__law_near : Addr} {fd__law_near : FuncData} (G : Gd mg) (FF : L2.Fun K "_law_near" "_law_near" s__law_near f__law_near fd__law_near) {f__law_draw : Addr} {fd__law_draw : FuncData} (F__law_draw : FnC P w K mg base T 1 f__law_draw fd__law_draw ["_law_source_here", "_law_many"] (fun c => ar1 (M__law_draw c))) (c__law_draw : Ca K mg "_law_draw" f__law_draw fd__law_draw ["_law_source_here", "_law_many"]) : FnC P w K mg base T 2 f__law_near fd__law_near ["_law_source_here", "_law_rule_here"] (fun c => ar1 (M__law_near c)) :=
  fn_body2 FF sc__law_near (fun ds m r h => by
    obtain ⟨pc, c0, rest, rfl, hl, rfl, rfl⟩ := h
    exact hl) fun cdv A outer s H E hcd hr ds m r h => by
    obtain ⟨pc, c0, rest, rfl, hl, rfl, rfl⟩ := h
    match rest, hl with
    | [a1], _ => exact fn_C (show SB T _ [some (D.ref pc), some a1, none, none, none, none, none, none, none, none, none, none, none, none, none] [(pc, .l c0)] _ (exC 15 pc) _ from (sb_unp (ev_name (i := 1) rfl rfl (.inl rfl)) (pg_tup rfl (pgs_cons (pg_name sc__law_near.nd rfl (.inl rfl)) (pgs_cons (pg_name sc__law_near.nd rfl (.inl rfl)) (pgs_cons (pg_name sc__law_near.nd rfl (.inl rfl)) (pgs_cons (pg_name sc__law_near.nd rfl (.inl rfl)) pgs_nil))))) (tgd_tup4 (tgd_name 2) (tgd_name 3) (tgd_name 4) (tgd_name 5)) (fun a21 => (SB.as (ds' := [some (D.ref pc), some a1, some a21.1, some a21.2.1, some a21.2.2.1, some a21.2.2.2, none, none, none, none, none, none, none, none, none]) (m' := [(pc, .l c0)]) (sb_asg 6 sc__law_near.nd (ev_callB call_len cd_len G.len b_len (EV.w (ev_name (i := 4) rfl rfl (.inl rfl)))) (fun d23 => (SB.as (ds' := [some (D.ref pc), some a1, some a21.1, some a21.2.1, some a21.2.2.1, some a21.2.2.2, some d23, none, none, none, none, none, none, none, none]) (m' := [(pc, .l c0)]) (sb_ifTXk (M := (fun u : List D => [(pc, .l u)])) (t := c0) (et_cmpX (op_eqD (hu64 hr)) opd_eq (ex_callCX (ps := ["_law_source_here", "_law_many"]) (rf := fun c => ar1 (M__law_draw c)) F__law_draw (c__law_draw.at_ hr) (arC fun c => ar1_ub (M__law_draw c)) (ev_name (i := 0) rfl rfl (.inl rfl)) (EAp.x (ea_cons ev_int ea_nil))) (fb := fun u28 => ((R.ok (D.int 0)).map fun d29 => (d29, u28))) (fun u28 => (EVw.x (EV.w ev_int)))) (fun u33 => (SB.as (ds' := [some (D.ref pc), some a1, some a21.1, some a21.2.1, some a21.2.2.1, some a21.2.2.2, some d23, none, none, none, none, none, none, none, none]) (m' := [(pc, .l u33)]) (sb_asg 7 sc__law_near.nd (ev_bin op_addD opd_add (EV.w (ELp.ev (el_lst (ea_cons ev_int ea_nil)))) (EV.w (ev_rev (EV.w (ELp.ev (el_listRg2 rfl G.range G.list ev_int (ev_name (i := 6) rfl rfl (.inl rfl)))))))) (fun d35 => (SB.as (ds' := [some (D.ref pc), some a1, some a21.1, some a21.2.1, some a21.2.2.1, some a21.2.2.2, some d23, some d35, none, none, none, none, none, none, none]) (m' := [(pc, .l u33)]) (sb_asg 8 sc__law_near.nd (ev_tup ea_nil) (fun d42 => (SB.as (ds' := [some (D.ref pc), some a1, some a21.1, some a21.2.1, some a21.2.2.1, some a21.2.2.2, some d23, some d35, some d42, none, none, none, none, none, none]) (m' := [(pc, .l u33)]) (sb_for (fnx fun (s43 : D) => ([some (D.ref pc), some a1, some a21.1, some a21.2.1, some a21.2.2.1, some a21.2.2.2, some d23, some d35, some s43, none, none, none, none, none, none], [(pc, .l u33)])) d42 (passes_of rfl) rfl (ei_any (ev_name (i := 7) rfl rfl (.inr (.inl rfl)))) (pg_name sc__law_near.nd rfl (.inl rfl)) (tgd_name 9) ⟨rfl, rfl⟩ (Fgt.keep (Fgt.keep (Fgt.keep (Fgt.keep (Fgt.keep (Fgt.keep (Fgt.keep (Fgt.keep (Fgt.keep (Fgt.keep (Fgt.keep (Fgt.keep (Fgt.keep (Fgt.keep (Fgt.keep Fgt.nil))))))))))))))) (List.Sublist.cons₂ _ List.Sublist.slnil) (fun s44 a45 => (fnxE (SB.as (ds' := [some (D.ref pc), some a1, some a21.1, some a21.2.1, some a21.2.2.1, some a21.2.2.2, some d23, some d35, some s44, some a45, none, none, none, none, none]) (m' := [(pc, .l u33)]) (sb_asg 8 sc__law_near.nd (ev_bin op_addD opd_add (EV.w (ev_name (i := 8) rfl rfl (.inl rfl))) (EV.w (ev_tup (ea_cons (ev_callTy call_tuple_of cd_tuple G.tuple b_tuple (EV.w (ELp.ev (el_lc (own := [("_law_there", 14)]) rfl sc__law_near.nd (ei_any (ev_ixA (hu1 hr) ix_seq (EV.w (ev_name (i := 4) rfl rfl (.inl rfl))) (EV.w (ev_name (i := 9) rfl rfl (.inl rfl))))) (blkOk_by (N := N__law_near) (sc := defScope s__law_near) (by decide +kernel)) (fun _ _ _ _ _ => (pg_name sc__law_near.nd rfl (.inl rfl))) (tgd_name 14) (fun _ _ _ _ _ a49 => EC.as (ds' := [some (D.ref pc), some a1, some a21.1, some a21.2.1, some a21.2.2.1, some a21.2.2.2, some d23, some d35, some s44, some a45, none, none, none, none, some a49]) ec_nil) (fun _ _ _ _ _ a49 => EV.as (ds' := [some (D.ref pc), some a1, some a21.1, some a21.2.1, some a21.2.2.1, some a21.2.2.2, some d23, some d35, some s44, some a45, none, none, none, none, some a49]) (ev_index (EV.w (ev_name (i := 7) rfl rfl (.inr (.inl rfl)))) (ev_name (i := 14) rfl rfl (.inl rfl)))))))) ea_nil)))) (fun d46 => (SB.as (ds' := [some (D.ref pc), some a1, some a21.1, some a21.2.1, some a21.2.2.1, some a21.2.2.2, some d23, some d35, some d46, some a45, none, none, none, none, none]) (m' := [(pc, .l u33)]) (sb_end ⟨rfl, rfl⟩ (Fgt.keep (Fgt.keep (Fgt.keep (Fgt.keep (Fgt.keep (Fgt.keep (Fgt.keep (Fgt.keep (Fgt.keep (Fgt.drop (Fgt.keep (Fgt.keep (Fgt.keep (Fgt.keep (Fgt.keep Fgt.nil))))))))))))))) (List.Sublist.cons₂ _ List.Sublist.slnil)))) rfl (.inl rfl))))) (fun s57 => (fnxE (SB.as (ds' := [some (D.ref pc), some a1, some a21.1, some a21.2.1, some a21.2.2.1, some a21.2.2.2, some d23, some d35, some s57, none, none, none, none, none, none]) (m' := [(pc, .l u33)]) (sb_asg 10 sc__law_near.nd (ELp.ev (el_callB (cr_sortB (hu65 hr)) cl_sortA G.sorted b_sorted (EV.w (ELp.ev (el_lc (own := [("_law_spot", 9)]) rfl sc__law_near.nd (ei_any (ev_name (i := 5) rfl rfl (.inl rfl))) (blkOk_by (N := N__law_near) (sc := defScope s__law_near) (by decide +kernel)) (fun _ _ _ _ _ => (pg_name sc__law_near.nd rfl (.inl rfl))) (tgd_name 9) (fun _ _ _ _ _ a59 => EC.as (ds' := [some (D.ref pc), some a1, some a21.1, some a21.2.1, some a21.2.2.1, some a21.2.2.2, some d23, some d35, some s57, some a59, none, none, none, none, none]) ec_nil) (fun _ _ _ _ _ a59 => EV.as (ds' := [some (D.ref pc), some a1, some a21.1, some a21.2.1, some a21.2.2.1, some a21.2.2.2, some d23, some d35, some s57, some a59, none, none, none, none, none]) (ev_index (EV.w (ev_name (i := 7) rfl rfl (.inr (.inl rfl)))) (ev_name (i := 9) rfl rfl (.inl rfl))))))))) (fun d58 => (SB.as (ds' := [some (D.ref pc), some a1, some a21.1, some a21.2.1, some a21.2.2.1, some a21.2.2.2, some d23, some d35, some s57, none, some d58, none, none, none, none]) (m' := [(pc, .l u33)]) (sb_ret (fun d63 => (d63, u33)) (ev_tup (ea_cons (ev_name (i := 2) rfl rfl (.inl rfl)) (ea_cons (ev_name (i := 3) rfl rfl (.inl rfl)) (ea_cons (ev_name (i := 8) rfl rfl (.inl rfl)) (ea_cons (ev_callTy call_tuple_of cd_tuple G.tuple b_tuple (EV.w (ev_name (i := 10) rfl rfl (.inl rfl)))) ea_nil))))) (fun _ => rfl) (fun _ => .cons₂ _ (List.nil_sublist _))))) rfl (.inl rfl)))))))) rfl (.inl rfl)))) rfl (.inr rfl)))) (fun u33 => (SB.as (ds' := [some (D.ref pc), some a1, some a21.1, some a21.2.1, some a21.2.2.1, some a21.2.2.2, some d23, none, none, none, none, none, none, none, none]) (m' := [(pc, .l u33)]) (sb_par2Xk (M := (fun u : List D => [(pc, .l u)])) (t := u33) 9 11 rfl sc__law_near.nd (ea_consX (ex_callCX (ps := ["_law_source_here", "_law_many"]) (rf := fun c => ar1 (M__law_draw c)) F__law_draw (c__law_draw.at_ hr) (arC fun c => ar1_ub (M__law_draw c)) (ev_name (i := 0) rfl rfl (.inl rfl)) (EAp.x (ea_cons (ev_name (i := 6) rfl rfl (.inl rfl)) ea_nil))) (fs := fun u79 => ((((R.ok (D.int 1)).map fun d80 => (d80, u79)).bind fun p86 => ((((R.ok a21.2.1).bind fun x82 => (R.ok []).bind fun x83 => R.ok (x82 :: x83)).map fun d84 => (d84, p86.2)).bind fun z85 => ar1 (M__law_draw z85.2) z85.1).bind fun q87 => (D.add p86.1 q87.1).map fun d88 => (d88, q87.2)).bind fun z91 => ((R.ok []).map fun d90 => (d90, z91.2)).bind fun q92 => R.ok (z91.1 :: q92.1, q92.2))) (fun u79 => (ea_consX (ex_bin op_addD opd_add (EV.x ev_int) (fb := fun u81 => ((((R.ok a21.2.1).bind fun x82 => (R.ok []).bind fun x83 => R.ok (x82 :: x83)).map fun d84 => (d84, u81)).bind fun z85 => ar1 (M__law_draw z85.2) z85.1)) (fun u81 => (EXt.w' (ex_callCX (ps := ["_law_source_here", "_law_many"]) (rf := fun c => ar1 (M__law_draw c)) F__law_draw (c__law_draw.at_ hr) (arC fun c => ar1_ub (M__law_draw c)) (ev_name (i := 0) rfl rfl (.inl rfl)) (EAp.x (ea_cons (ev_name (i := 3) rfl rfl (.inl rfl)) ea_nil)))))) (fs := fun u89 => ((R.ok []).map fun d90 => (d90, u89))) (fun u89 => (EAp.x ea_nil))))) (fun d73 d74 u95 => (SB.as (ds' := [some (D.ref pc), some a1, some a21.1, some a21.2.1, some a21.2.2.1, some a21.2.2.2, some d23, none, none, some d73, none, some d74, none, none, none]) (m' := [(pc, .l u95)]) (sb_asg 12 sc__law_near.nd (ev_ixA (hu1 hr) ix_seq (EV.w (ev_name (i := 4) rfl rfl (.inl rfl))) (EV.w (ev_name (i := 9) rfl rfl (.inl rfl)))) (fun d96 => (SB.as (ds' := [some (D.ref pc), some a1, some a21.1, some a21.2.1, some a21.2.2.1, some a21.2.2.2, some d23, none, none, some d73, none, some d74, some d96, none, none]) (m' := [(pc, .l u95)]) (sb_asgX (M := (fun u : List D => [(pc, .l u)])) (t := u95) 13 sc__law_near.nd (ex_bin op_addD opd_add (ex_bin op_addD opd_add (EV.x (ev_sl (EV.w (ev_name (i := 12) rfl rfl (.inl rfl))) ep_none (ep_some (ev_name (i := 11) rfl rfl (.inl rfl))))) (fb := fun u104 => ((((((R.ok d23).bind fun x105 => (R.ok []).bind fun x106 => R.ok (x105 :: x106)).map fun d107 => (d107, u104)).bind fun z108 => ar1 (M__law_draw z108.2) z108.1).bind fun z111 => ((R.ok []).map fun d110 => (d110, z111.2)).bind fun q112 => R.ok (z111.1 :: q112.1, q112.2)).bind fun z113 => (D.mkT z113.1).map fun d114 => (d114, z113.2))) (fun u104 => (EXt.w' (ex_tup (ea_consX (ex_callCX (ps := ["_law_source_here", "_law_many"]) (rf := fun c => ar1 (M__law_draw c)) F__law_draw (c__law_draw.at_ hr) (arC fun c => ar1_ub (M__law_draw c)) (ev_name (i := 0) rfl rfl (.inl rfl)) (EAp.x (ea_cons (ev_name (i := 6) rfl rfl (.inl rfl)) ea_nil))) (fs := fun u109 => ((R.ok []).map fun d110 => (d110, u109))) (fun u109 => (EAp.x ea_nil))))))) (fb := fun u118 => (((R.ok d96).bind fun x121 => (((R.ok d74).bind fun x119 => (R.ok (D.int 1)).bind fun x120 => D.add x119 x120).bind D.part).bind fun l122 => (R.ok none).bind fun h123 => D.sl x121 l122 h123).map fun d124 => (d124, u118))) (fun u118 => (EVw.x (EV.w (ev_sl (EV.w (ev_name (i := 12) rfl rfl (.inl rfl))) (ep_some (ev_bin op_addD opd_add (EV.w (ev_name (i := 11) rfl rfl (.inl rfl))) (EV.w ev_int))) ep_none))))) (fun d99 u128 => (SB.as (ds' := [some (D.ref pc), some a1, some a21.1, some a21.2.1, some a21.2.2.1, some a21.2.2.2, some d23, none, none, some d73, none, some d74, some d96, some d99, none]) (m' := [(pc, .l u128)]) (sb_ret (fun d130 => (d130, u128)) (ev_tup (ea_cons (ev_name (i := 2) rfl rfl (.inl rfl)) (ea_cons (ev_name (i := 3) rfl rfl (.inl rfl)) (ea_cons (ev_bin op_addD opd_add (EV.w (ev_bin op_addD opd_add (EV.w (ev_sl (EV.w (ev_name (i := 4) rfl rfl (.inl rfl))) ep_none (ep_some (ev_name (i := 9) rfl rfl (.inl rfl))))) (EV.w (ev_tup (ea_cons (ev_name (i := 13) rfl rfl (.inl rfl)) ea_nil))))) (EV.w (ev_sl (EV.w (ev_name (i := 4) rfl rfl (.inl rfl))) (ep_some (ev_bin op_addD opd_add (EV.w (ev_name (i := 9) rfl rfl (.inl rfl))) (EV.w ev_int))) ep_none))) (ea_cons (ev_name (i := 5) rfl rfl (.inl rfl)) ea_nil))))) (fun _ => rfl) (fun _ => .cons₂ _ (List.nil_sublist _))))) rfl (.inl rfl)))) rfl (.inl rfl)))))))))) rfl (.inl rfl))))))
end K08
namespace K08
open PySem PySem.Spec PyProof.Rows L2 DL
open DL (D R)
noncomputable def M_is_good_rule (a0 : D) : R D := R.bind (α := Fl Unit Empty D) (((((((R.ok a0).bind fun x25 => ((R.ok (D.int 4)).bind fun x23 => ((R.ok (D.int 4)).bind fun x21 => (R.ok []).bind fun x22 => R.ok (x21 :: x22)).bind fun x24 => R.ok (x23 :: x24)).bind fun x26 => R.ok (x25 :: x26)).bind (ar3 M_is_tuple)).bind D.asB).map fun b => !b).bind fun k35 => if k35 then R.ok true else ((((((R.ok a0).bind fun x27 => (R.ok (D.int 0)).bind fun x28 => D.ixA x27 x28).bind fun x33 => ((R.ok (D.int 2)).bind fun x31 => ((R.ok (D.int 4)).bind fun x29 => (R.ok []).bind fun x30 => R.ok (x29 :: x30)).bind fun x32 => R.ok (x31 :: x32)).bind fun x34 => R.ok (x33 :: x34)).bind (ar3 M_is_number)).bind D.asB).map fun b => !b)).bind fun k36 => if k36 then (((R.ok (D.bl false)).bind fun d37 => R.ok (Fl.rt d37))).map Fl.up else (((((((R.ok a0).bind fun x38 => (R.ok (D.int 1)).bind fun x39 => D.ixA x38 x39).bind fun x52 => ((((R.ok a0).bind fun x40 => (R.ok (D.int 0)).bind fun x41 => D.ixA x40 x41).bind fun x42 => (R.ok (D.int 1)).bind fun x43 => D.sub x42 x43).bind fun x50 => ((((R.ok a0).bind fun x44 => (R.ok (D.int 0)).bind fun x45 => D.ixA x44 x45).bind fun x46 => (R.ok (D.int 1)).bind fun x47 => D.add x46 x47).bind fun x48 => (R.ok []).bind fun x49 => R.ok (x48 :: x49)).bind fun x51 => R.ok (x50 :: x51)).bind fun x53 => R.ok (x52 :: x53)).bind (ar3 M_is_number)).bind D.asB).map fun b => !b).bind fun k54 => if k54 then (((R.ok (D.bl false)).bind fun d55 => R.ok (Fl.rt d55))).map Fl.up else ((R.ok a0).bind fun d57 => ((unT4 unN unN unN unN) d57).bind fun (a56 : (D × D × D × D)) => (((((((R.ok a56.2.2.1).bind fun x62 => ((R.ok (D.int 1)).bind fun x60 => ((R.ok (D.int 5)).bind fun x58 => (R.ok []).bind fun x59 => R.ok (x58 :: x59)).bind fun x61 => R.ok (x60 :: x61)).bind fun x63 => R.ok (x62 :: x63)).bind (ar3 M_is_tuple)).bind D.asB).map fun b => !b).bind fun k73 => if k73 then R.ok true else (((((((R.ok a56.2.2.1).bind D.itemsA).bind (lcR unN (fun (a64 : D) => (R.ok true)) (fun (a64 : D) => (((R.ok a64).bind fun x71 => (((R.ok a56.2.1).bind fun x65 => (R.ok (D.int 1)).bind fun x66 => D.add x65 x66).bind fun x69 => (((R.ok a56.2.2.1).bind D.len).bind fun x67 => (R.ok []).bind fun x68 => R.ok (x67 :: x68)).bind fun x70 => R.ok (x69 :: x70)).bind fun x72 => R.ok (x71 :: x72)).bind (ar3 M_are_spots))))).map D.lst).bind D.all).bind D.asB).map fun b => !b)).bind fun k74 => if k74 then (((R.ok (D.bl false)).bind fun d75 => R.ok (Fl.rt d75))).map Fl.up else (((((((R.ok a56.2.2.2).bind fun x80 => ((R.ok (D.int 0)).bind fun x78 => (((R.ok a56.2.2.1).bind D.len).bind fun x76 => (R.ok []).bind fun x77 => R.ok (x76 :: x77)).bind fun x79 => R.ok (x78 :: x79)).bind fun x81 => R.ok (x80 :: x81)).bind (ar3 M_is_tuple)).bind D.asB).map fun b => !b).bind fun k91 => if k91 then R.ok true else ((((((R.ok a56.2.2.2).bind fun x86 => (((R.ok a56.2.2.2).bind D.len).bind fun x84 => (((R.ok a56.2.2.1).bind D.len).bind fun x82 => (R.ok []).bind fun x83 => R.ok (x82 :: x83)).bind fun x85 => R.ok (x84 :: x85)).bind fun x87 => R.ok (x86 :: x87)).bind (ar3 M_are_spots)).bind D.asB).map fun b => !b).bind fun k90 => if k90 then R.ok true else (((((R.ok a56.2.2.2).bind fun x88 => (R.ok []).bind fun x89 => R.ok (x88 :: x89)).bind (ar1 M_are_ascending)).bind D.asB).map fun b => !b))).bind fun k92 => if k92 then (((R.ok (D.bl false)).bind fun d93 => R.ok (Fl.rt d93))).map Fl.up else ((((((R.ok a56.2.2.1).bind D.enum).bind (lcR (unT2 unN unN) (fun (a95 : (D × D)) => (R.ok true)) (fun (a95 : (D × D)) => ((((R.ok a95.2).bind fun x96 => (R.ok (D.int 0)).bind fun x97 => D.ixA x96 x97).bind fun x98 => (R.ok a56.2.2.2).bind fun x99 => (D.inA x98 x99)).bind fun x102 => ((R.ok a95.1).bind fun x100 => (R.ok a56.2.2.2).bind fun x101 => (D.inA x100 x101)).bind fun x103 => (D.eq x102 x103))))).map D.lst).bind D.all).bind fun d94 => R.ok (Fl.rt d94))))))) Fl.val
theorem ok_is_good_rule {P : Program} {w : World} {K : PySem.W.Frag} {mg : Str → Option Value} {base : Heap} {T : Tb} {f_is_good_rule : Addr} {fd_is_good_rule : FuncData} (G : Gd mg) (FF : L2.Fun K "is_good_rule" "is_good_rule" s_is_good_rule f_is_good_rule fd_is_good_rule) {f_is_number : Addr} {fd_is_number : FuncData} (F_is_number : FnP P w K mg base T 1 f_is_number fd_is_number ["value", "least", "most"] (ar3 M_is_number)) (c_is_number : Ca K mg "is_number" f_is_number fd_is_number ["value", "least", "most"]) {f_is_tuple : Addr} {fd_is_tuple : FuncData} (F_is_tuple : FnP P w K mg base T 1 f_is_tuple fd_is_tuple ["value", "least", "most"] (ar3 M_is_tuple)) (c_is_tuple : Ca K mg "is_tuple" f_is_tuple fd_is_tuple ["value", "least", "most"]) {f_are_spots : Addr} {fd_are_spots : FuncData} (F_are_spots : FnP P w K mg base T 2 f_are_spots fd_are_spots ["value", "size", "many"] (ar3 M_are_spots)) (c_are_spots : Ca K mg "are_spots" f_are_spots fd_are_spots ["value", "size", "many"]) {f_are_ascending : Addr} {fd_are_ascending : FuncData} (F_are_ascending : FnP P w K mg base T 1 f_are_ascending fd_are_ascending ["values"] (ar1 M_are_ascending)) (c_are_ascending : Ca K mg "are_ascending" f_are_ascending fd_are_ascending ["values"]) : FnP P w K mg base T 3 f_is_good_rule fd_is_good_rule ["value"] (ar1 M_is_good_rule) :=
  fn_body2 FF sc_is_good_rule (fun ds m r h => h.1) fun cdv A outer s H E hcd hr ds m r h => by
    obtain ⟨hl, rfl, rfl⟩ := h
    match ds, hl with
    | [a0], _ => exact fn_P (show SB T _ [some a0, none, none, none, none, none, none] [] _ (exP 7) _ from (sb_ifT (et_w (ew_or (et_not (et_ev (ev_call F_is_tuple (c_is_tuple.at_ hr) (ar3_ub _) (ea_cons (ev_name (i := 0) rfl rfl (.inl rfl)) (ea_cons ev_int (ea_cons ev_int ea_nil)))))) (ew_or1 (et_not (et_ev (ev_call F_is_number (c_is_number.at_ hr) (ar3_ub _) (ea_cons (ev_ixA (hu1 hr) ix_seq (EV.w (ev_name (i := 0) rfl rfl (.inl rfl))) (EV.w ev_int)) (ea_cons ev_int (ea_cons ev_int ea_nil))))))))) (sb_ret (fun d37 => d37) ev_bl (fun _ => rfl) (fun _ => List.nil_sublist _)) (sb_ifT (et_not (et_ev (ev_call F_is_number (c_is_number.at_ hr) (ar3_ub _) (ea_cons (ev_ixA (hu1 hr) ix_seq (EV.w (ev_name (i := 0) rfl rfl (.inl rfl))) (EV.w ev_int)) (ea_cons (ev_bin op_sub opd_sub (EV.w (ev_ixA (hu1 hr) ix_seq (EV.w (ev_name (i := 0) rfl rfl (.inl rfl))) (EV.w ev_int))) (EV.w ev_int)) (ea_cons (ev_bin op_addD opd_add (EV.w (ev_ixA (hu1 hr) ix_seq (EV.w (ev_name (i := 0) rfl rfl (.inl rfl))) (EV.w ev_int))) (EV.w ev_int)) ea_nil)))))) (sb_ret (fun d55 => d55) ev_bl (fun _ => rfl) (fun _ => List.nil_sublist _)) (sb_unp (ev_name (i := 0) rfl rfl (.inl rfl)) (pg_tup rfl (pgs_cons (pg_name sc_is_good_rule.nd rfl (.inl rfl)) (pgs_cons (pg_name sc_is_good_rule.nd rfl (.inr rfl)) (pgs_cons (pg_name sc_is_good_rule.nd rfl (.inr rfl)) (pgs_cons (pg_name sc_is_good_rule.nd rfl (.inr rfl)) pgs_nil))))) (tgd_tup4 (tgd_name 1) (tgd_name 2) (tgd_name 3) (tgd_name 4)) (fun a56 => (SB.as (ds' := [some a0, some a56.1, some a56.2.1, some a56.2.2.1, some a56.2.2.2, none, none]) (m' := []) (sb_ifT (et_w (ew_or (et_not (et_ev (ev_call F_is_tuple (c_is_tuple.at_ hr) (ar3_ub _) (ea_cons (ev_name (i := 3) rfl rfl (.inr (.inl rfl))) (ea_cons ev_int (ea_cons ev_int ea_nil)))))) (ew_or1 (et_not (et_ev (ev_callB (cr_all rfl) cd_all G.all b_all (EV.w (ELp.ev (el_lc (own := [("row", 6)]) rfl sc_is_good_rule.nd (ei_any (ev_name (i := 3) rfl rfl (.inr (.inl rfl)))) (blkOk_by (N := N_is_good_rule) (sc := defScope s_is_good_rule) (by decide +kernel)) (fun _ _ _ _ _ => (pg_name sc_is_good_rule.nd rfl (.inl rfl))) (tgd_name 6) (fun _ _ _ _ _ a64 => EC.as (ds' := [some a0, some a56.1, some a56.2.1, some a56.2.2.1, some a56.2.2.2, none, some a64]) ec_nil) (fun _ _ _ _ _ a64 => EV.as (ds' := [some a0, some a56.1, some a56.2.1, some a56.2.2.1, some a56.2.2.2, none, some a64]) (ev_call F_are_spots (c_are_spots.at_ hr) (ar3_ub _) (ea_cons (ev_name (i := 6) rfl rfl (.inl rfl)) (ea_cons (ev_bin op_addD opd_add (EV.w (ev_name (i := 2) rfl rfl (.inr (.inl rfl)))) (EV.w ev_int)) (ea_cons (ev_callB call_len cd_len G.len b_len (EV.w (ev_name (i := 3) rfl rfl (.inr (.inl rfl))))) ea_nil)))))))))))))) (sb_ret (fun d75 => d75) ev_bl (fun _ => rfl) (fun _ => List.nil_sublist _)) (sb_ifT (et_w (ew_or (et_not (et_ev (ev_call F_is_tuple (c_is_tuple.at_ hr) (ar3_ub _) (ea_cons (ev_name (i := 4) rfl rfl (.inr (.inl rfl))) (ea_cons ev_int (ea_cons (ev_callB call_len cd_len G.len b_len (EV.w (ev_name (i := 3) rfl rfl (.inr (.inl rfl))))) ea_nil)))))) (ew_or (et_not (et_ev (ev_call F_are_spots (c_are_spots.at_ hr) (ar3_ub _) (ea_cons (ev_name (i := 4) rfl rfl (.inr (.inl rfl))) (ea_cons (ev_callB call_len cd_len G.len b_len (EV.w (ev_name (i := 4) rfl rfl (.inr (.inl rfl))))) (ea_cons (ev_callB call_len cd_len G.len b_len (EV.w (ev_name (i := 3) rfl rfl (.inr (.inl rfl))))) ea_nil)))))) (ew_or1 (et_not (et_ev (ev_call F_are_ascending (c_are_ascending.at_ hr) (ar1_ub _) (ea_cons (ev_name (i := 4) rfl rfl (.inr (.inl rfl))) ea_nil)))))))) (sb_ret (fun d93 => d93) ev_bl (fun _ => rfl) (fun _ => List.nil_sublist _)) (sb_ret (fun d94 => d94) (ev_callB (cr_all rfl) cd_all G.all b_all (EV.w (ELp.ev (el_lc (own := [("spot", 5), ("row", 6)]) rfl sc_is_good_rule.nd (ei_enum G.enumerate (ev_name (i := 3) rfl rfl (.inr (.inl rfl)))) (blkOk_by (N := N_is_good_rule) (sc := defScope s_is_good_rule) (by decide +kernel)) (fun _ _ _ _ _ => (pg_tup rfl (pgs_cons (pg_name sc_is_good_rule.nd rfl (.inl rfl)) (pgs_cons (pg_name sc_is_good_rule.nd rfl (.inl rfl)) pgs_nil)))) (tgd_tup2 (tgd_name 5) (tgd_name 6)) (fun _ _ _ _ _ a95 => EC.as (ds' := [some a0, some a56.1, some a56.2.1, some a56.2.2.1, some a56.2.2.2, some a95.1, some a95.2]) ec_nil) (fun _ _ _ _ _ a95 => EV.as (ds' := [some a0, some a56.1, some a56.2.1, some a56.2.2.1, some a56.2.2.2, some a95.1, some a95.2]) (ev_cmp (op_eqD (hu64 hr)) opd_eq (EV.w (ev_in (hu65 hr) (EV.w (ev_ixA (hu1 hr) ix_seq (EV.w (ev_name (i := 6) rfl rfl (.inl rfl))) (EV.w ev_int))) (EV.w (ev_name (i := 4) rfl rfl (.inr (.inl rfl)))))) (EV.w (ev_in (hu65 hr) (EV.w (ev_name (i := 5) rfl rfl (.inl rfl))) (EV.w (ev_name (i := 4) rfl rfl (.inr (.inl rfl)))))))))))) (fun _ => rfl) (fun _ => List.nil_sublist _))))))))))
end K08
namespace K08
open PySem PySem.Spec PyProof.Rows L2 DL
open DL (D R)
noncomputable def M__law_rule (c0 : List D) (a1 : D) : R (D × List D) := R.bind (α := Fl (List D) Empty (D × List D)) ((((((R.ok (D.int 5)).bind fun x21 => (R.ok []).bind fun x22 => R.ok (x21 :: x22)).map fun d23 => (d23, c0)).bind fun z24 => ar1 (M__law_draw z24.2) z24.1).bind fun p27 => ((R.ok (D.int 0)).map fun d26 => (d26, p27.2)).bind fun q28 => (D.eq p27.1 q28.1).bind fun d29 => d29.asB.map fun k => (k, q28.2)).bind fun k31 => iteX k31 (fun u30 => ((((((ar0 M__law_known []).bind fun x33 => (R.ok []).bind fun x34 => R.ok (x33 :: x34)).map fun d35 => (d35, u30)).bind fun z36 => ar1 (M__law_of z36.2) z36.1).bind fun z37 => R.ok (Fl.rt (z37.1, z37.2)))).map Fl.up) (fun u30 => ((((((((R.ok (D.int 2)).bind fun x45 => ((R.ok (D.int 2)).bind fun x43 => ((R.ok (D.int 2)).bind fun x41 => ((R.ok (D.int 3)).bind fun x39 => (R.ok []).bind fun x40 => R.ok (x39 :: x40)).bind fun x42 => R.ok (x41 :: x42)).bind fun x44 => R.ok (x43 :: x44)).bind fun x46 => R.ok (x45 :: x46)).bind D.mkL).map D.lst).bind fun x47 => (R.ok []).bind fun x48 => R.ok (x47 :: x48)).map fun d49 => (d49, u30)).bind fun z50 => ar1 (M__law_of z50.2) z50.1).bind fun z52 => (((((R.ok z52.1).bind fun x54 => (R.ok (D.int 1)).bind fun x55 => D.sub x54 x55).map fun d56 => (d56, z52.2)).bind fun p70 => (((((((R.ok (D.int 0)).bind fun x64 => ((R.ok (D.int 1)).bind fun x62 => ((R.ok (D.int 1)).bind fun x60 => ((R.ok (D.int 2)).bind fun x58 => (R.ok []).bind fun x59 => R.ok (x58 :: x59)).bind fun x61 => R.ok (x60 :: x61)).bind fun x63 => R.ok (x62 :: x63)).bind fun x65 => R.ok (x64 :: x65)).bind D.mkL).map D.lst).bind fun x66 => (R.ok []).bind fun x67 => R.ok (x66 :: x67)).map fun d68 => (d68, p70.2)).bind fun z69 => ar1 (M__law_of z69.2) z69.1).bind fun q71 => (D.add p70.1 q71.1).map fun d72 => (d72, q71.2)).bind fun z74 => ((((R.ok (D.int 1)).map fun d76 => (d76, z74.2)).bind fun p82 => ((((R.ok a1).bind fun x78 => (R.ok []).bind fun x79 => R.ok (x78 :: x79)).map fun d80 => (d80, p82.2)).bind fun z81 => ar1 (M__law_draw z81.2) z81.1).bind fun q83 => (D.add p82.1 q83.1).map fun d84 => (d84, q83.2)).bind fun z86 => (((R.ok z86.1).bind D.range1).bind fun xs186 => (forL unN (fun (s91 : List D × List (List D)) (a92 : D) => ((((((R.ok z74.1).bind fun x101 => (R.ok (D.int 1)).bind fun x102 => D.add x101 x102).bind D.range1).map fun d103 => (d103, s91.1)).bind fun z110 => lcRX unN (fun (a104 : D) (u105 : List D) => (R.ok (true, u105))) (fun (a104 : D) (u105 : List D) => ((((R.ok z86.1).bind fun x106 => (R.ok []).bind fun x107 => R.ok (x106 :: x107)).map fun d108 => (d108, u105)).bind fun z109 => ar1 (M__law_draw z109.2) z109.1)) z110.1 z110.2).bind fun z99 => (apLL s91.2 z99).bind fun z100 => (R.ok (Fl.nx (z100.2, z100.1))))) xs186 (z86.2, [])).bind (Fl.after fun (s111 : List D × List (List D)) => ((((((R.ok z86.1).bind D.range1).map fun d115 => (d115, s111.1)).bind fun z128 => lcRX unN (fun (a116 : D) (u117 : List D) => (((((R.ok (D.int 4)).bind fun x118 => (R.ok []).bind fun x119 => R.ok (x118 :: x119)).map fun d120 => (d120, u117)).bind fun z121 => ar1 (M__law_draw z121.2) z121.1).bind fun p124 => ((R.ok (D.int 0)).map fun d123 => (d123, p124.2)).bind fun q125 => (D.gt p124.1 q125.1).bind fun d126 => d126.asB.map fun k => (k, q125.2))) (fun (a116 : D) (u117 : List D) => ((R.ok a116).map fun d127 => (d127, u117))) z128.1 z128.2).map fun z129 => (D.lst z129.1, z129.2)).bind fun z131 => (((R.ok z86.1).bind D.range1).bind fun xs185 => (forL unN (fun (s135 : List D × List (List D)) (a136 : D) => (((R.ok a136).bind fun x140 => (R.ok z131.1).bind fun x141 => (D.inA x140 x141)).bind fun d139 => ((((R.ok z86.1).bind D.range1).bind (lcR unN (fun (a144 : D) => (((R.ok a144).bind fun x145 => (R.ok z131.1).bind fun x146 => (D.inA x145 x146)).bind fun x147 => (R.ok d139).bind fun x148 => (D.eq x147 x148).bind D.asB)) (fun (a144 : D) => (R.ok a144)))).bind fun v143 => ((((((R.ok a136).bind (D.ixLL s135.2)).bind fun x155 => (R.ok (D.int 0)).bind fun x156 => D.ixA x155 x156).bind fun x157 => (R.ok (D.lst v143)).bind fun x158 => (D.notInA x157 x158).bind D.asB).bind fun k159 => if k159 then (((((R.ok (D.lst v143)).bind fun x168 => (R.ok []).bind fun x169 => R.ok (x168 :: x169)).map fun d170 => (d170, s135.1)).bind fun z171 => ar1 (M__law_of z171.2) z171.1).bind fun z166 => (setLLX s135.2 (fun u160 => (R.ok a136)) (fun u161 => (R.ok (D.int 0))) z166).bind fun z167 => (R.ok (Fl.nx (z167.2, z167.1)))) else (R.ok (Fl.nx (s135.1, s135.2)))).bind (Fl.next fun (s152 : List D × List (List D)) => (R.ok (Fl.nx (s152.1, s152.2)))))))) xs185 (z131.2, s111.2)).bind (Fl.after fun (s172 : List D × List (List D)) => ((((R.ok z52.1).bind fun x183 => ((R.ok z74.1).bind fun x181 => ((((((R.ok (D.lst (s172.2.map D.lst))).bind D.itemsA).bind (lcR unN (fun (a176 : D) => (R.ok true)) (fun (a176 : D) => ((R.ok a176).bind D.toTup)))).map D.lst).bind D.toTup).bind fun x179 => (((R.ok z131.1).bind D.toTup).bind fun x177 => (R.ok []).bind fun x178 => R.ok (x177 :: x178)).bind fun x180 => R.ok (x179 :: x180)).bind fun x182 => R.ok (x181 :: x182)).bind fun x184 => R.ok (x183 :: x184)).bind D.mkT).bind fun d175 => R.ok (Fl.rt (d175, s172.1))))))))))))) Fl.valC
theorem ok__law_rule {P : Program} {w : World} {K : PySem.W.Frag} {mg : Str → Option Value} {base : Heap} {T : Tb} {f__law_rule : Addr} {fd__law_rule : FuncData} (G : Gd mg) (FF : L2.Fun K "_law_rule" "_law_rule" s__law_rule f__law_rule fd__law_rule) {f__law_draw : Addr} {fd__law_draw : FuncData} (F__law_draw : FnC P w K mg base T 1 f__law_draw fd__law_draw ["_law_source_here", "_law_many"] (fun c => ar1 (M__law_draw c))) (c__law_draw : Ca K mg "_law_draw" f__law_draw fd__law_draw ["_law_source_here", "_law_many"]) {f__law_of : Addr} {fd__law_of : FuncData} (F__law_of : FnC P w K mg base T 2 f__law_of fd__law_of ["_law_source_here", "_law_items"] (fun c => ar1 (M__law_of c))) (c__law_of : Ca K mg "_law_of" f__law_of fd__law_of ["_law_source_here", "_law_items"]) {f__law_known : Addr} {fd__law_known : FuncData} (F__law_known : FnP P w K mg base T 1 f__law_known fd__law_known [] (ar0 M__law_known)) (c__law_known : Ca K mg "_law_known" f__law_known fd__law_known []) : FnC P w K mg base T 3 f__law_rule fd__law_rule ["_law_source_here", "_law_most"] (fun c => ar1 (M__law_rule c)) :=
  fn_body2 FF sc__law_rule (fun ds m r h => by
    obtain ⟨pc, c0, rest, rfl, hl, rfl, rfl⟩ := h
    exact hl) fun cdv A outer s H E hcd hr ds m r h => by
    obtain ⟨pc, c0, rest, rfl, hl, rfl, rfl⟩ := h
    match rest, hl with
    | [a1], _ => exact fn_C (show SB T _ [some (D.ref pc), some a1, none, none, none, none, none, none, none, none, none, none, none] [(pc, .l c0)] _ (exC 13 pc) _ from (sb_ifTXk (M := (fun u : List D => [(pc, .l u)])) (t := c0) (et_cmpX (op_eqD (hu64 hr)) opd_eq (ex_callCX (ps := ["_law_source_here", "_law_many"]) (rf := fun c => ar1 (M__law_draw c)) F__law_draw (c__law_draw.at_ hr) (arC fun c => ar1_ub (M__law_draw c)) (ev_name (i := 0) rfl rfl (.inr (.inl rfl))) (EAp.x (ea_cons ev_int ea_nil))) (fb := fun u25 => ((R.ok (D.int 0)).map fun d26 => (d26, u25))) (fun u25 => (EVw.x (EV.w ev_int)))) (fun u30 => (SB.as (ds' := [some (D.ref pc), some a1, none, none, none, none, none, none, none, none, none, none, none]) (m' := [(pc, .l u30)]) (sb_retX (M := (fun u : List D => [(pc, .l u)])) (t := u30) (fun d u => (d, u)) (ex_callCX (ps := ["_law_source_here", "_law_items"]) (rf := fun c => ar1 (M__law_of c)) F__law_of (c__law_of.at_ hr) (arC fun c => ar1_ub (M__law_of c)) (ev_name (i := 0) rfl rfl (.inr (.inl rfl))) (EAp.x (ea_cons (ev_call0 F__law_known (c__law_known.at_ hr) (ar0_ub _)) ea_nil))) (fun _ _ => rfl) (fun _ _ => .cons₂ _ (List.nil_sublist _))))) (fun u30 => (SB.as (ds' := [some (D.ref pc), some a1, none, none, none, none, none, none, none, none, none, none, none]) (m' := [(pc, .l u30)]) (sb_asgX (M := (fun u : List D => [(pc, .l u)])) (t := u30) 2 sc__law_rule.nd (ex_callCX (ps := ["_law_source_here", "_law_items"]) (rf := fun c => ar1 (M__law_of c)) F__law_of (c__law_of.at_ hr) (arC fun c => ar1_ub (M__law_of c)) (ev_name (i := 0) rfl rfl (.inr (.inl rfl))) (EAp.x (ea_cons (ELp.ev (el_lst (ea_cons ev_int (ea_cons ev_int (ea_cons ev_int (ea_cons ev_int ea_nil)))))) ea_nil))) (fun d38 u51 => (SB.as (ds' := [some (D.ref pc), some a1, some d38, none, none, none, none, none, none, none, none, none, none]) (m' := [(pc, .l u51)]) (sb_asgX (M := (fun u : List D => [(pc, .l u)])) (t := u51) 3 sc__law_rule.nd (ex_bin op_addD opd_add (EV.x (ev_bin op_sub opd_sub (EV.w (ev_name (i := 2) rfl rfl (.inl rfl))) (EV.w ev_int))) (fb := fun u57 => (((((((R.ok (D.int 0)).bind fun x64 => ((R.ok (D.int 1)).bind fun x62 => ((R.ok (D.int 1)).bind fun x60 => ((R.ok (D.int 2)).bind fun x58 => (R.ok []).bind fun x59 => R.ok (x58 :: x59)).bind fun x61 => R.ok (x60 :: x61)).bind fun x63 => R.ok (x62 :: x63)).bind fun x65 => R.ok (x64 :: x65)).bind D.mkL).map D.lst).bind fun x66 => (R.ok []).bind fun x67 => R.ok (x66 :: x67)).map fun d68 => (d68, u57)).bind fun z69 => ar1 (M__law_of z69.2) z69.1)) (fun u57 => (EXt.w' (ex_callCX (ps := ["_law_source_here", "_law_items"]) (rf := fun c => ar1 (M__law_of c)) F__law_of (c__law_of.at_ hr) (arC fun c => ar1_ub (M__law_of c)) (ev_name (i := 0) rfl rfl (.inr (.inl rfl))) (EAp.x (ea_cons (ELp.ev (el_lst (ea_cons ev_int (ea_cons ev_int (ea_cons ev_int (ea_cons ev_int ea_nil)))))) ea_nil)))))) (fun d53 u73 => (SB.as (ds' := [some (D.ref pc), some a1, some d38, some d53, none, none, none, none, none, none, none, none, none]) (m' := [(pc, .l u73)]) (sb_asgX (M := (fun u : List D => [(pc, .l u)])) (t := u73) 4 sc__law_rule.nd (ex_bin op_addD opd_add (EV.x ev_int) (fb := fun u77 => ((((R.ok a1).bind fun x78 => (R.ok []).bind fun x79 => R.ok (x78 :: x79)).map fun d80 => (d80, u77)).bind fun z81 => ar1 (M__law_draw z81.2) z81.1)) (fun u77 => (EXt.w' (ex_callCX (ps := ["_law_source_here", "_law_many"]) (rf := fun c => ar1 (M__law_draw c)) F__law_draw (c__law_draw.at_ hr) (arC fun c => ar1_ub (M__law_draw c)) (ev_name (i := 0) rfl rfl (.inr (.inl rfl))) (EAp.x (ea_cons (ev_name (i := 1) rfl rfl (.inl rfl)) ea_nil)))))) (fun d75 u85 => (SB.as (ds' := [some (D.ref pc), some a1, some d38, some d53, some d75, none, none, none, none, none, none, none, none]) (m' := [(pc, .l u85)]) (sb_asgNil 5 sc__law_rule.nd (fun p87 => (SB.as (ds' := [some (D.ref pc), some a1, some d38, some d53, some d75, some (D.ref p87), none, none, none, none, none, none, none]) (m' := (llm [(pc, .l u85)] p87 [] [])) (sb_for (fnLL (fun (s88 : List D × List (List D)) => [some (D.ref pc), some a1, some d38, some d53, some d75, some (D.ref p87), none, none, none, none, none, none, none]) (fun (s88 : List D × List (List D)) => [(pc, .l s88.1)]) p87 (fun (s88 : List D × List (List D)) => s88.2)) (u85, []) (passes_of rfl) rfl (ei_range1 G.range (ev_name (i := 4) rfl rfl (.inr (.inl rfl)))) (pg_name sc__law_rule.nd rfl (.inl rfl)) (tgd_name 6) ⟨[], rfl, rfl, rfl⟩ (Fgt.keep (Fgt.keep (Fgt.keep (Fgt.keep (Fgt.keep (Fgt.keep (Fgt.keep (Fgt.keep (Fgt.keep (Fgt.keep (Fgt.keep (Fgt.keep (Fgt.keep Fgt.nil))))))))))))) (List.Sublist.refl _) (fun s91 a92 => (fnLLE fun as93 hl94 => (SB.as (ds' := [some (D.ref pc), some a1, some d38, some d53, some d75, some (D.ref p87), some a92, none, none, none, none, none, none]) (m' := (llm [(pc, .l s91.1)] p87 as93 s91.2)) (sb_appendLLk (t := s91.1) 5 (pl := p87) (as := as93) (xss := s91.2) (fun u => [(pc, .l u)]) hl94 rfl (el_lcX (own := [("_law_digit", 11)]) rfl sc__law_rule.nd (EI.x (ei_range1 G.range (ev_bin op_addD opd_add (EV.w (ev_name (i := 3) rfl rfl (.inl rfl))) (EV.w ev_int)))) (blkOk_by (N := N__law_rule) (sc := defScope s__law_rule) (by decide +kernel)) (fun _ _ _ _ _ => (pg_name sc__law_rule.nd rfl (.inl rfl))) (tgd_name 11) (fun _ _ _ _ _ a104 u105 => ECt.as (ds' := [some (D.ref pc), some a1, some d38, some d53, some d75, some (D.ref p87), some a92, none, none, none, none, some a104, none]) ect_nil) (fun _ _ _ _ _ a104 u105 => EXt.as (ds' := [some (D.ref pc), some a1, some d38, some d53, some d75, some (D.ref p87), some a92, none, none, none, none, some a104, none]) (ex_callCX (ps := ["_law_source_here", "_law_many"]) (rf := fun c => ar1 (M__law_draw c)) F__law_draw (c__law_draw.at_ hr) (arC fun c => ar1_ub (M__law_draw c)) (ev_name (i := 0) rfl rfl (.inr (.inl rfl))) (EAp.x (ea_cons (ev_name (i := 4) rfl rfl (.inr (.inl rfl))) ea_nil))))) (fun y95 u96 as97 hl98 => (SB.as (ds' := [some (D.ref pc), some a1, some d38, some d53, some d75, some (D.ref p87), some a92, none, none, none, none, none, none]) (m' := (llm [(pc, .l u96)] p87 as97 y95)) (sb_end ⟨as97, hl98, rfl, rfl⟩ (Fgt.keep (Fgt.keep (Fgt.keep (Fgt.keep (Fgt.keep (Fgt.keep (Fgt.drop (Fgt.keep (Fgt.keep (Fgt.keep (Fgt.keep (Fgt.keep (Fgt.keep Fgt.nil))))))))))))) (List.Sublist.refl _)))) (pe_bm PySem.F.plainAttrs_list PySem.F.slot_list_append PySem.F.type_list_append mt_append (pe_var rfl (.inl rfl)) (pa_cons (pe_wp _ _) pa_nil)))))) (fun s111 => (fnLLE fun as112 hl113 => (SB.as (ds' := [some (D.ref pc), some a1, some d38, some d53, some d75, some (D.ref p87), none, none, none, none, none, none, none]) (m' := (llm [(pc, .l s111.1)] p87 as112 s111.2)) (sb_asgX (M := (fun u : List D => (llm [(pc, .l u)] p87 as112 s111.2))) (t := s111.1) 7 sc__law_rule.nd (EL.ex (el_lcX (own := [("_law_spot", 6)]) rfl sc__law_rule.nd (EI.x (ei_range1 G.range (ev_name (i := 4) rfl rfl (.inr (.inl rfl))))) (blkOk_by (N := N__law_rule) (sc := defScope s__law_rule) (by decide +kernel)) (fun _ _ _ _ _ => (pg_name sc__law_rule.nd rfl (.inl rfl))) (tgd_name 6) (fun _ _ _ _ _ a116 u117 => ECt.as (ds' := [some (D.ref pc), some a1, some d38, some d53, some d75, some (D.ref p87), some a116, none, none, none, none, none, none]) (ect_one (et_cmpX op_gt opd_gt (ex_callCX (ps := ["_law_source_here", "_law_many"]) (rf := fun c => ar1 (M__law_draw c)) F__law_draw (c__law_draw.at_ hr) (arC fun c => ar1_ub (M__law_draw c)) (ev_name (i := 0) rfl rfl (.inr (.inl rfl))) (EAp.x (ea_cons ev_int ea_nil))) (fb := fun u122 => ((R.ok (D.int 0)).map fun d123 => (d123, u122))) (fun u122 => (EVw.x (EV.w ev_int)))))) (fun _ _ _ _ _ a116 u117 => EXt.as (ds' := [some (D.ref pc), some a1, some d38, some d53, some d75, some (D.ref p87), some a116, none, none, none, none, none, none]) (EV.x (ev_name (i := 6) rfl rfl (.inl rfl)))))) (fun d114 u130 => (SB.as (ds' := [some (D.ref pc), some a1, some d38, some d53, some d75, some (D.ref p87), none, some d114, none, none, none, none, none]) (m' := (llm [(pc, .l u130)] p87 as112 s111.2)) (sb_for (fnLL (fun (s132 : List D × List (List D)) => [some (D.ref pc), some a1, some d38, some d53, some d75, some (D.ref p87), none, some d114, none, none, none, none, none]) (fun (s132 : List D × List (List D)) => [(pc, .l s132.1)]) p87 (fun (s132 : List D × List (List D)) => s132.2)) (u130, s111.2) (passes_of rfl) rfl (ei_range1 G.range (ev_name (i := 4) rfl rfl (.inr (.inl rfl)))) (pg_name sc__law_rule.nd rfl (.inl rfl)) (tgd_name 6) ⟨as112, hl113, rfl, rfl⟩ (Fgt.keep (Fgt.keep (Fgt.keep (Fgt.keep (Fgt.keep (Fgt.keep (Fgt.keep (Fgt.keep (Fgt.keep (Fgt.keep (Fgt.keep (Fgt.keep (Fgt.keep Fgt.nil))))))))))))) (List.Sublist.refl _) (fun s135 a136 => (fnLLE fun as137 hl138 => (SB.as (ds' := [some (D.ref pc), some a1, some d38, some d53, some d75, some (D.ref p87), some a136, some d114, none, none, none, none, none]) (m' := (llm [(pc, .l s135.1)] p87 as137 s135.2)) (sb_asg 8 sc__law_rule.nd (ev_in (hu65 hr) (EV.w (ev_name (i := 6) rfl rfl (.inl rfl))) (EV.w (ev_name (i := 7) rfl rfl (.inr (.inl rfl))))) (fun d139 => (SB.as (ds' := [some (D.ref pc), some a1, some d38, some d53, some d75, some (D.ref p87), some a136, some d114, some d139, none, none, none, none]) (m' := (llm [(pc, .l s135.1)] p87 as137 s135.2)) (sb_setLc 9 (own := [("_law_there", 10)]) rfl sc__law_rule.nd (ei_range1 G.range (ev_name (i := 4) rfl rfl (.inr (.inl rfl)))) (blkOk_by (N := N__law_rule) (sc := defScope s__law_rule) (by decide +kernel)) (fun _ _ _ _ _ => (pg_name sc__law_rule.nd rfl (.inl rfl))) (tgd_name 10) (fun _ _ _ _ _ a144 => EC.as (ds' := [some (D.ref pc), some a1, some d38, some d53, some d75, some (D.ref p87), some a136, some d114, some d139, none, some a144, none, none]) (ec_one (et_cmp (op_eqD (hu64 hr)) opd_eq (EV.w (ev_in (hu65 hr) (EV.w (ev_name (i := 10) rfl rfl (.inl rfl))) (EV.w (ev_name (i := 7) rfl rfl (.inr (.inl rfl)))))) (EV.w (ev_name (i := 8) rfl rfl (.inr (.inl rfl))))))) (fun _ _ _ _ _ a144 => EV.as (ds' := [some (D.ref pc), some a1, some d38, some d53, some d75, some (D.ref p87), some a136, some d114, some d139, none, some a144, none, none]) (ev_name (i := 10) rfl rfl (.inl rfl))) (fun p142 v143 => (sb_freeze 9 (pl := p142) (xs := v143) (pre := (llm [(pc, .l s135.1)] p87 as137 s135.2)) (post := []) rfl (SB.as (ds' := [some (D.ref pc), some a1, some d38, some d53, some d75, some (D.ref p87), some a136, some d114, some d139, some (D.lst v143), none, none, none]) (m' := (llm [(pc, .l s135.1)] p87 as137 s135.2)) (sb_ifJ (fnLL (fun (s149 : List D × List (List D)) => [some (D.ref pc), some a1, some d38, some d53, some d75, some (D.ref p87), some a136, some d114, some d139, some (D.lst v143), none, none, none]) (fun (s149 : List D × List (List D)) => [(pc, .l s149.1)]) p87 (fun (s149 : List D × List (List D)) => s149.2)) (et_notIn (hu65 hr) (EV.w (ev_ixA (hu1 hr) ix_seq (ev_ixLL (ii := 5) hl138 ix_seq rfl (ev_name (i := 6) rfl rfl (.inl rfl)) rfl (.inl rfl)) (EV.w ev_int))) (EV.w (ev_name (i := 9) rfl rfl (.inl rfl)))) (sb_setLLk (t := s135.1) 5 (pl := p87) (as := as137) (xss := s135.2) (fun u => [(pc, .l u)]) (ri := fun u160 => (R.ok a136)) (rj := fun u161 => (R.ok (D.int 0))) hl138 ix_seq rfl (ex_callCX (ps := ["_law_source_here", "_law_items"]) (rf := fun c => ar1 (M__law_of c)) F__law_of (c__law_of.at_ hr) (arC fun c => ar1_ub (M__law_of c)) (ev_name (i := 0) rfl rfl (.inr (.inl rfl))) (EAp.x (ea_cons (ev_name (i := 9) rfl rfl (.inl rfl)) ea_nil))) (fun u160 => (ev_name (i := 6) rfl rfl (.inl rfl))) (fun u161 => ev_int) (fun y162 u163 as164 hl165 => (SB.as (ds' := [some (D.ref pc), some a1, some d38, some d53, some d75, some (D.ref p87), some a136, some d114, some d139, some (D.lst v143), none, none, none]) (m' := (llm [(pc, .l u163)] p87 as164 y162)) (sb_end ⟨as164, hl165, rfl, rfl⟩ (Fgt.keep (Fgt.keep (Fgt.keep (Fgt.keep (Fgt.keep (Fgt.keep (Fgt.keep (Fgt.keep (Fgt.keep (Fgt.keep (Fgt.keep (Fgt.keep (Fgt.keep Fgt.nil))))))))))))) (List.Sublist.refl _)))) (ps_asg (pe_wp _ _) (pg_sub (pe_wp _ _) (pe_wp _ _) set_list)) rfl (.inl rfl)) (sb_end ⟨as137, hl138, rfl, rfl⟩ (Fgt.keep (Fgt.keep (Fgt.keep (Fgt.keep (Fgt.keep (Fgt.keep (Fgt.keep (Fgt.keep (Fgt.keep (Fgt.keep (Fgt.keep (Fgt.keep (Fgt.keep Fgt.nil))))))))))))) (List.Sublist.refl _)) (fun s152 => (fnLLE fun as153 hl154 => (SB.as (ds' := [some (D.ref pc), some a1, some d38, some d53, some d75, some (D.ref p87), some a136, some d114, some d139, some (D.lst v143), none, none, none]) (m' := (llm [(pc, .l s152.1)] p87 as153 s152.2)) (sb_end ⟨as153, hl154, rfl, rfl⟩ (Fgt.keep (Fgt.keep (Fgt.keep (Fgt.keep (Fgt.keep (Fgt.keep (Fgt.drop (Fgt.keep (Fgt.drop (Fgt.drop (Fgt.keep (Fgt.keep (Fgt.keep Fgt.nil))))))))))))) (List.Sublist.refl _)))))))))))) rfl (.inr rfl))))) (fun s172 => (fnLLE fun as173 hl174 => (SB.as (ds' := [some (D.ref pc), some a1, some d38, some d53, some d75, some (D.ref p87), none, some d114, none, none, none, none, none]) (m' := (llm [(pc, .l s172.1)] p87 as173 s172.2)) (sb_freezeLL 5 (pl := p87) (as := as173) (xss := s172.2) (pre := [(pc, .l s172.1)]) hl174 rfl (SB.as (ds' := [some (D.ref pc), some a1, some d38, some d53, some d75, some (D.lst (s172.2.map D.lst)), none, some d114, none, none, none, none, none]) (m' := [(pc, .l s172.1)]) (sb_ret (fun d175 => (d175, s172.1)) (ev_tup (ea_cons (ev_name (i := 2) rfl rfl (.inl rfl)) (ea_cons (ev_name (i := 3) rfl rfl (.inl rfl)) (ea_cons (ev_callTy call_tuple_of cd_tuple G.tuple b_tuple (EV.w (ELp.ev (el_lc (own := [("_law_row", 12)]) rfl sc__law_rule.nd (ei_any (ev_name (i := 5) rfl rfl (.inl rfl))) (blkOk_by (N := N__law_rule) (sc := defScope s__law_rule) (by decide +kernel)) (fun _ _ _ _ _ => (pg_name sc__law_rule.nd rfl (.inl rfl))) (tgd_name 12) (fun _ _ _ _ _ a176 => EC.as (ds' := [some (D.ref pc), some a1, some d38, some d53, some d75, some (D.lst (s172.2.map D.lst)), none, some d114, none, none, none, none, some a176]) ec_nil) (fun _ _ _ _ _ a176 => EV.as (ds' := [some (D.ref pc), some a1, some d38, some d53, some d75, some (D.lst (s172.2.map D.lst)), none, some d114, none, none, none, none, some a176]) (ev_callTy call_tuple_of cd_tuple G.tuple b_tuple (EV.w (ev_name (i := 12) rfl rfl (.inl rfl))))))))) (ea_cons (ev_callTy call_tuple_of cd_tuple G.tuple b_tuple (EV.w (ev_name (i := 7) rfl rfl (.inr (.inl rfl))))) ea_nil))))) (fun _ => rfl) (fun _ => .cons₂ _ (List.nil_sublist _))))))))))) rfl (.inr rfl)))))))) rfl (.inl rfl)))) rfl (.inr rfl)))) rfl (.inl rfl)))) rfl (.inl rfl))))))
end K08
namespace K08
open PySem PySem.Spec PyProof.Rows L2 DL
open DL (D R)
noncomputable def M_need_rule (a0 : D) : R D := R.bind (α := Fl Unit Empty D) ((((((R.ok a0).bind fun x21 => (R.ok []).bind fun x22 => R.ok (x21 :: x22)).bind (ar1 M_is_good_rule)).bind D.asB).map fun b => !b).bind fun k23 => if k23 then ((R.err ⟨"InvalidRule", none⟩)).map Fl.up else (R.ok (Fl.nx ()))) Fl.val
theorem ok_need_rule {P : Program} {w : World} {K : PySem.W.Frag} {mg : Str → Option Value} {base : Heap} {T : Tb} {f_need_rule : Addr} {fd_need_rule : FuncData} (G : Gd mg) (FF : L2.Fun K "need_rule" "need_rule" s_need_rule f_need_rule fd_need_rule) {f_is_good_rule : Addr} {fd_is_good_rule : FuncData} (F_is_good_rule : FnP P w K mg base T 3 f_is_good_rule fd_is_good_rule ["value"] (ar1 M_is_good_rule)) (c_is_good_rule : Ca K mg "is_good_rule" f_is_good_rule fd_is_good_rule ["value"]) {C_InvalidRule : Addr} (Rz_InvalidRule : Rz K mg "InvalidRule" C_InvalidRule) : FnP P w K mg base T 4 f_need_rule fd_need_rule ["value"] (ar1 M_need_rule) :=
  fn_body2 FF sc_need_rule (fun ds m r h => h.1) fun cdv A outer s H E hcd hr ds m r h => by
    obtain ⟨hl, rfl, rfl⟩ := h
    match ds, hl with
    | [a0], _ => exact fn_P (show SB T _ [some a0] [] _ (exP 1) _ from (sb_ifT (et_not (et_ev (ev_call F_is_good_rule (c_is_good_rule.at_ hr) (ar1_ub _) (ea_cons (ev_name (i := 0) rfl rfl (.inl rfl)) ea_nil)))) (sb_raiseE rfl Rz_InvalidRule) (sb_end ⟨rfl, rfl⟩ (Fgt.drop Fgt.nil) List.Sublist.slnil)))
end K08
namespace K08
open PySem PySem.Spec PyProof.Rows L2 DL
open DL (D R)
noncomputable def M_need_both (a0 : D) (a1 : D) : R D := R.bind (α := Fl Unit Empty D) ((((R.ok a0).bind fun x21 => (R.ok []).bind fun x22 => R.ok (x21 :: x22)).bind (ar1 M_need_rule)).bind fun _ => ((((R.ok a1).bind fun x23 => (R.ok []).bind fun x24 => R.ok (x23 :: x24)).bind (ar1 M_need_rule)).bind fun _ => ((((R.ok a0).bind fun x25 => (R.ok none).bind fun l26 => ((R.ok (D.int 2)).bind D.part).bind fun h27 => D.sl x25 l26 h27).bind fun x31 => ((R.ok a1).bind fun x28 => (R.ok none).bind fun l29 => ((R.ok (D.int 2)).bind D.part).bind fun h30 => D.sl x28 l29 h30).bind fun x32 => (D.ne x31 x32).bind D.asB).bind fun k33 => if k33 then ((R.err ⟨"Unlike", none⟩)).map Fl.up else (R.ok (Fl.nx ()))))) Fl.val
theorem ok_need_both {P : Program} {w : World} {K : PySem.W.Frag} {mg : Str → Option Value} {base : Heap} {T : Tb} {f_need_both : Addr} {fd_need_both : FuncData} (G : Gd mg) (FF : L2.Fun K "need_both" "need_both" s_need_both f_need_both fd_need_both) {f_need_rule : Addr} {fd_need_rule : FuncData} (F_need_rule : FnP P w K mg base T 4 f_need_rule fd_need_rule ["value"] (ar1 M_need_rule)) (c_need_rule : Ca K mg "need_rule" f_need_rule fd_need_rule ["value"]) {C_Unlike : Addr} (Rz_Unlike : Rz K mg "Unlike" C_Unlike) : FnP P w K mg base T 5 f_need_both fd_need_both ["one", "other"] (ar2 M_need_both) :=
  fn_body2 FF sc_need_both (fun ds m r h => h.1) fun cdv A outer s H E hcd hr ds m r h => by
    obtain ⟨hl, rfl, rfl⟩ := h
    match ds, hl with
    | [a0, a1], _ => exact fn_P (show SB T _ [some a0, some a1] [] _ (exP 2) _ from (sb_expr (ev_call F_need_rule (c_need_rule.at_ hr) (ar1_ub _) (ea_cons (ev_name (i := 0) rfl rfl (.inl rfl)) ea_nil)) (sb_expr (ev_call F_need_rule (c_need_rule.at_ hr) (ar1_ub _) (ea_cons (ev_name (i := 1) rfl rfl (.inl rfl)) ea_nil)) (sb_ifT (et_cmp (op_neD (hu64 hr)) opd_ne (EV.w (ev_sl (EV.w (ev_name (i := 0) rfl rfl (.inl rfl))) ep_none (ep_some ev_int))) (EV.w (ev_sl (EV.w (ev_name (i := 1) rfl rfl (.inl rfl))) ep_none (ep_some ev_int)))) (sb_raiseE rfl Rz_Unlike) (sb_end ⟨rfl, rfl⟩ (Fgt.drop (Fgt.drop Fgt.nil)) List.Sublist.slnil)))))
end K08
namespace K08
open PySem PySem.Spec PyProof.Rows L2 DL
open DL (D R)
noncomputable def M_alike (a0 : D) (a1 : D) : R D := R.bind (α := Fl Unit Empty D) ((((R.ok a0).bind fun x23 => ((R.ok a1).bind fun x21 => (R.ok []).bind fun x22 => R.ok (x21 :: x22)).bind fun x24 => R.ok (x23 :: x24)).bind (ar2 M_need_both)).bind fun _ => (((((R.ok a0).bind fun x30 => ((R.ok a1).bind fun x28 => ((R.ok (D.clo lam_alike_0 [])).bind fun x26 => (R.ok []).bind fun x27 => R.ok (x26 :: x27)).bind fun x29 => R.ok (x28 :: x29)).bind fun x31 => R.ok (x30 :: x31)).bind (ar3 M_first_unlike)).bind fun x32 => (R.ok D.non).bind fun x33 => (D.isN x32 x33)).bind fun d25 => R.ok (Fl.rt d25))) Fl.val
theorem ok_alike {P : Program} {w : World} {K : PySem.W.Frag} {mg : Str → Option Value} {base : Heap} {T : Tb} {f_alike : Addr} {fd_alike : FuncData} (G : Gd mg) (FF : L2.Fun K "alike" "alike" s_alike f_alike fd_alike) {f_first_unlike : Addr} {fd_first_unlike : FuncData} (F_first_unlike : FnP P w K mg base T 2 f_first_unlike fd_first_unlike ["one", "other", "is_wanted"] (ar3 M_first_unlike)) (c_first_unlike : Ca K mg "first_unlike" f_first_unlike fd_first_unlike ["one", "other", "is_wanted"]) {f_need_both : Addr} {fd_need_both : FuncData} (F_need_both : FnP P w K mg base T 5 f_need_both fd_need_both ["one", "other"] (ar2 M_need_both)) (c_need_both : Ca K mg "need_both" f_need_both fd_need_both ["one", "other"]) (QE : Exs K mg errs sub) {cc PP : Addr} (TB_alike : LamX.TabB base mg cc PP) (hcode_alike : fd_alike.code = .ref cc) (hm_alike : (PP, ("alike" : Str) ++ ".<locals>." ++ "<lambda>") ∈ T) (hT_alike : ∀ p ∈ T, p.1 = PP → p.2 = ("alike" : Str) ++ ".<locals>." ++ "<lambda>") : FnP P w K mg base T 6 f_alike fd_alike ["one", "other"] (ar2 M_alike) :=
  fn_body2 FF sc_alike (fun ds m r h => h.1) fun cdv A outer s H E hcd hr ds m r h => by
    obtain ⟨hl, rfl, rfl⟩ := h
    match ds, hl with
    | [a0, a1], _ => exact fn_P (show SB T _ [some a0, some a1] [] _ (exP 2) _ from (sb_expr (ev_call F_need_both (c_need_both.at_ hr) (ar2_ub _) (ea_cons (ev_name (i := 0) rfl rfl (.inl rfl)) (ea_cons (ev_name (i := 1) rfl rfl (.inl rfl)) ea_nil))) (sb_ret (fun d25 => d25) (ev_cmp op_isN opd_isN (EV.w (ev_call F_first_unlike (c_first_unlike.at_ hr) (ar3_ub _) (ea_cons (ev_name (i := 0) rfl rfl (.inl rfl)) (ea_cons (ev_name (i := 1) rfl rfl (.inl rfl)) (ea_cons (ev_mklamN (q := ("alike" : Str) ++ ".<locals>.") (l := lam_alike_0) rfl TB_alike (hcd.symm.trans hcode_alike) hm_alike hT_alike (by decide +kernel)) ea_nil))))) (EV.w ev_non)) (fun _ => rfl) (fun _ => List.nil_sublist _))))
end K08
namespace K08
open PySem PySem.Spec PyProof.Rows L2 DL
open DL (D R)
noncomputable def M_within (a0 : D) (a1 : D) : R D := R.bind (α := Fl Unit Empty D) ((((R.ok a0).bind fun x23 => ((R.ok a1).bind fun x21 => (R.ok []).bind fun x22 => R.ok (x21 :: x22)).bind fun x24 => R.ok (x23 :: x24)).bind (ar2 M_need_both)).bind fun _ => (((((R.ok a0).bind fun x30 => ((R.ok a1).bind fun x28 => ((R.ok (D.clo lam_within_0 [])).bind fun x26 => (R.ok []).bind fun x27 => R.ok (x26 :: x27)).bind fun x29 => R.ok (x28 :: x29)).bind fun x31 => R.ok (x30 :: x31)).bind (ar3 M_first_unlike)).bind fun x32 => (R.ok D.non).bind fun x33 => (D.isN x32 x33)).bind fun d25 => R.ok (Fl.rt d25))) Fl.val
theorem ok_within {P : Program} {w : World} {K : PySem.W.Frag} {mg : Str → Option Value} {base : Heap} {T : Tb} {f_within : Addr} {fd_within : FuncData} (G : Gd mg) (FF : L2.Fun K "within" "within" s_within f_within fd_within) {f_first_unlike : Addr} {fd_first_unlike : FuncData} (F_first_unlike : FnP P w K mg base T 2 f_first_unlike fd_first_unlike ["one", "other", "is_wanted"] (ar3 M_first_unlike)) (c_first_unlike : Ca K mg "first_unlike" f_first_unlike fd_first_unlike ["one", "other", "is_wanted"]) {f_need_both : Addr} {fd_need_both : FuncData} (F_need_both : FnP P w K mg base T 5 f_need_both fd_need_both ["one", "other"] (ar2 M_need_both)) (c_need_both : Ca K mg "need_both" f_need_both fd_need_both ["one", "other"]) (QE : Exs K mg errs sub) {cc PP : Addr} (TB_within : LamX.TabB base mg cc PP) (hcode_within : fd_within.code = .ref cc) (hm_within : (PP, ("within" : Str) ++ ".<locals>." ++ "<lambda>") ∈ T) (hT_within : ∀ p ∈ T, p.1 = PP → p.2 = ("within" : Str) ++ ".<locals>." ++ "<lambda>") : FnP P w K mg base T 6 f_within fd_within ["one", "other"] (ar2 M_within) :=
  fn_body2 FF sc_within (fun ds m r h => h.1) fun cdv A outer s H E hcd hr ds m r h => by
    obtain ⟨hl, rfl, rfl⟩ := h
    match ds, hl with
    | [a0, a1], _ => exact fn_P (show SB T _ [some a0, some a1] [] _ (exP 2) _ from (sb_expr (ev_call F_need_both (c_need_both.at_ hr) (ar2_ub _) (ea_cons (ev_name (i := 0) rfl rfl (.inl rfl)) (ea_cons (ev_name (i := 1) rfl rfl (.inl rfl)) ea_nil))) (sb_ret (fun d25 => d25) (ev_cmp op_isN opd_isN (EV.w (ev_call F_first_unlike (c_first_unlike.at_ hr) (ar3_ub _) (ea_cons (ev_name (i := 0) rfl rfl (.inl rfl)) (ea_cons (ev_name (i := 1) rfl rfl (.inl rfl)) (ea_cons (ev_mklamN (q := ("within" : Str) ++ ".<locals>.") (l := lam_within_0) rfl TB_within (hcd.symm.trans hcode_within) hm_within hT_within (by decide +kernel)) ea_nil))))) (EV.w ev_non)) (fun _ => rfl) (fun _ => List.nil_sublist _))))
end K08
namespace K08
open PySem PySem.Spec PyProof.Rows L2 DL
open DL (D R)
noncomputable def M_parting (a0 : D) (a1 : D) : R D := R.bind (α := Fl Unit Empty D) ((((R.ok a0).bind fun x23 => ((R.ok a1).bind fun x21 => (R.ok []).bind fun x22 => R.ok (x21 :: x22)).bind fun x24 => R.ok (x23 :: x24)).bind (ar2 M_need_both)).bind fun _ => ((((R.ok a0).bind fun x30 => ((R.ok a1).bind fun x28 => ((R.ok (D.clo lam_parting_0 [])).bind fun x26 => (R.ok []).bind fun x27 => R.ok (x26 :: x27)).bind fun x29 => R.ok (x28 :: x29)).bind fun x31 => R.ok (x30 :: x31)).bind (ar3 M_first_unlike)).bind fun d25 => R.ok (Fl.rt d25))) Fl.val
theorem ok_parting {P : Program} {w : World} {K : PySem.W.Frag} {mg : Str → Option Value} {base : Heap} {T : Tb} {f_parting : Addr} {fd_parting : FuncData} (G : Gd mg) (FF : L2.Fun K "parting" "parting" s_parting f_parting fd_parting) {f_first_unlike : Addr} {fd_first_unlike : FuncData} (F_first_unlike : FnP P w K mg base T 2 f_first_unlike fd_first_unlike ["one", "other", "is_wanted"] (ar3 M_first_unlike)) (c_first_unlike : Ca K mg "first_unlike" f_first_unlike fd_first_unlike ["one", "other", "is_wanted"]) {f_need_both : Addr} {fd_need_both : FuncData} (F_need_both : FnP P w K mg base T 5 f_need_both fd_need_both ["one", "other"] (ar2 M_need_both)) (c_need_both : Ca K mg "need_both" f_need_both fd_need_both ["one", "other"]) (QE : Exs K mg errs sub) {cc PP : Addr} (TB_parting : LamX.TabB base mg cc PP) (hcode_parting : fd_parting.code = .ref cc) (hm_parting : (PP, ("parting" : Str) ++ ".<locals>." ++ "<lambda>") ∈ T) (hT_parting : ∀ p ∈ T, p.1 = PP → p.2 = ("parting" : Str) ++ ".<locals>." ++ "<lambda>") : FnP P w K mg base T 6 f_parting fd_parting ["one", "other"] (ar2 M_parting) :=
  fn_body2 FF sc_parting (fun ds m r h => h.1) fun cdv A outer s H E hcd hr ds m r h => by
    obtain ⟨hl, rfl, rfl⟩ := h
    match ds, hl with
    | [a0, a1], _ => exact fn_P (show SB T _ [some a0, some a1] [] _ (exP 2) _ from (sb_expr (ev_call F_need_both (c_need_both.at_ hr) (ar2_ub _) (ea_cons (ev_name (i := 0) rfl rfl (.inl rfl)) (ea_cons (ev_name (i := 1) rfl rfl (.inl rfl)) ea_nil))) (sb_ret (fun d25 => d25) (ev_call F_first_unlike (c_first_unlike.at_ hr) (ar3_ub _) (ea_cons (ev_name (i := 0) rfl rfl (.inl rfl)) (ea_cons (ev_name (i := 1) rfl rfl (.inl rfl)) (ea_cons (ev_mklamN (q := ("parting" : Str) ++ ".<locals>.") (l := lam_parting_0) rfl TB_parting (hcd.symm.trans hcode_parting) hm_parting hT_parting (by decide +kernel)) ea_nil)))) (fun _ => rfl) (fun _ => List.nil_sublist _))))
end K08
namespace K08
open PySem PySem.Spec PyProof.Rows L2 DL
open DL (D R)
noncomputable def M__law_right (a0 : D) (a1 : D) : R D := R.bind (α := Fl Unit Empty D) (((((R.ok a0).bind fun x27 => ((R.ok a1).bind fun x25 => ((R.ok (D.str "both")).bind fun x23 => (R.ok []).bind fun x24 => R.ok (x23 :: x24)).bind fun x26 => R.ok (x25 :: x26)).bind fun x28 => R.ok (x27 :: x28)).bind (ar3 M__law_first)).bind fun x37 => ((((R.ok a0).bind fun x33 => ((R.ok a1).bind fun x31 => ((R.ok (D.str "one")).bind fun x29 => (R.ok []).bind fun x30 => R.ok (x29 :: x30)).bind fun x32 => R.ok (x31 :: x32)).bind fun x34 => R.ok (x33 :: x34)).bind (ar3 M__law_first)).bind fun x35 => (R.ok []).bind fun x36 => R.ok (x35 :: x36)).bind fun x38 => R.ok (x37 :: x38)).bind (par2 fun d21 d22 => ((((R.ok a0).bind fun x42 => ((R.ok a1).bind fun x40 => (R.ok []).bind fun x41 => R.ok (x40 :: x41)).bind fun x43 => R.ok (x42 :: x43)).bind (ar2 M_parting)).bind fun d39 => ((((R.ok d39).bind fun x44 => (R.ok d21).bind fun x45 => (D.ne x44 x45).bind D.asB).bind fun k52 => if k52 then R.ok true else ((((R.ok a1).bind fun x48 => ((R.ok a0).bind fun x46 => (R.ok []).bind fun x47 => R.ok (x46 :: x47)).bind fun x49 => R.ok (x48 :: x49)).bind (ar2 M_parting)).bind fun x50 => (R.ok d21).bind fun x51 => (D.ne x50 x51).bind D.asB)).bind fun k53 => if k53 then (((R.ok (D.bl false)).bind fun d54 => R.ok (Fl.rt d54))).map Fl.up else ((((((((R.ok a0).bind fun x57 => ((R.ok a1).bind fun x55 => (R.ok []).bind fun x56 => R.ok (x55 :: x56)).bind fun x58 => R.ok (x57 :: x58)).bind (ar2 M_alike)).bind fun x63 => (((R.ok d21).bind fun x59 => (R.ok D.non).bind fun x60 => (D.isN x59 x60)).bind fun x61 => (R.ok []).bind fun x62 => R.ok (x61 :: x62)).bind fun x64 => R.ok (x63 :: x64)).bind (ar2 M__law_truly)).bind D.asB).map fun b => !b).bind fun k65 => if k65 then (((R.ok (D.bl false)).bind fun d66 => R.ok (Fl.rt d66))).map Fl.up else ((((((((R.ok a0).bind fun x69 => ((R.ok a1).bind fun x67 => (R.ok []).bind fun x68 => R.ok (x67 :: x68)).bind fun x70 => R.ok (x69 :: x70)).bind (ar2 M_within)).bind fun x75 => (((R.ok d22).bind fun x71 => (R.ok D.non).bind fun x72 => (D.isN x71 x72)).bind fun x73 => (R.ok []).bind fun x74 => R.ok (x73 :: x74)).bind fun x76 => R.ok (x75 :: x76)).bind (ar2 M__law_truly)).bind D.asB).map fun b => !b).bind fun k77 => if k77 then (((R.ok (D.bl false)).bind fun d78 => R.ok (Fl.rt d78))).map Fl.up else ((((R.ok d39).bind fun x79 => (R.ok D.non).bind fun x80 => (D.notN x79 x80).bind D.asB).bind fun k91 => if k91 then ((((R.ok a0).bind fun x83 => ((R.ok d39).bind fun x81 => (R.ok []).bind fun x82 => R.ok (x81 :: x82)).bind fun x84 => R.ok (x83 :: x84)).bind (ar2 M__law_lets)).bind fun x89 => (((R.ok a1).bind fun x87 => ((R.ok d39).bind fun x85 => (R.ok []).bind fun x86 => R.ok (x85 :: x86)).bind fun x88 => R.ok (x87 :: x88)).bind (ar2 M__law_lets)).bind fun x90 => (D.eq x89 x90).bind D.asB) else R.ok false).bind fun k92 => if k92 then (((R.ok (D.bl false)).bind fun d93 => R.ok (Fl.rt d93))).map Fl.up else ((((R.ok d39).bind fun x94 => (R.ok D.non).bind fun x95 => (D.notN x94 x95).bind D.asB).bind fun k103 => if k103 then (((R.ok d39).bind fun x96 => ((R.ok []).bind D.mkT).bind fun x97 => (D.ne x96 x97).bind D.asB).bind fun k102 => if k102 then (((R.ok d39).bind fun x98 => ((R.ok (D.int 1)).bind D.neg).bind fun x99 => D.ixA x98 x99).bind fun x100 => (R.ok (D.int 0)).bind fun x101 => (D.eq x100 x101).bind D.asB) else R.ok false) else R.ok false).bind fun k104 => if k104 then (((R.ok (D.bl false)).bind fun d105 => R.ok (Fl.rt d105))).map Fl.up else (((((R.ok a0).bind fun x141 => ((R.ok (D.int 3)).bind fun x139 => (R.ok []).bind fun x140 => R.ok (x139 :: x140)).bind fun x142 => R.ok (x141 :: x142)).bind (ar2 M__law_short_forms)).bind D.itemsA).bind fun xs143 => (forL unN (fun (s107 : Unit) (a108 : D) => (((((R.ok d39).bind fun x111 => (R.ok D.non).bind fun x112 => (D.isN x111 x112).bind D.asB).bind fun k123 => if k123 then R.ok true else (((((R.ok a108).bind D.len).bind fun x115 => ((R.ok a108).bind fun x113 => (R.ok []).bind fun x114 => R.ok (x113 :: x114)).bind fun x116 => R.ok (x115 :: x116)).bind D.mkT).bind fun x121 => ((((R.ok d39).bind D.len).bind fun x119 => ((R.ok d39).bind fun x117 => (R.ok []).bind fun x118 => R.ok (x117 :: x118)).bind fun x120 => R.ok (x119 :: x120)).bind D.mkT).bind fun x122 => (D.ltA x121 x122).bind D.asB)).bind fun k124 => if k124 then (((((R.ok a0).bind fun x127 => ((R.ok a108).bind fun x125 => (R.ok []).bind fun x126 => R.ok (x125 :: x126)).bind fun x128 => R.ok (x127 :: x128)).bind (ar2 M__law_lets)).bind fun x133 => (((R.ok a1).bind fun x131 => ((R.ok a108).bind fun x129 => (R.ok []).bind fun x130 => R.ok (x129 :: x130)).bind fun x132 => R.ok (x131 :: x132)).bind (ar2 M__law_lets)).bind fun x134 => (D.ne x133 x134).bind D.asB).bind fun k135 => if k135 then (((R.ok (D.bl false)).bind fun d136 => R.ok (Fl.rt d136))).map Fl.up else (R.ok (Fl.nx ()))) else (R.ok (Fl.nx ()))).bind (Fl.next fun (s110 : Unit) => (R.ok (Fl.nx ()))))) xs143 ()).bind (Fl.after fun (s137 : Unit) => ((R.ok (D.bl true)).bind fun d138 => R.ok (Fl.rt d138)))))))))))) Fl.val
theorem ok__law_right {P : Program} {w : World} {K : PySem.W.Frag} {mg : Str → Option Value} {base : Heap} {T : Tb} {f__law_right : Addr} {fd__law_right : FuncData} (G : Gd mg) (FF : L2.Fun K "_law_right" "_law_right" s__law_right f__law_right fd__law_right) {f_alike : Addr} {fd_alike : FuncData} (F_alike : FnP P w K mg base T 6 f_alike fd_alike ["one", "other"] (ar2 M_alike)) (c_alike : Ca K mg "alike" f_alike fd_alike ["one", "other"]) {f_within : Addr} {fd_within : FuncData} (F_within : FnP P w K mg base T 6 f_within fd_within ["one", "other"] (ar2 M_within)) (c_within : Ca K mg "within" f_within fd_within ["one", "other"]) {f_parting : Addr} {fd_parting : FuncData} (F_parting : FnP P w K mg base T 6 f_parting fd_parting ["one", "other"] (ar2 M_parting)) (c_parting : Ca K mg "parting" f_parting fd_parting ["one", "other"]) {f__law_lets : Addr} {fd__law_lets : FuncData} (F__law_lets : FnP P w K mg base T 2 f__law_lets fd__law_lets ["_law_rule_here", "_law_form"] (ar2 M__law_lets)) (c__law_lets : Ca K mg "_law_lets" f__law_lets fd__law_lets ["_law_rule_here", "_law_form"]) {f__law_short_forms : Addr} {fd__law_short_forms : FuncData} (F__law_short_forms : FnP P w K mg base T 1 f__law_short_forms fd__law_short_forms ["_law_rule_here", "_law_most"] (ar2 M__law_short_forms)) (c__law_short_forms : Ca K mg "_law_short_forms" f__law_short_forms fd__law_short_forms ["_law_rule_here", "_law_most"]) {f__law_truly : Addr} {fd__law_truly : FuncData} (F__law_truly : FnP P w K mg base T 1 f__law_truly fd__law_truly ["_law_found_so", "_law_due"] (ar2 M__law_truly)) (c__law_truly : Ca K mg "_law_truly" f__law_truly fd__law_truly ["_law_found_so", "_law_due"]) {f__law_first : Addr} {fd__law_first : FuncData} (F__law_first : FnP P w K mg base T 1 f__law_first fd__law_first ["_law_one", "_law_other", "_law_mode"] (ar3 M__law_first)) (c__law_first : Ca K mg "_law_first" f__law_first fd__law_first ["_law_one", "_law_other", "_law_mode"]) : FnP P w K mg base T 7 f__law_right fd__law_right ["_law_one", "_law_other"] (ar2 M__law_right) :=
  fn_body2 FF sc__law_right (fun ds m r h => h.1) fun cdv A outer s H E hcd hr ds m r h => by
    obtain ⟨hl, rfl, rfl⟩ := h
    match ds, hl with
    | [a0, a1], _ => exact fn_P (show SB T _ [some a0, some a1, none, none, none, none] [] _ (exP 6) _ from (sb_par2k 2 3 rfl sc__law_right.nd (ea_cons (ev_call F__law_first (c__law_first.at_ hr) (ar3_ub _) (ea_cons (ev_name (i := 0) rfl rfl (.inl rfl)) (ea_cons (ev_name (i := 1) rfl rfl (.inl rfl)) (ea_cons ev_str ea_nil)))) (ea_cons (ev_call F__law_first (c__law_first.at_ hr) (ar3_ub _) (ea_cons (ev_name (i := 0) rfl rfl (.inl rfl)) (ea_cons (ev_name (i := 1) rfl rfl (.inl rfl)) (ea_cons ev_str ea_nil)))) ea_nil)) (fun d21 d22 => (SB.as (ds' := [some a0, some a1, some d21, some d22, none, none]) (m' := []) (sb_asg 4 sc__law_right.nd (ev_call F_parting (c_parting.at_ hr) (ar2_ub _) (ea_cons (ev_name (i := 0) rfl rfl (.inl rfl)) (ea_cons (ev_name (i := 1) rfl rfl (.inl rfl)) ea_nil))) (fun d39 => (SB.as (ds' := [some a0, some a1, some d21, some d22, some d39, none]) (m' := []) (sb_ifT (et_w (ew_or (et_cmp (op_neD (hu64 hr)) opd_ne (EV.w (ev_name (i := 4) rfl rfl (.inl rfl))) (EV.w (ev_name (i := 2) rfl rfl (.inl rfl)))) (ew_or1 (et_cmp (op_neD (hu64 hr)) opd_ne (EV.w (ev_call F_parting (c_parting.at_ hr) (ar2_ub _) (ea_cons (ev_name (i := 1) rfl rfl (.inl rfl)) (ea_cons (ev_name (i := 0) rfl rfl (.inl rfl)) ea_nil)))) (EV.w (ev_name (i := 2) rfl rfl (.inl rfl))))))) (sb_ret (fun d54 => d54) ev_bl (fun _ => rfl) (fun _ => List.nil_sublist _)) (sb_ifT (et_not (et_ev (ev_call F__law_truly (c__law_truly.at_ hr) (ar2_ub _) (ea_cons (ev_call F_alike (c_alike.at_ hr) (ar2_ub _) (ea_cons (ev_name (i := 0) rfl rfl (.inl rfl)) (ea_cons (ev_name (i := 1) rfl rfl (.inl rfl)) ea_nil))) (ea_cons (ev_cmp op_isN opd_isN (EV.w (ev_name (i := 2) rfl rfl (.inl rfl))) (EV.w ev_non)) ea_nil))))) (sb_ret (fun d66 => d66) ev_bl (fun _ => rfl) (fun _ => List.nil_sublist _)) (sb_ifT (et_not (et_ev (ev_call F__law_truly (c__law_truly.at_ hr) (ar2_ub _) (ea_cons (ev_call F_within (c_within.at_ hr) (ar2_ub _) (ea_cons (ev_name (i := 0) rfl rfl (.inl rfl)) (ea_cons (ev_name (i := 1) rfl rfl (.inl rfl)) ea_nil))) (ea_cons (ev_cmp op_isN opd_isN (EV.w (ev_name (i := 3) rfl rfl (.inl rfl))) (EV.w ev_non)) ea_nil))))) (sb_ret (fun d78 => d78) ev_bl (fun _ => rfl) (fun _ => List.nil_sublist _)) (sb_ifT (et_w (ew_and (et_cmp op_notN opd_notN (EV.w (ev_name (i := 4) rfl rfl (.inl rfl))) (EV.w ev_non)) (ew_and1 (et_cmp (op_eqD (hu64 hr)) opd_eq (EV.w (ev_call F__law_lets (c__law_lets.at_ hr) (ar2_ub _) (ea_cons (ev_name (i := 0) rfl rfl (.inl rfl)) (ea_cons (ev_name (i := 4) rfl rfl (.inl rfl)) ea_nil)))) (EV.w (ev_call F__law_lets (c__law_lets.at_ hr) (ar2_ub _) (ea_cons (ev_name (i := 1) rfl rfl (.inl rfl)) (ea_cons (ev_name (i := 4) rfl rfl (.inl rfl)) ea_nil)))))))) (sb_ret (fun d93 => d93) ev_bl (fun _ => rfl) (fun _ => List.nil_sublist _)) (sb_ifT (et_w (ew_and (et_cmp op_notN opd_notN (EV.w (ev_name (i := 4) rfl rfl (.inl rfl))) (EV.w ev_non)) (ew_and (et_cmp (op_neD (hu64 hr)) opd_ne (EV.w (ev_name (i := 4) rfl rfl (.inl rfl))) (EV.w (ev_tup ea_nil))) (ew_and1 (et_cmp (op_eqD (hu64 hr)) opd_eq (EV.w (ev_ixA (hu1 hr) ix_seq (EV.w (ev_name (i := 4) rfl rfl (.inl rfl))) (EV.w (ev_neg ev_int)))) (EV.w ev_int)))))) (sb_ret (fun d105 => d105) ev_bl (fun _ => rfl) (fun _ => List.nil_sublist _)) (sb_for (fnx fun (s106 : Unit) => ([some a0, some a1, some d21, some d22, some d39, none], [])) () (passes_of rfl) rfl (ei_any (ev_call F__law_short_forms (c__law_short_forms.at_ hr) (ar2_ub _) (ea_cons (ev_name (i := 0) rfl rfl (.inl rfl)) (ea_cons ev_int ea_nil)))) (pg_name sc__law_right.nd rfl (.inl rfl)) (tgd_name 5) ⟨rfl, rfl⟩ (Fgt.keep (Fgt.keep (Fgt.keep (Fgt.keep (Fgt.keep (Fgt.keep Fgt.nil)))))) List.Sublist.slnil (fun s107 a108 => (fnxE (SB.as (ds' := [some a0, some a1, some d21, some d22, some d39, some a108]) (m' := []) (sb_ifJ (fnx fun (s109 : Unit) => ([some a0, some a1, some d21, some d22, some d39, some a108], [])) (et_w (ew_or (et_cmp op_isN opd_isN (EV.w (ev_name (i := 4) rfl rfl (.inl rfl))) (EV.w ev_non)) (ew_or1 (et_cmp (op_ltA (hu64 hr)) opd_ltA (EV.w (ev_tup (ea_cons (ev_callB call_len cd_len G.len b_len (EV.w (ev_name (i := 5) rfl rfl (.inl rfl)))) (ea_cons (ev_name (i := 5) rfl rfl (.inl rfl)) ea_nil)))) (EV.w (ev_tup (ea_cons (ev_callB call_len cd_len G.len b_len (EV.w (ev_name (i := 4) rfl rfl (.inl rfl)))) (ea_cons (ev_name (i := 4) rfl rfl (.inl rfl)) ea_nil)))))))) (sb_ifT (et_cmp (op_neD (hu64 hr)) opd_ne (EV.w (ev_call F__law_lets (c__law_lets.at_ hr) (ar2_ub _) (ea_cons (ev_name (i := 0) rfl rfl (.inl rfl)) (ea_cons (ev_name (i := 5) rfl rfl (.inl rfl)) ea_nil)))) (EV.w (ev_call F__law_lets (c__law_lets.at_ hr) (ar2_ub _) (ea_cons (ev_name (i := 1) rfl rfl (.inl rfl)) (ea_cons (ev_name (i := 5) rfl rfl (.inl rfl)) ea_nil))))) (sb_ret (fun d136 => d136) ev_bl (fun _ => rfl) (fun _ => List.nil_sublist _)) (sb_end ⟨rfl, rfl⟩ (Fgt.keep (Fgt.keep (Fgt.keep (Fgt.keep (Fgt.keep (Fgt.keep Fgt.nil)))))) List.Sublist.slnil)) (sb_end ⟨rfl, rfl⟩ (Fgt.keep (Fgt.keep (Fgt.keep (Fgt.keep (Fgt.keep (Fgt.keep Fgt.nil)))))) List.Sublist.slnil) (fun s110 => (fnxE (SB.as (ds' := [some a0, some a1, some d21, some d22, some d39, some a108]) (m' := []) (sb_end ⟨rfl, rfl⟩ (Fgt.keep (Fgt.keep (Fgt.keep (Fgt.keep (Fgt.keep (Fgt.drop Fgt.nil)))))) List.Sublist.slnil)))))))) (fun s137 => (fnxE (SB.as (ds' := [some a0, some a1, some d21, some d22, some d39, none]) (m' := []) (sb_ret (fun d138 => d138) ev_bl (fun _ => rfl) (fun _ => List.nil_sublist _))))))))))))) rfl (.inl rfl))))))
end K08
namespace K08
open PySem PySem.Spec PyProof.Rows L2 DL
open DL (D R)
noncomputable def M_law (a0 : D) : R D := R.bind (α := Fl Unit Empty D) ((((R.ok (D.int 1)).bind fun x323 => (((R.ok a0).bind D.len).bind fun x321 => (R.ok (D.int 10)).bind fun x322 => D.min2 x321 x322).bind fun x324 => D.add x323 x324).bind D.range1).bind fun xs325 => (forL unN (fun (s22 : Option D) (a23 : D) => ((((R.ok a0).bind fun x28 => ((R.ok a23).bind fun x26 => (R.ok []).bind fun x27 => R.ok (x26 :: x27)).bind fun x29 => R.ok (x28 :: x29)).bind (ar2 M__law_source)).bind fun v25 => (((R.ok (D.int 4)).bind D.range1).bind fun xs227 => (forL unN (fun (s31 : List D × Option D) (a32 : D) => (((((((R.ok (D.int 4)).bind fun x34 => (R.ok []).bind fun x35 => R.ok (x34 :: x35)).map fun d36 => (d36, s31.1)).bind fun z37 => ar1 (M__law_rule z37.2) z37.1).bind fun z47 => (((((R.ok (D.int 4)).bind fun x39 => (R.ok []).bind fun x40 => R.ok (x39 :: x40)).map fun d41 => (d41, z47.2)).bind fun z42 => ar1 (M__law_rule z42.2) z42.1).bind fun z45 => ((R.ok []).map fun d44 => (d44, z45.2)).bind fun q46 => R.ok (z45.1 :: q46.1, q46.2)).bind fun q48 => R.ok (z47.1 :: q48.1, q48.2)).bind fun z49 => (D.mkT z49.1).map fun d50 => (d50, z49.2)).bind fun z52 => (((unT2 unN unN) z52.1).map fun x54 => (x54, z52.2)).bind fun (z53 : (D × D) × List D) => (((((((R.ok z53.1.1).map fun d55 => (d55, z53.2)).bind fun z65 => (((((R.ok z53.1.1).bind fun x57 => (R.ok []).bind fun x58 => R.ok (x57 :: x58)).map fun d59 => (d59, z65.2)).bind fun z60 => ar1 (M__law_near z60.2) z60.1).bind fun z63 => ((R.ok []).map fun d62 => (d62, z63.2)).bind fun q64 => R.ok (z63.1 :: q64.1, q64.2)).bind fun q66 => R.ok (z65.1 :: q66.1, q66.2)).bind fun z67 => (ar2 M__law_right z67.1).map fun d68 => (d68, z67.2)).bind fun z69 => z69.1.asB.map fun k => (k, z69.2)).map fun p => (!p.1, p.2)).bind fun k71 => iteX k71 (fun u70 => (((R.ok (D.bl false)).bind fun d72 => R.ok (Fl.rt d72))).map Fl.up) (fun u70 => (((((R.ok z53.1.1).bind fun x73 => (R.ok none).bind fun l74 => ((R.ok (D.int 2)).bind D.part).bind fun h75 => D.sl x73 l74 h75).bind fun x79 => ((R.ok z53.1.2).bind fun x76 => (R.ok none).bind fun l77 => ((R.ok (D.int 2)).bind D.part).bind fun h78 => D.sl x76 l77 h78).bind fun x80 => (D.eq x79 x80).bind D.asB).bind fun k85 => if k85 then (((((R.ok z53.1.1).bind fun x83 => ((R.ok z53.1.2).bind fun x81 => (R.ok []).bind fun x82 => R.ok (x81 :: x82)).bind fun x84 => R.ok (x83 :: x84)).bind (ar2 M__law_right)).bind D.asB).map fun b => !b) else R.ok false).bind fun k86 => if k86 then (((R.ok (D.bl false)).bind fun d87 => R.ok (Fl.rt d87))).map Fl.up else (((((R.ok z53.1.1).bind fun x89 => (R.ok none).bind fun l90 => ((R.ok (D.int 2)).bind D.part).bind fun h91 => D.sl x89 l90 h91).bind fun x95 => ((R.ok z53.1.2).bind fun x92 => (R.ok none).bind fun l93 => ((R.ok (D.int 2)).bind D.part).bind fun h94 => D.sl x92 l93 h94).bind fun x96 => (D.eq x95 x96).bind D.asB).bind fun k97 => if k97 then (R.ok (D.str "none")) else (R.ok (D.str "unlike"))).bind fun d88 => ((((W__law_word (((R.ok z53.1.1).bind fun x102 => ((R.ok z53.1.2).bind fun x100 => (R.ok []).bind fun x101 => R.ok (x100 :: x101)).bind fun x103 => R.ok (x102 :: x103)).bind (ar2 M_alike))).bind fun x104 => (R.ok []).bind fun x105 => R.ok (x104 :: x105)).bind D.mkL).bind fun v99 => ((W__law_word (((R.ok z53.1.1).bind fun x109 => ((R.ok z53.1.2).bind fun x107 => (R.ok []).bind fun x108 => R.ok (x107 :: x108)).bind fun x110 => R.ok (x109 :: x110)).bind (ar2 M_within))).bind fun d111 => ((D.room v99).map fun _ => v99 ++ [d111]).bind fun y106 => ((W__law_word (((R.ok z53.1.1).bind fun x115 => ((R.ok z53.1.2).bind fun x113 => (R.ok []).bind fun x114 => R.ok (x113 :: x114)).bind fun x116 => R.ok (x115 :: x116)).bind (ar2 M_parting))).bind fun d117 => ((D.room y106).map fun _ => y106 ++ [d117]).bind fun y112 => (((R.ok (D.lst y112)).bind fun x122 => (((((R.ok d88).bind fun x118 => (R.ok []).bind fun x119 => R.ok (x118 :: x119)).bind D.mkL).map D.lst).bind fun x120 => (R.ok (D.int 3)).bind fun x121 => D.mul x120 x121).bind fun x123 => (D.ne x122 x123).bind D.asB).bind fun k124 => if k124 then (((R.ok (D.bl false)).bind fun d125 => R.ok (Fl.rt d125))).map Fl.up else (R.ok (Fl.nx (u70, (some z53.1.1)))))))))))))) xs227 (v25, s22)).bind (Fl.after fun (s126 : List D × Option D) => ((forL unI (fun (s128 : Unit) (b129 : Nat) => (match b129 with | 0 => ((((W__law_word (((((R.ok (D.int 2)).bind fun x134 => ((R.ok (D.int 1)).bind fun x132 => (R.ok []).bind fun x133 => R.ok (x132 :: x133)).bind fun x135 => R.ok (x134 :: x135)).bind D.mkT).bind fun x138 => ((R.ok D.non).bind fun x136 => (R.ok []).bind fun x137 => R.ok (x136 :: x137)).bind fun x139 => R.ok (x138 :: x139)).bind (ar2 M_alike))).bind fun x140 => (R.ok []).bind fun x141 => R.ok (x140 :: x141)).bind D.mkL).bind fun v131 => (needR s126.2 fun d142 => ((W__law_word (((R.ok d142).bind fun x150 => ((((R.ok (D.int 2)).bind fun x146 => ((R.ok (D.int 1)).bind fun x144 => (R.ok []).bind fun x145 => R.ok (x144 :: x145)).bind fun x147 => R.ok (x146 :: x147)).bind D.mkT).bind fun x148 => (R.ok []).bind fun x149 => R.ok (x148 :: x149)).bind fun x151 => R.ok (x150 :: x151)).bind (ar2 M_alike))).bind fun d152 => ((D.room v131).map fun _ => v131 ++ [d152]).bind fun y143 => (((R.ok (D.lst y143)).bind fun x157 => ((((R.ok (D.str "rule")).bind fun x155 => ((R.ok (D.str "rule")).bind fun x153 => (R.ok []).bind fun x154 => R.ok (x153 :: x154)).bind fun x156 => R.ok (x155 :: x156)).bind D.mkL).map D.lst).bind fun x158 => (D.ne x157 x158).bind D.asB).bind fun k159 => if k159 then (((R.ok (D.bl false)).bind fun d160 => R.ok (Fl.rt d160))).map Fl.up else (R.ok (Fl.nx ())))))) | 1 => ((((W__law_word (((((R.ok (D.int 2)).bind fun x166 => ((R.ok (D.int 1)).bind fun x164 => (R.ok []).bind fun x165 => R.ok (x164 :: x165)).bind fun x167 => R.ok (x166 :: x167)).bind D.mkT).bind fun x170 => ((R.ok D.non).bind fun x168 => (R.ok []).bind fun x169 => R.ok (x168 :: x169)).bind fun x171 => R.ok (x170 :: x171)).bind (ar2 M_within))).bind fun x172 => (R.ok []).bind fun x173 => R.ok (x172 :: x173)).bind D.mkL).bind fun v163 => (needR s126.2 fun d174 => ((W__law_word (((R.ok d174).bind fun x182 => ((((R.ok (D.int 2)).bind fun x178 => ((R.ok (D.int 1)).bind fun x176 => (R.ok []).bind fun x177 => R.ok (x176 :: x177)).bind fun x179 => R.ok (x178 :: x179)).bind D.mkT).bind fun x180 => (R.ok []).bind fun x181 => R.ok (x180 :: x181)).bind fun x183 => R.ok (x182 :: x183)).bind (ar2 M_within))).bind fun d184 => ((D.room v163).map fun _ => v163 ++ [d184]).bind fun y175 => (((R.ok (D.lst y175)).bind fun x189 => ((((R.ok (D.str "rule")).bind fun x187 => ((R.ok (D.str "rule")).bind fun x185 => (R.ok []).bind fun x186 => R.ok (x185 :: x186)).bind fun x188 => R.ok (x187 :: x188)).bind D.mkL).map D.lst).bind fun x190 => (D.ne x189 x190).bind D.asB).bind fun k191 => if k191 then (((R.ok (D.bl false)).bind fun d192 => R.ok (Fl.rt d192))).map Fl.up else (R.ok (Fl.nx ())))))) | 2 => ((((W__law_word (((((R.ok (D.int 2)).bind fun x198 => ((R.ok (D.int 1)).bind fun x196 => (R.ok []).bind fun x197 => R.ok (x196 :: x197)).bind fun x199 => R.ok (x198 :: x199)).bind D.mkT).bind fun x202 => ((R.ok D.non).bind fun x200 => (R.ok []).bind fun x201 => R.ok (x200 :: x201)).bind fun x203 => R.ok (x202 :: x203)).bind (ar2 M_parting))).bind fun x204 => (R.ok []).bind fun x205 => R.ok (x204 :: x205)).bind D.mkL).bind fun v195 => (needR s126.2 fun d206 => ((W__law_word (((R.ok d206).bind fun x214 => ((((R.ok (D.int 2)).bind fun x210 => ((R.ok (D.int 1)).bind fun x208 => (R.ok []).bind fun x209 => R.ok (x208 :: x209)).bind fun x211 => R.ok (x210 :: x211)).bind D.mkT).bind fun x212 => (R.ok []).bind fun x213 => R.ok (x212 :: x213)).bind fun x215 => R.ok (x214 :: x215)).bind (ar2 M_parting))).bind fun d216 => ((D.room v195).map fun _ => v195 ++ [d216]).bind fun y207 => (((R.ok (D.lst y207)).bind fun x221 => ((((R.ok (D.str "rule")).bind fun x219 => ((R.ok (D.str "rule")).bind fun x217 => (R.ok []).bind fun x218 => R.ok (x217 :: x218)).bind fun x220 => R.ok (x219 :: x220)).bind D.mkL).map D.lst).bind fun x222 => (D.ne x221 x222).bind D.asB).bind fun k223 => if k223 then (((R.ok (D.bl false)).bind fun d224 => R.ok (Fl.rt d224))).map Fl.up else (R.ok (Fl.nx ())))))) | _ => R.ub)) (ixs 3) ()).bind (Fl.after fun (s226 : Unit) => (R.ok (Fl.nx s126.2)))))))) xs325 none).bind (Fl.after fun (s228 : Option D) => ((ar0 M__law_known []).bind fun d230 => ((unT4 unN unN unN unN) d230).bind fun (a229 : (D × D × D × D)) => ((((R.ok (D.int 2)).bind fun x252 => ((R.ok (D.int 1)).bind fun x250 => ((((((R.ok (D.int 0)).bind fun x234 => ((R.ok (D.int 1)).bind fun x232 => (R.ok []).bind fun x233 => R.ok (x232 :: x233)).bind fun x235 => R.ok (x234 :: x235)).bind D.mkT).bind fun x242 => ((((R.ok (D.int 1)).bind fun x238 => ((R.ok (D.int 1)).bind fun x236 => (R.ok []).bind fun x237 => R.ok (x236 :: x237)).bind fun x239 => R.ok (x238 :: x239)).bind D.mkT).bind fun x240 => (R.ok []).bind fun x241 => R.ok (x240 :: x241)).bind fun x243 => R.ok (x242 :: x243)).bind D.mkT).bind fun x248 => ((((R.ok (D.int 0)).bind fun x244 => (R.ok []).bind fun x245 => R.ok (x244 :: x245)).bind D.mkT).bind fun x246 => (R.ok []).bind fun x247 => R.ok (x246 :: x247)).bind fun x249 => R.ok (x248 :: x249)).bind fun x251 => R.ok (x250 :: x251)).bind fun x253 => R.ok (x252 :: x253)).bind D.mkT).bind fun d231 => ((((((R.ok a229.1).bind fun x256 => ((R.ok a229.2.2.1).bind fun x254 => (R.ok []).bind fun x255 => R.ok (x254 :: x255)).bind fun x257 => R.ok (x256 :: x257)).bind (ar2 M_alike)).bind D.asB).bind fun k267 => if k267 then R.ok true else ((((((R.ok a229.1).bind fun x260 => ((R.ok a229.2.2.1).bind fun x258 => (R.ok []).bind fun x259 => R.ok (x258 :: x259)).bind fun x261 => R.ok (x260 :: x261)).bind (ar2 M_within)).bind D.asB).map fun b => !b).bind fun k266 => if k266 then R.ok true else ((((R.ok a229.2.2.1).bind fun x264 => ((R.ok a229.1).bind fun x262 => (R.ok []).bind fun x263 => R.ok (x262 :: x263)).bind fun x265 => R.ok (x264 :: x265)).bind (ar2 M_within)).bind D.asB))).bind fun k268 => if k268 then (((R.ok (D.bl false)).bind fun d269 => R.ok (Fl.rt d269))).map Fl.up else ((((((R.ok a229.1).bind fun x272 => ((R.ok a229.2.2.1).bind fun x270 => (R.ok []).bind fun x271 => R.ok (x270 :: x271)).bind fun x273 => R.ok (x272 :: x273)).bind (ar2 M_parting)).bind fun x278 => (((R.ok (D.int 2)).bind fun x276 => ((R.ok (D.int 2)).bind fun x274 => (R.ok []).bind fun x275 => R.ok (x274 :: x275)).bind fun x277 => R.ok (x276 :: x277)).bind D.mkT).bind fun x279 => (D.ne x278 x279).bind D.asB).bind fun k286 => if k286 then R.ok true else ((((R.ok a229.2.2.1).bind fun x282 => ((R.ok a229.2.2.1).bind fun x280 => (R.ok []).bind fun x281 => R.ok (x280 :: x281)).bind fun x283 => R.ok (x282 :: x283)).bind (ar2 M_parting)).bind fun x284 => (R.ok D.non).bind fun x285 => (D.notN x284 x285).bind D.asB)).bind fun k287 => if k287 then (((R.ok (D.bl false)).bind fun d288 => R.ok (Fl.rt d288))).map Fl.up else ((((((R.ok a229.2.1).bind fun x291 => ((R.ok a229.2.2.2).bind fun x289 => (R.ok []).bind fun x290 => R.ok (x289 :: x290)).bind fun x292 => R.ok (x291 :: x292)).bind (ar2 M_parting)).bind fun x297 => (((R.ok (D.int 1)).bind fun x295 => ((R.ok (D.int 1)).bind fun x293 => (R.ok []).bind fun x294 => R.ok (x293 :: x294)).bind fun x296 => R.ok (x295 :: x296)).bind D.mkT).bind fun x298 => (D.ne x297 x298).bind D.asB).bind fun k307 => if k307 then R.ok true else ((((R.ok a229.2.2.2).bind fun x301 => ((R.ok d231).bind fun x299 => (R.ok []).bind fun x300 => R.ok (x299 :: x300)).bind fun x302 => R.ok (x301 :: x302)).bind (ar2 M_parting)).bind fun x305 => (((R.ok (D.int 1)).bind fun x303 => (R.ok []).bind fun x304 => R.ok (x303 :: x304)).bind D.mkT).bind fun x306 => (D.ne x305 x306).bind D.asB)).bind fun k308 => if k308 then (((R.ok (D.bl false)).bind fun d309 => R.ok (Fl.rt d309))).map Fl.up else (((((R.ok d231).bind fun x313 => ((R.ok a229.2.2.2).bind fun x311 => (R.ok []).bind fun x312 => R.ok (x311 :: x312)).bind fun x314 => R.ok (x313 :: x314)).bind (ar2 M_within)).bind fun x319 => x319.asB.bind fun k320 => if k320 then ((((R.ok a229.2.2.2).bind fun x317 => ((R.ok d231).bind fun x315 => (R.ok []).bind fun x316 => R.ok (x315 :: x316)).bind fun x318 => R.ok (x317 :: x318)).bind (ar2 M_within)).bind fun x => x.asB.map fun k => D.bl (!k)) else R.ok (D.bl false)).bind fun d310 => R.ok (Fl.rt d310))))))))) Fl.val
theorem ok_law {P : Program} {w : World} {K : PySem.W.Frag} {mg : Str → Option Value} {base : Heap} {T : Tb} {f_law : Addr} {fd_law : FuncData} (G : Gd mg) (FF : L2.Fun K "law" "law" s_law f_law fd_law) {f_alike : Addr} {fd_alike : FuncData} (F_alike : FnP P w K mg base T 6 f_alike fd_alike ["one", "other"] (ar2 M_alike)) (c_alike : Ca K mg "alike" f_alike fd_alike ["one", "other"]) {f_within : Addr} {fd_within : FuncData} (F_within : FnP P w K mg base T 6 f_within fd_within ["one", "other"] (ar2 M_within)) (c_within : Ca K mg "within" f_within fd_within ["one", "other"]) {f_parting : Addr} {fd_parting : FuncData} (F_parting : FnP P w K mg base T 6 f_parting fd_parting ["one", "other"] (ar2 M_parting)) (c_parting : Ca K mg "parting" f_parting fd_parting ["one", "other"]) {f__law_source : Addr} {fd__law_source : FuncData} (F__law_source : FnL P w K mg base T 1 f__law_source fd__law_source ["_law_script", "_law_k"] (ar2 M__law_source)) (c__law_source : Ca K mg "_law_source" f__law_source fd__law_source ["_law_script", "_law_k"]) {f__law_known : Addr} {fd__law_known : FuncData} (F__law_known : FnP P w K mg base T 1 f__law_known fd__law_known [] (ar0 M__law_known)) (c__law_known : Ca K mg "_law_known" f__law_known fd__law_known []) {f__law_rule : Addr} {fd__law_rule : FuncData} (F__law_rule : FnC P w K mg base T 3 f__law_rule fd__law_rule ["_law_source_here", "_law_most"] (fun c => ar1 (M__law_rule c))) (c__law_rule : Ca K mg "_law_rule" f__law_rule fd__law_rule ["_law_source_here", "_law_most"]) {f__law_near : Addr} {fd__law_near : FuncData} (F__law_near : FnC P w K mg base T 2 f__law_near fd__law_near ["_law_source_here", "_law_rule_here"] (fun c => ar1 (M__law_near c))) (c__law_near : Ca K mg "_law_near" f__law_near fd__law_near ["_law_source_here", "_law_rule_here"]) {f__law_right : Addr} {fd__law_right : FuncData} (F__law_right : FnP P w K mg base T 7 f__law_right fd__law_right ["_law_one", "_law_other"] (ar2 M__law_right)) (c__law_right : Ca K mg "_law_right" f__law_right fd__law_right ["_law_one", "_law_other"]) {f__law_word : Addr} {fd__law_word : FuncData} (F__law_word : L2.Fun K "_law_word" "_law_word" s__law_word f__law_word fd__law_word) (c__law_word : Ca K mg "_law_word" f__law_word fd__law_word ["_law_call"]) {C_CarryError : Addr} (Rz_CarryError : Rz K mg "CarryError" C_CarryError) {C_InvalidRule : Addr} (Rz_InvalidRule : Rz K mg "InvalidRule" C_InvalidRule) {C_Unlike : Addr} (Rz_Unlike : Rz K mg "Unlike" C_Unlike) (QE : Exs K mg errs sub) {cc PP : Addr} (TB_law : LamX.TabB base mg cc PP) (hcode_law : fd_law.code = .ref cc) (hm_law : (PP, ("law" : Str) ++ ".<locals>." ++ "<lambda>") ∈ T) (hT_law : ∀ p ∈ T, p.1 = PP → p.2 = ("law" : Str) ++ ".<locals>." ++ "<lambda>") : FnP P w K mg base T 10 f_law fd_law ["_law_script"] (ar1 M_law) :=
  fn_body2 FF sc_law (fun ds m r h => h.1) fun cdv A outer s H E hcd hr ds m r h => by
    obtain ⟨hl, rfl, rfl⟩ := h
    match ds, hl with
    | [a0], _ => exact fn_P (show SB T _ [some a0, none, none, none, none, none, none, none, none, none, none, none, none, none] [] _ (exP 14) _ from (sb_for (fnx fun (s21 : Option D) => ([some a0, none, none, none, s21, none, none, none, none, none, none, none, none, none], [])) none (passes_of rfl) rfl (ei_range1 G.range (ev_bin op_addD opd_add (EV.w ev_int) (EV.w (ev_callB2 (call_min2 rfl) cd_min2 G.min b_min (EV.w (ev_callB call_len cd_len G.len b_len (EV.w (ev_name (i := 0) rfl rfl (.inl rfl))))) (EV.w ev_int))))) (pg_name sc_law.nd rfl (.inl rfl)) (tgd_name 1) ⟨rfl, rfl⟩ (Fgt.keep (Fgt.keep (Fgt.keep (Fgt.keep (Fgt.keep (Fgt.keep (Fgt.keep (Fgt.keep (Fgt.keep (Fgt.keep (Fgt.keep (Fgt.keep (Fgt.keep (Fgt.keep Fgt.nil)))))))))))))) List.Sublist.slnil (fun s22 a23 => (fnxE (SB.as (ds' := [some a0, some a23, none, none, s22, none, none, none, none, none, none, none, none, none]) (m' := []) (sb_asgL 2 sc_law.nd (el_call F__law_source (c__law_source.at_ hr) (ar2_ub _) (ea_cons (ev_name (i := 0) rfl rfl (.inl rfl)) (ea_cons (ev_name (i := 1) rfl rfl (.inl rfl)) ea_nil))) (fun p24 v25 => (SB.as (ds' := [some a0, some a23, some (D.ref p24), none, s22, none, none, none, none, none, none, none, none, none]) (m' := [(p24, .l v25)]) (sb_for (fnx fun (s30 : List D × Option D) => ([some a0, some a23, some (D.ref p24), none, s30.2, none, none, none, none, none, none, none, none, none], [(p24, .l s30.1)])) (v25, s22) (passes_of rfl) rfl (ei_range1 G.range ev_int) (pg_name sc_law.nd rfl (.inl rfl)) (tgd_name 3) ⟨rfl, rfl⟩ (Fgt.keep (Fgt.keep (Fgt.keep (Fgt.keep (Fgt.keep (Fgt.keep (Fgt.keep (Fgt.keep (Fgt.keep (Fgt.keep (Fgt.keep (Fgt.keep (Fgt.keep (Fgt.keep Fgt.nil)))))))))))))) (List.Sublist.cons₂ _ List.Sublist.slnil) (fun s31 a32 => (fnxE (SB.as (ds' := [some a0, some a23, some (D.ref p24), some a32, s31.2, none, none, none, none, none, none, none, none, none]) (m' := [(p24, .l s31.1)]) (sb_unpXk (M := (fun u : List D => [(p24, .l u)])) (t := s31.1) (ex_tup (ea_consX (ex_callCX (ps := ["_law_source_here", "_law_most"]) (rf := fun c => ar1 (M__law_rule c)) F__law_rule (c__law_rule.at_ hr) (arC fun c => ar1_ub (M__law_rule c)) (ev_name (i := 2) rfl rfl (.inl rfl)) (EAp.x (ea_cons ev_int ea_nil))) (fs := fun u38 => (((((R.ok (D.int 4)).bind fun x39 => (R.ok []).bind fun x40 => R.ok (x39 :: x40)).map fun d41 => (d41, u38)).bind fun z42 => ar1 (M__law_rule z42.2) z42.1).bind fun z45 => ((R.ok []).map fun d44 => (d44, z45.2)).bind fun q46 => R.ok (z45.1 :: q46.1, q46.2))) (fun u38 => (ea_consX (ex_callCX (ps := ["_law_source_here", "_law_most"]) (rf := fun c => ar1 (M__law_rule c)) F__law_rule (c__law_rule.at_ hr) (arC fun c => ar1_ub (M__law_rule c)) (ev_name (i := 2) rfl rfl (.inl rfl)) (EAp.x (ea_cons ev_int ea_nil))) (fs := fun u43 => ((R.ok []).map fun d44 => (d44, u43))) (fun u43 => (EAp.x ea_nil)))))) (pg_tup rfl (pgs_cons (pg_name sc_law.nd rfl (.inr rfl)) (pgs_cons (pg_name sc_law.nd rfl (.inr rfl)) pgs_nil))) (tgd_tup2 (tgd_name 4) (tgd_name 5)) (fun a33 u51 => (SB.as (ds' := [some a0, some a23, some (D.ref p24), some a32, some a33.1, some a33.2, none, none, none, none, none, none, none, none]) (m' := [(p24, .l u51)]) (sb_ifTXk (M := (fun u : List D => [(p24, .l u)])) (t := u51) (et_notX (et_evX (ex_call F__law_right (c__law_right.at_ hr) (ar2_ub _) (ea_consX (EV.x (ev_name (i := 4) rfl rfl (.inr (.inl rfl)))) (fs := fun u56 => (((((R.ok a33.1).bind fun x57 => (R.ok []).bind fun x58 => R.ok (x57 :: x58)).map fun d59 => (d59, u56)).bind fun z60 => ar1 (M__law_near z60.2) z60.1).bind fun z63 => ((R.ok []).map fun d62 => (d62, z63.2)).bind fun q64 => R.ok (z63.1 :: q64.1, q64.2))) (fun u56 => (ea_consX (ex_callCX (ps := ["_law_source_here", "_law_rule_here"]) (rf := fun c => ar1 (M__law_near c)) F__law_near (c__law_near.at_ hr) (arC fun c => ar1_ub (M__law_near c)) (ev_name (i := 2) rfl rfl (.inl rfl)) (EAp.x (ea_cons (ev_name (i := 4) rfl rfl (.inr (.inl rfl))) ea_nil))) (fs := fun u61 => ((R.ok []).map fun d62 => (d62, u61))) (fun u61 => (EAp.x ea_nil)))))))) (fun u70 => (SB.as (ds' := [some a0, some a23, some (D.ref p24), some a32, some a33.1, some a33.2, none, none, none, none, none, none, none, none]) (m' := [(p24, .l u70)]) (sb_ret (fun d72 => d72) ev_bl (fun _ => rfl) (fun _ => List.nil_sublist _)))) (fun u70 => (SB.as (ds' := [some a0, some a23, some (D.ref p24), some a32, some a33.1, some a33.2, none, none, none, none, none, none, none, none]) (m' := [(p24, .l u70)]) (sb_ifT (et_w (ew_and (et_cmp (op_eqD (hu64 hr)) opd_eq (EV.w (ev_sl (EV.w (ev_name (i := 4) rfl rfl (.inr (.inl rfl)))) ep_none (ep_some ev_int))) (EV.w (ev_sl (EV.w (ev_name (i := 5) rfl rfl (.inr (.inl rfl)))) ep_none (ep_some ev_int)))) (ew_and1 (et_not (et_ev (ev_call F__law_right (c__law_right.at_ hr) (ar2_ub _) (ea_cons (ev_name (i := 4) rfl rfl (.inr (.inl rfl))) (ea_cons (ev_name (i := 5) rfl rfl (.inr (.inl rfl))) ea_nil)))))))) (sb_ret (fun d87 => d87) ev_bl (fun _ => rfl) (fun _ => List.nil_sublist _)) (sb_asg 6 sc_law.nd (ev_if (et_cmp (op_eqD (hu64 hr)) opd_eq (EV.w (ev_sl (EV.w (ev_name (i := 4) rfl rfl (.inr (.inl rfl)))) ep_none (ep_some ev_int))) (EV.w (ev_sl (EV.w (ev_name (i := 5) rfl rfl (.inr (.inl rfl)))) ep_none (ep_some ev_int)))) ev_str ev_str) (fun d88 => (SB.as (ds' := [some a0, some a23, some (D.ref p24), some a32, some a33.1, some a33.2, some d88, none, none, none, none, none, none, none]) (m' := [(p24, .l u70)]) (sb_asgL 7 sc_law.nd (el_lst (ea_cons (ev_lamQ (q := ("law" : Str) ++ ".<locals>.") rfl (k := 7) (Ng := N__law_word) F__law_word rfl c__law_word.mg c__law_word.bi sc__law_word rfl (.inl rfl) (fun cdg => gives__law_word G Rz_CarryError Rz_InvalidRule Rz_Unlike QE cdg _ _) TB_law (hcd.symm.trans hcode_law) hm_law hT_law (hr.mono (by decide)) (LamX.lamS_by (sc := defScope s_law) (by decide +kernel)) (fun A outer s H E f c' hrl => (ev_call F_alike (c_alike.at_ hrl) (ar2_ub _) (ea_cons (ev_name (i := 4) rfl rfl (.inr (.inr rfl))) (ea_cons (ev_name (i := 5) rfl rfl (.inr (.inr rfl))) ea_nil))))) ea_nil)) (fun p98 v99 => (SB.as (ds' := [some a0, some a23, some (D.ref p24), some a32, some a33.1, some a33.2, some d88, some (D.ref p98), none, none, none, none, none, none]) (m' := [(p24, .l u70), (p98, .l v99)]) (sb_appendk 7 (pl := p98) (xs := v99) (pre := [(p24, .l u70)]) (post := []) rfl (ev_lamQ (q := ("law" : Str) ++ ".<locals>.") rfl (k := 7) (Ng := N__law_word) F__law_word rfl c__law_word.mg c__law_word.bi sc__law_word rfl (.inl rfl) (fun cdg => gives__law_word G Rz_CarryError Rz_InvalidRule Rz_Unlike QE cdg _ _) TB_law (hcd.symm.trans hcode_law) hm_law hT_law (hr.mono (by decide)) (LamX.lamS_by (sc := defScope s_law) (by decide +kernel)) (fun A outer s H E f c' hrl => (ev_call F_within (c_within.at_ hrl) (ar2_ub _) (ea_cons (ev_name (i := 4) rfl rfl (.inr (.inr rfl))) (ea_cons (ev_name (i := 5) rfl rfl (.inr (.inr rfl))) ea_nil))))) (fun y106 => (SB.as (ds' := [some a0, some a23, some (D.ref p24), some a32, some a33.1, some a33.2, some d88, some (D.ref p98), none, none, none, none, none, none]) (m' := [(p24, .l u70), (p98, .l y106)]) (sb_appendk 7 (pl := p98) (xs := y106) (pre := [(p24, .l u70)]) (post := []) rfl (ev_lamQ (q := ("law" : Str) ++ ".<locals>.") rfl (k := 7) (Ng := N__law_word) F__law_word rfl c__law_word.mg c__law_word.bi sc__law_word rfl (.inl rfl) (fun cdg => gives__law_word G Rz_CarryError Rz_InvalidRule Rz_Unlike QE cdg _ _) TB_law (hcd.symm.trans hcode_law) hm_law hT_law (hr.mono (by decide)) (LamX.lamS_by (sc := defScope s_law) (by decide +kernel)) (fun A outer s H E f c' hrl => (ev_call F_parting (c_parting.at_ hrl) (ar2_ub _) (ea_cons (ev_name (i := 4) rfl rfl (.inr (.inr rfl))) (ea_cons (ev_name (i := 5) rfl rfl (.inr (.inr rfl))) ea_nil))))) (fun y112 => (SB.as (ds' := [some a0, some a23, some (D.ref p24), some a32, some a33.1, some a33.2, some d88, some (D.ref p98), none, none, none, none, none, none]) (m' := [(p24, .l u70), (p98, .l y112)]) (sb_ifT (et_cmp (op_neD (hu64 hr)) opd_ne (ev_own (i := 7) (p := p98) (o := .l y112) rfl (.tail _ (.head _)) rfl (.inl rfl)) (EV.w (ev_bin op_mulD opd_mul (EV.w (ELp.ev (el_lst (ea_cons (ev_name (i := 6) rfl rfl (.inl rfl)) ea_nil)))) (EV.w ev_int)))) (sb_ret (fun d125 => d125) ev_bl (fun _ => rfl) (fun _ => List.nil_sublist _)) (sb_end ⟨rfl, rfl⟩ (Fgt.keep (Fgt.keep (Fgt.keep (Fgt.drop (Fgt.keep (Fgt.drop (Fgt.drop (Fgt.drop (Fgt.keep (Fgt.keep (Fgt.keep (Fgt.keep (Fgt.keep (Fgt.keep Fgt.nil)))))))))))))) (List.Sublist.cons₂ _ (List.Sublist.cons _ List.Sublist.slnil)))))) (pe_bm PySem.F.plainAttrs_list PySem.F.slot_list_append PySem.F.type_list_append mt_append (pe_var rfl (.inl rfl)) (pa_cons (pe_wp _ _) pa_nil))))) (pe_bm PySem.F.plainAttrs_list PySem.F.slot_list_append PySem.F.type_list_append mt_append (pe_var rfl (.inl rfl)) (pa_cons (pe_wp _ _) pa_nil))))) rfl (.inl rfl)))) rfl (.inl rfl)))))))))))) (fun s126 => (fnxE (SB.as (ds' := [some a0, some a23, some (D.ref p24), none, s126.2, none, none, none, none, none, none, none, none, none]) (m' := [(p24, .l s126.1)]) (sb_forM (xs := [f_alike, f_within, f_parting].map D.ref) (ys := ixs 3) (un' := unI) (fa := fun b => match b with | 0 => D.ref f_alike | 1 => D.ref f_within | 2 => D.ref f_parting | _ => D.ref f_alike) (fnx fun (s127 : Unit) => ([some a0, some a23, some (D.ref p24), none, s126.2, none, none, none, none, none, none, none, none, none], [(p24, .l s126.1)])) () (passes_of rfl) rfl (ei_any (ev_tup (ea_cons (ev_fn (k := 6) (c_alike.at_ hr)) (ea_cons (ev_fn (k := 6) (c_within.at_ hr)) (ea_cons (ev_fn (k := 6) (c_parting.at_ hr)) ea_nil))))) (pg_name sc_law.nd rfl (.inr rfl)) (tgd_name 8) ⟨rfl, rfl⟩ (Fgt.keep (Fgt.keep (Fgt.keep (Fgt.keep (Fgt.keep (Fgt.keep (Fgt.keep (Fgt.keep (Fgt.keep (Fgt.keep (Fgt.keep (Fgt.keep (Fgt.keep (Fgt.keep Fgt.nil)))))))))))))) (List.Sublist.cons₂ _ List.Sublist.slnil) (fun s128 b129 => match b129 with | 0 => (fnxE (SB.as (ds' := [some a0, some a23, some (D.ref p24), none, s126.2, none, none, none, some (D.ref f_alike), none, none, none, none, none]) (m' := [(p24, .l s126.1)]) (sb_asgL 7 sc_law.nd (el_lst (ea_cons (ev_lamQ (q := ("law" : Str) ++ ".<locals>.") rfl (k := 7) (Ng := N__law_word) F__law_word rfl c__law_word.mg c__law_word.bi sc__law_word rfl (.inl rfl) (fun cdg => gives__law_word G Rz_CarryError Rz_InvalidRule Rz_Unlike QE cdg _ _) TB_law (hcd.symm.trans hcode_law) hm_law hT_law (hr.mono (by decide)) (LamX.lamS_by (sc := defScope s_law) (by decide +kernel)) (fun A outer s H E f c' hrl => (ev_callV (i := 8) rfl F_alike (c_alike.at_ hrl) (ar2_ub _) (ea_cons (ev_tup (ea_cons ev_int (ea_cons ev_int ea_nil))) (ea_cons ev_non ea_nil))))) ea_nil)) (fun p130 v131 => (SB.as (ds' := [some a0, some a23, some (D.ref p24), none, s126.2, none, none, some (D.ref p130), some (D.ref f_alike), none, none, none, none, none]) (m' := [(p24, .l s126.1), (p130, .l v131)]) (sb_needE (o := s126.2) (fun (o161 : Option D) => [some a0, some a23, some (D.ref p24), none, o161, none, none, some (D.ref p130), some (D.ref f_alike), none, none, none, none, none]) fun d142 ed142 => (sb_appendk 7 (pl := p130) (xs := v131) (pre := [(p24, .l s126.1)]) (post := []) rfl (ev_lamQ (q := ("law" : Str) ++ ".<locals>.") rfl (k := 7) (Ng := N__law_word) F__law_word rfl c__law_word.mg c__law_word.bi sc__law_word rfl (.inl rfl) (fun cdg => gives__law_word G Rz_CarryError Rz_InvalidRule Rz_Unlike QE cdg _ _) TB_law (hcd.symm.trans hcode_law) hm_law hT_law (hr.mono (by decide)) (LamX.lamS_by (sc := defScope s_law) (by decide +kernel)) (fun A outer s H E f c' hrl => (ev_callV (i := 8) rfl F_alike (c_alike.at_ hrl) (ar2_ub _) (ea_cons (ev_name (i := 4) rfl rfl (.inr (.inr rfl))) (ea_cons (ev_tup (ea_cons ev_int (ea_cons ev_int ea_nil))) ea_nil))))) (fun y143 => (SB.as (ds' := [some a0, some a23, some (D.ref p24), none, some d142, none, none, some (D.ref p130), some (D.ref f_alike), none, none, none, none, none]) (m' := [(p24, .l s126.1), (p130, .l y143)]) (sb_ifT (et_cmp (op_neD (hu64 hr)) opd_ne (ev_own (i := 7) (p := p130) (o := .l y143) rfl (.tail _ (.head _)) rfl (.inl rfl)) (EV.w (ELp.ev (el_lst (ea_cons ev_str (ea_cons ev_str ea_nil)))))) (sb_ret (fun d160 => d160) ev_bl (fun _ => rfl) (fun _ => List.nil_sublist _)) (sb_end ⟨rfl, rfl⟩ (Fgt.keep (Fgt.keep (Fgt.keep (Fgt.keep (Fgt.of_eq ed142 (Fgt.keep (Fgt.keep (Fgt.drop (Fgt.drop (Fgt.keep (Fgt.keep (Fgt.keep (Fgt.keep (Fgt.keep Fgt.nil)))))))))))))) (List.Sublist.cons₂ _ (List.Sublist.cons _ List.Sublist.slnil)))))) (pe_bm PySem.F.plainAttrs_list PySem.F.slot_list_append PySem.F.type_list_append mt_append (pe_var rfl (.inl rfl)) (pa_cons (pe_wp _ _) pa_nil)))))) rfl (.inl rfl)))) | 1 => (fnxE (SB.as (ds' := [some a0, some a23, some (D.ref p24), none, s126.2, none, none, none, some (D.ref f_within), none, none, none, none, none]) (m' := [(p24, .l s126.1)]) (sb_asgL 7 sc_law.nd (el_lst (ea_cons (ev_lamQ (q := ("law" : Str) ++ ".<locals>.") rfl (k := 7) (Ng := N__law_word) F__law_word rfl c__law_word.mg c__law_word.bi sc__law_word rfl (.inl rfl) (fun cdg => gives__law_word G Rz_CarryError Rz_InvalidRule Rz_Unlike QE cdg _ _) TB_law (hcd.symm.trans hcode_law) hm_law hT_law (hr.mono (by decide)) (LamX.lamS_by (sc := defScope s_law) (by decide +kernel)) (fun A outer s H E f c' hrl => (ev_callV (i := 8) rfl F_within (c_within.at_ hrl) (ar2_ub _) (ea_cons (ev_tup (ea_cons ev_int (ea_cons ev_int ea_nil))) (ea_cons ev_non ea_nil))))) ea_nil)) (fun p162 v163 => (SB.as (ds' := [some a0, some a23, some (D.ref p24), none, s126.2, none, none, some (D.ref p162), some (D.ref f_within), none, none, none, none, none]) (m' := [(p24, .l s126.1), (p162, .l v163)]) (sb_needE (o := s126.2) (fun (o193 : Option D) => [some a0, some a23, some (D.ref p24), none, o193, none, none, some (D.ref p162), some (D.ref f_within), none, none, none, none, none]) fun d174 ed174 => (sb_appendk 7 (pl := p162) (xs := v163) (pre := [(p24, .l s126.1)]) (post := []) rfl (ev_lamQ (q := ("law" : Str) ++ ".<locals>.") rfl (k := 7) (Ng := N__law_word) F__law_word rfl c__law_word.mg c__law_word.bi sc__law_word rfl (.inl rfl) (fun cdg => gives__law_word G Rz_CarryError Rz_InvalidRule Rz_Unlike QE cdg _ _) TB_law (hcd.symm.trans hcode_law) hm_law hT_law (hr.mono (by decide)) (LamX.lamS_by (sc := defScope s_law) (by decide +kernel)) (fun A outer s H E f c' hrl => (ev_callV (i := 8) rfl F_within (c_within.at_ hrl) (ar2_ub _) (ea_cons (ev_name (i := 4) rfl rfl (.inr (.inr rfl))) (ea_cons (ev_tup (ea_cons ev_int (ea_cons ev_int ea_nil))) ea_nil))))) (fun y175 => (SB.as (ds' := [some a0, some a23, some (D.ref p24), none, some d174, none, none, some (D.ref p162), some (D.ref f_within), none, none, none, none, none]) (m' := [(p24, .l s126.1), (p162, .l y175)]) (sb_ifT (et_cmp (op_neD (hu64 hr)) opd_ne (ev_own (i := 7) (p := p162) (o := .l y175) rfl (.tail _ (.head _)) rfl (.inl rfl)) (EV.w (ELp.ev (el_lst (ea_cons ev_str (ea_cons ev_str ea_nil)))))) (sb_ret (fun d192 => d192) ev_bl (fun _ => rfl) (fun _ => List.nil_sublist _)) (sb_end ⟨rfl, rfl⟩ (Fgt.keep (Fgt.keep (Fgt.keep (Fgt.keep (Fgt.of_eq ed174 (Fgt.keep (Fgt.keep (Fgt.drop (Fgt.drop (Fgt.keep (Fgt.keep (Fgt.keep (Fgt.keep (Fgt.keep Fgt.nil)))))))))))))) (List.Sublist.cons₂ _ (List.Sublist.cons _ List.Sublist.slnil)))))) (pe_bm PySem.F.plainAttrs_list PySem.F.slot_list_append PySem.F.type_list_append mt_append (pe_var rfl (.inl rfl)) (pa_cons (pe_wp _ _) pa_nil)))))) rfl (.inl rfl)))) | 2 => (fnxE (SB.as (ds' := [some a0, some a23, some (D.ref p24), none, s126.2, none, none, none, some (D.ref f_parting), none, none, none, none, none]) (m' := [(p24, .l s126.1)]) (sb_asgL 7 sc_law.nd (el_lst (ea_cons (ev_lamQ (q := ("law" : Str) ++ ".<locals>.") rfl (k := 7) (Ng := N__law_word) F__law_word rfl c__law_word.mg c__law_word.bi sc__law_word rfl (.inl rfl) (fun cdg => gives__law_word G Rz_CarryError Rz_InvalidRule Rz_Unlike QE cdg _ _) TB_law (hcd.symm.trans hcode_law) hm_law hT_law (hr.mono (by decide)) (LamX.lamS_by (sc := defScope s_law) (by decide +kernel)) (fun A outer s H E f c' hrl => (ev_callV (i := 8) rfl F_parting (c_parting.at_ hrl) (ar2_ub _) (ea_cons (ev_tup (ea_cons ev_int (ea_cons ev_int ea_nil))) (ea_cons ev_non ea_nil))))) ea_nil)) (fun p194 v195 => (SB.as (ds' := [some a0, some a23, some (D.ref p24), none, s126.2, none, none, some (D.ref p194), some (D.ref f_parting), none, none, none, none, none]) (m' := [(p24, .l s126.1), (p194, .l v195)]) (sb_needE (o := s126.2) (fun (o225 : Option D) => [some a0, some a23, some (D.ref p24), none, o225, none, none, some (D.ref p194), some (D.ref f_parting), none, none, none, none, none]) fun d206 ed206 => (sb_appendk 7 (pl := p194) (xs := v195) (pre := [(p24, .l s126.1)]) (post := []) rfl (ev_lamQ (q := ("law" : Str) ++ ".<locals>.") rfl (k := 7) (Ng := N__law_word) F__law_word rfl c__law_word.mg c__law_word.bi sc__law_word rfl (.inl rfl) (fun cdg => gives__law_word G Rz_CarryError Rz_InvalidRule Rz_Unlike QE cdg _ _) TB_law (hcd.symm.trans hcode_law) hm_law hT_law (hr.mono (by decide)) (LamX.lamS_by (sc := defScope s_law) (by decide +kernel)) (fun A outer s H E f c' hrl => (ev_callV (i := 8) rfl F_parting (c_parting.at_ hrl) (ar2_ub _) (ea_cons (ev_name (i := 4) rfl rfl (.inr (.inr rfl))) (ea_cons (ev_tup (ea_cons ev_int (ea_cons ev_int ea_nil))) ea_nil))))) (fun y207 => (SB.as (ds' := [some a0, some a23, some (D.ref p24), none, some d206, none, none, some (D.ref p194), some (D.ref f_parting), none, none, none, none, none]) (m' := [(p24, .l s126.1), (p194, .l y207)]) (sb_ifT (et_cmp (op_neD (hu64 hr)) opd_ne (ev_own (i := 7) (p := p194) (o := .l y207) rfl (.tail _ (.head _)) rfl (.inl rfl)) (EV.w (ELp.ev (el_lst (ea_cons ev_str (ea_cons ev_str ea_nil)))))) (sb_ret (fun d224 => d224) ev_bl (fun _ => rfl) (fun _ => List.nil_sublist _)) (sb_end ⟨rfl, rfl⟩ (Fgt.keep (Fgt.keep (Fgt.keep (Fgt.keep (Fgt.of_eq ed206 (Fgt.keep (Fgt.keep (Fgt.drop (Fgt.drop (Fgt.keep (Fgt.keep (Fgt.keep (Fgt.keep (Fgt.keep Fgt.nil)))))))))))))) (List.Sublist.cons₂ _ (List.Sublist.cons _ List.Sublist.slnil)))))) (pe_bm PySem.F.plainAttrs_list PySem.F.slot_list_append PySem.F.type_list_append mt_append (pe_var rfl (.inl rfl)) (pa_cons (pe_wp _ _) pa_nil)))))) rfl (.inl rfl)))) | _ + 3 => (fun _ _ _ => sb_ub)) (fun s226 => (fnxE (SB.as (ds' := [some a0, some a23, some (D.ref p24), none, s126.2, none, none, none, none, none, none, none, none, none]) (m' := [(p24, .l s126.1)]) (sb_end ⟨rfl, rfl⟩ (Fgt.keep (Fgt.drop (Fgt.drop (Fgt.keep (Fgt.keep (Fgt.keep (Fgt.keep (Fgt.keep (Fgt.keep (Fgt.keep (Fgt.keep (Fgt.keep (Fgt.keep (Fgt.keep Fgt.nil)))))))))))))) (List.Sublist.cons _ List.Sublist.slnil))))) rfl rfl (fn_map (fs := [f_alike, f_within, f_parting]) (by intro i f h; rcases i with _ | _ | _ | i <;> first | (cases h; rfl) | (simp at h)))))))))) rfl (.inl rfl))))) (fun s228 => (fnxE (SB.as (ds' := [some a0, none, none, none, s228, none, none, none, none, none, none, none, none, none]) (m' := []) (sb_unp (ev_call0 F__law_known (c__law_known.at_ hr) (ar0_ub _)) (pg_tup rfl (pgs_cons (pg_name sc_law.nd rfl (.inl rfl)) (pgs_cons (pg_name sc_law.nd rfl (.inl rfl)) (pgs_cons (pg_name sc_law.nd rfl (.inl rfl)) (pgs_cons (pg_name sc_law.nd rfl (.inl rfl)) pgs_nil))))) (tgd_tup4 (tgd_name 9) (tgd_name 10) (tgd_name 11) (tgd_name 12)) (fun a229 => (SB.as (ds' := [some a0, none, none, none, s228, none, none, none, none, some a229.1, some a229.2.1, some a229.2.2.1, some a229.2.2.2, none]) (m' := []) (sb_asg 13 sc_law.nd (ev_tup (ea_cons ev_int (ea_cons ev_int (ea_cons (ev_tup (ea_cons (ev_tup (ea_cons ev_int (ea_cons ev_int ea_nil))) (ea_cons (ev_tup (ea_cons ev_int (ea_cons ev_int ea_nil))) ea_nil))) (ea_cons (ev_tup (ea_cons ev_int ea_nil)) ea_nil))))) (fun d231 => (SB.as (ds' := [some a0, none, none, none, s228, none, none, none, none, some a229.1, some a229.2.1, some a229.2.2.1, some a229.2.2.2, some d231]) (m' := []) (sb_ifT (et_w (ew_or (et_ev (ev_call F_alike (c_alike.at_ hr) (ar2_ub _) (ea_cons (ev_name (i := 9) rfl rfl (.inl rfl)) (ea_cons (ev_name (i := 11) rfl rfl (.inl rfl)) ea_nil)))) (ew_or (et_not (et_ev (ev_call F_within (c_within.at_ hr) (ar2_ub _) (ea_cons (ev_name (i := 9) rfl rfl (.inl rfl)) (ea_cons (ev_name (i := 11) rfl rfl (.inl rfl)) ea_nil))))) (ew_or1 (et_ev (ev_call F_within (c_within.at_ hr) (ar2_ub _) (ea_cons (ev_name (i := 11) rfl rfl (.inl rfl)) (ea_cons (ev_name (i := 9) rfl rfl (.inl rfl)) ea_nil)))))))) (sb_ret (fun d269 => d269) ev_bl (fun _ => rfl) (fun _ => List.nil_sublist _)) (sb_ifT (et_w (ew_or (et_cmp (op_neD (hu64 hr)) opd_ne (EV.w (ev_call F_parting (c_parting.at_ hr) (ar2_ub _) (ea_cons (ev_name (i := 9) rfl rfl (.inl rfl)) (ea_cons (ev_name (i := 11) rfl rfl (.inl rfl)) ea_nil)))) (EV.w (ev_tup (ea_cons ev_int (ea_cons ev_int ea_nil))))) (ew_or1 (et_cmp op_notN opd_notN (EV.w (ev_call F_parting (c_parting.at_ hr) (ar2_ub _) (ea_cons (ev_name (i := 11) rfl rfl (.inl rfl)) (ea_cons (ev_name (i := 11) rfl rfl (.inl rfl)) ea_nil)))) (EV.w ev_non))))) (sb_ret (fun d288 => d288) ev_bl (fun _ => rfl) (fun _ => List.nil_sublist _)) (sb_ifT (et_w (ew_or (et_cmp (op_neD (hu64 hr)) opd_ne (EV.w (ev_call F_parting (c_parting.at_ hr) (ar2_ub _) (ea_cons (ev_name (i := 10) rfl rfl (.inl rfl)) (ea_cons (ev_name (i := 12) rfl rfl (.inl rfl)) ea_nil)))) (EV.w (ev_tup (ea_cons ev_int (ea_cons ev_int ea_nil))))) (ew_or1 (et_cmp (op_neD (hu64 hr)) opd_ne (EV.w (ev_call F_parting (c_parting.at_ hr) (ar2_ub _) (ea_cons (ev_name (i := 12) rfl rfl (.inl rfl)) (ea_cons (ev_name (i := 13) rfl rfl (.inl rfl)) ea_nil)))) (EV.w (ev_tup (ea_cons ev_int ea_nil))))))) (sb_ret (fun d309 => d309) ev_bl (fun _ => rfl) (fun _ => List.nil_sublist _)) (sb_ret (fun d310 => d310) (ev_and (ev_call F_within (c_within.at_ hr) (ar2_ub _) (ea_cons (ev_name (i := 13) rfl rfl (.inl rfl)) (ea_cons (ev_name (i := 12) rfl rfl (.inl rfl)) ea_nil))) (ev_one (ev_not (ev_call F_within (c_within.at_ hr) (ar2_ub _) (ea_cons (ev_name (i := 12) rfl rfl (.inl rfl)) (ea_cons (ev_name (i := 13) rfl rfl (.inl rfl)) ea_nil)))))) (fun _ => rfl) (fun _ => List.nil_sublist _))))))) rfl (.inl rfl))))))))))
end K08
namespace K08
open PySem PySem.Spec PyProof.Rows L2 DL
open DL (D R)
theorem p_is_number (v l m : Int) : M_is_number (.int v) (.int l) (.int m) = .ok (.bl (decide (l ≤ v ∧ v ≤ m))) := by
  by_cases h : l ≤ v <;> simp [M_is_number, h]
theorem p_is_tuple (xs : List D) (a b : Int) : M_is_tuple (.tup xs) (.int a) (.int b) = .ok (.bl (decide (a ≤ (xs.length : Int) ∧ (xs.length : Int) ≤ b))) := by
  by_cases h : a ≤ (xs.length : Int) <;> simp [M_is_tuple, h]
theorem p_is_tuple4 (a b c d : D) : M_is_tuple (.tup [a, b, c, d]) (.int 4) (.int 4) = .ok (.bl true) := rfl
theorem p_are_spots {l : List Nat} {many : Nat} (h : ∀ x ∈ l, x < many) (hl : l.length ≤ 1000000) : M_are_spots (TN l) (.int l.length) (.int many) = .ok (.bl true) := by
  unfold M_are_spots
  simp only [R.ok_bind, R.ok_map, R.err_bind, R.err_map, ar0_, ar1_, ar2_, ar3_, ar4_, ar5_, par2_, par3_, par2X_, asB_bl, d_add, d_sub, d_neg, d_lt, d_le, d_gt, d_ge, d_eq, d_ne, eq_bl, ne_bl, d_abs, d_min2, d_max2, d_toInt, len_tup, len_lst, toTup_lst, toTup_tup, toLst_lst, toLst_tup, itemsA_lst, itemsA_tup, part_int, unp2_, unp3_, unp4_, unT2_, unT3_, unT4_, isi_int_int, isi_int_bl, isi_int_non, isi_int_str, isi_int_tup, isi_int_lst, isi_bool_int, isi_bool_bl, isi_tuple_tup, isi_tuple_lst, isi_tuple_int, isi_tuple_non, isi_tuple_bl, isi_tuple_str, ixA_t0, ixA_t1, ixA_t2, ixA_t3, ixA_l0, ixA_l1, setAt_0, setAt_1, mkT_0, mkT_1, mkT_2, mkT_3, mkT_4, mkL_0, mkL_1, mkL_2, mkL_3, mkL_4, mkL_5, mkL_6, fl_up_rt, fl_next_nx, fl_next_rt, fl_after_nx, fl_after_rt, fl_val_rt, fl_valL_rt, fl_valC_rt, turnK_nx, turnK_rt, quiet_ok, iteX_true, iteX_false, needR_some, ite_true, ite_false, Bool.not_true, Bool.not_false, Bool.false_eq_true, reduceIte, decide_true, decide_false, R.ok_bind, ar3_, p_is_tuple, List.length_map, Int.le_refl, and_self, decide_true, asB_bl, if_true, itemsA_tup, d_sub]
  rw [lcR_all l I I (fun _ => .bl true) (sz hl) (fun _ _ => rfl) (fun _ _ => rfl) (fun i hi => by
    have := h i hi
    simp only [R.ok_bind, R.ok_map, R.err_bind, R.err_map, ar0_, ar1_, ar2_, ar3_, ar4_, ar5_, par2_, par3_, par2X_, asB_bl, d_add, d_sub, d_neg, d_lt, d_le, d_gt, d_ge, d_eq, d_ne, eq_bl, ne_bl, d_abs, d_min2, d_max2, d_toInt, len_tup, len_lst, toTup_lst, toTup_tup, toLst_lst, toLst_tup, itemsA_lst, itemsA_tup, part_int, unp2_, unp3_, unp4_, unT2_, unT3_, unT4_, isi_int_int, isi_int_bl, isi_int_non, isi_int_str, isi_int_tup, isi_int_lst, isi_bool_int, isi_bool_bl, isi_tuple_tup, isi_tuple_lst, isi_tuple_int, isi_tuple_non, isi_tuple_bl, isi_tuple_str, ixA_t0, ixA_t1, ixA_t2, ixA_t3, ixA_l0, ixA_l1, setAt_0, setAt_1, mkT_0, mkT_1, mkT_2, mkT_3, mkT_4, mkL_0, mkL_1, mkL_2, mkL_3, mkL_4, mkL_5, mkL_6, fl_up_rt, fl_next_nx, fl_next_rt, fl_after_nx, fl_after_rt, fl_val_rt, fl_valL_rt, fl_valC_rt, turnK_nx, turnK_rt, quiet_ok, iteX_true, iteX_false, needR_some, ite_true, ite_false, Bool.not_true, Bool.not_false, Bool.false_eq_true, reduceIte, decide_true, decide_false, R.ok_bind, ar3_, I, p_is_number]
    rw [decide_eq_true (by omega)])]
  have e : (l.map fun _ => D.bl true) = (l.map fun _ => true).map D.bl := by simp
  simp only [R.ok_bind, R.ok_map, R.err_bind, R.err_map, ar0_, ar1_, ar2_, ar3_, ar4_, ar5_, par2_, par3_, par2X_, asB_bl, d_add, d_sub, d_neg, d_lt, d_le, d_gt, d_ge, d_eq, d_ne, eq_bl, ne_bl, d_abs, d_min2, d_max2, d_toInt, len_tup, len_lst, toTup_lst, toTup_tup, toLst_lst, toLst_tup, itemsA_lst, itemsA_tup, part_int, unp2_, unp3_, unp4_, unT2_, unT3_, unT4_, isi_int_int, isi_int_bl, isi_int_non, isi_int_str, isi_int_tup, isi_int_lst, isi_bool_int, isi_bool_bl, isi_tuple_tup, isi_tuple_lst, isi_tuple_int, isi_tuple_non, isi_tuple_bl, isi_tuple_str, ixA_t0, ixA_t1, ixA_t2, ixA_t3, ixA_l0, ixA_l1, setAt_0, setAt_1, mkT_0, mkT_1, mkT_2, mkT_3, mkT_4, mkL_0, mkL_1, mkL_2, mkL_3, mkL_4, mkL_5, mkL_6, fl_up_rt, fl_next_nx, fl_next_rt, fl_after_nx, fl_after_rt, fl_val_rt, fl_valL_rt, fl_valC_rt, turnK_nx, turnK_rt, quiet_ok, iteX_true, iteX_false, needR_some, ite_true, ite_false, Bool.not_true, Bool.not_false, Bool.false_eq_true, reduceIte, decide_true, decide_false, R.ok_map, R.ok_bind]
  rw [e, all_bl]
  simp
theorem p_are_ascending {l : List Nat} (h : l.Pairwise (· < ·)) (hl : l.length ≤ 1000000) : M_are_ascending (TN l) = .ok (.bl true) := by
  unfold M_are_ascending
  have e0 : D.sl (TN l) (some (1 : Int)) none = .ok (.tup ((l.drop 1).map I)) := by
    have := sl_tup_from (xs := l.map I) 1
    rw [← List.map_drop] at this
    exact this
  have e1 : D.zip (TN l) (.tup ((l.drop 1).map I)) = .ok ((l.zip (l.drop 1)).map fun q => .tup [I q.1, I q.2]) := congrArg R.ok (pairD_map I I l (l.drop 1))
  have hz : ∀ q ∈ l.zip (l.drop 1), q.1 < q.2 := by
    clear e0 e1 hl
    induction l with
    | nil => intro q hq; simp at hq
    | cons a r ih =>
      cases r with
      | nil => intro q hq; simp at hq
      | cons b t =>
        intro q hq
        obtain ⟨h1, h2⟩ := List.pairwise_cons.mp h
        have hq : q ∈ (a, b) :: (b :: t).zip t := hq
        rcases List.mem_cons.mp hq with rfl | hq
        · exact h1 b (by simp)
        · exact ih h2 q hq
  simp only [R.ok_bind, R.ok_map, R.err_bind, R.err_map, ar0_, ar1_, ar2_, ar3_, ar4_, ar5_, par2_, par3_, par2X_, asB_bl, d_add, d_sub, d_neg, d_lt, d_le, d_gt, d_ge, d_eq, d_ne, eq_bl, ne_bl, d_abs, d_min2, d_max2, d_toInt, len_tup, len_lst, toTup_lst, toTup_tup, toLst_lst, toLst_tup, itemsA_lst, itemsA_tup, part_int, unp2_, unp3_, unp4_, unT2_, unT3_, unT4_, isi_int_int, isi_int_bl, isi_int_non, isi_int_str, isi_int_tup, isi_int_lst, isi_bool_int, isi_bool_bl, isi_tuple_tup, isi_tuple_lst, isi_tuple_int, isi_tuple_non, isi_tuple_bl, isi_tuple_str, ixA_t0, ixA_t1, ixA_t2, ixA_t3, ixA_l0, ixA_l1, setAt_0, setAt_1, mkT_0, mkT_1, mkT_2, mkT_3, mkT_4, mkL_0, mkL_1, mkL_2, mkL_3, mkL_4, mkL_5, mkL_6, fl_up_rt, fl_next_nx, fl_next_rt, fl_after_nx, fl_after_rt, fl_val_rt, fl_valL_rt, fl_valC_rt, turnK_nx, turnK_rt, quiet_ok, iteX_true, iteX_false, needR_some, ite_true, ite_false, Bool.not_true, Bool.not_false, Bool.false_eq_true, reduceIte, decide_true, decide_false, R.ok_bind, part_int, e0, e1]
  rw [lcR_all (l.zip (l.drop 1)) _ (fun q => (I q.1, I q.2)) (fun _ => .bl true) (sz (by rw [List.length_zip]; omega)) (fun _ _ => rfl) (fun _ _ => rfl) (fun q hq => by
    have := hz q hq
    simp only [R.ok_bind, R.ok_map, R.err_bind, R.err_map, ar0_, ar1_, ar2_, ar3_, ar4_, ar5_, par2_, par3_, par2X_, asB_bl, d_add, d_sub, d_neg, d_lt, d_le, d_gt, d_ge, d_eq, d_ne, eq_bl, ne_bl, d_abs, d_min2, d_max2, d_toInt, len_tup, len_lst, toTup_lst, toTup_tup, toLst_lst, toLst_tup, itemsA_lst, itemsA_tup, part_int, unp2_, unp3_, unp4_, unT2_, unT3_, unT4_, isi_int_int, isi_int_bl, isi_int_non, isi_int_str, isi_int_tup, isi_int_lst, isi_bool_int, isi_bool_bl, isi_tuple_tup, isi_tuple_lst, isi_tuple_int, isi_tuple_non, isi_tuple_bl, isi_tuple_str, ixA_t0, ixA_t1, ixA_t2, ixA_t3, ixA_l0, ixA_l1, setAt_0, setAt_1, mkT_0, mkT_1, mkT_2, mkT_3, mkT_4, mkL_0, mkL_1, mkL_2, mkL_3, mkL_4, mkL_5, mkL_6, fl_up_rt, fl_next_nx, fl_next_rt, fl_after_nx, fl_after_rt, fl_val_rt, fl_valL_rt, fl_valC_rt, turnK_nx, turnK_rt, quiet_ok, iteX_true, iteX_false, needR_some, ite_true, ite_false, Bool.not_true, Bool.not_false, Bool.false_eq_true, reduceIte, decide_true, decide_false, R.ok_bind, I, d_lt]
    rw [decide_eq_true (by omega)])]
  have e : ((l.zip (l.drop 1)).map fun _ => D.bl true) = ((l.zip (l.drop 1)).map fun _ => true).map D.bl := by simp
  simp only [R.ok_bind, R.ok_map, R.err_bind, R.err_map, ar0_, ar1_, ar2_, ar3_, ar4_, ar5_, par2_, par3_, par2X_, asB_bl, d_add, d_sub, d_neg, d_lt, d_le, d_gt, d_ge, d_eq, d_ne, eq_bl, ne_bl, d_abs, d_min2, d_max2, d_toInt, len_tup, len_lst, toTup_lst, toTup_tup, toLst_lst, toLst_tup, itemsA_lst, itemsA_tup, part_int, unp2_, unp3_, unp4_, unT2_, unT3_, unT4_, isi_int_int, isi_int_bl, isi_int_non, isi_int_str, isi_int_tup, isi_int_lst, isi_bool_int, isi_bool_bl, isi_tuple_tup, isi_tuple_lst, isi_tuple_int, isi_tuple_non, isi_tuple_bl, isi_tuple_str, ixA_t0, ixA_t1, ixA_t2, ixA_t3, ixA_l0, ixA_l1, setAt_0, setAt_1, mkT_0, mkT_1, mkT_2, mkT_3, mkT_4, mkL_0, mkL_1, mkL_2, mkL_3, mkL_4, mkL_5, mkL_6, fl_up_rt, fl_next_nx, fl_next_rt, fl_after_nx, fl_after_rt, fl_val_rt, fl_valL_rt, fl_valC_rt, turnK_nx, turnK_rt, quiet_ok, iteX_true, iteX_false, needR_some, ite_true, ite_false, Bool.not_true, Bool.not_false, Bool.false_eq_true, reduceIte, decide_true, decide_false, R.ok_map, R.ok_bind]
  rw [e, all_bl]
  simp
theorem p_good {r : Ru} (h : r.Ok) : M_is_good_rule r.d = .ok (.bl true) := by
  unfold M_is_good_rule Ru.d
  have b1 := h.b1; have b2 := h.b2; have t1 := h.t1; have t2 := h.t2; have m1 := h.m1; have m2 := h.m2; have g5 := h.gl5
  have d1 : decide ((2 : Int) ≤ (r.base : Int) ∧ (r.base : Int) ≤ 4) = true := decide_eq_true (by omega)
  have d2 : decide ((r.base : Int) - 1 ≤ (r.top : Int) ∧ (r.top : Int) ≤ (r.base : Int) + 1) = true := decide_eq_true (by omega)
  have d3 : decide ((1 : Int) ≤ (r.rows.length : Int) ∧ (r.rows.length : Int) ≤ 5) = true := decide_eq_true (by omega)
  have d4 : decide ((0 : Int) ≤ (r.good.length : Int) ∧ (r.good.length : Int) ≤ (r.rows.length : Int)) = true := decide_eq_true (by omega)
  simp only [R.ok_bind, R.ok_map, R.err_bind, R.err_map, ar0_, ar1_, ar2_, ar3_, ar4_, ar5_, par2_, par3_, par2X_, asB_bl, d_add, d_sub, d_neg, d_lt, d_le, d_gt, d_ge, d_eq, d_ne, eq_bl, ne_bl, d_abs, d_min2, d_max2, d_toInt, len_tup, len_lst, toTup_lst, toTup_tup, toLst_lst, toLst_tup, itemsA_lst, itemsA_tup, part_int, unp2_, unp3_, unp4_, unT2_, unT3_, unT4_, isi_int_int, isi_int_bl, isi_int_non, isi_int_str, isi_int_tup, isi_int_lst, isi_bool_int, isi_bool_bl, isi_tuple_tup, isi_tuple_lst, isi_tuple_int, isi_tuple_non, isi_tuple_bl, isi_tuple_str, ixA_t0, ixA_t1, ixA_t2, ixA_t3, ixA_l0, ixA_l1, setAt_0, setAt_1, mkT_0, mkT_1, mkT_2, mkT_3, mkT_4, mkL_0, mkL_1, mkL_2, mkL_3, mkL_4, mkL_5, mkL_6, fl_up_rt, fl_next_nx, fl_next_rt, fl_after_nx, fl_after_rt, fl_val_rt, fl_valL_rt, fl_valC_rt, turnK_nx, turnK_rt, quiet_ok, iteX_true, iteX_false, needR_some, ite_true, ite_false, Bool.not_true, Bool.not_false, Bool.false_eq_true, reduceIte, decide_true, decide_false, p_is_tuple4, I, TR, p_is_number, d1, d2]
  simp only [R.ok_bind, R.ok_map, R.err_bind, R.err_map, ar0_, ar1_, ar2_, ar3_, ar4_, ar5_, par2_, par3_, par2X_, asB_bl, d_add, d_sub, d_neg, d_lt, d_le, d_gt, d_ge, d_eq, d_ne, eq_bl, ne_bl, d_abs, d_min2, d_max2, d_toInt, len_tup, len_lst, toTup_lst, toTup_tup, toLst_lst, toLst_tup, itemsA_lst, itemsA_tup, part_int, unp2_, unp3_, unp4_, unT2_, unT3_, unT4_, isi_int_int, isi_int_bl, isi_int_non, isi_int_str, isi_int_tup, isi_int_lst, isi_bool_int, isi_bool_bl, isi_tuple_tup, isi_tuple_lst, isi_tuple_int, isi_tuple_non, isi_tuple_bl, isi_tuple_str, ixA_t0, ixA_t1, ixA_t2, ixA_t3, ixA_l0, ixA_l1, setAt_0, setAt_1, mkT_0, mkT_1, mkT_2, mkT_3, mkT_4, mkL_0, mkL_1, mkL_2, mkL_3, mkL_4, mkL_5, mkL_6, fl_up_rt, fl_next_nx, fl_next_rt, fl_after_nx, fl_after_rt, fl_val_rt, fl_valL_rt, fl_valC_rt, turnK_nx, turnK_rt, quiet_ok, iteX_true, iteX_false, needR_some, ite_true, ite_false, Bool.not_true, Bool.not_false, Bool.false_eq_true, reduceIte, decide_true, decide_false, p_is_tuple, List.length_map, d3, d4]
  rw [lcR_all r.rows TN TN (fun _ => .bl true) (sz (by omega)) (fun _ _ => rfl) (fun _ _ => rfl) (fun w hw => by
    have hl := h.len w hw
    have := p_are_spots (h.ent w hw) (by omega)
    rw [hl] at this
    exact this)]
  have e : (r.rows.map fun _ => D.bl true) = (r.rows.map fun _ => true).map D.bl := by simp
  have e2 := p_are_spots h.gl (by omega)
  have e3 := p_are_ascending h.asc (by omega)
  rw [e, enum_tup]
  simp only [R.ok_bind, R.ok_map, R.err_bind, R.err_map, ar0_, ar1_, ar2_, ar3_, ar4_, ar5_, par2_, par3_, par2X_, asB_bl, d_add, d_sub, d_neg, d_lt, d_le, d_gt, d_ge, d_eq, d_ne, eq_bl, ne_bl, d_abs, d_min2, d_max2, d_toInt, len_tup, len_lst, toTup_lst, toTup_tup, toLst_lst, toLst_tup, itemsA_lst, itemsA_tup, part_int, unp2_, unp3_, unp4_, unT2_, unT3_, unT4_, isi_int_int, isi_int_bl, isi_int_non, isi_int_str, isi_int_tup, isi_int_lst, isi_bool_int, isi_bool_bl, isi_tuple_tup, isi_tuple_lst, isi_tuple_int, isi_tuple_non, isi_tuple_bl, isi_tuple_str, ixA_t0, ixA_t1, ixA_t2, ixA_t3, ixA_l0, ixA_l1, setAt_0, setAt_1, mkT_0, mkT_1, mkT_2, mkT_3, mkT_4, mkL_0, mkL_1, mkL_2, mkL_3, mkL_4, mkL_5, mkL_6, fl_up_rt, fl_next_nx, fl_next_rt, fl_after_nx, fl_after_rt, fl_val_rt, fl_valL_rt, fl_valC_rt, turnK_nx, turnK_rt, quiet_ok, iteX_true, iteX_false, needR_some, ite_true, ite_false, Bool.not_true, Bool.not_false, Bool.false_eq_true, reduceIte, decide_true, decide_false, R.ok_bind, R.ok_map, all_bl, asB_bl, e2, e3]
  rw [lcR_all r.rows.zipIdx _ (fun q => (I q.2, TN q.1)) (fun _ => .bl true) (sz (by simp; omega)) (fun _ _ => rfl) (fun _ _ => rfl) (fun q hq => by
    have hg := List.mem_zipIdx_iff_getElem?.mp hq
    have hi : q.2 < r.rows.length := (List.getElem?_eq_some_iff.mp (List.mem_zipIdx_iff_getElem?.mp hq)).1
    have hw : q.1 ∈ r.rows := List.mem_of_getElem? (List.mem_zipIdx_iff_getElem?.mp hq)
    have hl := h.len _ hw
    have hz := h.zero q.2 hi
    have hr : r.row q.2 = q.1 := Option.some.inj ((h.row hi).symm.trans hg)
    unfold Ru.step at hz
    rw [hr] at hz
    have e4 : D.ixA (TN q.1) (.int 0) = .ok (I (q.1.getD 0 0)) := by
      refine ixA_tup (n := 0) ?_
      rw [List.getElem?_map, List.getD_eq_getElem?_getD, List.getElem?_eq_getElem (by omega)]; rfl
    simp only [R.ok_bind, R.ok_map, R.err_bind, R.err_map, ar0_, ar1_, ar2_, ar3_, ar4_, ar5_, par2_, par3_, par2X_, asB_bl, d_add, d_sub, d_neg, d_lt, d_le, d_gt, d_ge, d_eq, d_ne, eq_bl, ne_bl, d_abs, d_min2, d_max2, d_toInt, len_tup, len_lst, toTup_lst, toTup_tup, toLst_lst, toLst_tup, itemsA_lst, itemsA_tup, part_int, unp2_, unp3_, unp4_, unT2_, unT3_, unT4_, isi_int_int, isi_int_bl, isi_int_non, isi_int_str, isi_int_tup, isi_int_lst, isi_bool_int, isi_bool_bl, isi_tuple_tup, isi_tuple_lst, isi_tuple_int, isi_tuple_non, isi_tuple_bl, isi_tuple_str, ixA_t0, ixA_t1, ixA_t2, ixA_t3, ixA_l0, ixA_l1, setAt_0, setAt_1, mkT_0, mkT_1, mkT_2, mkT_3, mkT_4, mkL_0, mkL_1, mkL_2, mkL_3, mkL_4, mkL_5, mkL_6, fl_up_rt, fl_next_nx, fl_next_rt, fl_after_nx, fl_after_rt, fl_val_rt, fl_valL_rt, fl_valC_rt, turnK_nx, turnK_rt, quiet_ok, iteX_true, iteX_false, needR_some, ite_true, ite_false, Bool.not_true, Bool.not_false, Bool.false_eq_true, reduceIte, decide_true, decide_false, R.ok_bind, e4, EqOk.nat.inT, eq_bl]
    have hz' : decide (q.1.getD 0 0 ∈ r.good) = decide (q.2 ∈ r.good) := by simp only [hz]
    rw [hz']
    simp)]
  have e5 : (r.rows.zipIdx.map fun _ => D.bl true) = (r.rows.zipIdx.map fun _ => true).map D.bl := by simp
  rw [e5]
  simp only [R.ok_bind, R.ok_map, R.err_bind, R.err_map, ar0_, ar1_, ar2_, ar3_, ar4_, ar5_, par2_, par3_, par2X_, asB_bl, d_add, d_sub, d_neg, d_lt, d_le, d_gt, d_ge, d_eq, d_ne, eq_bl, ne_bl, d_abs, d_min2, d_max2, d_toInt, len_tup, len_lst, toTup_lst, toTup_tup, toLst_lst, toLst_tup, itemsA_lst, itemsA_tup, part_int, unp2_, unp3_, unp4_, unT2_, unT3_, unT4_, isi_int_int, isi_int_bl, isi_int_non, isi_int_str, isi_int_tup, isi_int_lst, isi_bool_int, isi_bool_bl, isi_tuple_tup, isi_tuple_lst, isi_tuple_int, isi_tuple_non, isi_tuple_bl, isi_tuple_str, ixA_t0, ixA_t1, ixA_t2, ixA_t3, ixA_l0, ixA_l1, setAt_0, setAt_1, mkT_0, mkT_1, mkT_2, mkT_3, mkT_4, mkL_0, mkL_1, mkL_2, mkL_3, mkL_4, mkL_5, mkL_6, fl_up_rt, fl_next_nx, fl_next_rt, fl_after_nx, fl_after_rt, fl_val_rt, fl_valL_rt, fl_valC_rt, turnK_nx, turnK_rt, quiet_ok, iteX_true, iteX_false, needR_some, ite_true, ite_false, Bool.not_true, Bool.not_false, Bool.false_eq_true, reduceIte, decide_true, decide_false, R.ok_bind, R.ok_map, all_bl]
  simp
theorem p_need {r : Ru} (h : r.Ok) : M_need_rule r.d = .ok .non := by
  unfold M_need_rule
  simp only [R.ok_bind, R.ok_map, R.err_bind, R.err_map, ar0_, ar1_, ar2_, ar3_, ar4_, ar5_, par2_, par3_, par2X_, asB_bl, d_add, d_sub, d_neg, d_lt, d_le, d_gt, d_ge, d_eq, d_ne, eq_bl, ne_bl, d_abs, d_min2, d_max2, d_toInt, len_tup, len_lst, toTup_lst, toTup_tup, toLst_lst, toLst_tup, itemsA_lst, itemsA_tup, part_int, unp2_, unp3_, unp4_, unT2_, unT3_, unT4_, isi_int_int, isi_int_bl, isi_int_non, isi_int_str, isi_int_tup, isi_int_lst, isi_bool_int, isi_bool_bl, isi_tuple_tup, isi_tuple_lst, isi_tuple_int, isi_tuple_non, isi_tuple_bl, isi_tuple_str, ixA_t0, ixA_t1, ixA_t2, ixA_t3, ixA_l0, ixA_l1, setAt_0, setAt_1, mkT_0, mkT_1, mkT_2, mkT_3, mkT_4, mkL_0, mkL_1, mkL_2, mkL_3, mkL_4, mkL_5, mkL_6, fl_up_rt, fl_next_nx, fl_next_rt, fl_after_nx, fl_after_rt, fl_val_rt, fl_valL_rt, fl_valC_rt, turnK_nx, turnK_rt, quiet_ok, iteX_true, iteX_false, needR_some, ite_true, ite_false, Bool.not_true, Bool.not_false, Bool.false_eq_true, reduceIte, decide_true, decide_false, R.ok_bind, R.ok_map, ar1_, p_good h, asB_bl]
  rfl
theorem p_source (ns : List Int) (k : Nat) : ∃ c, M__law_source (.lst (ns.map D.int)) (.int k) = .ok c ∧ Sr c := by
  have hm : ∀ x : Int, ∃ v : Nat, x.fmod 2147483646 = v := fun x => (fmod_ex x (by decide : (0 : Int) < 2147483646)).imp fun v h => h.2
  obtain ⟨B, hB, pow10⟩ := pow10
  rcases Nat.lt_or_ge k ns.length with hk | hk
  · have h1 : D.ixA (.lst (ns.map D.int)) (.int (k : Int)) = .ok (.int ns[k]) := ixA_lst (by simp [hk])
    have hk' : decide ((k : Int) < (ns.length : Int)) = true := decide_eq_true (by omega)
    by_cases hc : ((ns[k].natAbs : Nat) : Int) < B
    · obtain ⟨v, e⟩ := hm ((ns[k].natAbs : Int) * 7919 + 104729 * k)
      refine ⟨[.int 0, .int (1 + v)], ?_, 0, 1 + v, by omega, by omega, rfl⟩
      unfold M__law_source
      simp only [R.ok_bind, R.ok_map, R.err_bind, R.err_map, ar0_, ar1_, ar2_, ar3_, ar4_, ar5_, par2_, par3_, par2X_, asB_bl, d_add, d_sub, d_neg, d_lt, d_le, d_gt, d_ge, d_eq, d_ne, eq_bl, ne_bl, d_abs, d_min2, d_max2, d_toInt, len_tup, len_lst, toTup_lst, toTup_tup, toLst_lst, toLst_tup, itemsA_lst, itemsA_tup, part_int, unp2_, unp3_, unp4_, unT2_, unT3_, unT4_, isi_int_int, isi_int_bl, isi_int_non, isi_int_str, isi_int_tup, isi_int_lst, isi_bool_int, isi_bool_bl, isi_tuple_tup, isi_tuple_lst, isi_tuple_int, isi_tuple_non, isi_tuple_bl, isi_tuple_str, ixA_t0, ixA_t1, ixA_t2, ixA_t3, ixA_l0, ixA_l1, setAt_0, setAt_1, mkT_0, mkT_1, mkT_2, mkT_3, mkT_4, mkL_0, mkL_1, mkL_2, mkL_3, mkL_4, mkL_5, mkL_6, fl_up_rt, fl_next_nx, fl_next_rt, fl_after_nx, fl_after_rt, fl_val_rt, fl_valL_rt, fl_valC_rt, turnK_nx, turnK_rt, quiet_ok, iteX_true, iteX_false, needR_some, ite_true, ite_false, Bool.not_true, Bool.not_false, Bool.false_eq_true, reduceIte, decide_true, decide_false, R.ok_bind, len_lst, List.length_map, d_lt, asB_bl, pow10, hk', if_true, h1, d_toInt, d_abs, fl_next_nx, hc, decide_true, d_mul (j := 7919) (.inr (by decide)), d_mul (i := 104729) (.inl (by decide)), d_mod (j := 2147483646) (by decide), e, mkL_2, R.ok_map, fl_up_rt, fl_valL_rt, d_add]
    · obtain ⟨v, e⟩ := hm ((ns[k].natAbs : Int) + k)
      refine ⟨[.int ns[k].natAbs, .int (1 + v)], ?_, _, 1 + v, by omega, by omega, rfl⟩
      unfold M__law_source
      simp only [R.ok_bind, R.ok_map, R.err_bind, R.err_map, ar0_, ar1_, ar2_, ar3_, ar4_, ar5_, par2_, par3_, par2X_, asB_bl, d_add, d_sub, d_neg, d_lt, d_le, d_gt, d_ge, d_eq, d_ne, eq_bl, ne_bl, d_abs, d_min2, d_max2, d_toInt, len_tup, len_lst, toTup_lst, toTup_tup, toLst_lst, toLst_tup, itemsA_lst, itemsA_tup, part_int, unp2_, unp3_, unp4_, unT2_, unT3_, unT4_, isi_int_int, isi_int_bl, isi_int_non, isi_int_str, isi_int_tup, isi_int_lst, isi_bool_int, isi_bool_bl, isi_tuple_tup, isi_tuple_lst, isi_tuple_int, isi_tuple_non, isi_tuple_bl, isi_tuple_str, ixA_t0, ixA_t1, ixA_t2, ixA_t3, ixA_l0, ixA_l1, setAt_0, setAt_1, mkT_0, mkT_1, mkT_2, mkT_3, mkT_4, mkL_0, mkL_1, mkL_2, mkL_3, mkL_4, mkL_5, mkL_6, fl_up_rt, fl_next_nx, fl_next_rt, fl_after_nx, fl_after_rt, fl_val_rt, fl_valL_rt, fl_valC_rt, turnK_nx, turnK_rt, quiet_ok, iteX_true, iteX_false, needR_some, ite_true, ite_false, Bool.not_true, Bool.not_false, Bool.false_eq_true, reduceIte, decide_true, decide_false, R.ok_bind, len_lst, List.length_map, d_lt, asB_bl, pow10, hk', if_true, h1, d_toInt, d_abs, fl_next_nx, hc, decide_false, d_mod (j := 2147483646) (by decide), e, mkL_2, R.ok_map, fl_up_rt, fl_valL_rt, d_add]
  · have hk' : decide ((k : Int) < (ns.length : Int)) = false := decide_eq_false (by omega)
    obtain ⟨v, e⟩ := hm ((0 : Int) * 7919 + 104729 * k)
    refine ⟨[.int 0, .int (1 + v)], ?_, 0, 1 + v, by omega, by omega, rfl⟩
    have hc : decide ((0 : Int) < B) = true := decide_eq_true hB
    unfold M__law_source
    simp only [R.ok_bind, R.ok_map, R.err_bind, R.err_map, ar0_, ar1_, ar2_, ar3_, ar4_, ar5_, par2_, par3_, par2X_, asB_bl, d_add, d_sub, d_neg, d_lt, d_le, d_gt, d_ge, d_eq, d_ne, eq_bl, ne_bl, d_abs, d_min2, d_max2, d_toInt, len_tup, len_lst, toTup_lst, toTup_tup, toLst_lst, toLst_tup, itemsA_lst, itemsA_tup, part_int, unp2_, unp3_, unp4_, unT2_, unT3_, unT4_, isi_int_int, isi_int_bl, isi_int_non, isi_int_str, isi_int_tup, isi_int_lst, isi_bool_int, isi_bool_bl, isi_tuple_tup, isi_tuple_lst, isi_tuple_int, isi_tuple_non, isi_tuple_bl, isi_tuple_str, ixA_t0, ixA_t1, ixA_t2, ixA_t3, ixA_l0, ixA_l1, setAt_0, setAt_1, mkT_0, mkT_1, mkT_2, mkT_3, mkT_4, mkL_0, mkL_1, mkL_2, mkL_3, mkL_4, mkL_5, mkL_6, fl_up_rt, fl_next_nx, fl_next_rt, fl_after_nx, fl_after_rt, fl_val_rt, fl_valL_rt, fl_valC_rt, turnK_nx, turnK_rt, quiet_ok, iteX_true, iteX_false, needR_some, ite_true, ite_false, Bool.not_true, Bool.not_false, Bool.false_eq_true, reduceIte, decide_true, decide_false, R.ok_bind, len_lst, List.length_map, d_lt, asB_bl, pow10, hk', if_false, Bool.false_eq_true, fl_next_nx, hc, if_true, d_mul (j := 7919) (.inr (by decide)), d_mul (i := 104729) (.inl (by decide)), d_mod (j := 2147483646) (by decide), d_toInt, e, mkL_2, R.ok_map, fl_up_rt, fl_valL_rt, d_add]
theorem p_draw {c : List D} (hc : Sr c) {n : Nat} {m : Int} (hm : m = n) (h0 : 0 < n) (h1 : n < 1073741824) : ∃ v c', M__law_draw c (.int m) = .ok (I v, c') ∧ v < n ∧ Sr c' := by
  subst hm
  obtain ⟨a, b, ha, hb, rfl⟩ := hc
  have hn : (n : Int) ≠ 0 := by omega
  have hn2 : (n : Int).natAbs < 1073741824 := by omega
  by_cases h : 0 < a
  · obtain ⟨v, hv, e⟩ := fmod_ex a (by omega : (0 : Int) < n)
    refine ⟨v, [.int (a.fdiv n), .int b], ?_, by omega, _, _, fdiv_ge ha (by omega), hb, rfl⟩
    unfold M__law_draw
    simp only [R.ok_bind, R.ok_map, R.err_bind, R.err_map, ar0_, ar1_, ar2_, ar3_, ar4_, ar5_, par2_, par3_, par2X_, asB_bl, d_add, d_sub, d_neg, d_lt, d_le, d_gt, d_ge, d_eq, d_ne, eq_bl, ne_bl, d_abs, d_min2, d_max2, d_toInt, len_tup, len_lst, toTup_lst, toTup_tup, toLst_lst, toLst_tup, itemsA_lst, itemsA_tup, part_int, unp2_, unp3_, unp4_, unT2_, unT3_, unT4_, isi_int_int, isi_int_bl, isi_int_non, isi_int_str, isi_int_tup, isi_int_lst, isi_bool_int, isi_bool_bl, isi_tuple_tup, isi_tuple_lst, isi_tuple_int, isi_tuple_non, isi_tuple_bl, isi_tuple_str, ixA_t0, ixA_t1, ixA_t2, ixA_t3, ixA_l0, ixA_l1, setAt_0, setAt_1, mkT_0, mkT_1, mkT_2, mkT_3, mkT_4, mkL_0, mkL_1, mkL_2, mkL_3, mkL_4, mkL_5, mkL_6, fl_up_rt, fl_next_nx, fl_next_rt, fl_after_nx, fl_after_rt, fl_val_rt, fl_valL_rt, fl_valC_rt, turnK_nx, turnK_rt, quiet_ok, iteX_true, iteX_false, needR_some, ite_true, ite_false, Bool.not_true, Bool.not_false, Bool.false_eq_true, reduceIte, decide_true, decide_false, R.ok_bind, ixA_l0, d_gt, asB_bl, h, decide_true, if_true, d_toInt, d_mod hn, d_fdiv hn hn2, setAt_0, R.ok_map, fl_up_rt, fl_valC_rt, e]
  · obtain ⟨b', hb', e⟩ := fmod_ex (b * 48271) (by decide : (0 : Int) < 2147483647)
    obtain ⟨v, hv, e2⟩ := fmod_ex ((((b' : Int) * b').fmod 2147483629).fdiv 64) (by omega : (0 : Int) < n)
    refine ⟨v, [.int a, .int b'], ?_, by omega, _, _, ha, by omega, rfl⟩
    unfold M__law_draw
    simp only [R.ok_bind, R.ok_map, R.err_bind, R.err_map, ar0_, ar1_, ar2_, ar3_, ar4_, ar5_, par2_, par3_, par2X_, asB_bl, d_add, d_sub, d_neg, d_lt, d_le, d_gt, d_ge, d_eq, d_ne, eq_bl, ne_bl, d_abs, d_min2, d_max2, d_toInt, len_tup, len_lst, toTup_lst, toTup_tup, toLst_lst, toLst_tup, itemsA_lst, itemsA_tup, part_int, unp2_, unp3_, unp4_, unT2_, unT3_, unT4_, isi_int_int, isi_int_bl, isi_int_non, isi_int_str, isi_int_tup, isi_int_lst, isi_bool_int, isi_bool_bl, isi_tuple_tup, isi_tuple_lst, isi_tuple_int, isi_tuple_non, isi_tuple_bl, isi_tuple_str, ixA_t0, ixA_t1, ixA_t2, ixA_t3, ixA_l0, ixA_l1, setAt_0, setAt_1, mkT_0, mkT_1, mkT_2, mkT_3, mkT_4, mkL_0, mkL_1, mkL_2, mkL_3, mkL_4, mkL_5, mkL_6, fl_up_rt, fl_next_nx, fl_next_rt, fl_after_nx, fl_after_rt, fl_val_rt, fl_valL_rt, fl_valC_rt, turnK_nx, turnK_rt, quiet_ok, iteX_true, iteX_false, needR_some, ite_true, ite_false, Bool.not_true, Bool.not_false, Bool.false_eq_true, reduceIte, decide_true, decide_false, R.ok_bind, ixA_l0, ixA_l1, d_gt, asB_bl, h, decide_false, d_toInt, d_mod hn, d_fdiv hn hn2, setAt_1, R.ok_map, fl_valC_rt, d_mul (i := b) (j := 48271) (.inr (by decide)), d_mod (j := 2147483647) (by decide), e, d_mul (i := (b' : Int)) (j := (b' : Int)) (.inl (by omega)), d_mod (j := 2147483629) (by decide), d_fdiv (j := 64) (by decide) (by decide), e2]
theorem p_of_l {c : List D} (hc : Sr c) {xs : List D} (h0 : 0 < xs.length) (h1 : xs.length < 1073741824) : ∃ x ∈ xs, ∃ c', M__law_of c (.lst xs) = .ok (x, c') ∧ Sr c' := by
  obtain ⟨v, c', e, hv, hc'⟩ := p_draw hc rfl h0 h1
  refine ⟨xs[v], List.getElem_mem _, c', ?_, hc'⟩
  unfold M__law_of
  simp only [R.ok_bind, R.ok_map, R.err_bind, R.err_map, ar0_, ar1_, ar2_, ar3_, ar4_, ar5_, par2_, par3_, par2X_, asB_bl, d_add, d_sub, d_neg, d_lt, d_le, d_gt, d_ge, d_eq, d_ne, eq_bl, ne_bl, d_abs, d_min2, d_max2, d_toInt, len_tup, len_lst, toTup_lst, toTup_tup, toLst_lst, toLst_tup, itemsA_lst, itemsA_tup, part_int, unp2_, unp3_, unp4_, unT2_, unT3_, unT4_, isi_int_int, isi_int_bl, isi_int_non, isi_int_str, isi_int_tup, isi_int_lst, isi_bool_int, isi_bool_bl, isi_tuple_tup, isi_tuple_lst, isi_tuple_int, isi_tuple_non, isi_tuple_bl, isi_tuple_str, ixA_t0, ixA_t1, ixA_t2, ixA_t3, ixA_l0, ixA_l1, setAt_0, setAt_1, mkT_0, mkT_1, mkT_2, mkT_3, mkT_4, mkL_0, mkL_1, mkL_2, mkL_3, mkL_4, mkL_5, mkL_6, fl_up_rt, fl_next_nx, fl_next_rt, fl_after_nx, fl_after_rt, fl_val_rt, fl_valL_rt, fl_valC_rt, turnK_nx, turnK_rt, quiet_ok, iteX_true, iteX_false, needR_some, ite_true, ite_false, Bool.not_true, Bool.not_false, Bool.false_eq_true, reduceIte, decide_true, decide_false, R.ok_bind, R.ok_map, len_lst, ar1_, e, ixA_lst (List.getElem?_eq_getElem hv), fl_valC_rt]
theorem p_of_t {c : List D} (hc : Sr c) {xs : List D} (h0 : 0 < xs.length) (h1 : xs.length < 1073741824) : ∃ x ∈ xs, ∃ c', M__law_of c (.tup xs) = .ok (x, c') ∧ Sr c' := by
  obtain ⟨v, c', e, hv, hc'⟩ := p_draw hc rfl h0 h1
  refine ⟨xs[v], List.getElem_mem _, c', ?_, hc'⟩
  unfold M__law_of
  simp only [R.ok_bind, R.ok_map, R.err_bind, R.err_map, ar0_, ar1_, ar2_, ar3_, ar4_, ar5_, par2_, par3_, par2X_, asB_bl, d_add, d_sub, d_neg, d_lt, d_le, d_gt, d_ge, d_eq, d_ne, eq_bl, ne_bl, d_abs, d_min2, d_max2, d_toInt, len_tup, len_lst, toTup_lst, toTup_tup, toLst_lst, toLst_tup, itemsA_lst, itemsA_tup, part_int, unp2_, unp3_, unp4_, unT2_, unT3_, unT4_, isi_int_int, isi_int_bl, isi_int_non, isi_int_str, isi_int_tup, isi_int_lst, isi_bool_int, isi_bool_bl, isi_tuple_tup, isi_tuple_lst, isi_tuple_int, isi_tuple_non, isi_tuple_bl, isi_tuple_str, ixA_t0, ixA_t1, ixA_t2, ixA_t3, ixA_l0, ixA_l1, setAt_0, setAt_1, mkT_0, mkT_1, mkT_2, mkT_3, mkT_4, mkL_0, mkL_1, mkL_2, mkL_3, mkL_4, mkL_5, mkL_6, fl_up_rt, fl_next_nx, fl_next_rt, fl_after_nx, fl_after_rt, fl_val_rt, fl_valL_rt, fl_valC_rt, turnK_nx, turnK_rt, quiet_ok, iteX_true, iteX_false, needR_some, ite_true, ite_false, Bool.not_true, Bool.not_false, Bool.false_eq_true, reduceIte, decide_true, decide_false, R.ok_bind, R.ok_map, len_tup, ar1_, e, ixA_tup (List.getElem?_eq_getElem hv), fl_valC_rt]
theorem p_known : M__law_known = .ok (.tup [kn1.d, kn2.d, kn3.d, kn4.d]) := rfl
theorem p_rule {c : List D} (hc : Sr c) {most : Nat} {m : Int} (hm : m = most) (h0 : 0 < most) (h5 : most ≤ 5) : (M__law_rule c (.int m)).has fun q => ∃ r : Ru, q.1 = r.d ∧ r.Ok ∧ r.base ≤ 3 ∧ Sr q.2 := by
  subst hm
  obtain ⟨v1, c1, e1, hv1, hc1⟩ := p_draw hc (n := 5) (m := 5) rfl (by decide) (by decide)
  unfold M__law_rule
  by_cases hv : v1 = 0
  · subst hv
    obtain ⟨x, hx, c2, e2, hc2⟩ := p_of_t hc1 (xs := [kn1.d, kn2.d, kn3.d, kn4.d]) (by decide) (by decide)
    have hd : decide (((0 : Nat) : Int) = 0) = true := rfl
    simp only [R.ok_bind, R.ok_map, R.err_bind, R.err_map, ar0_, ar1_, ar2_, ar3_, ar4_, ar5_, par2_, par3_, par2X_, asB_bl, d_add, d_sub, d_neg, d_lt, d_le, d_gt, d_ge, d_eq, d_ne, eq_bl, ne_bl, d_abs, d_min2, d_max2, d_toInt, len_tup, len_lst, toTup_lst, toTup_tup, toLst_lst, toLst_tup, itemsA_lst, itemsA_tup, part_int, unp2_, unp3_, unp4_, unT2_, unT3_, unT4_, isi_int_int, isi_int_bl, isi_int_non, isi_int_str, isi_int_tup, isi_int_lst, isi_bool_int, isi_bool_bl, isi_tuple_tup, isi_tuple_lst, isi_tuple_int, isi_tuple_non, isi_tuple_bl, isi_tuple_str, ixA_t0, ixA_t1, ixA_t2, ixA_t3, ixA_l0, ixA_l1, setAt_0, setAt_1, mkT_0, mkT_1, mkT_2, mkT_3, mkT_4, mkL_0, mkL_1, mkL_2, mkL_3, mkL_4, mkL_5, mkL_6, fl_up_rt, fl_next_nx, fl_next_rt, fl_after_nx, fl_after_rt, fl_val_rt, fl_valL_rt, fl_valC_rt, turnK_nx, turnK_rt, quiet_ok, iteX_true, iteX_false, needR_some, ite_true, ite_false, Bool.not_true, Bool.not_false, Bool.false_eq_true, reduceIte, decide_true, decide_false, e1, I, hd, p_known, e2]
    refine R.has_ok ?_
    simp only [List.mem_cons, List.not_mem_nil, or_false] at hx
    rcases hx with rfl | rfl | rfl | rfl
    · exact ⟨kn1, rfl, kn1_ok, by decide, hc2⟩
    · exact ⟨kn2, rfl, kn2_ok, by decide, hc2⟩
    · exact ⟨kn3, rfl, kn3_ok, by decide, hc2⟩
    · exact ⟨kn4, rfl, kn4_ok, by decide, hc2⟩
  · have hd : decide ((v1 : Int) = 0) = false := decide_eq_false (by omega)
    obtain ⟨x, hx, c2, e2, hc2⟩ := p_of_l hc1 (xs := [.int 2, .int 2, .int 2, .int 3]) (by decide) (by decide)
    obtain ⟨b, hb2, hb3, rfl⟩ : ∃ b : Nat, 2 ≤ b ∧ b ≤ 3 ∧ x = .int b := by
      simp only [List.mem_cons, List.not_mem_nil, or_false] at hx
      rcases hx with rfl | rfl | rfl | rfl
      · exact ⟨2, by decide, by decide, rfl⟩
      · exact ⟨2, by decide, by decide, rfl⟩
      · exact ⟨2, by decide, by decide, rfl⟩
      · exact ⟨3, by decide, by decide, rfl⟩
    obtain ⟨y, hy, c3, e3, hc3⟩ := p_of_l hc2 (xs := [.int 0, .int 1, .int 1, .int 2]) (by decide) (by decide)
    obtain ⟨tp, ht2, rfl⟩ : ∃ b : Nat, b ≤ 2 ∧ y = .int b := by
      simp only [List.mem_cons, List.not_mem_nil, or_false] at hy
      rcases hy with rfl | rfl | rfl | rfl
      · exact ⟨0, by decide, rfl⟩
      · exact ⟨1, by decide, rfl⟩
      · exact ⟨1, by decide, rfl⟩
      · exact ⟨2, by decide, rfl⟩
    obtain ⟨v4, c4, e4, hv4, hc4⟩ := p_draw hc3 (n := most) rfl h0 (by omega)
    obtain ⟨top, htop⟩ : ∃ top : Nat, top = b - 1 + tp := ⟨_, rfl⟩
    obtain ⟨many, hmany⟩ : ∃ many : Nat, many = 1 + v4 := ⟨_, rfl⟩
    have et : (b : Int) - 1 + tp = (top : Int) := by omega
    have et1 : (top : Int) + 1 = ((top + 1 : Nat) : Int) := by omega
    have em : (1 : Int) + v4 = (many : Int) := by omega
    have r1 : D.range1 (.int (many : Int)) = .ok ((List.range many).map I) := range1_nat many (by omega)
    have r2 : D.range1 (.int ((top + 1 : Nat) : Int)) = .ok ((List.range (top + 1)).map I) := range1_nat (top + 1) (by omega)
    simp only [R.ok_bind, R.ok_map, R.err_bind, R.err_map, ar0_, ar1_, ar2_, ar3_, ar4_, ar5_, par2_, par3_, par2X_, asB_bl, d_add, d_sub, d_neg, d_lt, d_le, d_gt, d_ge, d_eq, d_ne, eq_bl, ne_bl, d_abs, d_min2, d_max2, d_toInt, len_tup, len_lst, toTup_lst, toTup_tup, toLst_lst, toLst_tup, itemsA_lst, itemsA_tup, part_int, unp2_, unp3_, unp4_, unT2_, unT3_, unT4_, isi_int_int, isi_int_bl, isi_int_non, isi_int_str, isi_int_tup, isi_int_lst, isi_bool_int, isi_bool_bl, isi_tuple_tup, isi_tuple_lst, isi_tuple_int, isi_tuple_non, isi_tuple_bl, isi_tuple_str, ixA_t0, ixA_t1, ixA_t2, ixA_t3, ixA_l0, ixA_l1, setAt_0, setAt_1, mkT_0, mkT_1, mkT_2, mkT_3, mkT_4, mkL_0, mkL_1, mkL_2, mkL_3, mkL_4, mkL_5, mkL_6, fl_up_rt, fl_next_nx, fl_next_rt, fl_after_nx, fl_after_rt, fl_val_rt, fl_valL_rt, fl_valC_rt, turnK_nx, turnK_rt, quiet_ok, iteX_true, iteX_false, needR_some, ite_true, ite_false, Bool.not_true, Bool.not_false, Bool.false_eq_true, reduceIte, decide_true, decide_false, e1, I, hd, e2, e3, e4, et, em, et1, r1, r2]
    refine R.has_bind (P := fun fl => ∃ q, fl = Fl.rt q ∧ ∃ r : Ru, q.1 = r.d ∧ r.Ok ∧ r.base ≤ 3 ∧ Sr q.2) ?_ (fun fl ⟨q, e, h⟩ => by subst e; exact R.has_ok h)
    refine R.has_bind (forL_has (List.range many) I I (fun k s => Sr s.1 ∧ ∃ rows : List (List Nat), s.2 = rows.map (fun w => w.map I) ∧ rows.length = k ∧ ∀ w ∈ rows, w.length = top + 1 ∧ ∀ x ∈ w, x < many) (fun _ _ => rfl) ?_ ⟨hc4, [], rfl, rfl, fun w hw => absurd hw (by simp)⟩) ?_
    · rintro k i hi ⟨s1, s2⟩ ⟨hs, rows, rfl, hl, hr⟩
      have hk : k < many := by simpa using (List.getElem?_eq_some_iff.mp hi).1
      refine R.has_bind (lcRX_has (List.range (top + 1)) I I (fun _ d => ∃ x, d = I x ∧ x < many) Sr (sz (by simp; omega)) (fun _ _ => rfl) (fun _ _ _ _ => rfl) (fun j hj t ht => ?_) hs) ?_
      · obtain ⟨v, c', e, hv, hc'⟩ := p_draw ht (n := many) rfl (by omega) (by omega)
        exact R.has_of e ⟨⟨v, rfl, hv⟩, hc'⟩
      · rintro ⟨ds, t⟩ ⟨hlen, hall, ht⟩
        obtain ⟨w, rfl, hw⟩ := nats_of fun d hd => (mem_of_ix hlen hall d hd).elim fun _ h => h.2
        rw [apLL_ok (by simp; omega)]
        refine R.has_ok ⟨_, rfl, ht, rows ++ [w], by simp, by simp [hl], fun u hu => ?_⟩
        rcases List.mem_append.mp hu with hu | hu
        · exact hr u hu
        · simp at hu hlen
          subst hu
          exact ⟨hlen, hw⟩
    · rintro fl ⟨⟨s1, s2⟩, rfl, hs, rows, rfl, hl, hr⟩
      rw [List.length_range] at hl
      simp only [fl_after_nx]
      refine R.has_bind (P := fun q => ∃ good : List Nat, q.1 = .lst (good.map I) ∧ good.Sublist (List.range many) ∧ Sr q.2) (R.has_map (R.has_mono (lcRX_part (List.range many) I I Sr (sz (by simp; omega)) (fun _ _ => rfl) (fun i hi t ht => ?_) (fun _ _ _ => rfl) hs) fun q ⟨ys, h1, h2, h3⟩ => ⟨ys, congrArg D.lst h1, h2, h3⟩)) ?_
      · obtain ⟨v, c', e, hv, hc'⟩ := p_draw ht (n := 4) (m := 4) rfl (by decide) (by decide)
        simp only [R.ok_bind, R.ok_map, R.err_bind, R.err_map, ar0_, ar1_, ar2_, ar3_, ar4_, ar5_, par2_, par3_, par2X_, asB_bl, d_add, d_sub, d_neg, d_lt, d_le, d_gt, d_ge, d_eq, d_ne, eq_bl, ne_bl, d_abs, d_min2, d_max2, d_toInt, len_tup, len_lst, toTup_lst, toTup_tup, toLst_lst, toLst_tup, itemsA_lst, itemsA_tup, part_int, unp2_, unp3_, unp4_, unT2_, unT3_, unT4_, isi_int_int, isi_int_bl, isi_int_non, isi_int_str, isi_int_tup, isi_int_lst, isi_bool_int, isi_bool_bl, isi_tuple_tup, isi_tuple_lst, isi_tuple_int, isi_tuple_non, isi_tuple_bl, isi_tuple_str, ixA_t0, ixA_t1, ixA_t2, ixA_t3, ixA_l0, ixA_l1, setAt_0, setAt_1, mkT_0, mkT_1, mkT_2, mkT_3, mkT_4, mkL_0, mkL_1, mkL_2, mkL_3, mkL_4, mkL_5, mkL_6, fl_up_rt, fl_next_nx, fl_next_rt, fl_after_nx, fl_after_rt, fl_val_rt, fl_valL_rt, fl_valC_rt, turnK_nx, turnK_rt, quiet_ok, iteX_true, iteX_false, needR_some, ite_true, ite_false, Bool.not_true, Bool.not_false, Bool.false_eq_true, reduceIte, decide_true, decide_false, e, I]
        exact R.has_ok hc'
      · rintro ⟨g0, s3⟩ ⟨good, rfl, hg, hs2⟩
        have hgl : ∀ x ∈ good, x < many := fun x hx => by simpa using hg.subset hx
        refine R.has_bind (forL_has (List.range many) I I (fun k s => Sr s.1 ∧ ∃ rows : List (List Nat), s.2 = rows.map (fun w => w.map I) ∧ rows.length = many ∧ (∀ w ∈ rows, w.length = top + 1 ∧ ∀ x ∈ w, x < many) ∧ ∀ j, j < k → ((rows.getD j []).getD 0 0 ∈ good ↔ j ∈ good)) (fun _ _ => rfl) ?_ ⟨hs2, rows, rfl, hl, hr, fun j hj => absurd hj (by omega)⟩) ?_
        · rintro k i hi ⟨s1, s2⟩ ⟨hs, rows, rfl, hl, hr, hz⟩
          obtain ⟨hk, rfl⟩ : k < many ∧ k = i := by
            obtain ⟨h1, h2⟩ := List.getElem?_eq_some_iff.mp hi
            simp at h1 h2
            exact ⟨h1, h2⟩
          obtain ⟨w, hw⟩ : ∃ w, rows[k]? = some w := ⟨_, List.getElem?_eq_getElem (by omega)⟩
          obtain ⟨wl, we⟩ := hr w (List.mem_of_getElem? hw)
          obtain ⟨a, u, rfl⟩ : ∃ a u, w = a :: u := by
            cases w with
            | nil => simp at wl
            | cons a u => exact ⟨a, u, rfl⟩
          have e1 := EqOk.nat.inL k good
          have hw2 : (rows.map fun w => w.map I)[k]? = some (I a :: u.map I) := by rw [List.getElem?_map, hw]; rfl
          have e2 := ixLL_ok hw2
          simp only [R.ok_bind, R.ok_map, R.err_bind, R.err_map, ar0_, ar1_, ar2_, ar3_, ar4_, ar5_, par2_, par3_, par2X_, asB_bl, d_add, d_sub, d_neg, d_lt, d_le, d_gt, d_ge, d_eq, d_ne, eq_bl, ne_bl, d_abs, d_min2, d_max2, d_toInt, len_tup, len_lst, toTup_lst, toTup_tup, toLst_lst, toLst_tup, itemsA_lst, itemsA_tup, part_int, unp2_, unp3_, unp4_, unT2_, unT3_, unT4_, isi_int_int, isi_int_bl, isi_int_non, isi_int_str, isi_int_tup, isi_int_lst, isi_bool_int, isi_bool_bl, isi_tuple_tup, isi_tuple_lst, isi_tuple_int, isi_tuple_non, isi_tuple_bl, isi_tuple_str, ixA_t0, ixA_t1, ixA_t2, ixA_t3, ixA_l0, ixA_l1, setAt_0, setAt_1, mkT_0, mkT_1, mkT_2, mkT_3, mkT_4, mkL_0, mkL_1, mkL_2, mkL_3, mkL_4, mkL_5, mkL_6, fl_up_rt, fl_next_nx, fl_next_rt, fl_after_nx, fl_after_rt, fl_val_rt, fl_valL_rt, fl_valC_rt, turnK_nx, turnK_rt, quiet_ok, iteX_true, iteX_false, needR_some, ite_true, ite_false, Bool.not_true, Bool.not_false, Bool.false_eq_true, reduceIte, decide_true, decide_false, e1]
          rw [lcR_ok (List.range many) I I (fun t => decide (decide (t ∈ good) = decide (k ∈ good))) I (sz (by simp; omega)) (fun _ _ => rfl) (fun t ht => by
            simp only [R.ok_bind, R.ok_map, R.err_bind, R.err_map, ar0_, ar1_, ar2_, ar3_, ar4_, ar5_, par2_, par3_, par2X_, asB_bl, d_add, d_sub, d_neg, d_lt, d_le, d_gt, d_ge, d_eq, d_ne, eq_bl, ne_bl, d_abs, d_min2, d_max2, d_toInt, len_tup, len_lst, toTup_lst, toTup_tup, toLst_lst, toLst_tup, itemsA_lst, itemsA_tup, part_int, unp2_, unp3_, unp4_, unT2_, unT3_, unT4_, isi_int_int, isi_int_bl, isi_int_non, isi_int_str, isi_int_tup, isi_int_lst, isi_bool_int, isi_bool_bl, isi_tuple_tup, isi_tuple_lst, isi_tuple_int, isi_tuple_non, isi_tuple_bl, isi_tuple_str, ixA_t0, ixA_t1, ixA_t2, ixA_t3, ixA_l0, ixA_l1, setAt_0, setAt_1, mkT_0, mkT_1, mkT_2, mkT_3, mkT_4, mkL_0, mkL_1, mkL_2, mkL_3, mkL_4, mkL_5, mkL_6, fl_up_rt, fl_next_nx, fl_next_rt, fl_after_nx, fl_after_rt, fl_val_rt, fl_valL_rt, fl_valC_rt, turnK_nx, turnK_rt, quiet_ok, iteX_true, iteX_false, needR_some, ite_true, ite_false, Bool.not_true, Bool.not_false, Bool.false_eq_true, reduceIte, decide_true, decide_false, EqOk.nat.inL]) (fun _ _ _ => rfl)]
          obtain ⟨same, hsame⟩ : ∃ same, same = (List.range many).filter fun t => decide (decide (t ∈ good) = decide (k ∈ good)) := ⟨_, rfl⟩
          rw [← hsame]
          have hks : k ∈ same := by rw [hsame]; simp [hk]
          have hsm : ∀ x ∈ same, x < many ∧ (x ∈ good ↔ k ∈ good) := fun x hx => by
            rw [hsame] at hx
            simpa using hx
          have fin : ∀ rows' : List (List Nat), rows'.length = many → (∀ w ∈ rows', w.length = top + 1 ∧ ∀ x ∈ w, x < many) → (∀ j, j ≠ k → rows'.getD j [] = rows.getD j []) → ((rows'.getD k []).getD 0 0 ∈ good ↔ k ∈ good) → ∀ j, j < k + 1 → ((rows'.getD j []).getD 0 0 ∈ good ↔ j ∈ good) := by
            intro rows' _ _ h3 h4 j hj
            by_cases hjk : j = k
            · rw [hjk]; exact h4
            · rw [h3 j hjk]; exact hz j (by omega)
          simp only [R.ok_bind, R.ok_map, R.err_bind, R.err_map, ar0_, ar1_, ar2_, ar3_, ar4_, ar5_, par2_, par3_, par2X_, asB_bl, d_add, d_sub, d_neg, d_lt, d_le, d_gt, d_ge, d_eq, d_ne, eq_bl, ne_bl, d_abs, d_min2, d_max2, d_toInt, len_tup, len_lst, toTup_lst, toTup_tup, toLst_lst, toLst_tup, itemsA_lst, itemsA_tup, part_int, unp2_, unp3_, unp4_, unT2_, unT3_, unT4_, isi_int_int, isi_int_bl, isi_int_non, isi_int_str, isi_int_tup, isi_int_lst, isi_bool_int, isi_bool_bl, isi_tuple_tup, isi_tuple_lst, isi_tuple_int, isi_tuple_non, isi_tuple_bl, isi_tuple_str, ixA_t0, ixA_t1, ixA_t2, ixA_t3, ixA_l0, ixA_l1, setAt_0, setAt_1, mkT_0, mkT_1, mkT_2, mkT_3, mkT_4, mkL_0, mkL_1, mkL_2, mkL_3, mkL_4, mkL_5, mkL_6, fl_up_rt, fl_next_nx, fl_next_rt, fl_after_nx, fl_after_rt, fl_val_rt, fl_valL_rt, fl_valC_rt, turnK_nx, turnK_rt, quiet_ok, iteX_true, iteX_false, needR_some, ite_true, ite_false, Bool.not_true, Bool.not_false, Bool.false_eq_true, reduceIte, decide_true, decide_false, e2, EqOk.nat.notInL]
          by_cases ha : a ∈ same
          · rw [decide_eq_true ha]
            simp only [R.ok_bind, R.ok_map, R.err_bind, R.err_map, ar0_, ar1_, ar2_, ar3_, ar4_, ar5_, par2_, par3_, par2X_, asB_bl, d_add, d_sub, d_neg, d_lt, d_le, d_gt, d_ge, d_eq, d_ne, eq_bl, ne_bl, d_abs, d_min2, d_max2, d_toInt, len_tup, len_lst, toTup_lst, toTup_tup, toLst_lst, toLst_tup, itemsA_lst, itemsA_tup, part_int, unp2_, unp3_, unp4_, unT2_, unT3_, unT4_, isi_int_int, isi_int_bl, isi_int_non, isi_int_str, isi_int_tup, isi_int_lst, isi_bool_int, isi_bool_bl, isi_tuple_tup, isi_tuple_lst, isi_tuple_int, isi_tuple_non, isi_tuple_bl, isi_tuple_str, ixA_t0, ixA_t1, ixA_t2, ixA_t3, ixA_l0, ixA_l1, setAt_0, setAt_1, mkT_0, mkT_1, mkT_2, mkT_3, mkT_4, mkL_0, mkL_1, mkL_2, mkL_3, mkL_4, mkL_5, mkL_6, fl_up_rt, fl_next_nx, fl_next_rt, fl_after_nx, fl_after_rt, fl_val_rt, fl_valL_rt, fl_valC_rt, turnK_nx, turnK_rt, quiet_ok, iteX_true, iteX_false, needR_some, ite_true, ite_false, Bool.not_true, Bool.not_false, Bool.false_eq_true, reduceIte, decide_true, decide_false]
            refine R.has_ok ⟨_, rfl, hs, rows, rfl, hl, hr, fin rows hl hr (fun _ _ => rfl) ?_⟩
            have hrow : rows.getD k [] = a :: u := by rw [List.getD_eq_getElem?_getD, hw]; rfl
            rw [hrow]
            exact (hsm a ha).2
          · rw [decide_eq_false ha]
            have hlen : (same.map I).length < 1073741824 := by
              rw [hsame, List.length_map]
              have := List.length_filter_le (fun t => decide (decide (t ∈ good) = decide (k ∈ good))) (List.range many)
              simp only [List.length_range] at this
              omega
            obtain ⟨x, hx, c', e3, hc'⟩ := p_of_l hs (xs := same.map I) (by rw [List.length_map]; exact List.length_pos_of_mem hks) hlen
            obtain ⟨x, hxs, rfl⟩ := List.mem_map.mp hx
            simp only [R.ok_bind, R.ok_map, R.err_bind, R.err_map, ar0_, ar1_, ar2_, ar3_, ar4_, ar5_, par2_, par3_, par2X_, asB_bl, d_add, d_sub, d_neg, d_lt, d_le, d_gt, d_ge, d_eq, d_ne, eq_bl, ne_bl, d_abs, d_min2, d_max2, d_toInt, len_tup, len_lst, toTup_lst, toTup_tup, toLst_lst, toLst_tup, itemsA_lst, itemsA_tup, part_int, unp2_, unp3_, unp4_, unT2_, unT3_, unT4_, isi_int_int, isi_int_bl, isi_int_non, isi_int_str, isi_int_tup, isi_int_lst, isi_bool_int, isi_bool_bl, isi_tuple_tup, isi_tuple_lst, isi_tuple_int, isi_tuple_non, isi_tuple_bl, isi_tuple_str, ixA_t0, ixA_t1, ixA_t2, ixA_t3, ixA_l0, ixA_l1, setAt_0, setAt_1, mkT_0, mkT_1, mkT_2, mkT_3, mkT_4, mkL_0, mkL_1, mkL_2, mkL_3, mkL_4, mkL_5, mkL_6, fl_up_rt, fl_next_nx, fl_next_rt, fl_after_nx, fl_after_rt, fl_val_rt, fl_valL_rt, fl_valC_rt, turnK_nx, turnK_rt, quiet_ok, iteX_true, iteX_false, needR_some, ite_true, ite_false, Bool.not_true, Bool.not_false, Bool.false_eq_true, reduceIte, decide_true, decide_false, e3]
            rw [setLLX_ok (j := 0) (j' := 0) rfl hw2 (by simp)]
            simp only [R.ok_bind, R.ok_map, R.err_bind, R.err_map, ar0_, ar1_, ar2_, ar3_, ar4_, ar5_, par2_, par3_, par2X_, asB_bl, d_add, d_sub, d_neg, d_lt, d_le, d_gt, d_ge, d_eq, d_ne, eq_bl, ne_bl, d_abs, d_min2, d_max2, d_toInt, len_tup, len_lst, toTup_lst, toTup_tup, toLst_lst, toLst_tup, itemsA_lst, itemsA_tup, part_int, unp2_, unp3_, unp4_, unT2_, unT3_, unT4_, isi_int_int, isi_int_bl, isi_int_non, isi_int_str, isi_int_tup, isi_int_lst, isi_bool_int, isi_bool_bl, isi_tuple_tup, isi_tuple_lst, isi_tuple_int, isi_tuple_non, isi_tuple_bl, isi_tuple_str, ixA_t0, ixA_t1, ixA_t2, ixA_t3, ixA_l0, ixA_l1, setAt_0, setAt_1, mkT_0, mkT_1, mkT_2, mkT_3, mkT_4, mkL_0, mkL_1, mkL_2, mkL_3, mkL_4, mkL_5, mkL_6, fl_up_rt, fl_next_nx, fl_next_rt, fl_after_nx, fl_after_rt, fl_val_rt, fl_valL_rt, fl_valC_rt, turnK_nx, turnK_rt, quiet_ok, iteX_true, iteX_false, needR_some, ite_true, ite_false, Bool.not_true, Bool.not_false, Bool.false_eq_true, reduceIte, decide_true, decide_false]
            refine R.has_ok ⟨_, rfl, hc', rows.set k (x :: u), ?_, by simp [hl], ?_, fin _ (by simp [hl]) ?_ ?_ ?_⟩
            · rw [List.map_set]; rfl
            · intro w' hw'
              rcases List.mem_or_eq_of_mem_set hw' with h | rfl
              · exact hr w' h
              · refine ⟨by simpa using wl, fun y hy => ?_⟩
                rcases List.mem_cons.mp hy with rfl | hy
                · exact (hsm _ hxs).1
                · exact we y (by simp [hy])
            · intro w' hw'
              rcases List.mem_or_eq_of_mem_set hw' with h | rfl
              · exact hr w' h
              · refine ⟨by simpa using wl, fun y hy => ?_⟩
                rcases List.mem_cons.mp hy with rfl | hy
                · exact (hsm _ hxs).1
                · exact we y (by simp [hy])
            · intro j hj
              rw [List.getD_eq_getElem?_getD, List.getD_eq_getElem?_getD, List.getElem?_set_ne (Ne.symm hj)]
            · have hrow : (rows.set k (x :: u)).getD k [] = x :: u := by rw [List.getD_eq_getElem?_getD, List.getElem?_set_self (by omega)]; rfl
              rw [hrow]
              exact (hsm x hxs).2
        · rintro fl ⟨⟨s4, s5⟩, rfl, hs4, rows, rfl, hl, hr, hz⟩
          rw [List.length_range] at hz
          simp only [fl_after_nx, R.ok_bind, R.ok_map, R.err_bind, R.err_map, ar0_, ar1_, ar2_, ar3_, ar4_, ar5_, par2_, par3_, par2X_, asB_bl, d_add, d_sub, d_neg, d_lt, d_le, d_gt, d_ge, d_eq, d_ne, eq_bl, ne_bl, d_abs, d_min2, d_max2, d_toInt, len_tup, len_lst, toTup_lst, toTup_tup, toLst_lst, toLst_tup, itemsA_lst, itemsA_tup, part_int, unp2_, unp3_, unp4_, unT2_, unT3_, unT4_, isi_int_int, isi_int_bl, isi_int_non, isi_int_str, isi_int_tup, isi_int_lst, isi_bool_int, isi_bool_bl, isi_tuple_tup, isi_tuple_lst, isi_tuple_int, isi_tuple_non, isi_tuple_bl, isi_tuple_str, ixA_t0, ixA_t1, ixA_t2, ixA_t3, ixA_l0, ixA_l1, setAt_0, setAt_1, mkT_0, mkT_1, mkT_2, mkT_3, mkT_4, mkL_0, mkL_1, mkL_2, mkL_3, mkL_4, mkL_5, mkL_6, fl_up_rt, fl_next_nx, fl_next_rt, fl_after_nx, fl_after_rt, fl_val_rt, fl_valL_rt, fl_valC_rt, turnK_nx, turnK_rt, quiet_ok, iteX_true, iteX_false, needR_some, ite_true, ite_false, Bool.not_true, Bool.not_false, Bool.false_eq_true, reduceIte, decide_true, decide_false]
          have em : List.map D.lst (rows.map fun w => w.map I) = rows.map fun w => D.lst (w.map I) := by rw [List.map_map]; rfl
          rw [em, lcR_all rows (fun w => D.lst (w.map I)) (fun w => D.lst (w.map I)) TN (sz (by omega)) (fun _ _ => rfl) (fun _ _ => rfl) (fun _ _ => rfl)]
          simp only [R.ok_bind, R.ok_map, R.err_bind, R.err_map, ar0_, ar1_, ar2_, ar3_, ar4_, ar5_, par2_, par3_, par2X_, asB_bl, d_add, d_sub, d_neg, d_lt, d_le, d_gt, d_ge, d_eq, d_ne, eq_bl, ne_bl, d_abs, d_min2, d_max2, d_toInt, len_tup, len_lst, toTup_lst, toTup_tup, toLst_lst, toLst_tup, itemsA_lst, itemsA_tup, part_int, unp2_, unp3_, unp4_, unT2_, unT3_, unT4_, isi_int_int, isi_int_bl, isi_int_non, isi_int_str, isi_int_tup, isi_int_lst, isi_bool_int, isi_bool_bl, isi_tuple_tup, isi_tuple_lst, isi_tuple_int, isi_tuple_non, isi_tuple_bl, isi_tuple_str, ixA_t0, ixA_t1, ixA_t2, ixA_t3, ixA_l0, ixA_l1, setAt_0, setAt_1, mkT_0, mkT_1, mkT_2, mkT_3, mkT_4, mkL_0, mkL_1, mkL_2, mkL_3, mkL_4, mkL_5, mkL_6, fl_up_rt, fl_next_nx, fl_next_rt, fl_after_nx, fl_after_rt, fl_val_rt, fl_valL_rt, fl_valC_rt, turnK_nx, turnK_rt, quiet_ok, iteX_true, iteX_false, needR_some, ite_true, ite_false, Bool.not_true, Bool.not_false, Bool.false_eq_true, reduceIte, decide_true, decide_false]
          refine R.has_ok ⟨_, rfl, ⟨b, top, rows, good⟩, rfl, ⟨hb2, by simp; omega, by simp; omega, by simp; omega, by simp; omega, by simp; omega, fun w hw => (hr w hw).1, fun w hw x hx => by simp only [hl]; exact (hr w hw).2 x hx, ?_, fun x hx => by simp only [hl]; exact hgl x hx, fun i hi => ?_⟩, hb3, hs4⟩
          · exact List.Pairwise.sublist hg List.pairwise_lt_range
          · exact hz i (by simp only [hl] at hi; exact hi)
end K08
namespace K08
open PySem PySem.Spec PyProof.Rows L2 DL
open DL (D R)
abbrev KT (K : List Pr) : List (List Key × D) := DT (fun _ => .bl true) K
theorem p_first_unlike {r q : Ru} (hr : r.Ok) (hq : q.Ok) (ht : q.top = r.top) {l : Lam} {W : Bool → Bool → Bool} (hl : ∀ a b : Bool, cal_first_unlike l [.bl a, .bl b] = .ok (.bl (W a b))) : M_first_unlike r.d q.d (.clo l []) = .ok (optD (bfs2 r q W)) := by
  refine R.has_eq ?_
  unfold M_first_unlike
  have e0 : D.mkTT (.tup [.int 0, .int 0]) (.bl true) = .ok (KT [(0, 0)]) := rfl
  have hd3 : D.ixA r.d (.int 3) = .ok (TN r.good) := ixA_t3 _ _ _ _ _
  have hq3 : D.ixA q.d (.int 3) = .ok (TN q.good) := ixA_t3 _ _ _ _ _
  have hd2 : D.ixA r.d (.int 2) = .ok (TR r.rows) := ixA_t2 _ _ _ _
  have hq2 : D.ixA q.d (.int 2) = .ok (TR q.rows) := ixA_t2 _ _ _ _
  have hd1 : D.ixA r.d (.int 1) = .ok (.int (r.top : Int)) := ixA_t1 _ _ _
  have r1 : D.range1 (.int ((r.top : Int) + 1)) = .ok ((List.range (r.top + 1)).map I) := range1_nat (r.top + 1) (by have := hr.t2; have := hr.b2; omega)
  simp only [R.ok_bind, R.ok_map, R.err_bind, R.err_map, ar0_, ar1_, ar2_, ar3_, ar4_, ar5_, par2_, par3_, par2X_, asB_bl, d_add, d_sub, d_neg, d_lt, d_le, d_gt, d_ge, d_eq, d_ne, eq_bl, ne_bl, d_abs, d_min2, d_max2, d_toInt, len_tup, len_lst, toTup_lst, toTup_tup, toLst_lst, toLst_tup, itemsA_lst, itemsA_tup, part_int, unp2_, unp3_, unp4_, unT2_, unT3_, unT4_, isi_int_int, isi_int_bl, isi_int_non, isi_int_str, isi_int_tup, isi_int_lst, isi_bool_int, isi_bool_bl, isi_tuple_tup, isi_tuple_lst, isi_tuple_int, isi_tuple_non, isi_tuple_bl, isi_tuple_str, ixA_t0, ixA_t1, ixA_t2, ixA_t3, ixA_l0, ixA_l1, setAt_0, setAt_1, mkT_0, mkT_1, mkT_2, mkT_3, mkT_4, mkL_0, mkL_1, mkL_2, mkL_3, mkL_4, mkL_5, mkL_6, fl_up_rt, fl_next_nx, fl_next_rt, fl_after_nx, fl_after_rt, fl_val_rt, fl_valL_rt, fl_valC_rt, turnK_nx, turnK_rt, quiet_ok, iteX_true, iteX_false, needR_some, ite_true, ite_false, Bool.not_true, Bool.not_false, Bool.false_eq_true, reduceIte, decide_true, decide_false, R.bind_assoc, callC_clo, e0]
  refine R.has_bind (P := fun fl => (∃ w, fl = .rt (TN w) ∧ bfs2 r q W = some w) ∨ (∃ s', fl = .nx s' ∧ bfs2 r q W = none)) (whileR_ret (S := List (List Key × D) × D) (γ := D)
    (fun k s => ∃ K line done, s = (KT K, .lst (line.map T2)) ∧ Bf r q W k K line done ∧ go2 r q W (26 - k) K line = bfs2 r q W) _ 25 ?_ FUEL 0 _ (by have : FUEL = 1099511627776 := rfl; omega) (Nat.zero_le _) ⟨_, _, [], rfl, bf_start, rfl⟩) ?_
  · rintro k s hk ⟨K, line, done, rfl, b, hg⟩
    have hne := ne_lnil (n := 2) (xs := line.map T2) (fun x hx => by
      obtain ⟨e, _, rfl⟩ := List.mem_map.mp hx
      exact flat_T2 e) (by decide)
    simp only [R.ok_bind, R.ok_map, R.err_bind, R.err_map, ar0_, ar1_, ar2_, ar3_, ar4_, ar5_, par2_, par3_, par2X_, asB_bl, d_add, d_sub, d_neg, d_lt, d_le, d_gt, d_ge, d_eq, d_ne, eq_bl, ne_bl, d_abs, d_min2, d_max2, d_toInt, len_tup, len_lst, toTup_lst, toTup_tup, toLst_lst, toLst_tup, itemsA_lst, itemsA_tup, part_int, unp2_, unp3_, unp4_, unT2_, unT3_, unT4_, isi_int_int, isi_int_bl, isi_int_non, isi_int_str, isi_int_tup, isi_int_lst, isi_bool_int, isi_bool_bl, isi_tuple_tup, isi_tuple_lst, isi_tuple_int, isi_tuple_non, isi_tuple_bl, isi_tuple_str, ixA_t0, ixA_t1, ixA_t2, ixA_t3, ixA_l0, ixA_l1, setAt_0, setAt_1, mkT_0, mkT_1, mkT_2, mkT_3, mkT_4, mkL_0, mkL_1, mkL_2, mkL_3, mkL_4, mkL_5, mkL_6, fl_up_rt, fl_next_nx, fl_next_rt, fl_after_nx, fl_after_rt, fl_val_rt, fl_valL_rt, fl_valC_rt, turnK_nx, turnK_rt, quiet_ok, iteX_true, iteX_false, needR_some, ite_true, ite_false, Bool.not_true, Bool.not_false, Bool.false_eq_true, reduceIte, decide_true, decide_false, hne]
    by_cases hnil : line = []
    · subst hnil
      rw [go_nil] at hg
      exact .inl ⟨rfl, .inr ⟨_, rfl, hg.symm⟩⟩
    · have hie : (!(line.map T2).isEmpty) = true := by
        cases line with
        | nil => exact absurd rfl hnil
        | cons a b => rfl
      refine .inr ⟨by rw [hie], ?_⟩
      have hk25 : k < 25 := by
        rcases Nat.lt_or_ge k 25 with h | h
        · exact h
        · have : k = 25 := by omega
          subst this
          exact absurd (b.end_ hr hq ht) hnil
      have key := fun (f : List (List Key × D) × List D → D × D → R (Fl (List (List Key × D) × List D) (List (List Key × D) × List D) D)) hf => forL_find (f := f) (un := unT2 unN unN) T2 (fun e => (TQ e.1, TN e.2)) (fun e => want2 r q W e.1) (fun e => TN e.2) (fun st : List Pr × List E2 => (KT st.1, st.2.map T2)) (exp2 r q) (Sz2 r q) line (fun _ _ => rfl) hf (K, []) (b.sz hr hq ht)
      have hn : 26 - k = (25 - k) + 1 := by omega
      rw [hn] at hg
      unfold go2 at hg
      have key2 := fun f hf => key f hf
      simp only [List.map_nil] at key2
      rw [key2]
      · cases hf : line.find? fun e => want2 r q W e.1 with
        | some e =>
          rw [hf] at hg
          simp only [R.ok_bind, R.ok_map, R.err_bind, R.err_map, ar0_, ar1_, ar2_, ar3_, ar4_, ar5_, par2_, par3_, par2X_, asB_bl, d_add, d_sub, d_neg, d_lt, d_le, d_gt, d_ge, d_eq, d_ne, eq_bl, ne_bl, d_abs, d_min2, d_max2, d_toInt, len_tup, len_lst, toTup_lst, toTup_tup, toLst_lst, toLst_tup, itemsA_lst, itemsA_tup, part_int, unp2_, unp3_, unp4_, unT2_, unT3_, unT4_, isi_int_int, isi_int_bl, isi_int_non, isi_int_str, isi_int_tup, isi_int_lst, isi_bool_int, isi_bool_bl, isi_tuple_tup, isi_tuple_lst, isi_tuple_int, isi_tuple_non, isi_tuple_bl, isi_tuple_str, ixA_t0, ixA_t1, ixA_t2, ixA_t3, ixA_l0, ixA_l1, setAt_0, setAt_1, mkT_0, mkT_1, mkT_2, mkT_3, mkT_4, mkL_0, mkL_1, mkL_2, mkL_3, mkL_4, mkL_5, mkL_6, fl_up_rt, fl_next_nx, fl_next_rt, fl_after_nx, fl_after_rt, fl_val_rt, fl_valL_rt, fl_valC_rt, turnK_nx, turnK_rt, quiet_ok, iteX_true, iteX_false, needR_some, ite_true, ite_false, Bool.not_true, Bool.not_false, Bool.false_eq_true, reduceIte, decide_true, decide_false]
          exact .inl ⟨_, rfl, .inl ⟨_, rfl, hg.symm⟩⟩
        | none =>
          rw [hf] at hg
          simp only [R.ok_bind, R.ok_map, R.err_bind, R.err_map, ar0_, ar1_, ar2_, ar3_, ar4_, ar5_, par2_, par3_, par2X_, asB_bl, d_add, d_sub, d_neg, d_lt, d_le, d_gt, d_ge, d_eq, d_ne, eq_bl, ne_bl, d_abs, d_min2, d_max2, d_toInt, len_tup, len_lst, toTup_lst, toTup_tup, toLst_lst, toLst_tup, itemsA_lst, itemsA_tup, part_int, unp2_, unp3_, unp4_, unT2_, unT3_, unT4_, isi_int_int, isi_int_bl, isi_int_non, isi_int_str, isi_int_tup, isi_int_lst, isi_bool_int, isi_bool_bl, isi_tuple_tup, isi_tuple_lst, isi_tuple_int, isi_tuple_non, isi_tuple_bl, isi_tuple_str, ixA_t0, ixA_t1, ixA_t2, ixA_t3, ixA_l0, ixA_l1, setAt_0, setAt_1, mkT_0, mkT_1, mkT_2, mkT_3, mkT_4, mkL_0, mkL_1, mkL_2, mkL_3, mkL_4, mkL_5, mkL_6, fl_up_rt, fl_next_nx, fl_next_rt, fl_after_nx, fl_after_rt, fl_val_rt, fl_valL_rt, fl_valC_rt, turnK_nx, turnK_rt, quiet_ok, iteX_true, iteX_false, needR_some, ite_true, ite_false, Bool.not_true, Bool.not_false, Bool.false_eq_true, reduceIte, decide_true, decide_false]
          refine .inr ⟨hk25, _, rfl, (turn2 r q K line).1, (turn2 r q K line).2, done ++ line, rfl, b.next hr hq ht fun e he => by simpa using List.find?_eq_none.mp hf e he, ?_⟩
          rw [show 26 - (k + 1) = 25 - k by omega]
          exact hg
      · intro e he st hst
        obtain ⟨p, w⟩ := e
        obtain ⟨a1, a2⟩ := b.at_ _ (List.mem_append_right _ he)
        have p1 : p.1 < r.rows.length := by
          have a1 : p = led2 r q w := a1
          rw [a1]; exact hr.led_lt a2
        have p2 : p.2 < q.rows.length := by
          have a1 : p = led2 r q w := a1
          rw [a1]; exact hq.led_lt fun x hx => by rw [ht]; exact a2 x hx
        have hwl : w.length ≤ 25 := by have := b.len _ he; have : w.length = k := this; omega
        simp only [R.ok_bind, R.ok_map, R.err_bind, R.err_map, ar0_, ar1_, ar2_, ar3_, ar4_, ar5_, par2_, par3_, par2X_, asB_bl, d_add, d_sub, d_neg, d_lt, d_le, d_gt, d_ge, d_eq, d_ne, eq_bl, ne_bl, d_abs, d_min2, d_max2, d_toInt, len_tup, len_lst, toTup_lst, toTup_tup, toLst_lst, toLst_tup, itemsA_lst, itemsA_tup, part_int, unp2_, unp3_, unp4_, unT2_, unT3_, unT4_, isi_int_int, isi_int_bl, isi_int_non, isi_int_str, isi_int_tup, isi_int_lst, isi_bool_int, isi_bool_bl, isi_tuple_tup, isi_tuple_lst, isi_tuple_int, isi_tuple_non, isi_tuple_bl, isi_tuple_str, ixA_t0, ixA_t1, ixA_t2, ixA_t3, ixA_l0, ixA_l1, setAt_0, setAt_1, mkT_0, mkT_1, mkT_2, mkT_3, mkT_4, mkL_0, mkL_1, mkL_2, mkL_3, mkL_4, mkL_5, mkL_6, fl_up_rt, fl_next_nx, fl_next_rt, fl_after_nx, fl_after_rt, fl_val_rt, fl_valL_rt, fl_valC_rt, turnK_nx, turnK_rt, quiet_ok, iteX_true, iteX_false, needR_some, ite_true, ite_false, Bool.not_true, Bool.not_false, Bool.false_eq_true, reduceIte, decide_true, decide_false, hd3, hq3, EqOk.nat.inT, hl]
        refine ⟨fun hw => ?_, fun hw => ⟨?_, hst.exp hr hq ht p1 p2⟩⟩
        · have hw : W (decide (p.1 ∈ r.good)) (decide (p.2 ∈ q.good)) = true := hw
          simp only [hw, R.ok_bind, R.ok_map, R.err_bind, R.err_map, ar0_, ar1_, ar2_, ar3_, ar4_, ar5_, par2_, par3_, par2X_, asB_bl, d_add, d_sub, d_neg, d_lt, d_le, d_gt, d_ge, d_eq, d_ne, eq_bl, ne_bl, d_abs, d_min2, d_max2, d_toInt, len_tup, len_lst, toTup_lst, toTup_tup, toLst_lst, toLst_tup, itemsA_lst, itemsA_tup, part_int, unp2_, unp3_, unp4_, unT2_, unT3_, unT4_, isi_int_int, isi_int_bl, isi_int_non, isi_int_str, isi_int_tup, isi_int_lst, isi_bool_int, isi_bool_bl, isi_tuple_tup, isi_tuple_lst, isi_tuple_int, isi_tuple_non, isi_tuple_bl, isi_tuple_str, ixA_t0, ixA_t1, ixA_t2, ixA_t3, ixA_l0, ixA_l1, setAt_0, setAt_1, mkT_0, mkT_1, mkT_2, mkT_3, mkT_4, mkL_0, mkL_1, mkL_2, mkL_3, mkL_4, mkL_5, mkL_6, fl_up_rt, fl_next_nx, fl_next_rt, fl_after_nx, fl_after_rt, fl_val_rt, fl_valL_rt, fl_valC_rt, turnK_nx, turnK_rt, quiet_ok, iteX_true, iteX_false, needR_some, ite_true, ite_false, Bool.not_true, Bool.not_false, Bool.false_eq_true, reduceIte, decide_true, decide_false]
        · have hw : W (decide (p.1 ∈ r.good)) (decide (p.2 ∈ q.good)) = false := hw
          simp only [hw, R.ok_bind, R.ok_map, R.err_bind, R.err_map, ar0_, ar1_, ar2_, ar3_, ar4_, ar5_, par2_, par3_, par2X_, asB_bl, d_add, d_sub, d_neg, d_lt, d_le, d_gt, d_ge, d_eq, d_ne, eq_bl, ne_bl, d_abs, d_min2, d_max2, d_toInt, len_tup, len_lst, toTup_lst, toTup_tup, toLst_lst, toLst_tup, itemsA_lst, itemsA_tup, part_int, unp2_, unp3_, unp4_, unT2_, unT3_, unT4_, isi_int_int, isi_int_bl, isi_int_non, isi_int_str, isi_int_tup, isi_int_lst, isi_bool_int, isi_bool_bl, isi_tuple_tup, isi_tuple_lst, isi_tuple_int, isi_tuple_non, isi_tuple_bl, isi_tuple_str, ixA_t0, ixA_t1, ixA_t2, ixA_t3, ixA_l0, ixA_l1, setAt_0, setAt_1, mkT_0, mkT_1, mkT_2, mkT_3, mkT_4, mkL_0, mkL_1, mkL_2, mkL_3, mkL_4, mkL_5, mkL_6, fl_up_rt, fl_next_nx, fl_next_rt, fl_after_nx, fl_after_rt, fl_val_rt, fl_valL_rt, fl_valC_rt, turnK_nx, turnK_rt, quiet_ok, iteX_true, iteX_false, needR_some, ite_true, ite_false, Bool.not_true, Bool.not_false, Bool.false_eq_true, reduceIte, decide_true, decide_false, hd1, r1]
          refine R.bind_to (forL_to (S := List (List Key × D) × List D) (γ := D) (List.range (r.top + 1)) I I (fun st : List Pr × List E2 => (KT st.1, st.2.map T2)) (put2 r q (p, w)) (Sz2 r q) st hst (fun _ _ => rfl) fun d hd st hst => ?_) (by rfl)
          have hd : d ≤ r.top := by have := List.mem_range.mp hd; omega
          refine ⟨?_, hst.put hr hq ht p1 p2 hd⟩
          have i1 := hr.ix1 p1
          have i2 := hr.ix2 p1 hd
          have j1 := hq.ix1 p2
          have j2 := hq.ix2 p2 (show d ≤ q.top by rw [ht]; exact hd)
          have few := hst.few hr hq
          have few2 := hst.len
          simp only [R.ok_bind, R.ok_map, R.err_bind, R.err_map, ar0_, ar1_, ar2_, ar3_, ar4_, ar5_, par2_, par3_, par2X_, asB_bl, d_add, d_sub, d_neg, d_lt, d_le, d_gt, d_ge, d_eq, d_ne, eq_bl, ne_bl, d_abs, d_min2, d_max2, d_toInt, len_tup, len_lst, toTup_lst, toTup_tup, toLst_lst, toLst_tup, itemsA_lst, itemsA_tup, part_int, unp2_, unp3_, unp4_, unT2_, unT3_, unT4_, isi_int_int, isi_int_bl, isi_int_non, isi_int_str, isi_int_tup, isi_int_lst, isi_bool_int, isi_bool_bl, isi_tuple_tup, isi_tuple_lst, isi_tuple_int, isi_tuple_non, isi_tuple_bl, isi_tuple_str, ixA_t0, ixA_t1, ixA_t2, ixA_t3, ixA_l0, ixA_l1, setAt_0, setAt_1, mkT_0, mkT_1, mkT_2, mkT_3, mkT_4, mkL_0, mkL_1, mkL_2, mkL_3, mkL_4, mkL_5, mkL_6, fl_up_rt, fl_next_nx, fl_next_rt, fl_after_nx, fl_after_rt, fl_val_rt, fl_valL_rt, fl_valC_rt, turnK_nx, turnK_rt, quiet_ok, iteX_true, iteX_false, needR_some, ite_true, ite_false, Bool.not_true, Bool.not_false, Bool.false_eq_true, reduceIte, decide_true, decide_false, hd2, hq2, i1, i2, j1, j2]
          have hin : D.notInA (.tup [I (r.step p.1 d), I (q.step p.2 d)]) (.dtt (KT st.1)) = .ok (.bl (!decide (nx2 r q p d ∈ st.1))) := DT_notIn _ (nx2 r q p d) _
          have hput : D.putT (KT st.1) (.tup [I (r.step p.1 d), I (q.step p.2 d)]) (.bl true) = .ok (KT (kputP st.1 (nx2 r q p d))) := DT_put (p := nx2 r q p d) (szl (by omega)) (fun _ _ _ => rfl) rfl
          have hadd : D.add (TN w) (.tup [I d]) = .ok (TN (w ++ [d])) := by
            have := add_tup (xs := w.map I) (ys := [I d]) (sz (by simp; omega))
            rw [this]; simp
          simp only [hin, R.ok_bind, R.ok_map, R.err_bind, R.err_map, ar0_, ar1_, ar2_, ar3_, ar4_, ar5_, par2_, par3_, par2X_, asB_bl, d_add, d_sub, d_neg, d_lt, d_le, d_gt, d_ge, d_eq, d_ne, eq_bl, ne_bl, d_abs, d_min2, d_max2, d_toInt, len_tup, len_lst, toTup_lst, toTup_tup, toLst_lst, toLst_tup, itemsA_lst, itemsA_tup, part_int, unp2_, unp3_, unp4_, unT2_, unT3_, unT4_, isi_int_int, isi_int_bl, isi_int_non, isi_int_str, isi_int_tup, isi_int_lst, isi_bool_int, isi_bool_bl, isi_tuple_tup, isi_tuple_lst, isi_tuple_int, isi_tuple_non, isi_tuple_bl, isi_tuple_str, ixA_t0, ixA_t1, ixA_t2, ixA_t3, ixA_l0, ixA_l1, setAt_0, setAt_1, mkT_0, mkT_1, mkT_2, mkT_3, mkT_4, mkL_0, mkL_1, mkL_2, mkL_3, mkL_4, mkL_5, mkL_6, fl_up_rt, fl_next_nx, fl_next_rt, fl_after_nx, fl_after_rt, fl_val_rt, fl_valL_rt, fl_valC_rt, turnK_nx, turnK_rt, quiet_ok, iteX_true, iteX_false, needR_some, ite_true, ite_false, Bool.not_true, Bool.not_false, Bool.false_eq_true, reduceIte, decide_true, decide_false, hput, hadd]
          unfold put2
          by_cases hm : nx2 r q p d ∈ st.1
          · have e1 : (!decide (nx2 r q p d ∈ st.1)) = false := by simp [hm]
            rw [if_pos hm]
            simp only [e1, R.ok_bind, R.ok_map, R.err_bind, R.err_map, ar0_, ar1_, ar2_, ar3_, ar4_, ar5_, par2_, par3_, par2X_, asB_bl, d_add, d_sub, d_neg, d_lt, d_le, d_gt, d_ge, d_eq, d_ne, eq_bl, ne_bl, d_abs, d_min2, d_max2, d_toInt, len_tup, len_lst, toTup_lst, toTup_tup, toLst_lst, toLst_tup, itemsA_lst, itemsA_tup, part_int, unp2_, unp3_, unp4_, unT2_, unT3_, unT4_, isi_int_int, isi_int_bl, isi_int_non, isi_int_str, isi_int_tup, isi_int_lst, isi_bool_int, isi_bool_bl, isi_tuple_tup, isi_tuple_lst, isi_tuple_int, isi_tuple_non, isi_tuple_bl, isi_tuple_str, ixA_t0, ixA_t1, ixA_t2, ixA_t3, ixA_l0, ixA_l1, setAt_0, setAt_1, mkT_0, mkT_1, mkT_2, mkT_3, mkT_4, mkL_0, mkL_1, mkL_2, mkL_3, mkL_4, mkL_5, mkL_6, fl_up_rt, fl_next_nx, fl_next_rt, fl_after_nx, fl_after_rt, fl_val_rt, fl_valL_rt, fl_valC_rt, turnK_nx, turnK_rt, quiet_ok, iteX_true, iteX_false, needR_some, ite_true, ite_false, Bool.not_true, Bool.not_false, Bool.false_eq_true, reduceIte, decide_true, decide_false]
          · have e1 : (!decide (nx2 r q p d ∈ st.1)) = true := by simp [hm]
            rw [if_neg hm]
            have e2 : kputP st.1 (nx2 r q p d) = st.1 ++ [nx2 r q p d] := if_neg hm
            have e3 : D.room (st.2.map T2) = .ok () := room_ok (by rw [List.length_map]; omega)
            simp only [e1, R.ok_bind, R.ok_map, R.err_bind, R.err_map, ar0_, ar1_, ar2_, ar3_, ar4_, ar5_, par2_, par3_, par2X_, asB_bl, d_add, d_sub, d_neg, d_lt, d_le, d_gt, d_ge, d_eq, d_ne, eq_bl, ne_bl, d_abs, d_min2, d_max2, d_toInt, len_tup, len_lst, toTup_lst, toTup_tup, toLst_lst, toLst_tup, itemsA_lst, itemsA_tup, part_int, unp2_, unp3_, unp4_, unT2_, unT3_, unT4_, isi_int_int, isi_int_bl, isi_int_non, isi_int_str, isi_int_tup, isi_int_lst, isi_bool_int, isi_bool_bl, isi_tuple_tup, isi_tuple_lst, isi_tuple_int, isi_tuple_non, isi_tuple_bl, isi_tuple_str, ixA_t0, ixA_t1, ixA_t2, ixA_t3, ixA_l0, ixA_l1, setAt_0, setAt_1, mkT_0, mkT_1, mkT_2, mkT_3, mkT_4, mkL_0, mkL_1, mkL_2, mkL_3, mkL_4, mkL_5, mkL_6, fl_up_rt, fl_next_nx, fl_next_rt, fl_after_nx, fl_after_rt, fl_val_rt, fl_valL_rt, fl_valC_rt, turnK_nx, turnK_rt, quiet_ok, iteX_true, iteX_false, needR_some, ite_true, ite_false, Bool.not_true, Bool.not_false, Bool.false_eq_true, reduceIte, decide_true, decide_false, e2, e3, List.map_append, List.map_cons, List.map_nil]
            rfl
  · rintro fl (⟨w, rfl, hb⟩ | ⟨s', rfl, hb⟩)
    · rw [hb]
      simp only [R.ok_bind, R.ok_map, R.err_bind, R.err_map, ar0_, ar1_, ar2_, ar3_, ar4_, ar5_, par2_, par3_, par2X_, asB_bl, d_add, d_sub, d_neg, d_lt, d_le, d_gt, d_ge, d_eq, d_ne, eq_bl, ne_bl, d_abs, d_min2, d_max2, d_toInt, len_tup, len_lst, toTup_lst, toTup_tup, toLst_lst, toLst_tup, itemsA_lst, itemsA_tup, part_int, unp2_, unp3_, unp4_, unT2_, unT3_, unT4_, isi_int_int, isi_int_bl, isi_int_non, isi_int_str, isi_int_tup, isi_int_lst, isi_bool_int, isi_bool_bl, isi_tuple_tup, isi_tuple_lst, isi_tuple_int, isi_tuple_non, isi_tuple_bl, isi_tuple_str, ixA_t0, ixA_t1, ixA_t2, ixA_t3, ixA_l0, ixA_l1, setAt_0, setAt_1, mkT_0, mkT_1, mkT_2, mkT_3, mkT_4, mkL_0, mkL_1, mkL_2, mkL_3, mkL_4, mkL_5, mkL_6, fl_up_rt, fl_next_nx, fl_next_rt, fl_after_nx, fl_after_rt, fl_val_rt, fl_valL_rt, fl_valC_rt, turnK_nx, turnK_rt, quiet_ok, iteX_true, iteX_false, needR_some, ite_true, ite_false, Bool.not_true, Bool.not_false, Bool.false_eq_true, reduceIte, decide_true, decide_false]
      exact ⟨_, rfl, rfl⟩
    · rw [hb]
      simp only [R.ok_bind, R.ok_map, R.err_bind, R.err_map, ar0_, ar1_, ar2_, ar3_, ar4_, ar5_, par2_, par3_, par2X_, asB_bl, d_add, d_sub, d_neg, d_lt, d_le, d_gt, d_ge, d_eq, d_ne, eq_bl, ne_bl, d_abs, d_min2, d_max2, d_toInt, len_tup, len_lst, toTup_lst, toTup_tup, toLst_lst, toLst_tup, itemsA_lst, itemsA_tup, part_int, unp2_, unp3_, unp4_, unT2_, unT3_, unT4_, isi_int_int, isi_int_bl, isi_int_non, isi_int_str, isi_int_tup, isi_int_lst, isi_bool_int, isi_bool_bl, isi_tuple_tup, isi_tuple_lst, isi_tuple_int, isi_tuple_non, isi_tuple_bl, isi_tuple_str, ixA_t0, ixA_t1, ixA_t2, ixA_t3, ixA_l0, ixA_l1, setAt_0, setAt_1, mkT_0, mkT_1, mkT_2, mkT_3, mkT_4, mkL_0, mkL_1, mkL_2, mkL_3, mkL_4, mkL_5, mkL_6, fl_up_rt, fl_next_nx, fl_next_rt, fl_after_nx, fl_after_rt, fl_val_rt, fl_valL_rt, fl_valC_rt, turnK_nx, turnK_rt, quiet_ok, iteX_true, iteX_false, needR_some, ite_true, ite_false, Bool.not_true, Bool.not_false, Bool.false_eq_true, reduceIte, decide_true, decide_false]
      exact ⟨_, rfl, rfl⟩
end K08
namespace K08
open PySem PySem.Spec PyProof.Rows L2 DL
open DL (D R)
def Wm (both : Bool) (m y : Bool) : Bool := (m && !y) || (both && (y && !m))
theorem p_law_first {r q : Ru} (hr : r.Ok) (hq : q.Ok) (ht : q.top = r.top) {mode : Str} {both : Bool} (hmode : D.eq (.str mode) (.str "both") = .ok (.bl both)) : M__law_first r.d q.d (.str mode) = .ok (optD (bfs2 r q (Wm both))) := by
  refine R.has_eq ?_
  unfold M__law_first
  have e0 : D.mkTT (.tup [.int 0, .int 0]) (.bl true) = .ok (KT [(0, 0)]) := rfl
  have hd3 : D.ixA r.d (.int 3) = .ok (TN r.good) := ixA_t3 _ _ _ _ _
  have hq3 : D.ixA q.d (.int 3) = .ok (TN q.good) := ixA_t3 _ _ _ _ _
  have hd2 : D.ixA r.d (.int 2) = .ok (TR r.rows) := ixA_t2 _ _ _ _
  have hq2 : D.ixA q.d (.int 2) = .ok (TR q.rows) := ixA_t2 _ _ _ _
  have hd1 : D.ixA r.d (.int 1) = .ok (.int (r.top : Int)) := ixA_t1 _ _ _
  have r1 : D.range1 (.int ((r.top : Int) + 1)) = .ok ((List.range (r.top + 1)).map I) := range1_nat (r.top + 1) (by have := hr.t2; have := hr.b2; omega)
  simp only [R.ok_bind, R.ok_map, R.err_bind, R.err_map, ar0_, ar1_, ar2_, ar3_, ar4_, ar5_, par2_, par3_, par2X_, asB_bl, d_add, d_sub, d_neg, d_lt, d_le, d_gt, d_ge, d_eq, d_ne, eq_bl, ne_bl, d_abs, d_min2, d_max2, d_toInt, len_tup, len_lst, toTup_lst, toTup_tup, toLst_lst, toLst_tup, itemsA_lst, itemsA_tup, part_int, unp2_, unp3_, unp4_, unT2_, unT3_, unT4_, isi_int_int, isi_int_bl, isi_int_non, isi_int_str, isi_int_tup, isi_int_lst, isi_bool_int, isi_bool_bl, isi_tuple_tup, isi_tuple_lst, isi_tuple_int, isi_tuple_non, isi_tuple_bl, isi_tuple_str, ixA_t0, ixA_t1, ixA_t2, ixA_t3, ixA_l0, ixA_l1, setAt_0, setAt_1, mkT_0, mkT_1, mkT_2, mkT_3, mkT_4, mkL_0, mkL_1, mkL_2, mkL_3, mkL_4, mkL_5, mkL_6, fl_up_rt, fl_next_nx, fl_next_rt, fl_after_nx, fl_after_rt, fl_val_rt, fl_valL_rt, fl_valC_rt, turnK_nx, turnK_rt, quiet_ok, iteX_true, iteX_false, needR_some, ite_true, ite_false, Bool.not_true, Bool.not_false, Bool.false_eq_true, reduceIte, decide_true, decide_false, e0, hmode]
  generalize hWW : Wm both = W
  refine R.has_bind (P := fun fl => fl = .rt (optD (bfs2 r q W))) (R.has_bind (P := fun fl => (∃ w, fl = .rt (TN w) ∧ bfs2 r q W = some w) ∨ (∃ s', fl = .nx s' ∧ bfs2 r q W = none)) (whileR_ret (S := List (List Key × D) × D) (γ := D)
    (fun k s => ∃ K line done, s = (KT K, .lst (line.map T2)) ∧ Bf r q W k K line done ∧ go2 r q W (26 - k) K line = bfs2 r q W) _ 25 ?_ FUEL 0 _ (by have : FUEL = 1099511627776 := rfl; omega) (Nat.zero_le _) ⟨_, _, [], rfl, bf_start, rfl⟩) ?_) ?_
  · rintro k s hk ⟨K, line, done, rfl, b, hg⟩
    have hne := ne_lnil (n := 2) (xs := line.map T2) (fun x hx => by
      obtain ⟨e, _, rfl⟩ := List.mem_map.mp hx
      exact flat_T2 e) (by decide)
    simp only [R.ok_bind, R.ok_map, R.err_bind, R.err_map, ar0_, ar1_, ar2_, ar3_, ar4_, ar5_, par2_, par3_, par2X_, asB_bl, d_add, d_sub, d_neg, d_lt, d_le, d_gt, d_ge, d_eq, d_ne, eq_bl, ne_bl, d_abs, d_min2, d_max2, d_toInt, len_tup, len_lst, toTup_lst, toTup_tup, toLst_lst, toLst_tup, itemsA_lst, itemsA_tup, part_int, unp2_, unp3_, unp4_, unT2_, unT3_, unT4_, isi_int_int, isi_int_bl, isi_int_non, isi_int_str, isi_int_tup, isi_int_lst, isi_bool_int, isi_bool_bl, isi_tuple_tup, isi_tuple_lst, isi_tuple_int, isi_tuple_non, isi_tuple_bl, isi_tuple_str, ixA_t0, ixA_t1, ixA_t2, ixA_t3, ixA_l0, ixA_l1, setAt_0, setAt_1, mkT_0, mkT_1, mkT_2, mkT_3, mkT_4, mkL_0, mkL_1, mkL_2, mkL_3, mkL_4, mkL_5, mkL_6, fl_up_rt, fl_next_nx, fl_next_rt, fl_after_nx, fl_after_rt, fl_val_rt, fl_valL_rt, fl_valC_rt, turnK_nx, turnK_rt, quiet_ok, iteX_true, iteX_false, needR_some, ite_true, ite_false, Bool.not_true, Bool.not_false, Bool.false_eq_true, reduceIte, decide_true, decide_false, hne]
    by_cases hnil : line = []
    · subst hnil
      rw [go_nil] at hg
      exact .inl ⟨rfl, .inr ⟨_, rfl, hg.symm⟩⟩
    · have hie : (!(line.map T2).isEmpty) = true := by
        cases line with
        | nil => exact absurd rfl hnil
        | cons a b => rfl
      refine .inr ⟨by rw [hie], ?_⟩
      have hk25 : k < 25 := by
        rcases Nat.lt_or_ge k 25 with h | h
        · exact h
        · have : k = 25 := by omega
          subst this
          exact absurd (b.end_ hr hq ht) hnil
      have key := fun (f : List (List Key × D) × List D → D × D → R (Fl (List (List Key × D) × List D) (List (List Key × D) × List D) D)) hf => forL_find (f := f) (un := unT2 unN unN) T2 (fun e => (TQ e.1, TN e.2)) (fun e => want2 r q W e.1) (fun e => TN e.2) (fun st : List Pr × List E2 => (KT st.1, st.2.map T2)) (exp2 r q) (Sz2 r q) line (fun _ _ => rfl) hf (K, []) (b.sz hr hq ht)
      have hn : 26 - k = (25 - k) + 1 := by omega
      rw [hn] at hg
      unfold go2 at hg
      have key2 := fun f hf => key f hf
      simp only [List.map_nil] at key2
      rw [key2]
      · cases hf : line.find? fun e => want2 r q W e.1 with
        | some e =>
          rw [hf] at hg
          simp only [R.ok_bind, R.ok_map, R.err_bind, R.err_map, ar0_, ar1_, ar2_, ar3_, ar4_, ar5_, par2_, par3_, par2X_, asB_bl, d_add, d_sub, d_neg, d_lt, d_le, d_gt, d_ge, d_eq, d_ne, eq_bl, ne_bl, d_abs, d_min2, d_max2, d_toInt, len_tup, len_lst, toTup_lst, toTup_tup, toLst_lst, toLst_tup, itemsA_lst, itemsA_tup, part_int, unp2_, unp3_, unp4_, unT2_, unT3_, unT4_, isi_int_int, isi_int_bl, isi_int_non, isi_int_str, isi_int_tup, isi_int_lst, isi_bool_int, isi_bool_bl, isi_tuple_tup, isi_tuple_lst, isi_tuple_int, isi_tuple_non, isi_tuple_bl, isi_tuple_str, ixA_t0, ixA_t1, ixA_t2, ixA_t3, ixA_l0, ixA_l1, setAt_0, setAt_1, mkT_0, mkT_1, mkT_2, mkT_3, mkT_4, mkL_0, mkL_1, mkL_2, mkL_3, mkL_4, mkL_5, mkL_6, fl_up_rt, fl_next_nx, fl_next_rt, fl_after_nx, fl_after_rt, fl_val_rt, fl_valL_rt, fl_valC_rt, turnK_nx, turnK_rt, quiet_ok, iteX_true, iteX_false, needR_some, ite_true, ite_false, Bool.not_true, Bool.not_false, Bool.false_eq_true, reduceIte, decide_true, decide_false]
          exact .inl ⟨_, rfl, .inl ⟨_, rfl, hg.symm⟩⟩
        | none =>
          rw [hf] at hg
          simp only [R.ok_bind, R.ok_map, R.err_bind, R.err_map, ar0_, ar1_, ar2_, ar3_, ar4_, ar5_, par2_, par3_, par2X_, asB_bl, d_add, d_sub, d_neg, d_lt, d_le, d_gt, d_ge, d_eq, d_ne, eq_bl, ne_bl, d_abs, d_min2, d_max2, d_toInt, len_tup, len_lst, toTup_lst, toTup_tup, toLst_lst, toLst_tup, itemsA_lst, itemsA_tup, part_int, unp2_, unp3_, unp4_, unT2_, unT3_, unT4_, isi_int_int, isi_int_bl, isi_int_non, isi_int_str, isi_int_tup, isi_int_lst, isi_bool_int, isi_bool_bl, isi_tuple_tup, isi_tuple_lst, isi_tuple_int, isi_tuple_non, isi_tuple_bl, isi_tuple_str, ixA_t0, ixA_t1, ixA_t2, ixA_t3, ixA_l0, ixA_l1, setAt_0, setAt_1, mkT_0, mkT_1, mkT_2, mkT_3, mkT_4, mkL_0, mkL_1, mkL_2, mkL_3, mkL_4, mkL_5, mkL_6, fl_up_rt, fl_next_nx, fl_next_rt, fl_after_nx, fl_after_rt, fl_val_rt, fl_valL_rt, fl_valC_rt, turnK_nx, turnK_rt, quiet_ok, iteX_true, iteX_false, needR_some, ite_true, ite_false, Bool.not_true, Bool.not_false, Bool.false_eq_true, reduceIte, decide_true, decide_false]
          refine .inr ⟨hk25, _, rfl, (turn2 r q K line).1, (turn2 r q K line).2, done ++ line, rfl, b.next hr hq ht fun e he => by simpa using List.find?_eq_none.mp hf e he, ?_⟩
          rw [show 26 - (k + 1) = 25 - k by omega]
          exact hg
      · intro e he st hst
        obtain ⟨p, w⟩ := e
        obtain ⟨a1, a2⟩ := b.at_ _ (List.mem_append_right _ he)
        have p1 : p.1 < r.rows.length := by
          have a1 : p = led2 r q w := a1
          rw [a1]; exact hr.led_lt a2
        have p2 : p.2 < q.rows.length := by
          have a1 : p = led2 r q w := a1
          rw [a1]; exact hq.led_lt fun x hx => by rw [ht]; exact a2 x hx
        have hwl : w.length ≤ 25 := by have := b.len _ he; have : w.length = k := this; omega
        simp only [R.ok_bind, R.ok_map, R.err_bind, R.err_map, ar0_, ar1_, ar2_, ar3_, ar4_, ar5_, par2_, par3_, par2X_, asB_bl, d_add, d_sub, d_neg, d_lt, d_le, d_gt, d_ge, d_eq, d_ne, eq_bl, ne_bl, d_abs, d_min2, d_max2, d_toInt, len_tup, len_lst, toTup_lst, toTup_tup, toLst_lst, toLst_tup, itemsA_lst, itemsA_tup, part_int, unp2_, unp3_, unp4_, unT2_, unT3_, unT4_, isi_int_int, isi_int_bl, isi_int_non, isi_int_str, isi_int_tup, isi_int_lst, isi_bool_int, isi_bool_bl, isi_tuple_tup, isi_tuple_lst, isi_tuple_int, isi_tuple_non, isi_tuple_bl, isi_tuple_str, ixA_t0, ixA_t1, ixA_t2, ixA_t3, ixA_l0, ixA_l1, setAt_0, setAt_1, mkT_0, mkT_1, mkT_2, mkT_3, mkT_4, mkL_0, mkL_1, mkL_2, mkL_3, mkL_4, mkL_5, mkL_6, fl_up_rt, fl_next_nx, fl_next_rt, fl_after_nx, fl_after_rt, fl_val_rt, fl_valL_rt, fl_valC_rt, turnK_nx, turnK_rt, quiet_ok, iteX_true, iteX_false, needR_some, ite_true, ite_false, Bool.not_true, Bool.not_false, Bool.false_eq_true, reduceIte, decide_true, decide_false, hd3, hq3, EqOk.nat.inT]
        refine ⟨fun hw => ?_, fun hw => ⟨?_, hst.exp hr hq ht p1 p2⟩⟩
        · have hw : W (decide (p.1 ∈ r.good)) (decide (p.2 ∈ q.good)) = true := hw
          refine R.bind_to (a := true) ?_ (by simp only [R.ok_bind, R.ok_map, R.err_bind, R.err_map, ar0_, ar1_, ar2_, ar3_, ar4_, ar5_, par2_, par3_, par2X_, asB_bl, d_add, d_sub, d_neg, d_lt, d_le, d_gt, d_ge, d_eq, d_ne, eq_bl, ne_bl, d_abs, d_min2, d_max2, d_toInt, len_tup, len_lst, toTup_lst, toTup_tup, toLst_lst, toLst_tup, itemsA_lst, itemsA_tup, part_int, unp2_, unp3_, unp4_, unT2_, unT3_, unT4_, isi_int_int, isi_int_bl, isi_int_non, isi_int_str, isi_int_tup, isi_int_lst, isi_bool_int, isi_bool_bl, isi_tuple_tup, isi_tuple_lst, isi_tuple_int, isi_tuple_non, isi_tuple_bl, isi_tuple_str, ixA_t0, ixA_t1, ixA_t2, ixA_t3, ixA_l0, ixA_l1, setAt_0, setAt_1, mkT_0, mkT_1, mkT_2, mkT_3, mkT_4, mkL_0, mkL_1, mkL_2, mkL_3, mkL_4, mkL_5, mkL_6, fl_up_rt, fl_next_nx, fl_next_rt, fl_after_nx, fl_after_rt, fl_val_rt, fl_valL_rt, fl_valC_rt, turnK_nx, turnK_rt, quiet_ok, iteX_true, iteX_false, needR_some, ite_true, ite_false, Bool.not_true, Bool.not_false, Bool.false_eq_true, reduceIte, decide_true, decide_false])
          revert hw
          rw [← hWW]
          generalize decide (p.1 ∈ r.good) = mm
          generalize decide (p.2 ∈ q.good) = yy
          cases mm <;> cases yy <;> cases both <;> first | (intro hw; cases hw; done) | (intro _; rfl)
        · have hw : W (decide (p.1 ∈ r.good)) (decide (p.2 ∈ q.good)) = false := hw
          refine R.bind_to (a := false) ?_ ?_
          · revert hw
            rw [← hWW]
            generalize decide (p.1 ∈ r.good) = mm
            generalize decide (p.2 ∈ q.good) = yy
            cases mm <;> cases yy <;> cases both <;> first | (intro hw; cases hw; done) | (intro _; rfl)
          simp only [R.ok_bind, R.ok_map, R.err_bind, R.err_map, ar0_, ar1_, ar2_, ar3_, ar4_, ar5_, par2_, par3_, par2X_, asB_bl, d_add, d_sub, d_neg, d_lt, d_le, d_gt, d_ge, d_eq, d_ne, eq_bl, ne_bl, d_abs, d_min2, d_max2, d_toInt, len_tup, len_lst, toTup_lst, toTup_tup, toLst_lst, toLst_tup, itemsA_lst, itemsA_tup, part_int, unp2_, unp3_, unp4_, unT2_, unT3_, unT4_, isi_int_int, isi_int_bl, isi_int_non, isi_int_str, isi_int_tup, isi_int_lst, isi_bool_int, isi_bool_bl, isi_tuple_tup, isi_tuple_lst, isi_tuple_int, isi_tuple_non, isi_tuple_bl, isi_tuple_str, ixA_t0, ixA_t1, ixA_t2, ixA_t3, ixA_l0, ixA_l1, setAt_0, setAt_1, mkT_0, mkT_1, mkT_2, mkT_3, mkT_4, mkL_0, mkL_1, mkL_2, mkL_3, mkL_4, mkL_5, mkL_6, fl_up_rt, fl_next_nx, fl_next_rt, fl_after_nx, fl_after_rt, fl_val_rt, fl_valL_rt, fl_valC_rt, turnK_nx, turnK_rt, quiet_ok, iteX_true, iteX_false, needR_some, ite_true, ite_false, Bool.not_true, Bool.not_false, Bool.false_eq_true, reduceIte, decide_true, decide_false, hd1, r1]
          refine R.bind_to (forL_to (S := List (List Key × D) × List D) (γ := D) (List.range (r.top + 1)) I I (fun st : List Pr × List E2 => (KT st.1, st.2.map T2)) (put2 r q (p, w)) (Sz2 r q) st hst (fun _ _ => rfl) fun d hd st hst => ?_) (by rfl)
          have hd : d ≤ r.top := by have := List.mem_range.mp hd; omega
          refine ⟨?_, hst.put hr hq ht p1 p2 hd⟩
          have i1 := hr.ix1 p1
          have i2 := hr.ix2 p1 hd
          have j1 := hq.ix1 p2
          have j2 := hq.ix2 p2 (show d ≤ q.top by rw [ht]; exact hd)
          have few := hst.few hr hq
          have few2 := hst.len
          simp only [R.ok_bind, R.ok_map, R.err_bind, R.err_map, ar0_, ar1_, ar2_, ar3_, ar4_, ar5_, par2_, par3_, par2X_, asB_bl, d_add, d_sub, d_neg, d_lt, d_le, d_gt, d_ge, d_eq, d_ne, eq_bl, ne_bl, d_abs, d_min2, d_max2, d_toInt, len_tup, len_lst, toTup_lst, toTup_tup, toLst_lst, toLst_tup, itemsA_lst, itemsA_tup, part_int, unp2_, unp3_, unp4_, unT2_, unT3_, unT4_, isi_int_int, isi_int_bl, isi_int_non, isi_int_str, isi_int_tup, isi_int_lst, isi_bool_int, isi_bool_bl, isi_tuple_tup, isi_tuple_lst, isi_tuple_int, isi_tuple_non, isi_tuple_bl, isi_tuple_str, ixA_t0, ixA_t1, ixA_t2, ixA_t3, ixA_l0, ixA_l1, setAt_0, setAt_1, mkT_0, mkT_1, mkT_2, mkT_3, mkT_4, mkL_0, mkL_1, mkL_2, mkL_3, mkL_4, mkL_5, mkL_6, fl_up_rt, fl_next_nx, fl_next_rt, fl_after_nx, fl_after_rt, fl_val_rt, fl_valL_rt, fl_valC_rt, turnK_nx, turnK_rt, quiet_ok, iteX_true, iteX_false, needR_some, ite_true, ite_false, Bool.not_true, Bool.not_false, Bool.false_eq_true, reduceIte, decide_true, decide_false, hd2, hq2, i1, i2, j1, j2]
          have hin : D.notInA (.tup [I (r.step p.1 d), I (q.step p.2 d)]) (.dtt (KT st.1)) = .ok (.bl (!decide (nx2 r q p d ∈ st.1))) := DT_notIn _ (nx2 r q p d) _
          have hput : D.putT (KT st.1) (.tup [I (r.step p.1 d), I (q.step p.2 d)]) (.bl true) = .ok (KT (kputP st.1 (nx2 r q p d))) := DT_put (p := nx2 r q p d) (szl (by omega)) (fun _ _ _ => rfl) rfl
          have hadd : D.add (TN w) (.tup [I d]) = .ok (TN (w ++ [d])) := by
            have := add_tup (xs := w.map I) (ys := [I d]) (sz (by simp; omega))
            rw [this]; simp
          simp only [hin, R.ok_bind, R.ok_map, R.err_bind, R.err_map, ar0_, ar1_, ar2_, ar3_, ar4_, ar5_, par2_, par3_, par2X_, asB_bl, d_add, d_sub, d_neg, d_lt, d_le, d_gt, d_ge, d_eq, d_ne, eq_bl, ne_bl, d_abs, d_min2, d_max2, d_toInt, len_tup, len_lst, toTup_lst, toTup_tup, toLst_lst, toLst_tup, itemsA_lst, itemsA_tup, part_int, unp2_, unp3_, unp4_, unT2_, unT3_, unT4_, isi_int_int, isi_int_bl, isi_int_non, isi_int_str, isi_int_tup, isi_int_lst, isi_bool_int, isi_bool_bl, isi_tuple_tup, isi_tuple_lst, isi_tuple_int, isi_tuple_non, isi_tuple_bl, isi_tuple_str, ixA_t0, ixA_t1, ixA_t2, ixA_t3, ixA_l0, ixA_l1, setAt_0, setAt_1, mkT_0, mkT_1, mkT_2, mkT_3, mkT_4, mkL_0, mkL_1, mkL_2, mkL_3, mkL_4, mkL_5, mkL_6, fl_up_rt, fl_next_nx, fl_next_rt, fl_after_nx, fl_after_rt, fl_val_rt, fl_valL_rt, fl_valC_rt, turnK_nx, turnK_rt, quiet_ok, iteX_true, iteX_false, needR_some, ite_true, ite_false, Bool.not_true, Bool.not_false, Bool.false_eq_true, reduceIte, decide_true, decide_false, hput, hadd]
          unfold put2
          by_cases hm : nx2 r q p d ∈ st.1
          · have e1 : (!decide (nx2 r q p d ∈ st.1)) = false := by simp [hm]
            rw [if_pos hm]
            simp only [e1, R.ok_bind, R.ok_map, R.err_bind, R.err_map, ar0_, ar1_, ar2_, ar3_, ar4_, ar5_, par2_, par3_, par2X_, asB_bl, d_add, d_sub, d_neg, d_lt, d_le, d_gt, d_ge, d_eq, d_ne, eq_bl, ne_bl, d_abs, d_min2, d_max2, d_toInt, len_tup, len_lst, toTup_lst, toTup_tup, toLst_lst, toLst_tup, itemsA_lst, itemsA_tup, part_int, unp2_, unp3_, unp4_, unT2_, unT3_, unT4_, isi_int_int, isi_int_bl, isi_int_non, isi_int_str, isi_int_tup, isi_int_lst, isi_bool_int, isi_bool_bl, isi_tuple_tup, isi_tuple_lst, isi_tuple_int, isi_tuple_non, isi_tuple_bl, isi_tuple_str, ixA_t0, ixA_t1, ixA_t2, ixA_t3, ixA_l0, ixA_l1, setAt_0, setAt_1, mkT_0, mkT_1, mkT_2, mkT_3, mkT_4, mkL_0, mkL_1, mkL_2, mkL_3, mkL_4, mkL_5, mkL_6, fl_up_rt, fl_next_nx, fl_next_rt, fl_after_nx, fl_after_rt, fl_val_rt, fl_valL_rt, fl_valC_rt, turnK_nx, turnK_rt, quiet_ok, iteX_true, iteX_false, needR_some, ite_true, ite_false, Bool.not_true, Bool.not_false, Bool.false_eq_true, reduceIte, decide_true, decide_false]
          · have e1 : (!decide (nx2 r q p d ∈ st.1)) = true := by simp [hm]
            rw [if_neg hm]
            have e2 : kputP st.1 (nx2 r q p d) = st.1 ++ [nx2 r q p d] := if_neg hm
            have e3 : D.room (st.2.map T2) = .ok () := room_ok (by rw [List.length_map]; omega)
            simp only [e1, R.ok_bind, R.ok_map, R.err_bind, R.err_map, ar0_, ar1_, ar2_, ar3_, ar4_, ar5_, par2_, par3_, par2X_, asB_bl, d_add, d_sub, d_neg, d_lt, d_le, d_gt, d_ge, d_eq, d_ne, eq_bl, ne_bl, d_abs, d_min2, d_max2, d_toInt, len_tup, len_lst, toTup_lst, toTup_tup, toLst_lst, toLst_tup, itemsA_lst, itemsA_tup, part_int, unp2_, unp3_, unp4_, unT2_, unT3_, unT4_, isi_int_int, isi_int_bl, isi_int_non, isi_int_str, isi_int_tup, isi_int_lst, isi_bool_int, isi_bool_bl, isi_tuple_tup, isi_tuple_lst, isi_tuple_int, isi_tuple_non, isi_tuple_bl, isi_tuple_str, ixA_t0, ixA_t1, ixA_t2, ixA_t3, ixA_l0, ixA_l1, setAt_0, setAt_1, mkT_0, mkT_1, mkT_2, mkT_3, mkT_4, mkL_0, mkL_1, mkL_2, mkL_3, mkL_4, mkL_5, mkL_6, fl_up_rt, fl_next_nx, fl_next_rt, fl_after_nx, fl_after_rt, fl_val_rt, fl_valL_rt, fl_valC_rt, turnK_nx, turnK_rt, quiet_ok, iteX_true, iteX_false, needR_some, ite_true, ite_false, Bool.not_true, Bool.not_false, Bool.false_eq_true, reduceIte, decide_true, decide_false, e2, e3, List.map_append, List.map_cons, List.map_nil]
            rfl
  · rintro fl (⟨w, rfl, hb⟩ | ⟨s', rfl, hb⟩)
    · rw [hb]
      simp only [R.ok_bind, R.ok_map, R.err_bind, R.err_map, ar0_, ar1_, ar2_, ar3_, ar4_, ar5_, par2_, par3_, par2X_, asB_bl, d_add, d_sub, d_neg, d_lt, d_le, d_gt, d_ge, d_eq, d_ne, eq_bl, ne_bl, d_abs, d_min2, d_max2, d_toInt, len_tup, len_lst, toTup_lst, toTup_tup, toLst_lst, toLst_tup, itemsA_lst, itemsA_tup, part_int, unp2_, unp3_, unp4_, unT2_, unT3_, unT4_, isi_int_int, isi_int_bl, isi_int_non, isi_int_str, isi_int_tup, isi_int_lst, isi_bool_int, isi_bool_bl, isi_tuple_tup, isi_tuple_lst, isi_tuple_int, isi_tuple_non, isi_tuple_bl, isi_tuple_str, ixA_t0, ixA_t1, ixA_t2, ixA_t3, ixA_l0, ixA_l1, setAt_0, setAt_1, mkT_0, mkT_1, mkT_2, mkT_3, mkT_4, mkL_0, mkL_1, mkL_2, mkL_3, mkL_4, mkL_5, mkL_6, fl_up_rt, fl_next_nx, fl_next_rt, fl_after_nx, fl_after_rt, fl_val_rt, fl_valL_rt, fl_valC_rt, turnK_nx, turnK_rt, quiet_ok, iteX_true, iteX_false, needR_some, ite_true, ite_false, Bool.not_true, Bool.not_false, Bool.false_eq_true, reduceIte, decide_true, decide_false]
      exact ⟨_, rfl, rfl⟩
    · rw [hb]
      simp only [R.ok_bind, R.ok_map, R.err_bind, R.err_map, ar0_, ar1_, ar2_, ar3_, ar4_, ar5_, par2_, par3_, par2X_, asB_bl, d_add, d_sub, d_neg, d_lt, d_le, d_gt, d_ge, d_eq, d_ne, eq_bl, ne_bl, d_abs, d_min2, d_max2, d_toInt, len_tup, len_lst, toTup_lst, toTup_tup, toLst_lst, toLst_tup, itemsA_lst, itemsA_tup, part_int, unp2_, unp3_, unp4_, unT2_, unT3_, unT4_, isi_int_int, isi_int_bl, isi_int_non, isi_int_str, isi_int_tup, isi_int_lst, isi_bool_int, isi_bool_bl, isi_tuple_tup, isi_tuple_lst, isi_tuple_int, isi_tuple_non, isi_tuple_bl, isi_tuple_str, ixA_t0, ixA_t1, ixA_t2, ixA_t3, ixA_l0, ixA_l1, setAt_0, setAt_1, mkT_0, mkT_1, mkT_2, mkT_3, mkT_4, mkL_0, mkL_1, mkL_2, mkL_3, mkL_4, mkL_5, mkL_6, fl_up_rt, fl_next_nx, fl_next_rt, fl_after_nx, fl_after_rt, fl_val_rt, fl_valL_rt, fl_valC_rt, turnK_nx, turnK_rt, quiet_ok, iteX_true, iteX_false, needR_some, ite_true, ite_false, Bool.not_true, Bool.not_false, Bool.false_eq_true, reduceIte, decide_true, decide_false]
      exact ⟨_, rfl, rfl⟩
  · rintro fl rfl
    exact ⟨_, rfl, rfl⟩
end K08
namespace K08
open PySem PySem.Spec PyProof.Rows L2 DL
open DL (D R)
theorem lam_ne1 : lam_within_0 ≠ lam_alike_0 := fun h => absurd (congrArg Lam.qual h) (by decide +kernel)
theorem lam_ne2 : lam_parting_0 ≠ lam_alike_0 := fun h => absurd (congrArg Lam.qual h) (by decide +kernel)
theorem lam_ne3 : lam_parting_0 ≠ lam_within_0 := fun h => absurd (congrArg Lam.qual h) (by decide +kernel)
theorem cal_alike (a b : Bool) : cal_first_unlike lam_alike_0 [.bl a, .bl b] = .ok (.bl (Wm true a b)) := by
  unfold cal_first_unlike
  rw [if_pos rfl, ar2_]
  unfold M_lam_alike_0
  simp only [R.ok_bind, R.ok_map, R.err_bind, R.err_map, ar0_, ar1_, ar2_, ar3_, ar4_, ar5_, par2_, par3_, par2X_, asB_bl, d_add, d_sub, d_neg, d_lt, d_le, d_gt, d_ge, d_eq, d_ne, eq_bl, ne_bl, d_abs, d_min2, d_max2, d_toInt, len_tup, len_lst, toTup_lst, toTup_tup, toLst_lst, toLst_tup, itemsA_lst, itemsA_tup, part_int, unp2_, unp3_, unp4_, unT2_, unT3_, unT4_, isi_int_int, isi_int_bl, isi_int_non, isi_int_str, isi_int_tup, isi_int_lst, isi_bool_int, isi_bool_bl, isi_tuple_tup, isi_tuple_lst, isi_tuple_int, isi_tuple_non, isi_tuple_bl, isi_tuple_str, ixA_t0, ixA_t1, ixA_t2, ixA_t3, ixA_l0, ixA_l1, setAt_0, setAt_1, mkT_0, mkT_1, mkT_2, mkT_3, mkT_4, mkL_0, mkL_1, mkL_2, mkL_3, mkL_4, mkL_5, mkL_6, fl_up_rt, fl_next_nx, fl_next_rt, fl_after_nx, fl_after_rt, fl_val_rt, fl_valL_rt, fl_valC_rt, turnK_nx, turnK_rt, quiet_ok, iteX_true, iteX_false, needR_some, ite_true, ite_false, Bool.not_true, Bool.not_false, Bool.false_eq_true, reduceIte, decide_true, decide_false]
  cases a <;> cases b <;> rfl
theorem cal_within (a b : Bool) : cal_first_unlike lam_within_0 [.bl a, .bl b] = .ok (.bl (Wm false a b)) := by
  unfold cal_first_unlike
  rw [if_neg lam_ne1, if_pos rfl, ar2_]
  unfold M_lam_within_0
  simp only [R.ok_bind, R.ok_map, R.err_bind, R.err_map, ar0_, ar1_, ar2_, ar3_, ar4_, ar5_, par2_, par3_, par2X_, asB_bl, d_add, d_sub, d_neg, d_lt, d_le, d_gt, d_ge, d_eq, d_ne, eq_bl, ne_bl, d_abs, d_min2, d_max2, d_toInt, len_tup, len_lst, toTup_lst, toTup_tup, toLst_lst, toLst_tup, itemsA_lst, itemsA_tup, part_int, unp2_, unp3_, unp4_, unT2_, unT3_, unT4_, isi_int_int, isi_int_bl, isi_int_non, isi_int_str, isi_int_tup, isi_int_lst, isi_bool_int, isi_bool_bl, isi_tuple_tup, isi_tuple_lst, isi_tuple_int, isi_tuple_non, isi_tuple_bl, isi_tuple_str, ixA_t0, ixA_t1, ixA_t2, ixA_t3, ixA_l0, ixA_l1, setAt_0, setAt_1, mkT_0, mkT_1, mkT_2, mkT_3, mkT_4, mkL_0, mkL_1, mkL_2, mkL_3, mkL_4, mkL_5, mkL_6, fl_up_rt, fl_next_nx, fl_next_rt, fl_after_nx, fl_after_rt, fl_val_rt, fl_valL_rt, fl_valC_rt, turnK_nx, turnK_rt, quiet_ok, iteX_true, iteX_false, needR_some, ite_true, ite_false, Bool.not_true, Bool.not_false, Bool.false_eq_true, reduceIte, decide_true, decide_false]
  cases a <;> cases b <;> rfl
theorem cal_parting (a b : Bool) : cal_first_unlike lam_parting_0 [.bl a, .bl b] = .ok (.bl (Wm true a b)) := by
  unfold cal_first_unlike
  rw [if_neg lam_ne2, if_neg lam_ne3, if_pos rfl, ar2_]
  unfold M_lam_parting_0
  simp only [R.ok_bind, R.ok_map, R.err_bind, R.err_map, ar0_, ar1_, ar2_, ar3_, ar4_, ar5_, par2_, par3_, par2X_, asB_bl, d_add, d_sub, d_neg, d_lt, d_le, d_gt, d_ge, d_eq, d_ne, eq_bl, ne_bl, d_abs, d_min2, d_max2, d_toInt, len_tup, len_lst, toTup_lst, toTup_tup, toLst_lst, toLst_tup, itemsA_lst, itemsA_tup, part_int, unp2_, unp3_, unp4_, unT2_, unT3_, unT4_, isi_int_int, isi_int_bl, isi_int_non, isi_int_str, isi_int_tup, isi_int_lst, isi_bool_int, isi_bool_bl, isi_tuple_tup, isi_tuple_lst, isi_tuple_int, isi_tuple_non, isi_tuple_bl, isi_tuple_str, ixA_t0, ixA_t1, ixA_t2, ixA_t3, ixA_l0, ixA_l1, setAt_0, setAt_1, mkT_0, mkT_1, mkT_2, mkT_3, mkT_4, mkL_0, mkL_1, mkL_2, mkL_3, mkL_4, mkL_5, mkL_6, fl_up_rt, fl_next_nx, fl_next_rt, fl_after_nx, fl_after_rt, fl_val_rt, fl_valL_rt, fl_valC_rt, turnK_nx, turnK_rt, quiet_ok, iteX_true, iteX_false, needR_some, ite_true, ite_false, Bool.not_true, Bool.not_false, Bool.false_eq_true, reduceIte, decide_true, decide_false]
  cases a <;> cases b <;> rfl
theorem sl2 (r : Ru) : D.sl r.d none (some 2) = .ok (TN [r.base, r.top]) := rfl
theorem p_need_both {r q : Ru} (hr : r.Ok) (hq : q.Ok) (hb : q.base = r.base) (ht : q.top = r.top) : M_need_both r.d q.d = .ok .non := by
  unfold M_need_both
  have e : D.ne (TN [r.base, r.top]) (TN [q.base, q.top]) = .ok (.bl false) := by
    rw [EqOk.nat.tup.ne, hb, ht]
    simp
  simp only [R.ok_bind, R.ok_map, R.err_bind, R.err_map, ar0_, ar1_, ar2_, ar3_, ar4_, ar5_, par2_, par3_, par2X_, asB_bl, d_add, d_sub, d_neg, d_lt, d_le, d_gt, d_ge, d_eq, d_ne, eq_bl, ne_bl, d_abs, d_min2, d_max2, d_toInt, len_tup, len_lst, toTup_lst, toTup_tup, toLst_lst, toLst_tup, itemsA_lst, itemsA_tup, part_int, unp2_, unp3_, unp4_, unT2_, unT3_, unT4_, isi_int_int, isi_int_bl, isi_int_non, isi_int_str, isi_int_tup, isi_int_lst, isi_bool_int, isi_bool_bl, isi_tuple_tup, isi_tuple_lst, isi_tuple_int, isi_tuple_non, isi_tuple_bl, isi_tuple_str, ixA_t0, ixA_t1, ixA_t2, ixA_t3, ixA_l0, ixA_l1, setAt_0, setAt_1, mkT_0, mkT_1, mkT_2, mkT_3, mkT_4, mkL_0, mkL_1, mkL_2, mkL_3, mkL_4, mkL_5, mkL_6, fl_up_rt, fl_next_nx, fl_next_rt, fl_after_nx, fl_after_rt, fl_val_rt, fl_valL_rt, fl_valC_rt, turnK_nx, turnK_rt, quiet_ok, iteX_true, iteX_false, needR_some, ite_true, ite_false, Bool.not_true, Bool.not_false, Bool.false_eq_true, reduceIte, decide_true, decide_false, p_need hr, p_need hq, sl2, e]
  first | done | rfl
theorem p_need_both_no {r q : Ru} (hr : r.Ok) (hq : q.Ok) (h : ¬ (q.base = r.base ∧ q.top = r.top)) : M_need_both r.d q.d = .err ⟨"Unlike", none⟩ := by
  unfold M_need_both
  have e : D.ne (TN [r.base, r.top]) (TN [q.base, q.top]) = .ok (.bl true) := by
    rw [EqOk.nat.tup.ne]
    congr 2
    rw [decide_eq_false (fun z => h (by simp at z; exact ⟨z.1.symm, z.2.symm⟩))]
    rfl
  simp only [R.ok_bind, R.ok_map, R.err_bind, R.err_map, ar0_, ar1_, ar2_, ar3_, ar4_, ar5_, par2_, par3_, par2X_, asB_bl, d_add, d_sub, d_neg, d_lt, d_le, d_gt, d_ge, d_eq, d_ne, eq_bl, ne_bl, d_abs, d_min2, d_max2, d_toInt, len_tup, len_lst, toTup_lst, toTup_tup, toLst_lst, toLst_tup, itemsA_lst, itemsA_tup, part_int, unp2_, unp3_, unp4_, unT2_, unT3_, unT4_, isi_int_int, isi_int_bl, isi_int_non, isi_int_str, isi_int_tup, isi_int_lst, isi_bool_int, isi_bool_bl, isi_tuple_tup, isi_tuple_lst, isi_tuple_int, isi_tuple_non, isi_tuple_bl, isi_tuple_str, ixA_t0, ixA_t1, ixA_t2, ixA_t3, ixA_l0, ixA_l1, setAt_0, setAt_1, mkT_0, mkT_1, mkT_2, mkT_3, mkT_4, mkL_0, mkL_1, mkL_2, mkL_3, mkL_4, mkL_5, mkL_6, fl_up_rt, fl_next_nx, fl_next_rt, fl_after_nx, fl_after_rt, fl_val_rt, fl_valL_rt, fl_valC_rt, turnK_nx, turnK_rt, quiet_ok, iteX_true, iteX_false, needR_some, ite_true, ite_false, Bool.not_true, Bool.not_false, Bool.false_eq_true, reduceIte, decide_true, decide_false, p_need hr, p_need hq, sl2, e]
  first | done | rfl
section
variable {r q : Ru} (hr : r.Ok) (hq : q.Ok) (hb : q.base = r.base) (ht : q.top = r.top)
theorem optD_isN (o : Option (List Nat)) : D.isN (optD o) .non = .ok (.bl o.isNone) := by cases o <;> rfl
theorem optD_notN (o : Option (List Nat)) : D.notN (optD o) .non = .ok (.bl o.isSome) := by cases o <;> rfl
include hr hq hb ht in
theorem p_alike : M_alike r.d q.d = .ok (.bl (bfs2 r q (Wm true)).isNone) := by
  unfold M_alike
  simp only [R.ok_bind, R.ok_map, R.err_bind, R.err_map, ar0_, ar1_, ar2_, ar3_, ar4_, ar5_, par2_, par3_, par2X_, asB_bl, d_add, d_sub, d_neg, d_lt, d_le, d_gt, d_ge, d_eq, d_ne, eq_bl, ne_bl, d_abs, d_min2, d_max2, d_toInt, len_tup, len_lst, toTup_lst, toTup_tup, toLst_lst, toLst_tup, itemsA_lst, itemsA_tup, part_int, unp2_, unp3_, unp4_, unT2_, unT3_, unT4_, isi_int_int, isi_int_bl, isi_int_non, isi_int_str, isi_int_tup, isi_int_lst, isi_bool_int, isi_bool_bl, isi_tuple_tup, isi_tuple_lst, isi_tuple_int, isi_tuple_non, isi_tuple_bl, isi_tuple_str, ixA_t0, ixA_t1, ixA_t2, ixA_t3, ixA_l0, ixA_l1, setAt_0, setAt_1, mkT_0, mkT_1, mkT_2, mkT_3, mkT_4, mkL_0, mkL_1, mkL_2, mkL_3, mkL_4, mkL_5, mkL_6, fl_up_rt, fl_next_nx, fl_next_rt, fl_after_nx, fl_after_rt, fl_val_rt, fl_valL_rt, fl_valC_rt, turnK_nx, turnK_rt, quiet_ok, iteX_true, iteX_false, needR_some, ite_true, ite_false, Bool.not_true, Bool.not_false, Bool.false_eq_true, reduceIte, decide_true, decide_false, p_need_both hr hq hb ht, p_first_unlike hr hq ht cal_alike, optD_isN]
include hr hq hb ht in
theorem p_within : M_within r.d q.d = .ok (.bl (bfs2 r q (Wm false)).isNone) := by
  unfold M_within
  simp only [R.ok_bind, R.ok_map, R.err_bind, R.err_map, ar0_, ar1_, ar2_, ar3_, ar4_, ar5_, par2_, par3_, par2X_, asB_bl, d_add, d_sub, d_neg, d_lt, d_le, d_gt, d_ge, d_eq, d_ne, eq_bl, ne_bl, d_abs, d_min2, d_max2, d_toInt, len_tup, len_lst, toTup_lst, toTup_tup, toLst_lst, toLst_tup, itemsA_lst, itemsA_tup, part_int, unp2_, unp3_, unp4_, unT2_, unT3_, unT4_, isi_int_int, isi_int_bl, isi_int_non, isi_int_str, isi_int_tup, isi_int_lst, isi_bool_int, isi_bool_bl, isi_tuple_tup, isi_tuple_lst, isi_tuple_int, isi_tuple_non, isi_tuple_bl, isi_tuple_str, ixA_t0, ixA_t1, ixA_t2, ixA_t3, ixA_l0, ixA_l1, setAt_0, setAt_1, mkT_0, mkT_1, mkT_2, mkT_3, mkT_4, mkL_0, mkL_1, mkL_2, mkL_3, mkL_4, mkL_5, mkL_6, fl_up_rt, fl_next_nx, fl_next_rt, fl_after_nx, fl_after_rt, fl_val_rt, fl_valL_rt, fl_valC_rt, turnK_nx, turnK_rt, quiet_ok, iteX_true, iteX_false, needR_some, ite_true, ite_false, Bool.not_true, Bool.not_false, Bool.false_eq_true, reduceIte, decide_true, decide_false, p_need_both hr hq hb ht, p_first_unlike hr hq ht cal_within, optD_isN]
include hr hq hb ht in
theorem p_parting : M_parting r.d q.d = .ok (optD (bfs2 r q (Wm true))) := by
  unfold M_parting
  simp only [R.ok_bind, R.ok_map, R.err_bind, R.err_map, ar0_, ar1_, ar2_, ar3_, ar4_, ar5_, par2_, par3_, par2X_, asB_bl, d_add, d_sub, d_neg, d_lt, d_le, d_gt, d_ge, d_eq, d_ne, eq_bl, ne_bl, d_abs, d_min2, d_max2, d_toInt, len_tup, len_lst, toTup_lst, toTup_tup, toLst_lst, toLst_tup, itemsA_lst, itemsA_tup, part_int, unp2_, unp3_, unp4_, unT2_, unT3_, unT4_, isi_int_int, isi_int_bl, isi_int_non, isi_int_str, isi_int_tup, isi_int_lst, isi_bool_int, isi_bool_bl, isi_tuple_tup, isi_tuple_lst, isi_tuple_int, isi_tuple_non, isi_tuple_bl, isi_tuple_str, ixA_t0, ixA_t1, ixA_t2, ixA_t3, ixA_l0, ixA_l1, setAt_0, setAt_1, mkT_0, mkT_1, mkT_2, mkT_3, mkT_4, mkL_0, mkL_1, mkL_2, mkL_3, mkL_4, mkL_5, mkL_6, fl_up_rt, fl_next_nx, fl_next_rt, fl_after_nx, fl_after_rt, fl_val_rt, fl_valL_rt, fl_valC_rt, turnK_nx, turnK_rt, quiet_ok, iteX_true, iteX_false, needR_some, ite_true, ite_false, Bool.not_true, Bool.not_false, Bool.false_eq_true, reduceIte, decide_true, decide_false, p_need_both hr hq hb ht, p_first_unlike hr hq ht cal_parting]
theorem m_both : D.eq (.str "both") (.str "both") = .ok (.bl true) := (DL.eq_str (x := "both") (y := "both")).trans (by simp)
theorem m_one : D.eq (.str "one") (.str "both") = .ok (.bl false) := (DL.eq_str (x := "one") (y := "both")).trans (by rw [decide_eq_false (by decide)])
theorem wm_swap (both : Bool) : (fun a b => Wm true b a) = Wm true := by
  funext a b
  cases a <;> cases b <;> rfl
end
end K08
namespace K08
open PySem PySem.Spec PyProof.Rows L2 DL
open DL (D R)
theorem p_led {r : Ru} (h : r.Ok) {l : List Nat} (hl : ∀ d ∈ l, d ≤ r.top) : M__law_led r.d (TN l) = .ok (I (r.led l)) := by
  unfold M__law_led
  simp only [R.ok_bind, R.ok_map, R.err_bind, R.err_map, ar0_, ar1_, ar2_, ar3_, ar4_, ar5_, par2_, par3_, par2X_, asB_bl, d_add, d_sub, d_neg, d_lt, d_le, d_gt, d_ge, d_eq, d_ne, eq_bl, ne_bl, d_abs, d_min2, d_max2, d_toInt, len_tup, len_lst, toTup_lst, toTup_tup, toLst_lst, toLst_tup, itemsA_lst, itemsA_tup, part_int, unp2_, unp3_, unp4_, unT2_, unT3_, unT4_, isi_int_int, isi_int_bl, isi_int_non, isi_int_str, isi_int_tup, isi_int_lst, isi_bool_int, isi_bool_bl, isi_tuple_tup, isi_tuple_lst, isi_tuple_int, isi_tuple_non, isi_tuple_bl, isi_tuple_str, ixA_t0, ixA_t1, ixA_t2, ixA_t3, ixA_l0, ixA_l1, setAt_0, setAt_1, mkT_0, mkT_1, mkT_2, mkT_3, mkT_4, mkL_0, mkL_1, mkL_2, mkL_3, mkL_4, mkL_5, mkL_6, fl_up_rt, fl_next_nx, fl_next_rt, fl_after_nx, fl_after_rt, fl_val_rt, fl_valL_rt, fl_valC_rt, turnK_nx, turnK_rt, quiet_ok, iteX_true, iteX_false, needR_some, ite_true, ite_false, Bool.not_true, Bool.not_false, Bool.false_eq_true, reduceIte, decide_true, decide_false]
  have hd : D.ixA r.d (.int 2) = .ok (TR r.rows) := ixA_t2 _ _ _ _
  have key := fun (f : D → D → R (Fl D D D)) (hf : ∀ s, s < r.rows.length → ∀ d, d ≤ r.top → f (I s) (I d) = .ok (.nx (I (r.step s d)))) =>
    forL_nx (f := f) (un := unN) l I I I r.step (fun s => s < r.rows.length) (fun _ _ => rfl) (fun d hd s hs => ⟨hf s hs d (hl d hd), h.step_lt hs (hl d hd)⟩) 0 (by have := h.m1; omega)
  have k2 := fun f hf => (key f hf).1
  simp only [I] at k2
  rw [show (D.int 0) = D.int ((0 : Nat) : Int) from rfl, k2]
  · simp only [R.ok_bind, R.ok_map, R.err_bind, R.err_map, ar0_, ar1_, ar2_, ar3_, ar4_, ar5_, par2_, par3_, par2X_, asB_bl, d_add, d_sub, d_neg, d_lt, d_le, d_gt, d_ge, d_eq, d_ne, eq_bl, ne_bl, d_abs, d_min2, d_max2, d_toInt, len_tup, len_lst, toTup_lst, toTup_tup, toLst_lst, toLst_tup, itemsA_lst, itemsA_tup, part_int, unp2_, unp3_, unp4_, unT2_, unT3_, unT4_, isi_int_int, isi_int_bl, isi_int_non, isi_int_str, isi_int_tup, isi_int_lst, isi_bool_int, isi_bool_bl, isi_tuple_tup, isi_tuple_lst, isi_tuple_int, isi_tuple_non, isi_tuple_bl, isi_tuple_str, ixA_t0, ixA_t1, ixA_t2, ixA_t3, ixA_l0, ixA_l1, setAt_0, setAt_1, mkT_0, mkT_1, mkT_2, mkT_3, mkT_4, mkL_0, mkL_1, mkL_2, mkL_3, mkL_4, mkL_5, mkL_6, fl_up_rt, fl_next_nx, fl_next_rt, fl_after_nx, fl_after_rt, fl_val_rt, fl_valL_rt, fl_valC_rt, turnK_nx, turnK_rt, quiet_ok, iteX_true, iteX_false, needR_some, ite_true, ite_false, Bool.not_true, Bool.not_false, Bool.false_eq_true, reduceIte, decide_true, decide_false]
    rfl
  · intro s hs d hd2
    have h1 := h.ix1 hs
    have h2 := h.ix2 hs hd2
    simp only [I] at h1 h2
    simp only [R.ok_bind, R.ok_map, R.err_bind, R.err_map, ar0_, ar1_, ar2_, ar3_, ar4_, ar5_, par2_, par3_, par2X_, asB_bl, d_add, d_sub, d_neg, d_lt, d_le, d_gt, d_ge, d_eq, d_ne, eq_bl, ne_bl, d_abs, d_min2, d_max2, d_toInt, len_tup, len_lst, toTup_lst, toTup_tup, toLst_lst, toLst_tup, itemsA_lst, itemsA_tup, part_int, unp2_, unp3_, unp4_, unT2_, unT3_, unT4_, isi_int_int, isi_int_bl, isi_int_non, isi_int_str, isi_int_tup, isi_int_lst, isi_bool_int, isi_bool_bl, isi_tuple_tup, isi_tuple_lst, isi_tuple_int, isi_tuple_non, isi_tuple_bl, isi_tuple_str, ixA_t0, ixA_t1, ixA_t2, ixA_t3, ixA_l0, ixA_l1, setAt_0, setAt_1, mkT_0, mkT_1, mkT_2, mkT_3, mkT_4, mkL_0, mkL_1, mkL_2, mkL_3, mkL_4, mkL_5, mkL_6, fl_up_rt, fl_next_nx, fl_next_rt, fl_after_nx, fl_after_rt, fl_val_rt, fl_valL_rt, fl_valC_rt, turnK_nx, turnK_rt, quiet_ok, iteX_true, iteX_false, needR_some, ite_true, ite_false, Bool.not_true, Bool.not_false, Bool.false_eq_true, reduceIte, decide_true, decide_false, hd, h1, h2]
theorem p_lets {r : Ru} (h : r.Ok) {l : List Nat} (hl : ∀ d ∈ l, d ≤ r.top) : M__law_lets r.d (TN l) = .ok (.bl (r.lets l)) := by
  unfold M__law_lets
  have hd : D.ixA r.d (.int 3) = .ok (TN r.good) := ixA_t3 _ _ _ _ _
  simp only [R.ok_bind, R.ok_map, R.err_bind, R.err_map, ar0_, ar1_, ar2_, ar3_, ar4_, ar5_, par2_, par3_, par2X_, asB_bl, d_add, d_sub, d_neg, d_lt, d_le, d_gt, d_ge, d_eq, d_ne, eq_bl, ne_bl, d_abs, d_min2, d_max2, d_toInt, len_tup, len_lst, toTup_lst, toTup_tup, toLst_lst, toLst_tup, itemsA_lst, itemsA_tup, part_int, unp2_, unp3_, unp4_, unT2_, unT3_, unT4_, isi_int_int, isi_int_bl, isi_int_non, isi_int_str, isi_int_tup, isi_int_lst, isi_bool_int, isi_bool_bl, isi_tuple_tup, isi_tuple_lst, isi_tuple_int, isi_tuple_non, isi_tuple_bl, isi_tuple_str, ixA_t0, ixA_t1, ixA_t2, ixA_t3, ixA_l0, ixA_l1, setAt_0, setAt_1, mkT_0, mkT_1, mkT_2, mkT_3, mkT_4, mkL_0, mkL_1, mkL_2, mkL_3, mkL_4, mkL_5, mkL_6, fl_up_rt, fl_next_nx, fl_next_rt, fl_after_nx, fl_after_rt, fl_val_rt, fl_valL_rt, fl_valC_rt, turnK_nx, turnK_rt, quiet_ok, iteX_true, iteX_false, needR_some, ite_true, ite_false, Bool.not_true, Bool.not_false, Bool.false_eq_true, reduceIte, decide_true, decide_false, p_led h hl, hd, EqOk.nat.inT]
  rfl
theorem p_short {r : Ru} (h : r.Ok) {most : Nat} (hm : most ≤ 60) (hb : (most + 1) * (r.top + 1) ^ most ≤ 100000) : M__law_short_forms r.d (.int most) = .ok (.lst ((shortS (r.top + 1) most).map TN)) := by
  refine R.has_eq ?_
  have t2 := h.t2; have b2 := h.b2
  obtain ⟨n, hn⟩ : ∃ n, n = r.top + 1 := ⟨_, rfl⟩
  rw [← hn] at hb ⊢
  have en : (r.top : Int) + 1 = (n : Int) := by omega
  have rm : D.range1 (.int (most : Int)) = .ok ((List.range most).map I) := range1_nat most (by omega)
  have rn : D.range1 (.int (n : Int)) = .ok ((List.range n).map I) := range1_nat n (by omega)
  have hd : D.ixA r.d (.int 1) = .ok (I r.top) := ixA_t1 _ _ _
  unfold M__law_short_forms
  simp only [R.ok_bind, R.ok_map, R.err_bind, R.err_map, ar0_, ar1_, ar2_, ar3_, ar4_, ar5_, par2_, par3_, par2X_, asB_bl, d_add, d_sub, d_neg, d_lt, d_le, d_gt, d_ge, d_eq, d_ne, eq_bl, ne_bl, d_abs, d_min2, d_max2, d_toInt, len_tup, len_lst, toTup_lst, toTup_tup, toLst_lst, toLst_tup, itemsA_lst, itemsA_tup, part_int, unp2_, unp3_, unp4_, unT2_, unT3_, unT4_, isi_int_int, isi_int_bl, isi_int_non, isi_int_str, isi_int_tup, isi_int_lst, isi_bool_int, isi_bool_bl, isi_tuple_tup, isi_tuple_lst, isi_tuple_int, isi_tuple_non, isi_tuple_bl, isi_tuple_str, ixA_t0, ixA_t1, ixA_t2, ixA_t3, ixA_l0, ixA_l1, setAt_0, setAt_1, mkT_0, mkT_1, mkT_2, mkT_3, mkT_4, mkL_0, mkL_1, mkL_2, mkL_3, mkL_4, mkL_5, mkL_6, fl_up_rt, fl_next_nx, fl_next_rt, fl_after_nx, fl_after_rt, fl_val_rt, fl_valL_rt, fl_valC_rt, turnK_nx, turnK_rt, quiet_ok, iteX_true, iteX_false, needR_some, ite_true, ite_false, Bool.not_true, Bool.not_false, Bool.false_eq_true, reduceIte, decide_true, decide_false, rm]
  refine R.has_bind (P := fun fl => fl = Fl.rt (.lst ((shortS n most).map TN))) ?_ (fun fl e => by subst e; exact R.has_ok rfl)
  refine R.has_bind (forL_has (List.range most) I I (fun k s => s = (.lst ((shortS n k).map TN), .lst ((allS n k).map TN))) (fun _ _ => rfl) ?_ rfl) ?_
  · rintro k i hi s rfl
    obtain ⟨hk, rfl⟩ : k < most ∧ k = i := by
      obtain ⟨h1, h2⟩ := List.getElem?_eq_some_iff.mp hi
      simp at h1 h2
      exact ⟨h1, h2⟩
    have hpow : n ^ (k + 1) ≤ n ^ most := Nat.pow_le_pow_right (by omega) hk
    have hpow2 : n ^ most ≤ (most + 1) * n ^ most := Nat.le_mul_of_pos_left _ (by omega)
    have hlen : (allS n (k + 1)).length ≤ 100000 := by rw [allS_len]; omega
    simp only [R.ok_bind, R.ok_map, R.err_bind, R.err_map, ar0_, ar1_, ar2_, ar3_, ar4_, ar5_, par2_, par3_, par2X_, asB_bl, d_add, d_sub, d_neg, d_lt, d_le, d_gt, d_ge, d_eq, d_ne, eq_bl, ne_bl, d_abs, d_min2, d_max2, d_toInt, len_tup, len_lst, toTup_lst, toTup_tup, toLst_lst, toLst_tup, itemsA_lst, itemsA_tup, part_int, unp2_, unp3_, unp4_, unT2_, unT3_, unT4_, isi_int_int, isi_int_bl, isi_int_non, isi_int_str, isi_int_tup, isi_int_lst, isi_bool_int, isi_bool_bl, isi_tuple_tup, isi_tuple_lst, isi_tuple_int, isi_tuple_non, isi_tuple_bl, isi_tuple_str, ixA_t0, ixA_t1, ixA_t2, ixA_t3, ixA_l0, ixA_l1, setAt_0, setAt_1, mkT_0, mkT_1, mkT_2, mkT_3, mkT_4, mkL_0, mkL_1, mkL_2, mkL_3, mkL_4, mkL_5, mkL_6, fl_up_rt, fl_next_nx, fl_next_rt, fl_after_nx, fl_after_rt, fl_val_rt, fl_valL_rt, fl_valC_rt, turnK_nx, turnK_rt, quiet_ok, iteX_true, iteX_false, needR_some, ite_true, ite_false, Bool.not_true, Bool.not_false, Bool.false_eq_true, reduceIte, decide_true, decide_false]
    refine R.has_bind (forL_has (allS n k) TN TN (fun j s => s = .lst ((((allS n k).take j).flatMap fun ds => (List.range n).map fun d => ds ++ [d]).map TN)) (fun _ _ => rfl) ?_ rfl) ?_
    · rintro j ds hj s rfl
      have hds : ds ∈ allS n k := List.mem_of_getElem? hj
      obtain ⟨dl, de⟩ := allS_mem hds
      simp only [R.ok_bind, R.ok_map, R.err_bind, R.err_map, ar0_, ar1_, ar2_, ar3_, ar4_, ar5_, par2_, par3_, par2X_, asB_bl, d_add, d_sub, d_neg, d_lt, d_le, d_gt, d_ge, d_eq, d_ne, eq_bl, ne_bl, d_abs, d_min2, d_max2, d_toInt, len_tup, len_lst, toTup_lst, toTup_tup, toLst_lst, toLst_tup, itemsA_lst, itemsA_tup, part_int, unp2_, unp3_, unp4_, unT2_, unT3_, unT4_, isi_int_int, isi_int_bl, isi_int_non, isi_int_str, isi_int_tup, isi_int_lst, isi_bool_int, isi_bool_bl, isi_tuple_tup, isi_tuple_lst, isi_tuple_int, isi_tuple_non, isi_tuple_bl, isi_tuple_str, ixA_t0, ixA_t1, ixA_t2, ixA_t3, ixA_l0, ixA_l1, setAt_0, setAt_1, mkT_0, mkT_1, mkT_2, mkT_3, mkT_4, mkL_0, mkL_1, mkL_2, mkL_3, mkL_4, mkL_5, mkL_6, fl_up_rt, fl_next_nx, fl_next_rt, fl_after_nx, fl_after_rt, fl_val_rt, fl_valL_rt, fl_valC_rt, turnK_nx, turnK_rt, quiet_ok, iteX_true, iteX_false, needR_some, ite_true, ite_false, Bool.not_true, Bool.not_false, Bool.false_eq_true, reduceIte, decide_true, decide_false, hd, I, en, rn]
      have hl1 : (TN ds) = .tup (ds.map I) := rfl
      have hadd : ∀ d : Nat, D.add (TN ds) (.tup [.int (d : Int)]) = .ok (TN (ds ++ [d])) := fun d => by
        have := add_tup (xs := ds.map I) (ys := [I d]) (sz (by simp; omega))
        have e : TN (ds ++ [d]) = .tup (ds.map I ++ [I d]) := by
          show D.tup ((ds ++ [d]).map I) = _
          rw [List.map_append]; rfl
        rw [e]
        exact this
      have rn' := rn
      rw [lcR_all (List.range n) I I (fun d => TN (ds ++ [d])) (sz (by simp; omega)) (fun _ _ => rfl) (fun _ _ => rfl) (fun d _ => by
        simp only [R.ok_bind, R.ok_map, R.err_bind, R.err_map, ar0_, ar1_, ar2_, ar3_, ar4_, ar5_, par2_, par3_, par2X_, asB_bl, d_add, d_sub, d_neg, d_lt, d_le, d_gt, d_ge, d_eq, d_ne, eq_bl, ne_bl, d_abs, d_min2, d_max2, d_toInt, len_tup, len_lst, toTup_lst, toTup_tup, toLst_lst, toLst_tup, itemsA_lst, itemsA_tup, part_int, unp2_, unp3_, unp4_, unT2_, unT3_, unT4_, isi_int_int, isi_int_bl, isi_int_non, isi_int_str, isi_int_tup, isi_int_lst, isi_bool_int, isi_bool_bl, isi_tuple_tup, isi_tuple_lst, isi_tuple_int, isi_tuple_non, isi_tuple_bl, isi_tuple_str, ixA_t0, ixA_t1, ixA_t2, ixA_t3, ixA_l0, ixA_l1, setAt_0, setAt_1, mkT_0, mkT_1, mkT_2, mkT_3, mkT_4, mkL_0, mkL_1, mkL_2, mkL_3, mkL_4, mkL_5, mkL_6, fl_up_rt, fl_next_nx, fl_next_rt, fl_after_nx, fl_after_rt, fl_val_rt, fl_valL_rt, fl_valC_rt, turnK_nx, turnK_rt, quiet_ok, iteX_true, iteX_false, needR_some, ite_true, ite_false, Bool.not_true, Bool.not_false, Bool.false_eq_true, reduceIte, decide_true, decide_false, I, hadd])]
      simp only [R.ok_bind, R.ok_map, R.err_bind, R.err_map, ar0_, ar1_, ar2_, ar3_, ar4_, ar5_, par2_, par3_, par2X_, asB_bl, d_add, d_sub, d_neg, d_lt, d_le, d_gt, d_ge, d_eq, d_ne, eq_bl, ne_bl, d_abs, d_min2, d_max2, d_toInt, len_tup, len_lst, toTup_lst, toTup_tup, toLst_lst, toLst_tup, itemsA_lst, itemsA_tup, part_int, unp2_, unp3_, unp4_, unT2_, unT3_, unT4_, isi_int_int, isi_int_bl, isi_int_non, isi_int_str, isi_int_tup, isi_int_lst, isi_bool_int, isi_bool_bl, isi_tuple_tup, isi_tuple_lst, isi_tuple_int, isi_tuple_non, isi_tuple_bl, isi_tuple_str, ixA_t0, ixA_t1, ixA_t2, ixA_t3, ixA_l0, ixA_l1, setAt_0, setAt_1, mkT_0, mkT_1, mkT_2, mkT_3, mkT_4, mkL_0, mkL_1, mkL_2, mkL_3, mkL_4, mkL_5, mkL_6, fl_up_rt, fl_next_nx, fl_next_rt, fl_after_nx, fl_after_rt, fl_val_rt, fl_valL_rt, fl_valC_rt, turnK_nx, turnK_rt, quiet_ok, iteX_true, iteX_false, needR_some, ite_true, ite_false, Bool.not_true, Bool.not_false, Bool.false_eq_true, reduceIte, decide_true, decide_false]
      have e : ((List.range n).map fun d => TN (ds ++ [d])) = ((List.range n).map fun d => ds ++ [d]).map TN := by rw [List.map_map]; rfl
      have e2 : (allS n k).take (j + 1) = (allS n k).take j ++ [ds] := by
        rw [List.take_add_one, hj]; rfl
      have e3 : ((allS n k).take (j + 1)).flatMap (fun ds => (List.range n).map fun d => ds ++ [d]) = ((allS n k).take j).flatMap (fun ds => (List.range n).map fun d => ds ++ [d]) ++ (List.range n).map fun d => ds ++ [d] := by
        rw [e2, List.flatMap_append]; simp
      have hle : (((allS n k).take (j + 1)).flatMap (fun ds => (List.range n).map fun d => ds ++ [d])).length ≤ (allS n (k + 1)).length := by
        refine List.Sublist.length_le ?_
        show (((allS n k).take (j + 1)).flatMap _).Sublist ((allS n k).flatMap _)
        have e4 : (allS n k).flatMap (fun ds => (List.range n).map fun d => ds ++ [d]) = ((allS n k).take (j + 1)).flatMap (fun ds => (List.range n).map fun d => ds ++ [d]) ++ ((allS n k).drop (j + 1)).flatMap (fun ds => (List.range n).map fun d => ds ++ [d]) := by
          rw [← List.flatMap_append, List.take_append_drop]
        rw [e4]
        exact List.sublist_append_left _ _
      rw [e3, List.length_append] at hle
      rw [e, add_lst (sz (by rw [List.length_map, List.length_map]; omega))]
      simp only [R.ok_bind, R.ok_map, R.err_bind, R.err_map, ar0_, ar1_, ar2_, ar3_, ar4_, ar5_, par2_, par3_, par2X_, asB_bl, d_add, d_sub, d_neg, d_lt, d_le, d_gt, d_ge, d_eq, d_ne, eq_bl, ne_bl, d_abs, d_min2, d_max2, d_toInt, len_tup, len_lst, toTup_lst, toTup_tup, toLst_lst, toLst_tup, itemsA_lst, itemsA_tup, part_int, unp2_, unp3_, unp4_, unT2_, unT3_, unT4_, isi_int_int, isi_int_bl, isi_int_non, isi_int_str, isi_int_tup, isi_int_lst, isi_bool_int, isi_bool_bl, isi_tuple_tup, isi_tuple_lst, isi_tuple_int, isi_tuple_non, isi_tuple_bl, isi_tuple_str, ixA_t0, ixA_t1, ixA_t2, ixA_t3, ixA_l0, ixA_l1, setAt_0, setAt_1, mkT_0, mkT_1, mkT_2, mkT_3, mkT_4, mkL_0, mkL_1, mkL_2, mkL_3, mkL_4, mkL_5, mkL_6, fl_up_rt, fl_next_nx, fl_next_rt, fl_after_nx, fl_after_rt, fl_val_rt, fl_valL_rt, fl_valC_rt, turnK_nx, turnK_rt, quiet_ok, iteX_true, iteX_false, needR_some, ite_true, ite_false, Bool.not_true, Bool.not_false, Bool.false_eq_true, reduceIte, decide_true, decide_false]
      refine R.has_ok ⟨_, rfl, ?_⟩
      rw [e3, List.map_append]
    · rintro fl ⟨s, rfl, rfl⟩
      rw [List.take_length]
      have e0 : (allS n k).flatMap (fun ds => (List.range n).map fun d => ds ++ [d]) = allS n (k + 1) := rfl
      rw [e0]
      simp only [fl_after_nx, R.ok_bind, R.ok_map, R.err_bind, R.err_map, ar0_, ar1_, ar2_, ar3_, ar4_, ar5_, par2_, par3_, par2X_, asB_bl, d_add, d_sub, d_neg, d_lt, d_le, d_gt, d_ge, d_eq, d_ne, eq_bl, ne_bl, d_abs, d_min2, d_max2, d_toInt, len_tup, len_lst, toTup_lst, toTup_tup, toLst_lst, toLst_tup, itemsA_lst, itemsA_tup, part_int, unp2_, unp3_, unp4_, unT2_, unT3_, unT4_, isi_int_int, isi_int_bl, isi_int_non, isi_int_str, isi_int_tup, isi_int_lst, isi_bool_int, isi_bool_bl, isi_tuple_tup, isi_tuple_lst, isi_tuple_int, isi_tuple_non, isi_tuple_bl, isi_tuple_str, ixA_t0, ixA_t1, ixA_t2, ixA_t3, ixA_l0, ixA_l1, setAt_0, setAt_1, mkT_0, mkT_1, mkT_2, mkT_3, mkT_4, mkL_0, mkL_1, mkL_2, mkL_3, mkL_4, mkL_5, mkL_6, fl_up_rt, fl_next_nx, fl_next_rt, fl_after_nx, fl_after_rt, fl_val_rt, fl_valL_rt, fl_valC_rt, turnK_nx, turnK_rt, quiet_ok, iteX_true, iteX_false, needR_some, ite_true, ite_false, Bool.not_true, Bool.not_false, Bool.false_eq_true, reduceIte, decide_true, decide_false]
      rw [lcR_ok (allS n (k + 1)) TN TN (fun l => decide (l.getLastD 0 ≠ 0)) TN (sz (by omega)) (fun _ _ => rfl) (fun l hl => by
        obtain ⟨h1, h2⟩ := allS_mem hl
        have e1 : D.ixA (TN l) (.int (-1)) = .ok (I (l.getLastD 0)) := by
          refine ixA_last ?_
          rw [List.length_map, List.getElem?_map, ← List.getLast?_eq_getElem?, List.getLastD_eq_getLast?]
          cases l with
          | nil => simp at h1
          | cons a t => rw [List.getLast?_eq_some_getLast (by simp)]; rfl
        simp only [R.ok_bind, R.ok_map, R.err_bind, R.err_map, ar0_, ar1_, ar2_, ar3_, ar4_, ar5_, par2_, par3_, par2X_, asB_bl, d_add, d_sub, d_neg, d_lt, d_le, d_gt, d_ge, d_eq, d_ne, eq_bl, ne_bl, d_abs, d_min2, d_max2, d_toInt, len_tup, len_lst, toTup_lst, toTup_tup, toLst_lst, toLst_tup, itemsA_lst, itemsA_tup, part_int, unp2_, unp3_, unp4_, unT2_, unT3_, unT4_, isi_int_int, isi_int_bl, isi_int_non, isi_int_str, isi_int_tup, isi_int_lst, isi_bool_int, isi_bool_bl, isi_tuple_tup, isi_tuple_lst, isi_tuple_int, isi_tuple_non, isi_tuple_bl, isi_tuple_str, ixA_t0, ixA_t1, ixA_t2, ixA_t3, ixA_l0, ixA_l1, setAt_0, setAt_1, mkT_0, mkT_1, mkT_2, mkT_3, mkT_4, mkL_0, mkL_1, mkL_2, mkL_3, mkL_4, mkL_5, mkL_6, fl_up_rt, fl_next_nx, fl_next_rt, fl_after_nx, fl_after_rt, fl_val_rt, fl_valL_rt, fl_valC_rt, turnK_nx, turnK_rt, quiet_ok, iteX_true, iteX_false, needR_some, ite_true, ite_false, Bool.not_true, Bool.not_false, Bool.false_eq_true, reduceIte, decide_true, decide_false, e1, I]
        congr 1
        rw [Bool.eq_iff_iff]
        simp) (fun _ _ _ => rfl)]
      simp only [R.ok_bind, R.ok_map, R.err_bind, R.err_map, ar0_, ar1_, ar2_, ar3_, ar4_, ar5_, par2_, par3_, par2X_, asB_bl, d_add, d_sub, d_neg, d_lt, d_le, d_gt, d_ge, d_eq, d_ne, eq_bl, ne_bl, d_abs, d_min2, d_max2, d_toInt, len_tup, len_lst, toTup_lst, toTup_tup, toLst_lst, toLst_tup, itemsA_lst, itemsA_tup, part_int, unp2_, unp3_, unp4_, unT2_, unT3_, unT4_, isi_int_int, isi_int_bl, isi_int_non, isi_int_str, isi_int_tup, isi_int_lst, isi_bool_int, isi_bool_bl, isi_tuple_tup, isi_tuple_lst, isi_tuple_int, isi_tuple_non, isi_tuple_bl, isi_tuple_str, ixA_t0, ixA_t1, ixA_t2, ixA_t3, ixA_l0, ixA_l1, setAt_0, setAt_1, mkT_0, mkT_1, mkT_2, mkT_3, mkT_4, mkL_0, mkL_1, mkL_2, mkL_3, mkL_4, mkL_5, mkL_6, fl_up_rt, fl_next_nx, fl_next_rt, fl_after_nx, fl_after_rt, fl_val_rt, fl_valL_rt, fl_valC_rt, turnK_nx, turnK_rt, quiet_ok, iteX_true, iteX_false, needR_some, ite_true, ite_false, Bool.not_true, Bool.not_false, Bool.false_eq_true, reduceIte, decide_true, decide_false]
      have h1 := shortS_len (n := n) (by omega) (k + 1)
      have h2 : (k + 1 + 1) * n ^ (k + 1) ≤ (most + 1) * n ^ most := Nat.mul_le_mul (by omega) hpow
      simp only [shortS, List.length_append] at h1
      have e5 : ((allS n (k + 1)).filter fun l => decide (l.getLastD 0 ≠ 0)) = formS n (k + 1) := rfl
      rw [e5, add_lst (sz (by rw [List.length_map, List.length_map]; omega))]
      simp only [R.ok_bind, R.ok_map, R.err_bind, R.err_map, ar0_, ar1_, ar2_, ar3_, ar4_, ar5_, par2_, par3_, par2X_, asB_bl, d_add, d_sub, d_neg, d_lt, d_le, d_gt, d_ge, d_eq, d_ne, eq_bl, ne_bl, d_abs, d_min2, d_max2, d_toInt, len_tup, len_lst, toTup_lst, toTup_tup, toLst_lst, toLst_tup, itemsA_lst, itemsA_tup, part_int, unp2_, unp3_, unp4_, unT2_, unT3_, unT4_, isi_int_int, isi_int_bl, isi_int_non, isi_int_str, isi_int_tup, isi_int_lst, isi_bool_int, isi_bool_bl, isi_tuple_tup, isi_tuple_lst, isi_tuple_int, isi_tuple_non, isi_tuple_bl, isi_tuple_str, ixA_t0, ixA_t1, ixA_t2, ixA_t3, ixA_l0, ixA_l1, setAt_0, setAt_1, mkT_0, mkT_1, mkT_2, mkT_3, mkT_4, mkL_0, mkL_1, mkL_2, mkL_3, mkL_4, mkL_5, mkL_6, fl_up_rt, fl_next_nx, fl_next_rt, fl_after_nx, fl_after_rt, fl_val_rt, fl_valL_rt, fl_valC_rt, turnK_nx, turnK_rt, quiet_ok, iteX_true, iteX_false, needR_some, ite_true, ite_false, Bool.not_true, Bool.not_false, Bool.false_eq_true, reduceIte, decide_true, decide_false]
      refine R.has_ok ⟨_, rfl, ?_⟩
      simp only [shortS, List.map_append]
  · rintro fl ⟨s, rfl, rfl⟩
    rw [List.length_range]
    simp only [fl_after_nx, R.ok_bind, R.ok_map, R.err_bind, R.err_map, ar0_, ar1_, ar2_, ar3_, ar4_, ar5_, par2_, par3_, par2X_, asB_bl, d_add, d_sub, d_neg, d_lt, d_le, d_gt, d_ge, d_eq, d_ne, eq_bl, ne_bl, d_abs, d_min2, d_max2, d_toInt, len_tup, len_lst, toTup_lst, toTup_tup, toLst_lst, toLst_tup, itemsA_lst, itemsA_tup, part_int, unp2_, unp3_, unp4_, unT2_, unT3_, unT4_, isi_int_int, isi_int_bl, isi_int_non, isi_int_str, isi_int_tup, isi_int_lst, isi_bool_int, isi_bool_bl, isi_tuple_tup, isi_tuple_lst, isi_tuple_int, isi_tuple_non, isi_tuple_bl, isi_tuple_str, ixA_t0, ixA_t1, ixA_t2, ixA_t3, ixA_l0, ixA_l1, setAt_0, setAt_1, mkT_0, mkT_1, mkT_2, mkT_3, mkT_4, mkL_0, mkL_1, mkL_2, mkL_3, mkL_4, mkL_5, mkL_6, fl_up_rt, fl_next_nx, fl_next_rt, fl_after_nx, fl_after_rt, fl_val_rt, fl_valL_rt, fl_valC_rt, turnK_nx, turnK_rt, quiet_ok, iteX_true, iteX_false, needR_some, ite_true, ite_false, Bool.not_true, Bool.not_false, Bool.false_eq_true, reduceIte, decide_true, decide_false]
    exact R.has_ok rfl
theorem p_truly (a b : Bool) : M__law_truly (.bl a) (.bl b) = .ok (.bl (decide (a = b))) := by
  unfold M__law_truly
  simp only [R.ok_bind, R.ok_map, R.err_bind, R.err_map, ar0_, ar1_, ar2_, ar3_, ar4_, ar5_, par2_, par3_, par2X_, asB_bl, d_add, d_sub, d_neg, d_lt, d_le, d_gt, d_ge, d_eq, d_ne, eq_bl, ne_bl, d_abs, d_min2, d_max2, d_toInt, len_tup, len_lst, toTup_lst, toTup_tup, toLst_lst, toLst_tup, itemsA_lst, itemsA_tup, part_int, unp2_, unp3_, unp4_, unT2_, unT3_, unT4_, isi_int_int, isi_int_bl, isi_int_non, isi_int_str, isi_int_tup, isi_int_lst, isi_bool_int, isi_bool_bl, isi_tuple_tup, isi_tuple_lst, isi_tuple_int, isi_tuple_non, isi_tuple_bl, isi_tuple_str, ixA_t0, ixA_t1, ixA_t2, ixA_t3, ixA_l0, ixA_l1, setAt_0, setAt_1, mkT_0, mkT_1, mkT_2, mkT_3, mkT_4, mkL_0, mkL_1, mkL_2, mkL_3, mkL_4, mkL_5, mkL_6, fl_up_rt, fl_next_nx, fl_next_rt, fl_after_nx, fl_after_rt, fl_val_rt, fl_valL_rt, fl_valC_rt, turnK_nx, turnK_rt, quiet_ok, iteX_true, iteX_false, needR_some, ite_true, ite_false, Bool.not_true, Bool.not_false, Bool.false_eq_true, reduceIte, decide_true, decide_false]
theorem flat_optD (o : Option (List Nat)) : D.flat 1 (optD o) := by
  cases o with
  | none => exact ⟨by unfold optD; simp only [D.toPy, PyData.canLay0], by unfold optD; simp only [D.toPy, PyData.depth]; omega⟩
  | some w => exact flat_tup (n := 0) fun i _ => flat_int _ 0
theorem want_lets {r q : Ru} (w : List Nat) : want2 r q (Wm true) (led2 r q w) = decide (r.lets w ≠ q.lets w) := by
  unfold want2 led2 Ru.lets Wm
  generalize decide (r.led w ∈ r.good) = a
  generalize decide (q.led w ∈ q.good) = b
  cases a <;> cases b <;> rfl
theorem p_right {r q : Ru} (hr : r.Ok) (hq : q.Ok) (hb : q.base = r.base) (ht : q.top = r.top) : M__law_right r.d q.d = .ok (.bl true) := by
  have t2 := hr.t2
  have b2 := hr.b2
  have hs : M__law_short_forms r.d (.int 3) = .ok (.lst ((shortS (r.top + 1) 3).map TN)) := p_short hr (most := 3) (by omega) (by
    have : (r.top + 1) ^ 3 ≤ 6 ^ 3 := Nat.pow_le_pow_left (by omega) 3
    have e : (6 : Nat) ^ 3 = 216 := rfl
    omega)
  have hsw : bfs2 q r (Wm true) = bfs2 r q (Wm true) := by
    have := bfs_swap (W := Wm true) hr hq ht
    rwa [wm_swap true] at this
  have hloop : ∀ (g : Unit → D → R (Fl Unit Unit D)), (∀ f ∈ shortS (r.top + 1) 3, g () (TN f) = .ok (.nx ())) → forL unN g ((shortS (r.top + 1) 3).map TN) () = .ok (.nx ()) := fun g hg => by
    have := forL_chk (un := unN) (f := g) (shortS (r.top + 1) 3) TN TN (fun _ => true) (fun _ _ => rfl) (fun i hi => by rw [hg i hi]; rfl)
    rw [this, if_pos (by simp)]
  have hdig : ∀ f ∈ shortS (r.top + 1) 3, ∀ d ∈ f, d ≤ r.top := fun f hf d hd => by have := shortS_mem hf d hd; omega
  have hlets : ∀ f ∈ shortS (r.top + 1) 3, M__law_lets r.d (TN f) = .ok (.bl (r.lets f)) ∧ M__law_lets q.d (TN f) = .ok (.bl (q.lets f)) := fun f hf => ⟨p_lets hr (hdig f hf), p_lets hq fun d hd => by rw [ht]; exact hdig f hf d hd⟩
  unfold M__law_right
  simp only [R.ok_bind, R.ok_map, R.err_bind, R.err_map, ar0_, ar1_, ar2_, ar3_, ar4_, ar5_, par2_, par3_, par2X_, asB_bl, d_add, d_sub, d_neg, d_lt, d_le, d_gt, d_ge, d_eq, d_ne, eq_bl, ne_bl, d_abs, d_min2, d_max2, d_toInt, len_tup, len_lst, toTup_lst, toTup_tup, toLst_lst, toLst_tup, itemsA_lst, itemsA_tup, part_int, unp2_, unp3_, unp4_, unT2_, unT3_, unT4_, isi_int_int, isi_int_bl, isi_int_non, isi_int_str, isi_int_tup, isi_int_lst, isi_bool_int, isi_bool_bl, isi_tuple_tup, isi_tuple_lst, isi_tuple_int, isi_tuple_non, isi_tuple_bl, isi_tuple_str, ixA_t0, ixA_t1, ixA_t2, ixA_t3, ixA_l0, ixA_l1, setAt_0, setAt_1, mkT_0, mkT_1, mkT_2, mkT_3, mkT_4, mkL_0, mkL_1, mkL_2, mkL_3, mkL_4, mkL_5, mkL_6, fl_up_rt, fl_next_nx, fl_next_rt, fl_after_nx, fl_after_rt, fl_val_rt, fl_valL_rt, fl_valC_rt, turnK_nx, turnK_rt, quiet_ok, iteX_true, iteX_false, needR_some, ite_true, ite_false, Bool.not_true, Bool.not_false, Bool.false_eq_true, reduceIte, decide_true, decide_false, p_law_first hr hq ht m_both, p_law_first hr hq ht m_one, p_parting hr hq hb ht, p_parting hq hr hb.symm ht.symm, p_alike hr hq hb ht, p_within hr hq hb ht, hsw, optD_isN, optD_notN, ne_same (flat_optD _), p_truly, hs]
  rcases bfs_spec (W := Wm true) hr hq ht with ⟨w, h1, h2⟩ | ⟨h1, h2⟩
  · have l1 := p_lets hr h2.dig
    have l2 := p_lets hq (l := w) fun d hd => by rw [ht]; exact h2.dig d hd
    have hy := h2.yes
    rw [want_lets, decide_eq_true_eq] at hy
    have hln : w.length ≤ 25 := h2.len
    rw [h1]
    have e0 : optD (some w) = TN w := rfl
    simp only [R.ok_bind, R.ok_map, R.err_bind, R.err_map, ar0_, ar1_, ar2_, ar3_, ar4_, ar5_, par2_, par3_, par2X_, asB_bl, d_add, d_sub, d_neg, d_lt, d_le, d_gt, d_ge, d_eq, d_ne, eq_bl, ne_bl, d_abs, d_min2, d_max2, d_toInt, len_tup, len_lst, toTup_lst, toTup_tup, toLst_lst, toLst_tup, itemsA_lst, itemsA_tup, part_int, unp2_, unp3_, unp4_, unT2_, unT3_, unT4_, isi_int_int, isi_int_bl, isi_int_non, isi_int_str, isi_int_tup, isi_int_lst, isi_bool_int, isi_bool_bl, isi_tuple_tup, isi_tuple_lst, isi_tuple_int, isi_tuple_non, isi_tuple_bl, isi_tuple_str, ixA_t0, ixA_t1, ixA_t2, ixA_t3, ixA_l0, ixA_l1, setAt_0, setAt_1, mkT_0, mkT_1, mkT_2, mkT_3, mkT_4, mkL_0, mkL_1, mkL_2, mkL_3, mkL_4, mkL_5, mkL_6, fl_up_rt, fl_next_nx, fl_next_rt, fl_after_nx, fl_after_rt, fl_val_rt, fl_valL_rt, fl_valC_rt, turnK_nx, turnK_rt, quiet_ok, iteX_true, iteX_false, needR_some, ite_true, ite_false, Bool.not_true, Bool.not_false, Bool.false_eq_true, reduceIte, decide_true, decide_false, e0, l1, l2, EqOk.bool.eq, decide_eq_false hy, Option.isSome_some, Option.isNone_some]
    have hlast : (if (!decide (w = [])) = true then (D.ixA (TN w) (.int (-1))).bind fun x => (D.eq x (.int 0)).bind D.asB else R.ok false) = .ok false := by
      by_cases hw : w = []
      · subst hw; rfl
      · obtain ⟨u, d, rfl⟩ : ∃ u d, w = u ++ [d] := ⟨w.dropLast, w.getLast hw, (List.dropLast_concat_getLast hw).symm⟩
        have e1 : D.ixA (TN (u ++ [d])) (.int (-1)) = .ok (I d) := ixA_last (xs := (u ++ [d]).map I) (by simp)
        have hd : d ≠ 0 := fun z => h2.last u (by rw [z])
        have e2 : D.eq (I d) (.int 0) = .ok (.bl false) := by
          have := EqOk.nat.eq d 0
          rw [decide_eq_false hd] at this
          exact this
        rw [if_pos (by simp), e1, R.ok_bind, e2]
        rfl
    have hnil : D.ne (TN w) (.tup []) = .ok (.bl (!decide (w = []))) := EqOk.nat.tup.ne w []
    simp only [R.ok_bind, R.ok_map, R.err_bind, R.err_map, ar0_, ar1_, ar2_, ar3_, ar4_, ar5_, par2_, par3_, par2X_, asB_bl, d_add, d_sub, d_neg, d_lt, d_le, d_gt, d_ge, d_eq, d_ne, eq_bl, ne_bl, d_abs, d_min2, d_max2, d_toInt, len_tup, len_lst, toTup_lst, toTup_tup, toLst_lst, toLst_tup, itemsA_lst, itemsA_tup, part_int, unp2_, unp3_, unp4_, unT2_, unT3_, unT4_, isi_int_int, isi_int_bl, isi_int_non, isi_int_str, isi_int_tup, isi_int_lst, isi_bool_int, isi_bool_bl, isi_tuple_tup, isi_tuple_lst, isi_tuple_int, isi_tuple_non, isi_tuple_bl, isi_tuple_str, ixA_t0, ixA_t1, ixA_t2, ixA_t3, ixA_l0, ixA_l1, setAt_0, setAt_1, mkT_0, mkT_1, mkT_2, mkT_3, mkT_4, mkL_0, mkL_1, mkL_2, mkL_3, mkL_4, mkL_5, mkL_6, fl_up_rt, fl_next_nx, fl_next_rt, fl_after_nx, fl_after_rt, fl_val_rt, fl_valL_rt, fl_valC_rt, turnK_nx, turnK_rt, quiet_ok, iteX_true, iteX_false, needR_some, ite_true, ite_false, Bool.not_true, Bool.not_false, Bool.false_eq_true, reduceIte, decide_true, decide_false, hnil, hlast]
    rw [hloop _ fun f hf => ?_]
    · simp only [R.ok_bind, R.ok_map, R.err_bind, R.err_map, ar0_, ar1_, ar2_, ar3_, ar4_, ar5_, par2_, par3_, par2X_, asB_bl, d_add, d_sub, d_neg, d_lt, d_le, d_gt, d_ge, d_eq, d_ne, eq_bl, ne_bl, d_abs, d_min2, d_max2, d_toInt, len_tup, len_lst, toTup_lst, toTup_tup, toLst_lst, toLst_tup, itemsA_lst, itemsA_tup, part_int, unp2_, unp3_, unp4_, unT2_, unT3_, unT4_, isi_int_int, isi_int_bl, isi_int_non, isi_int_str, isi_int_tup, isi_int_lst, isi_bool_int, isi_bool_bl, isi_tuple_tup, isi_tuple_lst, isi_tuple_int, isi_tuple_non, isi_tuple_bl, isi_tuple_str, ixA_t0, ixA_t1, ixA_t2, ixA_t3, ixA_l0, ixA_l1, setAt_0, setAt_1, mkT_0, mkT_1, mkT_2, mkT_3, mkT_4, mkL_0, mkL_1, mkL_2, mkL_3, mkL_4, mkL_5, mkL_6, fl_up_rt, fl_next_nx, fl_next_rt, fl_after_nx, fl_after_rt, fl_val_rt, fl_valL_rt, fl_valC_rt, turnK_nx, turnK_rt, quiet_ok, iteX_true, iteX_false, needR_some, ite_true, ite_false, Bool.not_true, Bool.not_false, Bool.false_eq_true, reduceIte, decide_true, decide_false]
    · obtain ⟨k1, k2⟩ := hlets f hf
      have e3 := ltA_sl f w
      simp only [I] at e3
      have e4 : D.ltA (.tup [.int (f.map I).length, TN f]) (.tup [.int (w.map I).length, TN w]) = .ok (.bl (decide (sl f w))) := by
        rw [List.length_map, List.length_map]
        exact e3
      simp only [R.ok_bind, R.ok_map, R.err_bind, R.err_map, ar0_, ar1_, ar2_, ar3_, ar4_, ar5_, par2_, par3_, par2X_, asB_bl, d_add, d_sub, d_neg, d_lt, d_le, d_gt, d_ge, d_eq, d_ne, eq_bl, ne_bl, d_abs, d_min2, d_max2, d_toInt, len_tup, len_lst, toTup_lst, toTup_tup, toLst_lst, toLst_tup, itemsA_lst, itemsA_tup, part_int, unp2_, unp3_, unp4_, unT2_, unT3_, unT4_, isi_int_int, isi_int_bl, isi_int_non, isi_int_str, isi_int_tup, isi_int_lst, isi_bool_int, isi_bool_bl, isi_tuple_tup, isi_tuple_lst, isi_tuple_int, isi_tuple_non, isi_tuple_bl, isi_tuple_str, ixA_t0, ixA_t1, ixA_t2, ixA_t3, ixA_l0, ixA_l1, setAt_0, setAt_1, mkT_0, mkT_1, mkT_2, mkT_3, mkT_4, mkL_0, mkL_1, mkL_2, mkL_3, mkL_4, mkL_5, mkL_6, fl_up_rt, fl_next_nx, fl_next_rt, fl_after_nx, fl_after_rt, fl_val_rt, fl_valL_rt, fl_valC_rt, turnK_nx, turnK_rt, quiet_ok, iteX_true, iteX_false, needR_some, ite_true, ite_false, Bool.not_true, Bool.not_false, Bool.false_eq_true, reduceIte, decide_true, decide_false, e4, k1, k2]
      by_cases hsl : sl f w
      · have hno := h2.first f (hdig f hf) hsl
        rw [want_lets, decide_eq_false_iff_not, Classical.not_not] at hno
        rw [decide_eq_true hsl, hno]
        simp only [R.ok_bind, R.ok_map, R.err_bind, R.err_map, ar0_, ar1_, ar2_, ar3_, ar4_, ar5_, par2_, par3_, par2X_, asB_bl, d_add, d_sub, d_neg, d_lt, d_le, d_gt, d_ge, d_eq, d_ne, eq_bl, ne_bl, d_abs, d_min2, d_max2, d_toInt, len_tup, len_lst, toTup_lst, toTup_tup, toLst_lst, toLst_tup, itemsA_lst, itemsA_tup, part_int, unp2_, unp3_, unp4_, unT2_, unT3_, unT4_, isi_int_int, isi_int_bl, isi_int_non, isi_int_str, isi_int_tup, isi_int_lst, isi_bool_int, isi_bool_bl, isi_tuple_tup, isi_tuple_lst, isi_tuple_int, isi_tuple_non, isi_tuple_bl, isi_tuple_str, ixA_t0, ixA_t1, ixA_t2, ixA_t3, ixA_l0, ixA_l1, setAt_0, setAt_1, mkT_0, mkT_1, mkT_2, mkT_3, mkT_4, mkL_0, mkL_1, mkL_2, mkL_3, mkL_4, mkL_5, mkL_6, fl_up_rt, fl_next_nx, fl_next_rt, fl_after_nx, fl_after_rt, fl_val_rt, fl_valL_rt, fl_valC_rt, turnK_nx, turnK_rt, quiet_ok, iteX_true, iteX_false, needR_some, ite_true, ite_false, Bool.not_true, Bool.not_false, Bool.false_eq_true, reduceIte, decide_true, decide_false, ne_same (flat_bl _ 0)]
      · rw [decide_eq_false hsl]
        simp only [R.ok_bind, R.ok_map, R.err_bind, R.err_map, ar0_, ar1_, ar2_, ar3_, ar4_, ar5_, par2_, par3_, par2X_, asB_bl, d_add, d_sub, d_neg, d_lt, d_le, d_gt, d_ge, d_eq, d_ne, eq_bl, ne_bl, d_abs, d_min2, d_max2, d_toInt, len_tup, len_lst, toTup_lst, toTup_tup, toLst_lst, toLst_tup, itemsA_lst, itemsA_tup, part_int, unp2_, unp3_, unp4_, unT2_, unT3_, unT4_, isi_int_int, isi_int_bl, isi_int_non, isi_int_str, isi_int_tup, isi_int_lst, isi_bool_int, isi_bool_bl, isi_tuple_tup, isi_tuple_lst, isi_tuple_int, isi_tuple_non, isi_tuple_bl, isi_tuple_str, ixA_t0, ixA_t1, ixA_t2, ixA_t3, ixA_l0, ixA_l1, setAt_0, setAt_1, mkT_0, mkT_1, mkT_2, mkT_3, mkT_4, mkL_0, mkL_1, mkL_2, mkL_3, mkL_4, mkL_5, mkL_6, fl_up_rt, fl_next_nx, fl_next_rt, fl_after_nx, fl_after_rt, fl_val_rt, fl_valL_rt, fl_valC_rt, turnK_nx, turnK_rt, quiet_ok, iteX_true, iteX_false, needR_some, ite_true, ite_false, Bool.not_true, Bool.not_false, Bool.false_eq_true, reduceIte, decide_true, decide_false]
  · rw [h1]
    have e0 : optD none = D.non := rfl
    simp only [R.ok_bind, R.ok_map, R.err_bind, R.err_map, ar0_, ar1_, ar2_, ar3_, ar4_, ar5_, par2_, par3_, par2X_, asB_bl, d_add, d_sub, d_neg, d_lt, d_le, d_gt, d_ge, d_eq, d_ne, eq_bl, ne_bl, d_abs, d_min2, d_max2, d_toInt, len_tup, len_lst, toTup_lst, toTup_tup, toLst_lst, toLst_tup, itemsA_lst, itemsA_tup, part_int, unp2_, unp3_, unp4_, unT2_, unT3_, unT4_, isi_int_int, isi_int_bl, isi_int_non, isi_int_str, isi_int_tup, isi_int_lst, isi_bool_int, isi_bool_bl, isi_tuple_tup, isi_tuple_lst, isi_tuple_int, isi_tuple_non, isi_tuple_bl, isi_tuple_str, ixA_t0, ixA_t1, ixA_t2, ixA_t3, ixA_l0, ixA_l1, setAt_0, setAt_1, mkT_0, mkT_1, mkT_2, mkT_3, mkT_4, mkL_0, mkL_1, mkL_2, mkL_3, mkL_4, mkL_5, mkL_6, fl_up_rt, fl_next_nx, fl_next_rt, fl_after_nx, fl_after_rt, fl_val_rt, fl_valL_rt, fl_valC_rt, turnK_nx, turnK_rt, quiet_ok, iteX_true, iteX_false, needR_some, ite_true, ite_false, Bool.not_true, Bool.not_false, Bool.false_eq_true, reduceIte, decide_true, decide_false, e0, Option.isSome_none, Option.isNone_none]
    have e5 : D.isN .non .non = .ok (.bl true) := rfl
    have e6 : D.notN .non .non = .ok (.bl false) := rfl
    try simp only [R.ok_bind, R.ok_map, R.err_bind, R.err_map, ar0_, ar1_, ar2_, ar3_, ar4_, ar5_, par2_, par3_, par2X_, asB_bl, d_add, d_sub, d_neg, d_lt, d_le, d_gt, d_ge, d_eq, d_ne, eq_bl, ne_bl, d_abs, d_min2, d_max2, d_toInt, len_tup, len_lst, toTup_lst, toTup_tup, toLst_lst, toLst_tup, itemsA_lst, itemsA_tup, part_int, unp2_, unp3_, unp4_, unT2_, unT3_, unT4_, isi_int_int, isi_int_bl, isi_int_non, isi_int_str, isi_int_tup, isi_int_lst, isi_bool_int, isi_bool_bl, isi_tuple_tup, isi_tuple_lst, isi_tuple_int, isi_tuple_non, isi_tuple_bl, isi_tuple_str, ixA_t0, ixA_t1, ixA_t2, ixA_t3, ixA_l0, ixA_l1, setAt_0, setAt_1, mkT_0, mkT_1, mkT_2, mkT_3, mkT_4, mkL_0, mkL_1, mkL_2, mkL_3, mkL_4, mkL_5, mkL_6, fl_up_rt, fl_next_nx, fl_next_rt, fl_after_nx, fl_after_rt, fl_val_rt, fl_valL_rt, fl_valC_rt, turnK_nx, turnK_rt, quiet_ok, iteX_true, iteX_false, needR_some, ite_true, ite_false, Bool.not_true, Bool.not_false, Bool.false_eq_true, reduceIte, decide_true, decide_false, e5, e6]
    rw [hloop _ fun f hf => ?_]
    · simp only [R.ok_bind, R.ok_map, R.err_bind, R.err_map, ar0_, ar1_, ar2_, ar3_, ar4_, ar5_, par2_, par3_, par2X_, asB_bl, d_add, d_sub, d_neg, d_lt, d_le, d_gt, d_ge, d_eq, d_ne, eq_bl, ne_bl, d_abs, d_min2, d_max2, d_toInt, len_tup, len_lst, toTup_lst, toTup_tup, toLst_lst, toLst_tup, itemsA_lst, itemsA_tup, part_int, unp2_, unp3_, unp4_, unT2_, unT3_, unT4_, isi_int_int, isi_int_bl, isi_int_non, isi_int_str, isi_int_tup, isi_int_lst, isi_bool_int, isi_bool_bl, isi_tuple_tup, isi_tuple_lst, isi_tuple_int, isi_tuple_non, isi_tuple_bl, isi_tuple_str, ixA_t0, ixA_t1, ixA_t2, ixA_t3, ixA_l0, ixA_l1, setAt_0, setAt_1, mkT_0, mkT_1, mkT_2, mkT_3, mkT_4, mkL_0, mkL_1, mkL_2, mkL_3, mkL_4, mkL_5, mkL_6, fl_up_rt, fl_next_nx, fl_next_rt, fl_after_nx, fl_after_rt, fl_val_rt, fl_valL_rt, fl_valC_rt, turnK_nx, turnK_rt, quiet_ok, iteX_true, iteX_false, needR_some, ite_true, ite_false, Bool.not_true, Bool.not_false, Bool.false_eq_true, reduceIte, decide_true, decide_false]
    · obtain ⟨k1, k2⟩ := hlets f hf
      have hno := h2 f (hdig f hf)
      rw [want_lets, decide_eq_false_iff_not, Classical.not_not] at hno
      simp only [R.ok_bind, R.ok_map, R.err_bind, R.err_map, ar0_, ar1_, ar2_, ar3_, ar4_, ar5_, par2_, par3_, par2X_, asB_bl, d_add, d_sub, d_neg, d_lt, d_le, d_gt, d_ge, d_eq, d_ne, eq_bl, ne_bl, d_abs, d_min2, d_max2, d_toInt, len_tup, len_lst, toTup_lst, toTup_tup, toLst_lst, toLst_tup, itemsA_lst, itemsA_tup, part_int, unp2_, unp3_, unp4_, unT2_, unT3_, unT4_, isi_int_int, isi_int_bl, isi_int_non, isi_int_str, isi_int_tup, isi_int_lst, isi_bool_int, isi_bool_bl, isi_tuple_tup, isi_tuple_lst, isi_tuple_int, isi_tuple_non, isi_tuple_bl, isi_tuple_str, ixA_t0, ixA_t1, ixA_t2, ixA_t3, ixA_l0, ixA_l1, setAt_0, setAt_1, mkT_0, mkT_1, mkT_2, mkT_3, mkT_4, mkL_0, mkL_1, mkL_2, mkL_3, mkL_4, mkL_5, mkL_6, fl_up_rt, fl_next_nx, fl_next_rt, fl_after_nx, fl_after_rt, fl_val_rt, fl_valL_rt, fl_valC_rt, turnK_nx, turnK_rt, quiet_ok, iteX_true, iteX_false, needR_some, ite_true, ite_false, Bool.not_true, Bool.not_false, Bool.false_eq_true, reduceIte, decide_true, decide_false, k1, k2, hno, ne_same (flat_bl _ 0)]
end K08
namespace K08
open PySem PySem.Spec PyProof.Rows L2 DL
open DL (D R)
abbrev TL (m : Nat) : D := .lst ((turned m).map I)
theorem p_turned1 {m : Nat} (h1 : 1 ≤ m) (h5 : m ≤ 5) : (R.map D.lst (D.rgL (.int 1) (.int m))).bind D.rev = .ok (.lst (((turned m).drop 1).map I)) := by
  have e : D.rgL (.int 1) (.int m) = .ok ((List.range (((m : Int) - 1).toNat)).map fun k => D.int (1 + (k : Nat))) := by
    unfold D.rgL
    exact if_pos ⟨by omega, by omega, by omega, by omega, by omega⟩
  rw [e]
  have hm : m = 1 ∨ m = 2 ∨ m = 3 ∨ m = 4 ∨ m = 5 := by omega
  rcases hm with rfl | rfl | rfl | rfl | rfl <;> rfl
theorem p_turned2 {m : Nat} (h1 : 1 ≤ m) (h5 : m ≤ 5) : D.add (.lst [.int 0]) (.lst (((turned m).drop 1).map I)) = .ok (TL m) := by
  have hm : m = 1 ∨ m = 2 ∨ m = 3 ∨ m = 4 ∨ m = 5 := by omega
  rcases hm with rfl | rfl | rfl | rfl | rfl <;> rfl
theorem idx_key : ∀ m, m < 6 → ∀ x, x < m → ((x : Int) ∈ (turned m).map (fun n : Nat => (n : Int)) ∧ ((turned m).map (fun n : Nat => (n : Int))).idxOf (x : Int) = tau m x) := by decide
theorem ints_TL (m : Nat) : D.ints (TL m) = .ok ((turned m).map fun n : Nat => (n : Int)) := by
  have : (turned m).map I = ((turned m).map fun n : Nat => (n : Int)).map D.int := by rw [List.map_map]; rfl
  unfold TL
  rw [this]
  unfold D.ints
  simp only [asInts_map]
theorem idx_TL {m x : Nat} (hm : m ≤ 5) (hx : x < m) : D.idx ((turned m).map fun n : Nat => (n : Int)) (I x) = .ok (I (tau m x)) := by
  obtain ⟨h1, h2⟩ := idx_key m (by omega) x hx
  show (if (x : Int) ∈ (turned m).map (fun n : Nat => (n : Int)) then R.ok (D.int (((turned m).map (fun n : Nat => (n : Int))).idxOf (x : Int) : Nat)) else R.ub) = _
  rw [if_pos h1, h2]
theorem take_turned_len (m : Nat) : (turned m).length = m := by unfold turned; simp
theorem p_near {c : List D} (hc : Sr c) {r : Ru} (h : r.Ok) : (M__law_near c r.d).has fun x => ∃ s : Ru, x.1 = s.d ∧ s.Ok ∧ s.base = r.base ∧ s.top = r.top ∧ Sr x.2 := by
  obtain ⟨v1, c1, e1, hv1, hc1⟩ := p_draw hc (n := 3) (m := 3) rfl (by decide) (by decide)
  have m1 := h.m1
  have m2 := h.m2
  have t2 := h.t2
  have b1 := h.b1
  have b2 := h.b2
  have t1 := h.t1
  have hu : unT4 unN unN unN unN r.d = .ok (I r.base, I r.top, TR r.rows, TN r.good) := rfl
  have hlen : D.len (TR r.rows) = .ok (.int r.rows.length) := by rw [len_tup, List.length_map]
  unfold M__law_near
  by_cases hv : v1 = 0
  · subst hv
    have hd : D.eq (I 0) (.int 0) = .ok (.bl true) := rfl
    have hTl : (turned r.rows.length).length = r.rows.length := take_turned_len _
    simp only [R.ok_bind, R.ok_map, R.err_bind, R.err_map, ar0_, ar1_, ar2_, ar3_, ar4_, ar5_, par2_, par3_, par2X_, asB_bl, d_add, d_sub, d_neg, d_lt, d_le, d_gt, d_ge, d_eq, d_ne, eq_bl, ne_bl, d_abs, d_min2, d_max2, d_toInt, len_tup, len_lst, toTup_lst, toTup_tup, toLst_lst, toLst_tup, itemsA_lst, itemsA_tup, part_int, unp2_, unp3_, unp4_, unT2_, unT3_, unT4_, isi_int_int, isi_int_bl, isi_int_non, isi_int_str, isi_int_tup, isi_int_lst, isi_bool_int, isi_bool_bl, isi_tuple_tup, isi_tuple_lst, isi_tuple_int, isi_tuple_non, isi_tuple_bl, isi_tuple_str, ixA_t0, ixA_t1, ixA_t2, ixA_t3, ixA_l0, ixA_l1, setAt_0, setAt_1, mkT_0, mkT_1, mkT_2, mkT_3, mkT_4, mkL_0, mkL_1, mkL_2, mkL_3, mkL_4, mkL_5, mkL_6, fl_up_rt, fl_next_nx, fl_next_rt, fl_after_nx, fl_after_rt, fl_val_rt, fl_valL_rt, fl_valC_rt, turnK_nx, turnK_rt, quiet_ok, iteX_true, iteX_false, needR_some, ite_true, ite_false, Bool.not_true, Bool.not_false, Bool.false_eq_true, reduceIte, decide_true, decide_false, hu, hlen, e1, hd, p_turned1 m1 m2, p_turned2 m1 m2, ints_TL]
    have hrow : ∀ l : List Nat, l.length ≤ 10 → (∀ x ∈ l, x < r.rows.length) → lcR unN (fun _ => R.ok true) (fun a => D.idx ((turned r.rows.length).map fun n : Nat => (n : Int)) a) (l.map I) = .ok ((l.map (tau r.rows.length)).map I) := fun l hl hx => by
      rw [lcR_all l I I (fun x => I (tau r.rows.length x)) (sz (by omega)) (fun _ _ => rfl) (fun _ _ => rfl) (fun x hm => idx_TL m2 (hx x hm)), List.map_map]
      rfl
    have key : ∀ g : D → D → R (Fl D D (D × List D)), (∀ k i, (turned r.rows.length)[k]? = some i → g (TR (((turned r.rows.length).take k).map fun s => (r.row s).map (tau r.rows.length))) (I i) = .ok (.nx (TR (((turned r.rows.length).take (k + 1)).map fun s => (r.row s).map (tau r.rows.length))))) → forL unN g ((turned r.rows.length).map I) (.tup []) = .ok (.nx (TR (((turned r.rows.length).take (turned r.rows.length).length).map fun s => (r.row s).map (tau r.rows.length)))) :=
      fun g hg => forL_at (f := g) (un := unN) (turned r.rows.length) I I (fun k => TR (((turned r.rows.length).take k).map fun s => (r.row s).map (tau r.rows.length))) (fun _ _ => rfl) hg
    rw [key]
    · rw [List.take_length]
      have hg := hrow r.good (by have := h.gl5; omega) h.gl
      obtain ⟨F, hF1, hF2, hF3⟩ := sortA_nat (L := r.good.map (tau r.rows.length)) (List.nodup_iff_pairwise_ne.mpr (List.pairwise_map.mpr (h.asc.imp_of_mem fun {a b} ha hb hab e => by
        have := tau_inj (h.gl a ha) (h.gl b hb) e
        omega)))
      simp only [R.ok_bind, R.ok_map, R.err_bind, R.err_map, ar0_, ar1_, ar2_, ar3_, ar4_, ar5_, par2_, par3_, par2X_, asB_bl, d_add, d_sub, d_neg, d_lt, d_le, d_gt, d_ge, d_eq, d_ne, eq_bl, ne_bl, d_abs, d_min2, d_max2, d_toInt, len_tup, len_lst, toTup_lst, toTup_tup, toLst_lst, toLst_tup, itemsA_lst, itemsA_tup, part_int, unp2_, unp3_, unp4_, unT2_, unT3_, unT4_, isi_int_int, isi_int_bl, isi_int_non, isi_int_str, isi_int_tup, isi_int_lst, isi_bool_int, isi_bool_bl, isi_tuple_tup, isi_tuple_lst, isi_tuple_int, isi_tuple_non, isi_tuple_bl, isi_tuple_str, ixA_t0, ixA_t1, ixA_t2, ixA_t3, ixA_l0, ixA_l1, setAt_0, setAt_1, mkT_0, mkT_1, mkT_2, mkT_3, mkT_4, mkL_0, mkL_1, mkL_2, mkL_3, mkL_4, mkL_5, mkL_6, fl_up_rt, fl_next_nx, fl_next_rt, fl_after_nx, fl_after_rt, fl_val_rt, fl_valL_rt, fl_valC_rt, turnK_nx, turnK_rt, quiet_ok, iteX_true, iteX_false, needR_some, ite_true, ite_false, Bool.not_true, Bool.not_false, Bool.false_eq_true, reduceIte, decide_true, decide_false, hg, hF1]
      exact R.has_ok ⟨r.turn F, rfl, turn_ok h hF2 hF3, rfl, rfl, hc1⟩
    · intro k s hk
      have hs : s < r.rows.length := turned_mem.mp (List.mem_of_getElem? hk)
      have hkl : k < r.rows.length := by
        have := (List.getElem?_eq_some_iff.mp hk).1
        omega
      have e2 := hrow (r.row s) (by rw [h.row_len hs]; omega) (h.ent _ (h.row_mem hs))
      have e3 : D.add (TR (((turned r.rows.length).take k).map fun s => (r.row s).map (tau r.rows.length))) (.tup [TN ((r.row s).map (tau r.rows.length))]) = .ok (TR (((turned r.rows.length).take (k + 1)).map fun s => (r.row s).map (tau r.rows.length))) := by
        rw [add_tup (sz (by simp; omega)), take_snoc hk]
        simp
      simp only [R.ok_bind, R.ok_map, R.err_bind, R.err_map, ar0_, ar1_, ar2_, ar3_, ar4_, ar5_, par2_, par3_, par2X_, asB_bl, d_add, d_sub, d_neg, d_lt, d_le, d_gt, d_ge, d_eq, d_ne, eq_bl, ne_bl, d_abs, d_min2, d_max2, d_toInt, len_tup, len_lst, toTup_lst, toTup_tup, toLst_lst, toLst_tup, itemsA_lst, itemsA_tup, part_int, unp2_, unp3_, unp4_, unT2_, unT3_, unT4_, isi_int_int, isi_int_bl, isi_int_non, isi_int_str, isi_int_tup, isi_int_lst, isi_bool_int, isi_bool_bl, isi_tuple_tup, isi_tuple_lst, isi_tuple_int, isi_tuple_non, isi_tuple_bl, isi_tuple_str, ixA_t0, ixA_t1, ixA_t2, ixA_t3, ixA_l0, ixA_l1, setAt_0, setAt_1, mkT_0, mkT_1, mkT_2, mkT_3, mkT_4, mkL_0, mkL_1, mkL_2, mkL_3, mkL_4, mkL_5, mkL_6, fl_up_rt, fl_next_nx, fl_next_rt, fl_after_nx, fl_after_rt, fl_val_rt, fl_valL_rt, fl_valC_rt, turnK_nx, turnK_rt, quiet_ok, iteX_true, iteX_false, needR_some, ite_true, ite_false, Bool.not_true, Bool.not_false, Bool.false_eq_true, reduceIte, decide_true, decide_false, h.ix1 hs, e2, e3]
  · have hd : D.eq (I v1) (.int 0) = .ok (.bl false) := by
      have := EqOk.nat.eq v1 0
      rw [decide_eq_false hv] at this
      exact this
    obtain ⟨s, c2, e2, hs, hc2⟩ := p_draw hc1 (n := r.rows.length) (m := r.rows.length) rfl (by omega) (by omega)
    obtain ⟨d0, c3, e3, hd0, hc3⟩ := p_draw hc2 (n := r.top) (m := r.top) rfl (by omega) (by omega)
    obtain ⟨v, c4, e4, hv4, hc4⟩ := p_draw hc3 (n := r.rows.length) (m := r.rows.length) rfl (by omega) (by omega)
    obtain ⟨d, hdd⟩ : ∃ d, d = 1 + d0 := ⟨_, rfl⟩
    have ed : (1 : Int) + d0 = (d : Int) := by omega
    have hdt : d ≤ r.top := by omega
    have rl := h.row_len hs
    have f1 : D.sl (TN (r.row s)) none (some (d : Int)) = .ok (.tup (((r.row s).map I).take d)) := sl_tup_to (by rw [List.length_map]; omega)
    have f2 : D.sl (TN (r.row s)) (some ((d : Int) + 1)) none = .ok (.tup (((r.row s).map I).drop (d + 1))) := sl_tup_from (xs := (r.row s).map I) (d + 1)
    have f3 : D.sl (TR r.rows) none (some (s : Int)) = .ok (.tup ((r.rows.map TN).take s)) := sl_tup_to (by rw [List.length_map]; omega)
    have f4 : D.sl (TR r.rows) (some ((s : Int) + 1)) none = .ok (.tup ((r.rows.map TN).drop (s + 1))) := sl_tup_from (xs := r.rows.map TN) (s + 1)
    have g1 : D.add (.tup (((r.row s).map I).take d)) (.tup [I v]) = .ok (.tup (((r.row s).map I).take d ++ [I v])) := add_tup (sz (by simp; omega))
    have g2 : D.add (.tup (((r.row s).map I).take d ++ [I v])) (.tup (((r.row s).map I).drop (d + 1))) = .ok (TN ((r.row s).set d v)) := by
      rw [add_tup (sz (by simp; omega))]
      have : ((r.row s).set d v) = (r.row s).take d ++ v :: (r.row s).drop (d + 1) := List.set_eq_take_append_cons_drop.trans (if_pos (by omega))
      unfold TN
      rw [this]
      simp
    have g3 : D.add (.tup ((r.rows.map TN).take s)) (.tup [TN ((r.row s).set d v)]) = .ok (.tup ((r.rows.map TN).take s ++ [TN ((r.row s).set d v)])) := add_tup (sz (by simp; omega))
    have g4 : D.add (.tup ((r.rows.map TN).take s ++ [TN ((r.row s).set d v)])) (.tup ((r.rows.map TN).drop (s + 1))) = .ok (TR (r.rows.set s ((r.row s).set d v))) := by
      rw [add_tup (sz (by simp; omega))]
      have : (r.rows.set s ((r.row s).set d v)) = r.rows.take s ++ ((r.row s).set d v) :: r.rows.drop (s + 1) := List.set_eq_take_append_cons_drop.trans (if_pos hs)
      unfold TR
      rw [this]
      simp
    simp only [R.ok_bind, R.ok_map, R.err_bind, R.err_map, ar0_, ar1_, ar2_, ar3_, ar4_, ar5_, par2_, par3_, par2X_, asB_bl, d_add, d_sub, d_neg, d_lt, d_le, d_gt, d_ge, d_eq, d_ne, eq_bl, ne_bl, d_abs, d_min2, d_max2, d_toInt, len_tup, len_lst, toTup_lst, toTup_tup, toLst_lst, toLst_tup, itemsA_lst, itemsA_tup, part_int, unp2_, unp3_, unp4_, unT2_, unT3_, unT4_, isi_int_int, isi_int_bl, isi_int_non, isi_int_str, isi_int_tup, isi_int_lst, isi_bool_int, isi_bool_bl, isi_tuple_tup, isi_tuple_lst, isi_tuple_int, isi_tuple_non, isi_tuple_bl, isi_tuple_str, ixA_t0, ixA_t1, ixA_t2, ixA_t3, ixA_l0, ixA_l1, setAt_0, setAt_1, mkT_0, mkT_1, mkT_2, mkT_3, mkT_4, mkL_0, mkL_1, mkL_2, mkL_3, mkL_4, mkL_5, mkL_6, fl_up_rt, fl_next_nx, fl_next_rt, fl_after_nx, fl_after_rt, fl_val_rt, fl_valL_rt, fl_valC_rt, turnK_nx, turnK_rt, quiet_ok, iteX_true, iteX_false, needR_some, ite_true, ite_false, Bool.not_true, Bool.not_false, Bool.false_eq_true, reduceIte, decide_true, decide_false, hu, hlen, e1, hd, e2]
    simp only [R.ok_bind, R.ok_map, R.err_bind, R.err_map, ar0_, ar1_, ar2_, ar3_, ar4_, ar5_, par2_, par3_, par2X_, asB_bl, d_add, d_sub, d_neg, d_lt, d_le, d_gt, d_ge, d_eq, d_ne, eq_bl, ne_bl, d_abs, d_min2, d_max2, d_toInt, len_tup, len_lst, toTup_lst, toTup_tup, toLst_lst, toLst_tup, itemsA_lst, itemsA_tup, part_int, unp2_, unp3_, unp4_, unT2_, unT3_, unT4_, isi_int_int, isi_int_bl, isi_int_non, isi_int_str, isi_int_tup, isi_int_lst, isi_bool_int, isi_bool_bl, isi_tuple_tup, isi_tuple_lst, isi_tuple_int, isi_tuple_non, isi_tuple_bl, isi_tuple_str, ixA_t0, ixA_t1, ixA_t2, ixA_t3, ixA_l0, ixA_l1, setAt_0, setAt_1, mkT_0, mkT_1, mkT_2, mkT_3, mkT_4, mkL_0, mkL_1, mkL_2, mkL_3, mkL_4, mkL_5, mkL_6, fl_up_rt, fl_next_nx, fl_next_rt, fl_after_nx, fl_after_rt, fl_val_rt, fl_valL_rt, fl_valC_rt, turnK_nx, turnK_rt, quiet_ok, iteX_true, iteX_false, needR_some, ite_true, ite_false, Bool.not_true, Bool.not_false, Bool.false_eq_true, reduceIte, decide_true, decide_false, e3, I, ed]
    simp only [I] at f1 f2 f3 f4 g1 g2 g3 g4 e4
    have i1 := h.ix1 hs
    simp only [I] at i1
    simp only [R.ok_bind, R.ok_map, R.err_bind, R.err_map, ar0_, ar1_, ar2_, ar3_, ar4_, ar5_, par2_, par3_, par2X_, asB_bl, d_add, d_sub, d_neg, d_lt, d_le, d_gt, d_ge, d_eq, d_ne, eq_bl, ne_bl, d_abs, d_min2, d_max2, d_toInt, len_tup, len_lst, toTup_lst, toTup_tup, toLst_lst, toLst_tup, itemsA_lst, itemsA_tup, part_int, unp2_, unp3_, unp4_, unT2_, unT3_, unT4_, isi_int_int, isi_int_bl, isi_int_non, isi_int_str, isi_int_tup, isi_int_lst, isi_bool_int, isi_bool_bl, isi_tuple_tup, isi_tuple_lst, isi_tuple_int, isi_tuple_non, isi_tuple_bl, isi_tuple_str, ixA_t0, ixA_t1, ixA_t2, ixA_t3, ixA_l0, ixA_l1, setAt_0, setAt_1, mkT_0, mkT_1, mkT_2, mkT_3, mkT_4, mkL_0, mkL_1, mkL_2, mkL_3, mkL_4, mkL_5, mkL_6, fl_up_rt, fl_next_nx, fl_next_rt, fl_after_nx, fl_after_rt, fl_val_rt, fl_valL_rt, fl_valC_rt, turnK_nx, turnK_rt, quiet_ok, iteX_true, iteX_false, needR_some, ite_true, ite_false, Bool.not_true, Bool.not_false, Bool.false_eq_true, reduceIte, decide_true, decide_false, i1, f1, e4, g1, f2, g2, f3, f4, g3, g4]
    exact R.has_ok ⟨r.bend s d v, rfl, bend_ok h hs (by omega) hv4, rfl, rfl, hc4⟩
end K08
namespace K08
open PySem PySem.Spec PyProof.Rows L2 DL
open DL (D R)
theorem p_w_none (d : D) : W__law_word (.ok d) = .ok (.str "none") := rfl
theorem p_w_rule : W__law_word (.err ⟨"InvalidRule", none⟩) = .ok (.str "rule") := rfl
theorem p_w_unlike : W__law_word (.err ⟨"Unlike", none⟩) = .ok (.str "unlike") := rfl
theorem st_none : PyData.strOk "none" = true := by decide +kernel
theorem st_rule : PyData.strOk "rule" = true := by decide +kernel
theorem st_unlike : PyData.strOk "unlike" = true := by decide +kernel
theorem room1 (d : D) : D.room [d] = .ok () := if_pos (szl (by simp))
theorem room2 (d e : D) : D.room [d, e] = .ok () := if_pos (szl (by simp))
theorem mul3 (d : D) : D.mul (.lst [d]) (.int 3) = .ok (.lst [d, d, d]) := if_pos ⟨by decide, by decide, sz (by simp)⟩
theorem flat_word {x : Str} (h : PyData.strOk x = true) : D.flat 0 (.str x) := ⟨by simp only [D.toPy, PyData.canLay0]; exact h, by simp only [D.toPy, PyData.depth]; omega⟩
theorem ne_words3 {x : Str} (h : PyData.strOk x = true) : D.ne (.lst [.str x, .str x, .str x]) (.lst [.str x, .str x, .str x]) = .ok (.bl false) := ne_same (n := 1) (flat_lst' (n := 0) fun d hd => by
  have : d = .str x := by simpa using hd
  rw [this]
  exact flat_word h)
theorem ne_words2 {x : Str} (h : PyData.strOk x = true) : D.ne (.lst [.str x, .str x]) (.lst [.str x, .str x]) = .ok (.bl false) := ne_same (n := 1) (flat_lst' (n := 0) fun d hd => by
  have : d = .str x := by simpa using hd
  rw [this]
  exact flat_word h)
theorem need21 : M_need_rule (.tup [.int 2, .int 1]) = .err ⟨"InvalidRule", none⟩ := rfl
theorem both_1 (v : D) : M_need_both (.tup [.int 2, .int 1]) v = .err ⟨"InvalidRule", none⟩ := by
  unfold M_need_both
  simp only [R.ok_bind, R.ok_map, R.err_bind, R.err_map, ar0_, ar1_, ar2_, ar3_, ar4_, ar5_, par2_, par3_, par2X_, asB_bl, d_add, d_sub, d_neg, d_lt, d_le, d_gt, d_ge, d_eq, d_ne, eq_bl, ne_bl, d_abs, d_min2, d_max2, d_toInt, len_tup, len_lst, toTup_lst, toTup_tup, toLst_lst, toLst_tup, itemsA_lst, itemsA_tup, part_int, unp2_, unp3_, unp4_, unT2_, unT3_, unT4_, isi_int_int, isi_int_bl, isi_int_non, isi_int_str, isi_int_tup, isi_int_lst, isi_bool_int, isi_bool_bl, isi_tuple_tup, isi_tuple_lst, isi_tuple_int, isi_tuple_non, isi_tuple_bl, isi_tuple_str, ixA_t0, ixA_t1, ixA_t2, ixA_t3, ixA_l0, ixA_l1, setAt_0, setAt_1, mkT_0, mkT_1, mkT_2, mkT_3, mkT_4, mkL_0, mkL_1, mkL_2, mkL_3, mkL_4, mkL_5, mkL_6, fl_up_rt, fl_next_nx, fl_next_rt, fl_after_nx, fl_after_rt, fl_val_rt, fl_valL_rt, fl_valC_rt, turnK_nx, turnK_rt, quiet_ok, iteX_true, iteX_false, needR_some, ite_true, ite_false, Bool.not_true, Bool.not_false, Bool.false_eq_true, reduceIte, decide_true, decide_false, need21]
theorem both_2 {r : Ru} (h : r.Ok) : M_need_both r.d (.tup [.int 2, .int 1]) = .err ⟨"InvalidRule", none⟩ := by
  unfold M_need_both
  simp only [R.ok_bind, R.ok_map, R.err_bind, R.err_map, ar0_, ar1_, ar2_, ar3_, ar4_, ar5_, par2_, par3_, par2X_, asB_bl, d_add, d_sub, d_neg, d_lt, d_le, d_gt, d_ge, d_eq, d_ne, eq_bl, ne_bl, d_abs, d_min2, d_max2, d_toInt, len_tup, len_lst, toTup_lst, toTup_tup, toLst_lst, toLst_tup, itemsA_lst, itemsA_tup, part_int, unp2_, unp3_, unp4_, unT2_, unT3_, unT4_, isi_int_int, isi_int_bl, isi_int_non, isi_int_str, isi_int_tup, isi_int_lst, isi_bool_int, isi_bool_bl, isi_tuple_tup, isi_tuple_lst, isi_tuple_int, isi_tuple_non, isi_tuple_bl, isi_tuple_str, ixA_t0, ixA_t1, ixA_t2, ixA_t3, ixA_l0, ixA_l1, setAt_0, setAt_1, mkT_0, mkT_1, mkT_2, mkT_3, mkT_4, mkL_0, mkL_1, mkL_2, mkL_3, mkL_4, mkL_5, mkL_6, fl_up_rt, fl_next_nx, fl_next_rt, fl_after_nx, fl_after_rt, fl_val_rt, fl_valL_rt, fl_valC_rt, turnK_nx, turnK_rt, quiet_ok, iteX_true, iteX_false, needR_some, ite_true, ite_false, Bool.not_true, Bool.not_false, Bool.false_eq_true, reduceIte, decide_true, decide_false, p_need h, need21]
theorem all_err {a b : D} {e : Err} (h : M_need_both a b = .err e) : M_alike a b = .err e ∧ M_within a b = .err e ∧ M_parting a b = .err e := by
  refine ⟨?_, ?_, ?_⟩
  · unfold M_alike; simp only [R.ok_bind, R.ok_map, R.err_bind, R.err_map, ar0_, ar1_, ar2_, ar3_, ar4_, ar5_, par2_, par3_, par2X_, asB_bl, d_add, d_sub, d_neg, d_lt, d_le, d_gt, d_ge, d_eq, d_ne, eq_bl, ne_bl, d_abs, d_min2, d_max2, d_toInt, len_tup, len_lst, toTup_lst, toTup_tup, toLst_lst, toLst_tup, itemsA_lst, itemsA_tup, part_int, unp2_, unp3_, unp4_, unT2_, unT3_, unT4_, isi_int_int, isi_int_bl, isi_int_non, isi_int_str, isi_int_tup, isi_int_lst, isi_bool_int, isi_bool_bl, isi_tuple_tup, isi_tuple_lst, isi_tuple_int, isi_tuple_non, isi_tuple_bl, isi_tuple_str, ixA_t0, ixA_t1, ixA_t2, ixA_t3, ixA_l0, ixA_l1, setAt_0, setAt_1, mkT_0, mkT_1, mkT_2, mkT_3, mkT_4, mkL_0, mkL_1, mkL_2, mkL_3, mkL_4, mkL_5, mkL_6, fl_up_rt, fl_next_nx, fl_next_rt, fl_after_nx, fl_after_rt, fl_val_rt, fl_valL_rt, fl_valC_rt, turnK_nx, turnK_rt, quiet_ok, iteX_true, iteX_false, needR_some, ite_true, ite_false, Bool.not_true, Bool.not_false, Bool.false_eq_true, reduceIte, decide_true, decide_false, h]
  · unfold M_within; simp only [R.ok_bind, R.ok_map, R.err_bind, R.err_map, ar0_, ar1_, ar2_, ar3_, ar4_, ar5_, par2_, par3_, par2X_, asB_bl, d_add, d_sub, d_neg, d_lt, d_le, d_gt, d_ge, d_eq, d_ne, eq_bl, ne_bl, d_abs, d_min2, d_max2, d_toInt, len_tup, len_lst, toTup_lst, toTup_tup, toLst_lst, toLst_tup, itemsA_lst, itemsA_tup, part_int, unp2_, unp3_, unp4_, unT2_, unT3_, unT4_, isi_int_int, isi_int_bl, isi_int_non, isi_int_str, isi_int_tup, isi_int_lst, isi_bool_int, isi_bool_bl, isi_tuple_tup, isi_tuple_lst, isi_tuple_int, isi_tuple_non, isi_tuple_bl, isi_tuple_str, ixA_t0, ixA_t1, ixA_t2, ixA_t3, ixA_l0, ixA_l1, setAt_0, setAt_1, mkT_0, mkT_1, mkT_2, mkT_3, mkT_4, mkL_0, mkL_1, mkL_2, mkL_3, mkL_4, mkL_5, mkL_6, fl_up_rt, fl_next_nx, fl_next_rt, fl_after_nx, fl_after_rt, fl_val_rt, fl_valL_rt, fl_valC_rt, turnK_nx, turnK_rt, quiet_ok, iteX_true, iteX_false, needR_some, ite_true, ite_false, Bool.not_true, Bool.not_false, Bool.false_eq_true, reduceIte, decide_true, decide_false, h]
  · unfold M_parting; simp only [R.ok_bind, R.ok_map, R.err_bind, R.err_map, ar0_, ar1_, ar2_, ar3_, ar4_, ar5_, par2_, par3_, par2X_, asB_bl, d_add, d_sub, d_neg, d_lt, d_le, d_gt, d_ge, d_eq, d_ne, eq_bl, ne_bl, d_abs, d_min2, d_max2, d_toInt, len_tup, len_lst, toTup_lst, toTup_tup, toLst_lst, toLst_tup, itemsA_lst, itemsA_tup, part_int, unp2_, unp3_, unp4_, unT2_, unT3_, unT4_, isi_int_int, isi_int_bl, isi_int_non, isi_int_str, isi_int_tup, isi_int_lst, isi_bool_int, isi_bool_bl, isi_tuple_tup, isi_tuple_lst, isi_tuple_int, isi_tuple_non, isi_tuple_bl, isi_tuple_str, ixA_t0, ixA_t1, ixA_t2, ixA_t3, ixA_l0, ixA_l1, setAt_0, setAt_1, mkT_0, mkT_1, mkT_2, mkT_3, mkT_4, mkL_0, mkL_1, mkL_2, mkL_3, mkL_4, mkL_5, mkL_6, fl_up_rt, fl_next_nx, fl_next_rt, fl_after_nx, fl_after_rt, fl_val_rt, fl_valL_rt, fl_valC_rt, turnK_nx, turnK_rt, quiet_ok, iteX_true, iteX_false, needR_some, ite_true, ite_false, Bool.not_true, Bool.not_false, Bool.false_eq_true, reduceIte, decide_true, decide_false, h]
def kn5 : Ru := ⟨2, 1, [[0, 1], [1, 1]], [0]⟩
theorem kn5_ok : kn5.Ok := Ru.ok_of (by decide)
theorem unI_0 : unI (.int 0) = .ok 0 := rfl
theorem unI_1 : unI (.int 1) = .ok 1 := rfl
theorem unI_2 : unI (.int 2) = .ok 2 := rfl
theorem ixs_3 : ixs 3 = [.int 0, .int 1, .int 2] := rfl
theorem range_get' {n k i : Nat} (h : (List.range n)[k]? = some i) : k < n ∧ k = i := range_get h
theorem b_1 : bfs2 kn1 kn3 (Wm true) = some [2, 2] := by decide +kernel
theorem b_2 : bfs2 kn1 kn3 (Wm false) = none := by decide +kernel
theorem b_3 : bfs2 kn3 kn1 (Wm false) = some [2, 2] := by decide +kernel
theorem b_4 : bfs2 kn3 kn3 (Wm true) = none := by decide +kernel
theorem b_5 : bfs2 kn2 kn4 (Wm true) = some [1, 1] := by decide +kernel
theorem b_6 : bfs2 kn4 kn5 (Wm true) = some [1] := by decide +kernel
theorem b_7 : bfs2 kn5 kn4 (Wm false) = none := by decide +kernel
theorem b_8 : bfs2 kn4 kn5 (Wm false) = some [1] := by decide +kernel
theorem c_1 : M_alike kn1.d kn3.d = .ok (.bl false) := by rw [p_alike kn1_ok kn3_ok rfl rfl, b_1]; rfl
theorem c_2 : M_within kn1.d kn3.d = .ok (.bl true) := by rw [p_within kn1_ok kn3_ok rfl rfl, b_2]; rfl
theorem c_3 : M_within kn3.d kn1.d = .ok (.bl false) := by rw [p_within kn3_ok kn1_ok rfl rfl, b_3]; rfl
theorem c_4 : M_parting kn1.d kn3.d = .ok (.tup [.int 2, .int 2]) := by rw [p_parting kn1_ok kn3_ok rfl rfl, b_1]; rfl
theorem c_5 : M_parting kn3.d kn3.d = .ok .non := by rw [p_parting kn3_ok kn3_ok rfl rfl, b_4]; rfl
theorem c_6 : M_parting kn2.d kn4.d = .ok (.tup [.int 1, .int 1]) := by rw [p_parting kn2_ok kn4_ok rfl rfl, b_5]; rfl
theorem c_7 : M_parting kn4.d kn5.d = .ok (.tup [.int 1]) := by rw [p_parting kn4_ok kn5_ok rfl rfl, b_6]; rfl
theorem c_8 : M_within kn5.d kn4.d = .ok (.bl true) := by rw [p_within kn5_ok kn4_ok rfl rfl, b_7]; rfl
theorem c_9 : M_within kn4.d kn5.d = .ok (.bl false) := by rw [p_within kn4_ok kn5_ok rfl rfl, b_8]; rfl
theorem e_1 : D.ne (.tup [.int 2, .int 2]) (.tup [.int 2, .int 2]) = .ok (.bl false) := EqOk.nat.tup.ne [2, 2] [2, 2]
theorem e_2 : D.ne (.tup [.int 1, .int 1]) (.tup [.int 1, .int 1]) = .ok (.bl false) := EqOk.nat.tup.ne [1, 1] [1, 1]
theorem e_3 : D.ne (.tup [.int 1]) (.tup [.int 1]) = .ok (.bl false) := EqOk.nat.tup.ne [1] [1]
theorem e_4 : D.notN .non .non = .ok (.bl false) := rfl
theorem kn5_d : D.tup [.int 2, .int 1, .tup [.tup [.int 0, .int 1], .tup [.int 1, .int 1]], .tup [.int 0]] = kn5.d := rfl
theorem p_law (ns : List Int) (hl : ns.length ≤ 63) : M_law (.lst (ns.map D.int)) = .ok (.bl true) := by
  refine R.has_eq ?_
  obtain ⟨n0, hn0⟩ : ∃ n0 : Nat, n0 = 1 + min ns.length 10 := ⟨_, rfl⟩
  have en : (1 : Int) + min (ns.length : Int) 10 = (n0 : Int) := by omega
  have r0 : D.range1 (.int (n0 : Int)) = .ok ((List.range n0).map I) := range1_nat n0 (by omega)
  have r4 : D.range1 (.int 4) = .ok ((List.range 4).map I) := range1_nat 4 (by omega)
  unfold M_law
  simp only [R.ok_bind, R.ok_map, R.err_bind, R.err_map, ar0_, ar1_, ar2_, ar3_, ar4_, ar5_, par2_, par3_, par2X_, asB_bl, d_add, d_sub, d_neg, d_lt, d_le, d_gt, d_ge, d_eq, d_ne, eq_bl, ne_bl, d_abs, d_min2, d_max2, d_toInt, len_tup, len_lst, toTup_lst, toTup_tup, toLst_lst, toLst_tup, itemsA_lst, itemsA_tup, part_int, unp2_, unp3_, unp4_, unT2_, unT3_, unT4_, isi_int_int, isi_int_bl, isi_int_non, isi_int_str, isi_int_tup, isi_int_lst, isi_bool_int, isi_bool_bl, isi_tuple_tup, isi_tuple_lst, isi_tuple_int, isi_tuple_non, isi_tuple_bl, isi_tuple_str, ixA_t0, ixA_t1, ixA_t2, ixA_t3, ixA_l0, ixA_l1, setAt_0, setAt_1, mkT_0, mkT_1, mkT_2, mkT_3, mkT_4, mkL_0, mkL_1, mkL_2, mkL_3, mkL_4, mkL_5, mkL_6, fl_up_rt, fl_next_nx, fl_next_rt, fl_after_nx, fl_after_rt, fl_val_rt, fl_valL_rt, fl_valC_rt, turnK_nx, turnK_rt, quiet_ok, iteX_true, iteX_false, needR_some, ite_true, ite_false, Bool.not_true, Bool.not_false, Bool.false_eq_true, reduceIte, decide_true, decide_false, List.length_map, en, r0, r4]
  refine R.has_bind (P := fun fl => fl = Fl.rt (.bl true)) ?_ (fun fl e => by subst e; exact R.has_ok rfl)
  refine R.has_bind (forL_has (List.range n0) I I (fun _ _ => True) (fun _ _ => rfl) ?_ True.intro) ?_
  · intro k i hi s _
    obtain ⟨c, e1, hc⟩ := p_source ns i
    simp only [R.ok_bind, R.ok_map, R.err_bind, R.err_map, ar0_, ar1_, ar2_, ar3_, ar4_, ar5_, par2_, par3_, par2X_, asB_bl, d_add, d_sub, d_neg, d_lt, d_le, d_gt, d_ge, d_eq, d_ne, eq_bl, ne_bl, d_abs, d_min2, d_max2, d_toInt, len_tup, len_lst, toTup_lst, toTup_tup, toLst_lst, toLst_tup, itemsA_lst, itemsA_tup, part_int, unp2_, unp3_, unp4_, unT2_, unT3_, unT4_, isi_int_int, isi_int_bl, isi_int_non, isi_int_str, isi_int_tup, isi_int_lst, isi_bool_int, isi_bool_bl, isi_tuple_tup, isi_tuple_lst, isi_tuple_int, isi_tuple_non, isi_tuple_bl, isi_tuple_str, ixA_t0, ixA_t1, ixA_t2, ixA_t3, ixA_l0, ixA_l1, setAt_0, setAt_1, mkT_0, mkT_1, mkT_2, mkT_3, mkT_4, mkL_0, mkL_1, mkL_2, mkL_3, mkL_4, mkL_5, mkL_6, fl_up_rt, fl_next_nx, fl_next_rt, fl_after_nx, fl_after_rt, fl_val_rt, fl_valL_rt, fl_valC_rt, turnK_nx, turnK_rt, quiet_ok, iteX_true, iteX_false, needR_some, ite_true, ite_false, Bool.not_true, Bool.not_false, Bool.false_eq_true, reduceIte, decide_true, decide_false, I, e1]
    refine R.has_bind (forL_has (List.range 4) I I (fun j s => Sr s.1 ∧ (0 < j → ∃ r : Ru, s.2 = some r.d ∧ r.Ok)) (fun _ _ => rfl) ?_ ⟨hc, fun z => absurd z (by omega)⟩) ?_
    · rintro j j' hj ⟨s1, s2⟩ ⟨hs, _⟩
      obtain ⟨⟨_, c1⟩, e3, r, rfl, hr, hb, hc1⟩ := p_rule hs (most := 4) (m := 4) rfl (by decide) (by decide)
      obtain ⟨⟨_, c2⟩, e4, q, rfl, hq, hb2, hc2⟩ := p_rule hc1 (most := 4) (m := 4) rfl (by decide) (by decide)
      obtain ⟨⟨_, c3⟩, e5, n, rfl, hn, nb, nt, hc3⟩ := p_near hc2 hr
      have q1 := p_right hr hn nb nt
      have hu : unT2 unN unN (.tup [r.d, q.d]) = .ok (r.d, q.d) := rfl
      have hsl : D.eq (TN [r.base, r.top]) (TN [q.base, q.top]) = .ok (.bl (decide ([r.base, r.top] = [q.base, q.top]))) := EqOk.nat.tup.eq _ _
      simp only [R.ok_bind, R.ok_map, R.err_bind, R.err_map, ar0_, ar1_, ar2_, ar3_, ar4_, ar5_, par2_, par3_, par2X_, asB_bl, d_add, d_sub, d_neg, d_lt, d_le, d_gt, d_ge, d_eq, d_ne, eq_bl, ne_bl, d_abs, d_min2, d_max2, d_toInt, len_tup, len_lst, toTup_lst, toTup_tup, toLst_lst, toLst_tup, itemsA_lst, itemsA_tup, part_int, unp2_, unp3_, unp4_, unT2_, unT3_, unT4_, isi_int_int, isi_int_bl, isi_int_non, isi_int_str, isi_int_tup, isi_int_lst, isi_bool_int, isi_bool_bl, isi_tuple_tup, isi_tuple_lst, isi_tuple_int, isi_tuple_non, isi_tuple_bl, isi_tuple_str, ixA_t0, ixA_t1, ixA_t2, ixA_t3, ixA_l0, ixA_l1, setAt_0, setAt_1, mkT_0, mkT_1, mkT_2, mkT_3, mkT_4, mkL_0, mkL_1, mkL_2, mkL_3, mkL_4, mkL_5, mkL_6, fl_up_rt, fl_next_nx, fl_next_rt, fl_after_nx, fl_after_rt, fl_val_rt, fl_valL_rt, fl_valC_rt, turnK_nx, turnK_rt, quiet_ok, iteX_true, iteX_false, needR_some, ite_true, ite_false, Bool.not_true, Bool.not_false, Bool.false_eq_true, reduceIte, decide_true, decide_false, e3, e4, hu, e5, q1, sl2, hsl]
      by_cases hsame : [r.base, r.top] = [q.base, q.top]
      · have hb' : q.base = r.base := by simp at hsame; exact hsame.1.symm
        have ht' : q.top = r.top := by simp at hsame; exact hsame.2.symm
        have q2 := p_right hr hq hb' ht'
        rw [decide_eq_true hsame]
        simp only [R.ok_bind, R.ok_map, R.err_bind, R.err_map, ar0_, ar1_, ar2_, ar3_, ar4_, ar5_, par2_, par3_, par2X_, asB_bl, d_add, d_sub, d_neg, d_lt, d_le, d_gt, d_ge, d_eq, d_ne, eq_bl, ne_bl, d_abs, d_min2, d_max2, d_toInt, len_tup, len_lst, toTup_lst, toTup_tup, toLst_lst, toLst_tup, itemsA_lst, itemsA_tup, part_int, unp2_, unp3_, unp4_, unT2_, unT3_, unT4_, isi_int_int, isi_int_bl, isi_int_non, isi_int_str, isi_int_tup, isi_int_lst, isi_bool_int, isi_bool_bl, isi_tuple_tup, isi_tuple_lst, isi_tuple_int, isi_tuple_non, isi_tuple_bl, isi_tuple_str, ixA_t0, ixA_t1, ixA_t2, ixA_t3, ixA_l0, ixA_l1, setAt_0, setAt_1, mkT_0, mkT_1, mkT_2, mkT_3, mkT_4, mkL_0, mkL_1, mkL_2, mkL_3, mkL_4, mkL_5, mkL_6, fl_up_rt, fl_next_nx, fl_next_rt, fl_after_nx, fl_after_rt, fl_val_rt, fl_valL_rt, fl_valC_rt, turnK_nx, turnK_rt, quiet_ok, iteX_true, iteX_false, needR_some, ite_true, ite_false, Bool.not_true, Bool.not_false, Bool.false_eq_true, reduceIte, decide_true, decide_false, q2, p_alike hr hq hb' ht', p_within hr hq hb' ht', p_parting hr hq hb' ht', p_w_none, room1, room2, List.cons_append, List.nil_append, mul3, ne_words3 st_none]
        exact R.has_ok ⟨_, rfl, hc3, fun _ => ⟨r, rfl, hr⟩⟩
      · obtain ⟨a1, a2, a3⟩ := all_err (p_need_both_no hr hq (fun z => hsame (by rw [z.1, z.2])))
        rw [decide_eq_false hsame]
        simp only [R.ok_bind, R.ok_map, R.err_bind, R.err_map, ar0_, ar1_, ar2_, ar3_, ar4_, ar5_, par2_, par3_, par2X_, asB_bl, d_add, d_sub, d_neg, d_lt, d_le, d_gt, d_ge, d_eq, d_ne, eq_bl, ne_bl, d_abs, d_min2, d_max2, d_toInt, len_tup, len_lst, toTup_lst, toTup_tup, toLst_lst, toLst_tup, itemsA_lst, itemsA_tup, part_int, unp2_, unp3_, unp4_, unT2_, unT3_, unT4_, isi_int_int, isi_int_bl, isi_int_non, isi_int_str, isi_int_tup, isi_int_lst, isi_bool_int, isi_bool_bl, isi_tuple_tup, isi_tuple_lst, isi_tuple_int, isi_tuple_non, isi_tuple_bl, isi_tuple_str, ixA_t0, ixA_t1, ixA_t2, ixA_t3, ixA_l0, ixA_l1, setAt_0, setAt_1, mkT_0, mkT_1, mkT_2, mkT_3, mkT_4, mkL_0, mkL_1, mkL_2, mkL_3, mkL_4, mkL_5, mkL_6, fl_up_rt, fl_next_nx, fl_next_rt, fl_after_nx, fl_after_rt, fl_val_rt, fl_valL_rt, fl_valC_rt, turnK_nx, turnK_rt, quiet_ok, iteX_true, iteX_false, needR_some, ite_true, ite_false, Bool.not_true, Bool.not_false, Bool.false_eq_true, reduceIte, decide_true, decide_false, a1, a2, a3, p_w_unlike, room1, room2, List.cons_append, List.nil_append, mul3, ne_words3 st_unlike]
        exact R.has_ok ⟨_, rfl, hc3, fun _ => ⟨r, rfl, hr⟩⟩
    · rintro fl ⟨⟨s1, s2⟩, rfl, hs, h2⟩
      obtain ⟨r, rfl, hr⟩ := h2 (by simp)
      obtain ⟨a1, a2, a3⟩ := all_err (both_1 .non)
      obtain ⟨b1, b2, b3⟩ := all_err (both_2 hr)
      simp only [R.ok_bind, R.ok_map, R.err_bind, R.err_map, ar0_, ar1_, ar2_, ar3_, ar4_, ar5_, par2_, par3_, par2X_, asB_bl, d_add, d_sub, d_neg, d_lt, d_le, d_gt, d_ge, d_eq, d_ne, eq_bl, ne_bl, d_abs, d_min2, d_max2, d_toInt, len_tup, len_lst, toTup_lst, toTup_tup, toLst_lst, toLst_tup, itemsA_lst, itemsA_tup, part_int, unp2_, unp3_, unp4_, unT2_, unT3_, unT4_, isi_int_int, isi_int_bl, isi_int_non, isi_int_str, isi_int_tup, isi_int_lst, isi_bool_int, isi_bool_bl, isi_tuple_tup, isi_tuple_lst, isi_tuple_int, isi_tuple_non, isi_tuple_bl, isi_tuple_str, ixA_t0, ixA_t1, ixA_t2, ixA_t3, ixA_l0, ixA_l1, setAt_0, setAt_1, mkT_0, mkT_1, mkT_2, mkT_3, mkT_4, mkL_0, mkL_1, mkL_2, mkL_3, mkL_4, mkL_5, mkL_6, fl_up_rt, fl_next_nx, fl_next_rt, fl_after_nx, fl_after_rt, fl_val_rt, fl_valL_rt, fl_valC_rt, turnK_nx, turnK_rt, quiet_ok, iteX_true, iteX_false, needR_some, ite_true, ite_false, Bool.not_true, Bool.not_false, Bool.false_eq_true, reduceIte, decide_true, decide_false, fl_after_nx, ixs_3, forL_cons, forL_nil, unI_0, unI_1, unI_2, needR_some, a1, a2, a3, b1, b2, b3, p_w_rule, room1, List.cons_append, List.nil_append, ne_words2 st_rule]
      exact R.has_ok ⟨_, rfl, True.intro⟩
  · rintro fl ⟨s, rfl, _⟩
    have hu : unT4 unN unN unN unN (.tup [kn1.d, kn2.d, kn3.d, kn4.d]) = .ok (kn1.d, kn2.d, kn3.d, kn4.d) := rfl
    simp only [R.ok_bind, R.ok_map, R.err_bind, R.err_map, ar0_, ar1_, ar2_, ar3_, ar4_, ar5_, par2_, par3_, par2X_, asB_bl, d_add, d_sub, d_neg, d_lt, d_le, d_gt, d_ge, d_eq, d_ne, eq_bl, ne_bl, d_abs, d_min2, d_max2, d_toInt, len_tup, len_lst, toTup_lst, toTup_tup, toLst_lst, toLst_tup, itemsA_lst, itemsA_tup, part_int, unp2_, unp3_, unp4_, unT2_, unT3_, unT4_, isi_int_int, isi_int_bl, isi_int_non, isi_int_str, isi_int_tup, isi_int_lst, isi_bool_int, isi_bool_bl, isi_tuple_tup, isi_tuple_lst, isi_tuple_int, isi_tuple_non, isi_tuple_bl, isi_tuple_str, ixA_t0, ixA_t1, ixA_t2, ixA_t3, ixA_l0, ixA_l1, setAt_0, setAt_1, mkT_0, mkT_1, mkT_2, mkT_3, mkT_4, mkL_0, mkL_1, mkL_2, mkL_3, mkL_4, mkL_5, mkL_6, fl_up_rt, fl_next_nx, fl_next_rt, fl_after_nx, fl_after_rt, fl_val_rt, fl_valL_rt, fl_valC_rt, turnK_nx, turnK_rt, quiet_ok, iteX_true, iteX_false, needR_some, ite_true, ite_false, Bool.not_true, Bool.not_false, Bool.false_eq_true, reduceIte, decide_true, decide_false, p_known, hu, kn5_d, c_1, c_2, c_3, c_4, c_5, c_6, c_7, c_8, c_9, e_1, e_2, e_3, e_4]
    exact R.has_ok rfl
end K08
namespace K08
open PySem PySem.Spec PyProof.Rows L2 DL
open DL (D R)
def d_is_number : He.DefD := ⟨("is_number", none), "is_number", "is_number", defArgs s_is_number, defBody s_is_number, defScope s_is_number, [], []⟩
def d_is_tuple : He.DefD := ⟨("is_tuple", none), "is_tuple", "is_tuple", defArgs s_is_tuple, defBody s_is_tuple, defScope s_is_tuple, [], []⟩
def d_are_spots : He.DefD := ⟨("are_spots", none), "are_spots", "are_spots", defArgs s_are_spots, defBody s_are_spots, defScope s_are_spots, [], []⟩
def d_are_ascending : He.DefD := ⟨("are_ascending", none), "are_ascending", "are_ascending", defArgs s_are_ascending, defBody s_are_ascending, defScope s_are_ascending, [], []⟩
def d_is_good_rule : He.DefD := ⟨("is_good_rule", none), "is_good_rule", "is_good_rule", defArgs s_is_good_rule, defBody s_is_good_rule, defScope s_is_good_rule, [], []⟩
def d_need_rule : He.DefD := ⟨("need_rule", none), "need_rule", "need_rule", defArgs s_need_rule, defBody s_need_rule, defScope s_need_rule, [], []⟩
def d_first_unlike : He.DefD := ⟨("first_unlike", none), "first_unlike", "first_unlike", defArgs s_first_unlike, defBody s_first_unlike, defScope s_first_unlike, [], []⟩
def d_need_both : He.DefD := ⟨("need_both", none), "need_both", "need_both", defArgs s_need_both, defBody s_need_both, defScope s_need_both, [], []⟩
def d_alike : He.DefD := ⟨("alike", none), "alike", "alike", defArgs s_alike, defBody s_alike, defScope s_alike, [], []⟩
def d_within : He.DefD := ⟨("within", none), "within", "within", defArgs s_within, defBody s_within, defScope s_within, [], []⟩
def d_parting : He.DefD := ⟨("parting", none), "parting", "parting", defArgs s_parting, defBody s_parting, defScope s_parting, [], []⟩
def d__law_source : He.DefD := ⟨("_law_source", none), "_law_source", "_law_source", defArgs s__law_source, defBody s__law_source, defScope s__law_source, [], []⟩
def d__law_draw : He.DefD := ⟨("_law_draw", none), "_law_draw", "_law_draw", defArgs s__law_draw, defBody s__law_draw, defScope s__law_draw, [], []⟩
def d__law_of : He.DefD := ⟨("_law_of", none), "_law_of", "_law_of", defArgs s__law_of, defBody s__law_of, defScope s__law_of, [], []⟩
def d__law_known : He.DefD := ⟨("_law_known", none), "_law_known", "_law_known", defArgs s__law_known, defBody s__law_known, defScope s__law_known, [], []⟩
def d__law_rule : He.DefD := ⟨("_law_rule", none), "_law_rule", "_law_rule", defArgs s__law_rule, defBody s__law_rule, defScope s__law_rule, [], []⟩
def d__law_led : He.DefD := ⟨("_law_led", none), "_law_led", "_law_led", defArgs s__law_led, defBody s__law_led, defScope s__law_led, [], []⟩
def d__law_lets : He.DefD := ⟨("_law_lets", none), "_law_lets", "_law_lets", defArgs s__law_lets, defBody s__law_lets, defScope s__law_lets, [], []⟩
def d__law_short_forms : He.DefD := ⟨("_law_short_forms", none), "_law_short_forms", "_law_short_forms", defArgs s__law_short_forms, defBody s__law_short_forms, defScope s__law_short_forms, [], []⟩
def d__law_truly : He.DefD := ⟨("_law_truly", none), "_law_truly", "_law_truly", defArgs s__law_truly, defBody s__law_truly, defScope s__law_truly, [], []⟩
def d__law_near : He.DefD := ⟨("_law_near", none), "_law_near", "_law_near", defArgs s__law_near, defBody s__law_near, defScope s__law_near, [], []⟩
def d__law_first : He.DefD := ⟨("_law_first", none), "_law_first", "_law_first", defArgs s__law_first, defBody s__law_first, defScope s__law_first, [], []⟩
def d__law_right : He.DefD := ⟨("_law_right", none), "_law_right", "_law_right", defArgs s__law_right, defBody s__law_right, defScope s__law_right, [], []⟩
def d__law_word : He.DefD := ⟨("_law_word", none), "_law_word", "_law_word", defArgs s__law_word, defBody s__law_word, defScope s__law_word, [], []⟩
def d_law : He.DefD := ⟨("law", none), "law", "law", defArgs s_law, defBody s_law, defScope s_law, [], []⟩
def fns : List He.DefD := [d_is_number, d_is_tuple, d_are_spots, d_are_ascending, d_is_good_rule, d_need_rule, d_first_unlike, d_need_both, d_alike, d_within, d_parting, d__law_source, d__law_draw, d__law_of, d__law_known, d__law_rule, d__law_led, d__law_lets, d__law_short_forms, d__law_truly, d__law_near, d__law_first, d__law_right, d__law_word, d_law]
def fas : List He.Fa := [.glo "is_number", .glo "is_tuple", .glo "are_spots", .glo "are_ascending", .glo "is_good_rule", .glo "need_rule", .glo "first_unlike", .glo "need_both", .glo "alike", .glo "within", .glo "parting", .glo "_law_source", .glo "_law_draw", .glo "_law_of", .glo "_law_known", .glo "_law_rule", .glo "_law_led", .glo "_law_lets", .glo "_law_short_forms", .glo "_law_truly", .glo "_law_near", .glo "_law_first", .glo "_law_right", .glo "_law_word", .glo "law", .glo "CarryError", .glo "InvalidRule", .glo "Unlike", .exc "CarryError", .exc "InvalidRule", .exc "Unlike", .free "abs", .free "all", .free "bool", .free "enumerate", .free "int", .free "isinstance", .free "len", .free "list", .free "min", .free "range", .free "sorted", .free "tuple", .free "zip"]
def tfs : List He.Defn := [("alike", none), ("within", none), ("parting", none), ("law", none)]
def exB (K : PySem.W.Frag) : Bool := noLst K && (exsB K errs sub && decide ((tfs.map fun p => (He.cT K p).2).Nodup))
abbrev Rw : PySem.W.OpenRow := PySem.W.OpenLaw.row PySem.Challenge.rw_shortcarry_k08_whole_rules_compared
abbrev hk : PySem.W.Hook := He.hookX 4 fas fns [] tfs exB
def ob (s : PySem.W.SharedT) : He.AlX := He.obsX 4 fas fns [] tfs exB (HandSHeadRun.getT s)
theorem ob_eq (s : PySem.W.SharedT) : ob s = hk.obs s.abs := He.obsX_eq (HandSHeadRun.getT_eq s)
def loose : List Str := (["CarryError", "InvalidRule", "Unlike", "is_number", "is_tuple", "are_spots", "are_ascending", "is_good_rule", "need_rule", "first_unlike", "need_both", "alike", "within", "parting", "_law_source", "_law_draw", "_law_of", "_law_known", "_law_rule", "_law_led", "_law_lets", "_law_short_forms", "_law_truly", "_law_near", "_law_first", "_law_right", "_law_word"] : List Str)
theorem run (w : World) : HandSHeadRun.RunEq Rw (PySem.W.view Rw.prog [31]) hk ob 20000 loose w := by
  intro os
  kernel_rfl
abbrev Tt (K : PySem.W.Frag) : Tb := tfs.map fun p => ((He.cT K p).2, p.1 ++ ".<locals>." ++ "<lambda>")
theorem facts {w : World} {K : PySem.W.Frag} {h : Heap} {mg : Str → Option Value} (X : K.In h) (N : h.Ns mainGlobals mg) (c : He.SaysX fas fns [] tfs exB w h K) :
    ∃ fd : FuncData, (∀ (s : Shared) (v : Value), BindsTo s fd ⟨[v], []⟩ [("_law_script", v)]) ∧ ∀ base : Heap, (∀ p ∈ tfs.map (He.cT K), LamX.TabB base mg p.1 p.2) → FnP PySem.Challenge.pw_shortcarry_k08_whole_rules_compared w K mg base (Tt K) 10 (He.fAd K ("law", none)) fd ["_law_script"] (ar1 M_law) := by
  have cd : He.SaysD fas fns K := c.t.d
  obtain ⟨_, cx⟩ := He.ba c.more
  obtain ⟨cx1, cx2⟩ := He.ba cx
  have nd := of_decide_eq_true cx2
  obtain ⟨fd_is_number, E_is_number⟩ := cd.def_ 0 (d := d_is_number) rfl
  have F_is_number : L2.Fun K "is_number" "is_number" s_is_number (He.fAd K ("is_number", none)) fd_is_number := fun_of E_is_number
  have c_is_number : Ca K mg "is_number" (He.fAd K ("is_number", none)) fd_is_number ["value", "least", "most"] := ca_of E_is_number (He.glo_ok X N (cd.fact 0 (f := .glo "is_number") rfl)) fun _ _ _ _ _ _ us hl => match us, hl with | [_, _, _], _ => rfl
  obtain ⟨fd_is_tuple, E_is_tuple⟩ := cd.def_ 1 (d := d_is_tuple) rfl
  have F_is_tuple : L2.Fun K "is_tuple" "is_tuple" s_is_tuple (He.fAd K ("is_tuple", none)) fd_is_tuple := fun_of E_is_tuple
  have c_is_tuple : Ca K mg "is_tuple" (He.fAd K ("is_tuple", none)) fd_is_tuple ["value", "least", "most"] := ca_of E_is_tuple (He.glo_ok X N (cd.fact 1 (f := .glo "is_tuple") rfl)) fun _ _ _ _ _ _ us hl => match us, hl with | [_, _, _], _ => rfl
  obtain ⟨fd_are_spots, E_are_spots⟩ := cd.def_ 2 (d := d_are_spots) rfl
  have F_are_spots : L2.Fun K "are_spots" "are_spots" s_are_spots (He.fAd K ("are_spots", none)) fd_are_spots := fun_of E_are_spots
  have c_are_spots : Ca K mg "are_spots" (He.fAd K ("are_spots", none)) fd_are_spots ["value", "size", "many"] := ca_of E_are_spots (He.glo_ok X N (cd.fact 2 (f := .glo "are_spots") rfl)) fun _ _ _ _ _ _ us hl => match us, hl with | [_, _, _], _ => rfl
  obtain ⟨fd_are_ascending, E_are_ascending⟩ := cd.def_ 3 (d := d_are_ascending) rfl
  have F_are_ascending : L2.Fun K "are_ascending" "are_ascending" s_are_ascending (He.fAd K ("are_ascending", none)) fd_are_ascending := fun_of E_are_ascending
  have c_are_ascending : Ca K mg "are_ascending" (He.fAd K ("are_ascending", none)) fd_are_ascending ["values"] := ca_of E_are_ascending (He.glo_ok X N (cd.fact 3 (f := .glo "are_ascending") rfl)) fun _ _ _ _ _ _ us hl => match us, hl with | [_], _ => rfl
  obtain ⟨fd_is_good_rule, E_is_good_rule⟩ := cd.def_ 4 (d := d_is_good_rule) rfl
  have F_is_good_rule : L2.Fun K "is_good_rule" "is_good_rule" s_is_good_rule (He.fAd K ("is_good_rule", none)) fd_is_good_rule := fun_of E_is_good_rule
  have c_is_good_rule : Ca K mg "is_good_rule" (He.fAd K ("is_good_rule", none)) fd_is_good_rule ["value"] := ca_of E_is_good_rule (He.glo_ok X N (cd.fact 4 (f := .glo "is_good_rule") rfl)) fun _ _ _ _ _ _ us hl => match us, hl with | [_], _ => rfl
  obtain ⟨fd_need_rule, E_need_rule⟩ := cd.def_ 5 (d := d_need_rule) rfl
  have F_need_rule : L2.Fun K "need_rule" "need_rule" s_need_rule (He.fAd K ("need_rule", none)) fd_need_rule := fun_of E_need_rule
  have c_need_rule : Ca K mg "need_rule" (He.fAd K ("need_rule", none)) fd_need_rule ["value"] := ca_of E_need_rule (He.glo_ok X N (cd.fact 5 (f := .glo "need_rule") rfl)) fun _ _ _ _ _ _ us hl => match us, hl with | [_], _ => rfl
  obtain ⟨fd_first_unlike, E_first_unlike⟩ := cd.def_ 6 (d := d_first_unlike) rfl
  have F_first_unlike : L2.Fun K "first_unlike" "first_unlike" s_first_unlike (He.fAd K ("first_unlike", none)) fd_first_unlike := fun_of E_first_unlike
  have c_first_unlike : Ca K mg "first_unlike" (He.fAd K ("first_unlike", none)) fd_first_unlike ["one", "other", "is_wanted"] := ca_of E_first_unlike (He.glo_ok X N (cd.fact 6 (f := .glo "first_unlike") rfl)) fun _ _ _ _ _ _ us hl => match us, hl with | [_, _, _], _ => rfl
  obtain ⟨fd_need_both, E_need_both⟩ := cd.def_ 7 (d := d_need_both) rfl
  have F_need_both : L2.Fun K "need_both" "need_both" s_need_both (He.fAd K ("need_both", none)) fd_need_both := fun_of E_need_both
  have c_need_both : Ca K mg "need_both" (He.fAd K ("need_both", none)) fd_need_both ["one", "other"] := ca_of E_need_both (He.glo_ok X N (cd.fact 7 (f := .glo "need_both") rfl)) fun _ _ _ _ _ _ us hl => match us, hl with | [_, _], _ => rfl
  obtain ⟨fd_alike, E_alike⟩ := cd.def_ 8 (d := d_alike) rfl
  have F_alike : L2.Fun K "alike" "alike" s_alike (He.fAd K ("alike", none)) fd_alike := fun_of E_alike
  have c_alike : Ca K mg "alike" (He.fAd K ("alike", none)) fd_alike ["one", "other"] := ca_of E_alike (He.glo_ok X N (cd.fact 8 (f := .glo "alike") rfl)) fun _ _ _ _ _ _ us hl => match us, hl with | [_, _], _ => rfl
  obtain ⟨fd_within, E_within⟩ := cd.def_ 9 (d := d_within) rfl
  have F_within : L2.Fun K "within" "within" s_within (He.fAd K ("within", none)) fd_within := fun_of E_within
  have c_within : Ca K mg "within" (He.fAd K ("within", none)) fd_within ["one", "other"] := ca_of E_within (He.glo_ok X N (cd.fact 9 (f := .glo "within") rfl)) fun _ _ _ _ _ _ us hl => match us, hl with | [_, _], _ => rfl
  obtain ⟨fd_parting, E_parting⟩ := cd.def_ 10 (d := d_parting) rfl
  have F_parting : L2.Fun K "parting" "parting" s_parting (He.fAd K ("parting", none)) fd_parting := fun_of E_parting
  have c_parting : Ca K mg "parting" (He.fAd K ("parting", none)) fd_parting ["one", "other"] := ca_of E_parting (He.glo_ok X N (cd.fact 10 (f := .glo "parting") rfl)) fun _ _ _ _ _ _ us hl => match us, hl with | [_, _], _ => rfl
  obtain ⟨fd__law_source, E__law_source⟩ := cd.def_ 11 (d := d__law_source) rfl
  have F__law_source : L2.Fun K "_law_source" "_law_source" s__law_source (He.fAd K ("_law_source", none)) fd__law_source := fun_of E__law_source
  have c__law_source : Ca K mg "_law_source" (He.fAd K ("_law_source", none)) fd__law_source ["_law_script", "_law_k"] := ca_of E__law_source (He.glo_ok X N (cd.fact 11 (f := .glo "_law_source") rfl)) fun _ _ _ _ _ _ us hl => match us, hl with | [_, _], _ => rfl
  obtain ⟨fd__law_draw, E__law_draw⟩ := cd.def_ 12 (d := d__law_draw) rfl
  have F__law_draw : L2.Fun K "_law_draw" "_law_draw" s__law_draw (He.fAd K ("_law_draw", none)) fd__law_draw := fun_of E__law_draw
  have c__law_draw : Ca K mg "_law_draw" (He.fAd K ("_law_draw", none)) fd__law_draw ["_law_source_here", "_law_many"] := ca_of E__law_draw (He.glo_ok X N (cd.fact 12 (f := .glo "_law_draw") rfl)) fun _ _ _ _ _ _ us hl => match us, hl with | [_, _], _ => rfl
  obtain ⟨fd__law_of, E__law_of⟩ := cd.def_ 13 (d := d__law_of) rfl
  have F__law_of : L2.Fun K "_law_of" "_law_of" s__law_of (He.fAd K ("_law_of", none)) fd__law_of := fun_of E__law_of
  have c__law_of : Ca K mg "_law_of" (He.fAd K ("_law_of", none)) fd__law_of ["_law_source_here", "_law_items"] := ca_of E__law_of (He.glo_ok X N (cd.fact 13 (f := .glo "_law_of") rfl)) fun _ _ _ _ _ _ us hl => match us, hl with | [_, _], _ => rfl
  obtain ⟨fd__law_known, E__law_known⟩ := cd.def_ 14 (d := d__law_known) rfl
  have F__law_known : L2.Fun K "_law_known" "_law_known" s__law_known (He.fAd K ("_law_known", none)) fd__law_known := fun_of E__law_known
  have c__law_known : Ca K mg "_law_known" (He.fAd K ("_law_known", none)) fd__law_known [] := ca_of E__law_known (He.glo_ok X N (cd.fact 14 (f := .glo "_law_known") rfl)) fun _ _ _ _ _ _ us hl => match us, hl with | [], _ => rfl
  obtain ⟨fd__law_rule, E__law_rule⟩ := cd.def_ 15 (d := d__law_rule) rfl
  have F__law_rule : L2.Fun K "_law_rule" "_law_rule" s__law_rule (He.fAd K ("_law_rule", none)) fd__law_rule := fun_of E__law_rule
  have c__law_rule : Ca K mg "_law_rule" (He.fAd K ("_law_rule", none)) fd__law_rule ["_law_source_here", "_law_most"] := ca_of E__law_rule (He.glo_ok X N (cd.fact 15 (f := .glo "_law_rule") rfl)) fun _ _ _ _ _ _ us hl => match us, hl with | [_, _], _ => rfl
  obtain ⟨fd__law_led, E__law_led⟩ := cd.def_ 16 (d := d__law_led) rfl
  have F__law_led : L2.Fun K "_law_led" "_law_led" s__law_led (He.fAd K ("_law_led", none)) fd__law_led := fun_of E__law_led
  have c__law_led : Ca K mg "_law_led" (He.fAd K ("_law_led", none)) fd__law_led ["_law_rule_here", "_law_form"] := ca_of E__law_led (He.glo_ok X N (cd.fact 16 (f := .glo "_law_led") rfl)) fun _ _ _ _ _ _ us hl => match us, hl with | [_, _], _ => rfl
  obtain ⟨fd__law_lets, E__law_lets⟩ := cd.def_ 17 (d := d__law_lets) rfl
  have F__law_lets : L2.Fun K "_law_lets" "_law_lets" s__law_lets (He.fAd K ("_law_lets", none)) fd__law_lets := fun_of E__law_lets
  have c__law_lets : Ca K mg "_law_lets" (He.fAd K ("_law_lets", none)) fd__law_lets ["_law_rule_here", "_law_form"] := ca_of E__law_lets (He.glo_ok X N (cd.fact 17 (f := .glo "_law_lets") rfl)) fun _ _ _ _ _ _ us hl => match us, hl with | [_, _], _ => rfl
  obtain ⟨fd__law_short_forms, E__law_short_forms⟩ := cd.def_ 18 (d := d__law_short_forms) rfl
  have F__law_short_forms : L2.Fun K "_law_short_forms" "_law_short_forms" s__law_short_forms (He.fAd K ("_law_short_forms", none)) fd__law_short_forms := fun_of E__law_short_forms
  have c__law_short_forms : Ca K mg "_law_short_forms" (He.fAd K ("_law_short_forms", none)) fd__law_short_forms ["_law_rule_here", "_law_most"] := ca_of E__law_short_forms (He.glo_ok X N (cd.fact 18 (f := .glo "_law_short_forms") rfl)) fun _ _ _ _ _ _ us hl => match us, hl with | [_, _], _ => rfl
  obtain ⟨fd__law_truly, E__law_truly⟩ := cd.def_ 19 (d := d__law_truly) rfl
  have F__law_truly : L2.Fun K "_law_truly" "_law_truly" s__law_truly (He.fAd K ("_law_truly", none)) fd__law_truly := fun_of E__law_truly
  have c__law_truly : Ca K mg "_law_truly" (He.fAd K ("_law_truly", none)) fd__law_truly ["_law_found_so", "_law_due"] := ca_of E__law_truly (He.glo_ok X N (cd.fact 19 (f := .glo "_law_truly") rfl)) fun _ _ _ _ _ _ us hl => match us, hl with | [_, _], _ => rfl
  obtain ⟨fd__law_near, E__law_near⟩ := cd.def_ 20 (d := d__law_near) rfl
  have F__law_near : L2.Fun K "_law_near" "_law_near" s__law_near (He.fAd K ("_law_near", none)) fd__law_near := fun_of E__law_near
  have c__law_near : Ca K mg "_law_near" (He.fAd K ("_law_near", none)) fd__law_near ["_law_source_here", "_law_rule_here"] := ca_of E__law_near (He.glo_ok X N (cd.fact 20 (f := .glo "_law_near") rfl)) fun _ _ _ _ _ _ us hl => match us, hl with | [_, _], _ => rfl
  obtain ⟨fd__law_first, E__law_first⟩ := cd.def_ 21 (d := d__law_first) rfl
  have F__law_first : L2.Fun K "_law_first" "_law_first" s__law_first (He.fAd K ("_law_first", none)) fd__law_first := fun_of E__law_first
  have c__law_first : Ca K mg "_law_first" (He.fAd K ("_law_first", none)) fd__law_first ["_law_one", "_law_other", "_law_mode"] := ca_of E__law_first (He.glo_ok X N (cd.fact 21 (f := .glo "_law_first") rfl)) fun _ _ _ _ _ _ us hl => match us, hl with | [_, _, _], _ => rfl
  obtain ⟨fd__law_right, E__law_right⟩ := cd.def_ 22 (d := d__law_right) rfl
  have F__law_right : L2.Fun K "_law_right" "_law_right" s__law_right (He.fAd K ("_law_right", none)) fd__law_right := fun_of E__law_right
  have c__law_right : Ca K mg "_law_right" (He.fAd K ("_law_right", none)) fd__law_right ["_law_one", "_law_other"] := ca_of E__law_right (He.glo_ok X N (cd.fact 22 (f := .glo "_law_right") rfl)) fun _ _ _ _ _ _ us hl => match us, hl with | [_, _], _ => rfl
  obtain ⟨fd__law_word, E__law_word⟩ := cd.def_ 23 (d := d__law_word) rfl
  have F__law_word : L2.Fun K "_law_word" "_law_word" s__law_word (He.fAd K ("_law_word", none)) fd__law_word := fun_of E__law_word
  have c__law_word : Ca K mg "_law_word" (He.fAd K ("_law_word", none)) fd__law_word ["_law_call"] := ca_of E__law_word (He.glo_ok X N (cd.fact 23 (f := .glo "_law_word") rfl)) fun _ _ _ _ _ _ us hl => match us, hl with | [_], _ => rfl
  obtain ⟨fd_law, E_law⟩ := cd.def_ 24 (d := d_law) rfl
  have F_law : L2.Fun K "law" "law" s_law (He.fAd K ("law", none)) fd_law := fun_of E_law
  have c_law : Ca K mg "law" (He.fAd K ("law", none)) fd_law ["_law_script"] := ca_of E_law (He.glo_ok X N (cd.fact 24 (f := .glo "law") rfl)) fun _ _ _ _ _ _ us hl => match us, hl with | [_], _ => rfl
  have g_CarryError := He.glo_ok X N (cd.fact 25 (f := .glo "CarryError") rfl)
  have Rz_CarryError : Rz K mg "CarryError" (He.ga K "CarryError") := rz_of g_CarryError (cd.fact 28 (f := .exc "CarryError") rfl)
  have g_InvalidRule := He.glo_ok X N (cd.fact 26 (f := .glo "InvalidRule") rfl)
  have Rz_InvalidRule : Rz K mg "InvalidRule" (He.ga K "InvalidRule") := rz_of g_InvalidRule (cd.fact 29 (f := .exc "InvalidRule") rfl)
  have g_Unlike := He.glo_ok X N (cd.fact 27 (f := .glo "Unlike") rfl)
  have Rz_Unlike : Rz K mg "Unlike" (He.ga K "Unlike") := rz_of g_Unlike (cd.fact 30 (f := .exc "Unlike") rfl)
  have QE : Exs K mg errs sub := exs_of cx1 (by intro c hc; simp only [errs, List.mem_cons, List.not_mem_nil, or_false] at hc; rcases hc with rfl | rfl | rfl <;> assumption)
  have G : Gd mg := ⟨He.free_ok X N (cd.fact 31 (f := .free "abs") rfl), He.free_ok X N (cd.fact 32 (f := .free "all") rfl), He.free_ok X N (cd.fact 33 (f := .free "bool") rfl), He.free_ok X N (cd.fact 34 (f := .free "enumerate") rfl), He.free_ok X N (cd.fact 35 (f := .free "int") rfl), He.free_ok X N (cd.fact 36 (f := .free "isinstance") rfl), He.free_ok X N (cd.fact 37 (f := .free "len") rfl), He.free_ok X N (cd.fact 38 (f := .free "list") rfl), He.free_ok X N (cd.fact 39 (f := .free "min") rfl), He.free_ok X N (cd.fact 40 (f := .free "range") rfl), He.free_ok X N (cd.fact 41 (f := .free "sorted") rfl), He.free_ok X N (cd.fact 42 (f := .free "tuple") rfl), He.free_ok X N (cd.fact 43 (f := .free "zip") rfl)⟩
  refine ⟨fd_law, fun s v => FunD.bindsA (ps := ["_law_script"]) E_law (fun _ _ _ _ _ _ us hl => match us, hl with | [_], _ => rfl) s [v] rfl, fun base hB => ?_⟩
  have H_is_number := ok_is_number (P := PySem.Challenge.pw_shortcarry_k08_whole_rules_compared) (w := w) (base := base) (T := Tt K) (G := G) (FF := F_is_number) 
  have H_is_tuple := ok_is_tuple (P := PySem.Challenge.pw_shortcarry_k08_whole_rules_compared) (w := w) (base := base) (T := Tt K) (G := G) (FF := F_is_tuple) 
  have H_are_ascending := ok_are_ascending (P := PySem.Challenge.pw_shortcarry_k08_whole_rules_compared) (w := w) (base := base) (T := Tt K) (G := G) (FF := F_are_ascending) 
  have H__law_source := ok__law_source (P := PySem.Challenge.pw_shortcarry_k08_whole_rules_compared) (w := w) (base := base) (T := Tt K) (G := G) (FF := F__law_source) 
  have H__law_draw := ok__law_draw (P := PySem.Challenge.pw_shortcarry_k08_whole_rules_compared) (w := w) (base := base) (T := Tt K) (G := G) (FF := F__law_draw) 
  have H__law_known := ok__law_known (P := PySem.Challenge.pw_shortcarry_k08_whole_rules_compared) (w := w) (base := base) (T := Tt K) (G := G) (FF := F__law_known) 
  have H__law_led := ok__law_led (P := PySem.Challenge.pw_shortcarry_k08_whole_rules_compared) (w := w) (base := base) (T := Tt K) (G := G) (FF := F__law_led) 
  have H__law_short_forms := ok__law_short_forms (P := PySem.Challenge.pw_shortcarry_k08_whole_rules_compared) (w := w) (base := base) (T := Tt K) (G := G) (FF := F__law_short_forms) 
  have H__law_truly := ok__law_truly (P := PySem.Challenge.pw_shortcarry_k08_whole_rules_compared) (w := w) (base := base) (T := Tt K) (G := G) (FF := F__law_truly) 
  have H__law_first := ok__law_first (P := PySem.Challenge.pw_shortcarry_k08_whole_rules_compared) (w := w) (base := base) (T := Tt K) (G := G) (FF := F__law_first) 
  have H_are_spots := ok_are_spots (P := PySem.Challenge.pw_shortcarry_k08_whole_rules_compared) (w := w) (base := base) (T := Tt K) (G := G) (FF := F_are_spots) (F_is_number := H_is_number) (c_is_number := c_is_number) (F_is_tuple := H_is_tuple) (c_is_tuple := c_is_tuple)
  have HL_alike_0 := okl_alike_0 (P := PySem.Challenge.pw_shortcarry_k08_whole_rules_compared) (w := w) (K := K) (base := base) (T := Tt K) (G := G) 
  have HL_within_0 := okl_within_0 (P := PySem.Challenge.pw_shortcarry_k08_whole_rules_compared) (w := w) (K := K) (base := base) (T := Tt K) (G := G) 
  have HL_parting_0 := okl_parting_0 (P := PySem.Challenge.pw_shortcarry_k08_whole_rules_compared) (w := w) (K := K) (base := base) (T := Tt K) (G := G) 
  have CL_first_unlike := cals_first_unlike HL_alike_0 HL_within_0 HL_parting_0
  have H_first_unlike := ok_first_unlike (P := PySem.Challenge.pw_shortcarry_k08_whole_rules_compared) (w := w) (base := base) (T := Tt K) (G := G) (FF := F_first_unlike) (CL_first_unlike := CL_first_unlike)
  have H__law_of := ok__law_of (P := PySem.Challenge.pw_shortcarry_k08_whole_rules_compared) (w := w) (base := base) (T := Tt K) (G := G) (FF := F__law_of) (F__law_draw := H__law_draw) (c__law_draw := c__law_draw)
  have H__law_lets := ok__law_lets (P := PySem.Challenge.pw_shortcarry_k08_whole_rules_compared) (w := w) (base := base) (T := Tt K) (G := G) (FF := F__law_lets) (F__law_led := H__law_led) (c__law_led := c__law_led)
  have H__law_near := ok__law_near (P := PySem.Challenge.pw_shortcarry_k08_whole_rules_compared) (w := w) (base := base) (T := Tt K) (G := G) (FF := F__law_near) (F__law_draw := H__law_draw) (c__law_draw := c__law_draw)
  have H_is_good_rule := ok_is_good_rule (P := PySem.Challenge.pw_shortcarry_k08_whole_rules_compared) (w := w) (base := base) (T := Tt K) (G := G) (FF := F_is_good_rule) (F_are_ascending := H_are_ascending) (c_are_ascending := c_are_ascending) (F_are_spots := H_are_spots) (c_are_spots := c_are_spots) (F_is_number := H_is_number) (c_is_number := c_is_number) (F_is_tuple := H_is_tuple) (c_is_tuple := c_is_tuple)
  have H__law_rule := ok__law_rule (P := PySem.Challenge.pw_shortcarry_k08_whole_rules_compared) (w := w) (base := base) (T := Tt K) (G := G) (FF := F__law_rule) (F__law_draw := H__law_draw) (c__law_draw := c__law_draw) (F__law_known := H__law_known) (c__law_known := c__law_known) (F__law_of := H__law_of) (c__law_of := c__law_of)
  have H_need_rule := ok_need_rule (P := PySem.Challenge.pw_shortcarry_k08_whole_rules_compared) (w := w) (base := base) (T := Tt K) (G := G) (FF := F_need_rule) (F_is_good_rule := H_is_good_rule) (c_is_good_rule := c_is_good_rule) (Rz_InvalidRule := Rz_InvalidRule)
  have H_need_both := ok_need_both (P := PySem.Challenge.pw_shortcarry_k08_whole_rules_compared) (w := w) (base := base) (T := Tt K) (G := G) (FF := F_need_both) (F_need_rule := H_need_rule) (c_need_rule := c_need_rule) (Rz_Unlike := Rz_Unlike)
  have TB_alike : LamX.TabB base mg (He.cT K ("alike", none)).1 (He.cT K ("alike", none)).2 := hB _ (by simp [tfs])
  have hm_alike : ((He.cT K ("alike", none)).2, ("alike" : Str) ++ ".<locals>." ++ "<lambda>") ∈ Tt K := List.mem_map.mpr ⟨("alike", none), by simp [tfs], rfl⟩
  have hT_alike : ∀ p ∈ Tt K, p.1 = (He.cT K ("alike", none)).2 → p.2 = ("alike" : Str) ++ ".<locals>." ++ "<lambda>" := tt_uniq nd (by simp [tfs])
  have H_alike := ok_alike (P := PySem.Challenge.pw_shortcarry_k08_whole_rules_compared) (w := w) (base := base) (T := Tt K) (G := G) (FF := F_alike) (F_first_unlike := H_first_unlike) (c_first_unlike := c_first_unlike) (F_need_both := H_need_both) (c_need_both := c_need_both) (QE := QE) (TB_alike := TB_alike) (hcode_alike := code_of (p := ("alike", none)) F_alike) (hm_alike := hm_alike) (hT_alike := hT_alike)
  have TB_within : LamX.TabB base mg (He.cT K ("within", none)).1 (He.cT K ("within", none)).2 := hB _ (by simp [tfs])
  have hm_within : ((He.cT K ("within", none)).2, ("within" : Str) ++ ".<locals>." ++ "<lambda>") ∈ Tt K := List.mem_map.mpr ⟨("within", none), by simp [tfs], rfl⟩
  have hT_within : ∀ p ∈ Tt K, p.1 = (He.cT K ("within", none)).2 → p.2 = ("within" : Str) ++ ".<locals>." ++ "<lambda>" := tt_uniq nd (by simp [tfs])
  have H_within := ok_within (P := PySem.Challenge.pw_shortcarry_k08_whole_rules_compared) (w := w) (base := base) (T := Tt K) (G := G) (FF := F_within) (F_first_unlike := H_first_unlike) (c_first_unlike := c_first_unlike) (F_need_both := H_need_both) (c_need_both := c_need_both) (QE := QE) (TB_within := TB_within) (hcode_within := code_of (p := ("within", none)) F_within) (hm_within := hm_within) (hT_within := hT_within)
  have TB_parting : LamX.TabB base mg (He.cT K ("parting", none)).1 (He.cT K ("parting", none)).2 := hB _ (by simp [tfs])
  have hm_parting : ((He.cT K ("parting", none)).2, ("parting" : Str) ++ ".<locals>." ++ "<lambda>") ∈ Tt K := List.mem_map.mpr ⟨("parting", none), by simp [tfs], rfl⟩
  have hT_parting : ∀ p ∈ Tt K, p.1 = (He.cT K ("parting", none)).2 → p.2 = ("parting" : Str) ++ ".<locals>." ++ "<lambda>" := tt_uniq nd (by simp [tfs])
  have H_parting := ok_parting (P := PySem.Challenge.pw_shortcarry_k08_whole_rules_compared) (w := w) (base := base) (T := Tt K) (G := G) (FF := F_parting) (F_first_unlike := H_first_unlike) (c_first_unlike := c_first_unlike) (F_need_both := H_need_both) (c_need_both := c_need_both) (QE := QE) (TB_parting := TB_parting) (hcode_parting := code_of (p := ("parting", none)) F_parting) (hm_parting := hm_parting) (hT_parting := hT_parting)
  have H__law_right := ok__law_right (P := PySem.Challenge.pw_shortcarry_k08_whole_rules_compared) (w := w) (base := base) (T := Tt K) (G := G) (FF := F__law_right) (F__law_first := H__law_first) (c__law_first := c__law_first) (F__law_lets := H__law_lets) (c__law_lets := c__law_lets) (F__law_short_forms := H__law_short_forms) (c__law_short_forms := c__law_short_forms) (F__law_truly := H__law_truly) (c__law_truly := c__law_truly) (F_alike := H_alike) (c_alike := c_alike) (F_parting := H_parting) (c_parting := c_parting) (F_within := H_within) (c_within := c_within)
  have TB_law : LamX.TabB base mg (He.cT K ("law", none)).1 (He.cT K ("law", none)).2 := hB _ (by simp [tfs])
  have hm_law : ((He.cT K ("law", none)).2, ("law" : Str) ++ ".<locals>." ++ "<lambda>") ∈ Tt K := List.mem_map.mpr ⟨("law", none), by simp [tfs], rfl⟩
  have hT_law : ∀ p ∈ Tt K, p.1 = (He.cT K ("law", none)).2 → p.2 = ("law" : Str) ++ ".<locals>." ++ "<lambda>" := tt_uniq nd (by simp [tfs])
  have H_law := ok_law (P := PySem.Challenge.pw_shortcarry_k08_whole_rules_compared) (w := w) (base := base) (T := Tt K) (G := G) (FF := F_law) (F__law_known := H__law_known) (c__law_known := c__law_known) (F__law_near := H__law_near) (c__law_near := c__law_near) (F__law_right := H__law_right) (c__law_right := c__law_right) (F__law_rule := H__law_rule) (c__law_rule := c__law_rule) (F__law_source := H__law_source) (c__law_source := c__law_source) (F__law_word := F__law_word) (c__law_word := c__law_word) (F_alike := H_alike) (c_alike := c_alike) (F_parting := H_parting) (c_parting := c_parting) (F_within := H_within) (c_within := c_within) (Rz_CarryError := Rz_CarryError) (Rz_InvalidRule := Rz_InvalidRule) (Rz_Unlike := Rz_Unlike) (QE := QE) (TB_law := TB_law) (hcode_law := code_of (p := ("law", none)) F_law) (hm_law := hm_law) (hT_law := hT_law)
  exact H_law
theorem holds_of (hlaw : ∀ ns : List Int, ns.length ≤ 63 → M_law (.lst (ns.map D.int)) = .ok (.bl true)) : PySem.Challenge.rw_shortcarry_k08_whole_rules_compared.Holds := by
  w_on; o_law
  refine HandSHeadRun.head_any (r := PySem.W.OpenLaw.row PySem.Challenge.rw_shortcarry_k08_whole_rules_compared) (q := PySem.W.view (PySem.W.OpenLaw.row PySem.Challenge.rw_shortcarry_k08_whole_rules_compared).prog [31]) (H := hk) (ob := ob) (M := 20000) (loose := loose) (d := HandSHeadRun.topDef (PySem.W.OpenLaw.row PySem.Challenge.rw_shortcarry_k08_whole_rules_compared).prog 31) (kwd := []) ob_eq
    (by kernel_rfl) (fun s => by kernel_rfl) run (by kernel_rfl) (by kernel_rfl) (by kernel_rfl) (by rfl) (by first | assumption | decide +kernel) (by decide +kernel) ⟨rfl, rfl, rfl, rfl, rfl, by decide +kernel⟩ ?hw ?hc
  case hw => w_witness2
  case hc =>
    refine LamX.walk_ofTsE (l := PySem.Challenge.rw_shortcarry_k08_whole_rules_compared) (n := 63) (k := 10) (x := "_law_script") (CX := fun w => L2.CX PySem.Challenge.pw_shortcarry_k08_whole_rules_compared w) rfl (by decide) (by kernel_rfl) ⟨rfl, by decide, by decide⟩ ?F (fun w H s e s' h => by
      obtain ⟨_, _, _, _, _, _, _, _, _, _, _, _, z⟩ := h
      exact z.elim)
    intro w mg fa h Y N hmg0
    obtain ⟨K, KX, c⟩ := Y
    have hmg : mg ("law" : PySem.Str) = some (.ref fa) := by
      have e : (HandSHeadRun.topDef (PySem.W.OpenLaw.row PySem.Challenge.rw_shortcarry_k08_whole_rules_compared).prog 31).name = ("law" : PySem.Str) := by kernel_rfl
      rw [← e]
      exact hmg0
    have e := hmg.symm.trans (He.glo_ok KX N (c.t.d.fact 24 (f := .glo "law") rfl))
    cases e
    obtain ⟨fd, hb, hF⟩ := facts KX N c
    have nl : noLst K = true := (He.ba c.more).1
    refine ⟨K, KX, fd, tfs.map (He.cT K), _, ?_, ?_, ?_, hb, ?_, fun base _ _ hB => hF base hB⟩
    · intro p hp
      obtain ⟨z, hz, rfl⟩ := List.mem_map.mp hp
      exact c.empty z hz
    · intro p hp
      obtain ⟨z, hz, rfl⟩ := List.mem_map.mp hp
      exact c.out z hz
    · intro p hp
      obtain ⟨z, hz, rfl⟩ := List.mem_map.mp hp
      exact PySem.W.codeHd_of_K KX (c.hd z hz)
    · intro H a ns hl _ hH hS
      refine ini (rd_of nl hS) (tabs_ini fun p hp => ?_) (hlaw ns hl)
      obtain ⟨z, hz, rfl⟩ := List.mem_map.mp hp
      exact hH (He.cT K z) (List.mem_map.mpr ⟨z, hz, rfl⟩)
end K08
theorem PySem.Challenge.cw_shortcarry_k08_whole_rules_compared_holds : PySem.Challenge.rw_shortcarry_k08_whole_rules_compared.Holds := by
  exact K08.holds_of K08.p_law
