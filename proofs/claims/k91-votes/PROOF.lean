import PyProof.Rows.All
import Wide.All
import OpenK.AllK
import Wide.FinOn
import PySem.Challenge.RW_likeranks_k91_whole_votes
import HandS.ForMost
import HandS.ForExc
import HandS.Lambda
import HandS.Deep
import HandS.TupAny
import HandS.TupMul
import HandS.TupLe
import HandS.Wide
import HandS.Walk
import HandS.ExcCtx
import HandS.Style
import HandS.Dict
import HandS.IsInst
import HandS.Conv
import HandS.SetFor
import HandS.WordsExc
import HandS.EndBits
import HandS.EndTab
import HandS.TupSets
import HandS.SortInts
import HandS.Strs
import KE.SortData
import KE.KDictZip
import KE.GoesMore
import KE.GoesEnum
import PyProof.ListNew
import HandS.Steps
import HandS.Hot
import HandS.HotCalls
import HandS.ExcIs
import PyProof.Rows.SumAny
import HandS.Zip
import HandS.Small
import HandS.DictEq
import KE.KDictSum
import KE.DataMinMax
import KE.DataCmp
import HandS.NoneIn
set_option Elab.async false
set_option linter.all false
set_option maxRecDepth 100000
set_option maxHeartbeats 2000000
/-! the data layer: values as plain data -/
namespace DL
open PySem PySem.Spec PyProof.Rows L2 LamX

/-- plain data -/
inductive D where
  | non | bl (b : Bool) | int (i : Int) | str (x : Str)
  | tup (xs : List D) | lst (xs : List D)
  | dK (ks : List Key) (vs : List D) | dT (ks : List (List Key)) (vs : List D)
  | scr (ns : List Int) | fn (f : Str) | cst (xs : List D)

/-- what a reckoning gives -/
inductive Rg (α : Type) where
  | ok (a : α) | exc (c : Str) | bad
abbrev R := Rg D
def Rg.bind {α β : Type} (r : Rg α) (f : α → Rg β) : Rg β := match r with
  | .ok a => f a
  | .exc c => .exc c
  | .bad => .bad
@[simp] theorem Rg.bind_ok {α β : Type} (a : α) (f : α → Rg β) : (Rg.ok a).bind f = f a := id rfl
@[simp] theorem Rg.bind_exc {α β : Type} (c : Str) (f : α → Rg β) : (Rg.exc c).bind f = .exc c := id rfl
@[simp] theorem Rg.bind_bad {α β : Type} (f : α → Rg β) : (Rg.bad).bind f = .bad := id rfl

/-- a slot: nothing known; data that stands still; a list or dict of the def's own -/
inductive Sl where
  | no | dat (d : D) | own (d : D)
abbrev Gm := List Sl

/-! ### heaps -/
def Solid (H : Hp) (a : Addr) : Prop := ∃ o, H a = some o ∧ ∀ ps, o ≠ .tbl ps
theorem Solid.ext {H H' : Hp} {a : Addr} (s : Solid H a) (e : ExtN H H') : Solid H' a := let ⟨o, h, n⟩ := s; ⟨o, e _ _ h n, n⟩
theorem Solid.of {H : Hp} {a : Addr} {o : HO} (h : H a = some o) (n : ∀ ps, o ≠ .tbl ps) : Solid H a := ⟨o, h, n⟩
theorem not_solid {H : Hp} {a : Addr} (h : H a = none) : ¬ Solid H a := fun ⟨o, e, _⟩ => by rw [h] at e; cases e
open Classical in
noncomputable def mask (M : Addr → Prop) (H : Hp) : Hp := fun a => if M a then none else H a
theorem mask_some {M : Addr → Prop} {H : Hp} {a : Addr} {o : HO} : mask M H a = some o ↔ ¬ M a ∧ H a = some o := by
  unfold mask
  by_cases h : M a
  · rw [if_pos h]; exact ⟨fun e => (nomatch e), fun e => absurd h e.1⟩
  · rw [if_neg h]; exact ⟨fun e => ⟨h, e⟩, fun e => e.2⟩
/-- the heap without the tables -/
def nt (H : Hp) : Hp := fun a => match H a with
  | some (.tbl _) => none
  | x => x
theorem nt_some {H : Hp} {a : Addr} {o : HO} : nt H a = some o ↔ H a = some o ∧ ∀ ps, o ≠ .tbl ps := by
  unfold nt
  cases h : H a with
  | none => exact ⟨fun z => (nomatch z), fun z => (nomatch z.1)⟩
  | some x =>
    cases x with
    | tbl ps => exact ⟨fun z => (nomatch z), fun z => by have z1 := z.1; cases z1; exact absurd rfl (z.2 _)⟩
    | _ => exact ⟨fun z => ⟨z, fun ps e => by cases z; cases e⟩, fun z => z.1⟩
theorem nt_ext {H H' : Hp} (e : ExtN H H') : Same (nt H) H' := fun b o h => let ⟨h1, h2⟩ := nt_some.mp h; e b o h1 h2
theorem ext_nt {H H' : Hp} (e : Same (nt H) H') : ExtN H H' := fun b o h n => e b o (nt_some.mpr ⟨h, n⟩)

/-! ### what a value stands for -/
/-- the script: a list of ints that is locked -/
def SqF (K : PySem.W.Frag) (H : Hp) (a : Addr) (ns : List Int) : Prop :=
  (∃ o, H a = some (.frz o (.lst (ns.map V.int)))) ∨ ∃ (o : Obj) (its : Array Value) (n : Nat), K.lookup a = some o ∧ o.cls = .type "list" ∧ o.dict = none ∧ o.data = .seq its n ∧ its.size ≤ sizeLine ∧ Vals (ns.map V.int) its.toList
theorem SqF.sq {K : PySem.W.Frag} {H : Hp} {a : Addr} {ns : List Int} (h : SqF K H a ns) : SqL K H a (ns.map V.int) := h.elim (fun ⟨o, e⟩ => .inl (.inr ⟨o, e⟩)) .inr
section
variable (K : PySem.W.Frag) (fa : Str → Option Addr)
mutual
inductive Rp (H : Hp) : V → D → Prop
  | non : Rp H .non .non
  | bl (b : Bool) : Rp H (.bl b) (.bl b)
  | int (i : Int) : Rp H (.int i) (.int i)
  | str (x : Str) : Rp H (.str x) (.str x)
  | tup {a : Addr} {xs : List V} {ds : List D} : H a = some (.tup xs) → RpL H xs ds → Rp H (.ref a) (.tup ds)
  | cst {a : Addr} {xs : List V} {ds : List D} : SqT K (fun _ => none) a xs → RpL H xs ds → Rp H (.ref a) (.cst ds)
  | lst {a : Addr} {xs : List V} {ds : List D} : H a = some (.lst xs) → RpL H xs ds → Rp H (.ref a) (.lst ds)
  | dK {a : Addr} {ks : List Key} {xs : List V} {ds : List D} : H a = some (.dK (ks.zip xs)) → ks.length = xs.length → RpL H xs ds → Rp H (.ref a) (.dK ks ds)
  | dT {a : Addr} {ks : List (List Key)} {xs : List V} {ds : List D} : H a = some (.dT (ks.zip xs)) → ks.length = xs.length → RpL H xs ds → Rp H (.ref a) (.dT ks ds)
  | scr {a : Addr} {ns : List Int} : SqF K H a ns → Rp H (.ref a) (.scr ns)
  | fn {a : Addr} {f : Str} : fa f = some a → Rp H (.ref a) (.fn f)
inductive RpL (H : Hp) : List V → List D → Prop
  | nil : RpL H [] []
  | cons {v : V} {vs : List V} {d : D} {ds : List D} : Rp H v d → RpL H vs ds → RpL H (v :: vs) (d :: ds)
end
end
section
variable {K : PySem.W.Frag} {fa : Str → Option Addr} {H H' : Hp}
theorem sqT_ext {a : Addr} {xs : List V} (e : ExtN H H') (h : SqT K H a xs) : SqT K H' a xs := by
  rcases h with (h | ⟨o, h⟩) | h
  · exact .inl (.inl (e _ _ h (fun _ z => by cases z)))
  · exact .inl (.inr ⟨o, e _ _ h (fun _ z => by cases z)⟩)
  · exact .inr h
theorem sqL_ext {a : Addr} {xs : List V} (e : ExtN H H') (h : SqL K H a xs) : SqL K H' a xs := by
  rcases h with (h | ⟨o, h⟩) | h
  · exact .inl (.inl (e _ _ h (fun _ z => by cases z)))
  · exact .inl (.inr ⟨o, e _ _ h (fun _ z => by cases z)⟩)
  · exact .inr h
mutual
theorem Rp.ext (e : ExtN H H') : ∀ (d : D) (v : V), Rp K fa H v d → Rp K fa H' v d
  | .non, _, h => by cases h; exact .non
  | .bl _, _, h => by cases h; exact .bl _
  | .int _, _, h => by cases h; exact .int _
  | .str _, _, h => by cases h; exact .str _
  | .tup ds, _, h => by
    cases h with
    | tup a b => exact .tup (e _ _ a (fun _ z => by cases z)) (RpL.ext e ds _ b)
  | .cst ds, _, h => by
    cases h with
    | cst a b => exact .cst a (RpL.ext e ds _ b)
  | .lst ds, _, h => by
    cases h with
    | lst a b => exact .lst (e _ _ a (fun _ z => by cases z)) (RpL.ext e ds _ b)
  | .dK ks ds, _, h => by
    cases h with
    | dK a l b => exact .dK (e _ _ a (fun _ z => by cases z)) l (RpL.ext e ds _ b)
  | .dT ks ds, _, h => by
    cases h with
    | dT a l b => exact .dT (e _ _ a (fun _ z => by cases z)) l (RpL.ext e ds _ b)
  | .scr ns, _, h => by
    cases h with
    | scr a =>
      rcases a with ⟨o, h⟩ | h
      · exact .scr (.inl ⟨o, e _ _ h (fun _ z => by cases z)⟩)
      · exact .scr (.inr h)
  | .fn f, _, h => by
    cases h with
    | fn a => exact .fn a
theorem RpL.ext (e : ExtN H H') : ∀ (ds : List D) (vs : List V), RpL K fa H vs ds → RpL K fa H' vs ds
  | [], _, h => by cases h; exact .nil
  | d :: ds, _, h => by
    cases h with
    | cons a b => exact .cons (Rp.ext e d _ a) (RpL.ext e ds _ b)
end
theorem RpL.length : ∀ {vs : List V} {ds : List D}, RpL K fa H vs ds → vs.length = ds.length
  | [], _, h => by cases h; rfl
  | v :: vs, _, h => by
    cases h with
    | cons a b => exact congrArg (· + 1) (RpL.length b)
theorem RpL.get : ∀ {vs : List V} {ds : List D} {i : Nat} {d : D}, RpL K fa H vs ds → ds[i]? = some d → ∃ v, vs[i]? = some v ∧ Rp K fa H v d
  | _, _, _, _, .nil, e => by simp at e
  | _, _, 0, _, .cons r _, e => by simp at e; subst e; exact ⟨_, rfl, r⟩
  | _, _, i + 1, d, .cons _ t, e => by
    obtain ⟨u, h1, h2⟩ := RpL.get (i := i) (d := d) t (by simpa using e)
    exact ⟨u, by simpa using h1, h2⟩
theorem RpL.getV : ∀ {vs : List V} {ds : List D} {i : Nat} {v : V}, RpL K fa H vs ds → vs[i]? = some v → ∃ d, ds[i]? = some d ∧ Rp K fa H v d
  | _, _, _, _, .nil, e => by simp at e
  | _, _, 0, _, .cons r _, e => by simp at e; subst e; exact ⟨_, rfl, r⟩
  | _, _, i + 1, v, .cons _ t, e => by
    obtain ⟨u, h1, h2⟩ := RpL.getV (i := i) (v := v) t (by simpa using e)
    exact ⟨u, by simpa using h1, h2⟩
theorem RpL.append : ∀ {vs ws : List V} {ds es : List D}, RpL K fa H vs ds → RpL K fa H ws es → RpL K fa H (vs ++ ws) (ds ++ es)
  | _, _, _, _, .nil, s => s
  | _, _, _, _, .cons r t, s => .cons r (RpL.append t s)
theorem RpL.take : ∀ {vs : List V} {ds : List D} (n : Nat), RpL K fa H vs ds → RpL K fa H (vs.take n) (ds.take n)
  | _, _, 0, _ => .nil
  | _, _, _ + 1, .nil => .nil
  | _, _, n + 1, .cons r t => .cons r (RpL.take n t)
theorem RpL.drop : ∀ {vs : List V} {ds : List D} (n : Nat), RpL K fa H vs ds → RpL K fa H (vs.drop n) (ds.drop n)
  | _, _, 0, r => r
  | _, _, _ + 1, .nil => .nil
  | _, _, n + 1, .cons _ t => RpL.drop n t
theorem RpL.set {x : V} {d : D} (r : Rp K fa H x d) : ∀ {vs : List V} {ds : List D} (i : Nat), RpL K fa H vs ds → RpL K fa H (vs.set i x) (ds.set i d)
  | _, _, _, .nil => .nil
  | _, _, 0, .cons _ t => .cons r t
  | _, _, i + 1, .cons q t => .cons q (RpL.set r i t)
theorem RpL.reverse {vs : List V} {ds : List D} (h : RpL K fa H vs ds) : RpL K fa H vs.reverse ds.reverse := by
  induction vs generalizing ds with
  | nil => cases h; exact .nil
  | cons v vs ih =>
    cases h with
    | cons a b =>
      rw [List.reverse_cons, List.reverse_cons]
      exact (ih b).append (.cons a .nil)
theorem RpL.snoc {vs : List V} {ds : List D} {v : V} {d : D} (h : RpL K fa H vs ds) (r : Rp K fa H v d) : RpL K fa H (vs ++ [v]) (ds ++ [d]) := h.append (.cons r .nil)
theorem RpL.ints : ∀ {vs : List V} {ns : List Int}, RpL K fa H vs (ns.map D.int) → vs = ns.map V.int
  | [], [], _ => rfl
  | _ :: _, [], h => by cases h
  | [], _ :: _, h => by cases h
  | v :: vs, n :: ns, h => by
    cases h with
    | cons a b => cases a; rw [RpL.ints b]; rfl
theorem RpL.of_ints : ∀ (ns : List Int), RpL K fa H (ns.map V.int) (ns.map D.int)
  | [] => .nil
  | n :: ns => .cons (.int n) (RpL.of_ints ns)
theorem RpL.bls : ∀ {vs : List V} {bs : List Bool}, RpL K fa H vs (bs.map D.bl) → vs = bs.map V.bl
  | [], [], _ => rfl
  | _ :: _, [], h => by cases h
  | [], _ :: _, h => by cases h
  | v :: vs, n :: ns, h => by
    cases h with
    | cons a b => cases a; rw [RpL.bls b]; rfl
theorem RpL.strs : ∀ {vs : List V} {bs : List Str}, RpL K fa H vs (bs.map D.str) → vs = bs.map V.str
  | [], [], _ => rfl
  | _ :: _, [], h => by cases h
  | [], _ :: _, h => by cases h
  | v :: vs, n :: ns, h => by
    cases h with
    | cons a b => cases a; rw [RpL.strs b]; rfl
theorem RpL.of_strs : ∀ (ns : List Str), RpL K fa H (ns.map V.str) (ns.map D.str)
  | [] => .nil
  | n :: ns => .cons (.str n) (RpL.of_strs ns)
end

section
variable {K : PySem.W.Frag} {fa : Str → Option Addr} {H : Hp} {v : V}
theorem rp_non (h : Rp K fa H v .non) : v = .non := by cases h; rfl
theorem rp_bl {b : Bool} (h : Rp K fa H v (.bl b)) : v = .bl b := by cases h; rfl
theorem rp_int {i : Int} (h : Rp K fa H v (.int i)) : v = .int i := by cases h; rfl
theorem rp_str {x : Str} (h : Rp K fa H v (.str x)) : v = .str x := by cases h; rfl
theorem rp_tup {ds : List D} (h : Rp K fa H v (.tup ds)) : ∃ a xs, v = .ref a ∧ H a = some (.tup xs) ∧ RpL K fa H xs ds := by
  cases h with
  | tup a b => exact ⟨_, _, rfl, a, b⟩
theorem rp_cst {ds : List D} (h : Rp K fa H v (.cst ds)) : ∃ a xs, v = .ref a ∧ SqT K (fun _ => none) a xs ∧ RpL K fa H xs ds := by
  cases h with
  | cst a b => exact ⟨_, _, rfl, a, b⟩
theorem rp_lst {ds : List D} (h : Rp K fa H v (.lst ds)) : ∃ a xs, v = .ref a ∧ H a = some (.lst xs) ∧ RpL K fa H xs ds := by
  cases h with
  | lst a b => exact ⟨_, _, rfl, a, b⟩
theorem rp_dK {ks : List Key} {ds : List D} (h : Rp K fa H v (.dK ks ds)) : ∃ a xs, v = .ref a ∧ H a = some (.dK (ks.zip xs)) ∧ ks.length = xs.length ∧ RpL K fa H xs ds := by
  cases h with
  | dK a l b => exact ⟨_, _, rfl, a, l, b⟩
theorem rp_dT {ks : List (List Key)} {ds : List D} (h : Rp K fa H v (.dT ks ds)) : ∃ a xs, v = .ref a ∧ H a = some (.dT (ks.zip xs)) ∧ ks.length = xs.length ∧ RpL K fa H xs ds := by
  cases h with
  | dT a l b => exact ⟨_, _, rfl, a, l, b⟩
theorem rp_scr {ns : List Int} (h : Rp K fa H v (.scr ns)) : ∃ a, v = .ref a ∧ SqF K H a ns := by
  cases h with
  | scr a => exact ⟨_, rfl, a⟩
theorem rp_fn {f : Str} (h : Rp K fa H v (.fn f)) : ∃ a, v = .ref a ∧ fa f = some a := by
  cases h with
  | fn a => exact ⟨_, rfl, a⟩
theorem rpL_nil {vs : List V} (h : RpL K fa H vs []) : vs = [] := by cases h; rfl
theorem rpL_cons {vs : List V} {d : D} {ds : List D} (h : RpL K fa H vs (d :: ds)) : ∃ x xs, vs = x :: xs ∧ Rp K fa H x d ∧ RpL K fa H xs ds := by
  cases h with
  | cons a b => exact ⟨_, _, rfl, a, b⟩
end
theorem mask_ext {M M' : Addr → Prop} {H H' : Hp} (e : ExtN H H') (m : ∀ a, M' a → Solid H a → M a) : ExtN (mask M H) (mask M' H') := fun b o h n => by
  obtain ⟨h1, h2⟩ := mask_some.mp h
  exact mask_some.mpr ⟨fun z => h1 (m b z ⟨o, h2, n⟩), e b o h2 n⟩

/-! ### data that holds no list: it never leans on a list of the def's own -/
mutual
def D.flat : D → Bool
  | .lst _ => false
  | .dK _ _ => false
  | .dT _ _ => false
  | .tup ds => D.flats ds
  | .cst ds => D.flats ds
  | _ => true
def D.flats : List D → Bool
  | [] => true
  | d :: ds => D.flat d && D.flats ds
end
def isM (o : HO) : Prop := match o with
  | .lst _ => True
  | .dK _ => True
  | .dT _ => True
  | _ => False
/-- the addresses of M hold lists and dicts -/
def MutM (M : Addr → Prop) (H : Hp) : Prop := ∀ a, M a → ∃ o, H a = some o ∧ isM o
section
variable {K : PySem.W.Frag} {fa : Str → Option Addr} {H : Hp} {M0 M : Addr → Prop}
mutual
theorem Rp.remask (mm : MutM M H) (ms : ∀ a, M a → Solid H a) : ∀ (d : D) (v : V), d.flat = true → Rp K fa (mask M0 H) v d → Rp K fa (mask M H) v d
  | .non, _, _, h => by cases h; exact .non
  | .bl _, _, _, h => by cases h; exact .bl _
  | .int _, _, _, h => by cases h; exact .int _
  | .str _, _, _, h => by cases h; exact .str _
  | .tup ds, _, f, h => by
    cases h with
    | tup a b =>
      obtain ⟨_, e⟩ := mask_some.mp a
      refine .tup (mask_some.mpr ⟨fun m => ?_, e⟩) (RpL.remask mm ms ds _ (by simpa [D.flat] using f) b)
      obtain ⟨o', e', i⟩ := mm _ m
      rw [e] at e'; cases e'; exact i
  | .cst ds, _, f, h => by
    cases h with
    | cst a b => exact .cst a (RpL.remask mm ms ds _ (by simpa [D.flat] using f) b)
  | .lst ds, _, f, h => by simp [D.flat] at f
  | .dK ks ds, _, f, h => by simp [D.flat] at f
  | .dT ks ds, _, f, h => by simp [D.flat] at f
  | .scr ns, _, _, h => by
    cases h with
    | scr a =>
      have nm : ∀ {b : Addr} {o : HO}, H b = some o → ¬ isM o → ¬ M b := fun e n m => by
        obtain ⟨o', e', i⟩ := mm _ m
        rw [e] at e'; cases e'; exact n i
      rcases a with ⟨o, h⟩ | h
      · obtain ⟨_, e⟩ := mask_some.mp h
        exact .scr (.inl ⟨o, mask_some.mpr ⟨nm e (fun z => z), e⟩⟩)
      · exact .scr (.inr h)
  | .fn f, _, _, h => by
    cases h with
    | fn a => exact .fn a
theorem RpL.remask (mm : MutM M H) (ms : ∀ a, M a → Solid H a) : ∀ (ds : List D) (vs : List V), D.flats ds = true → RpL K fa (mask M0 H) vs ds → RpL K fa (mask M H) vs ds
  | [], _, _, h => by cases h; exact .nil
  | d :: ds, _, f, h => by
    cases h with
    | cons a b =>
      have f' : d.flat = true ∧ D.flats ds = true := by simpa [D.flats] using f
      exact .cons (Rp.remask mm ms d _ f'.1 a) (RpL.remask mm ms ds _ f'.2 b)
end
end
end DL

set_option Elab.async false
set_option linter.all false
set_option maxRecDepth 100000
set_option maxHeartbeats 2000000
namespace DL
open PySem PySem.Spec PyProof.Rows L2 LamX

/-- what is known of the text: where its defs stand, its exception classes, the tables of code -/
structure Cn where
  fa : Str → Option Addr
  xa : Str → Option Addr
  T : List (Addr × Str)

def OwnP (Γ : Gm) (σ : L2.St) (a : Addr) : Prop := ∃ (i : Nat) (d : D), Γ[i]? = some (.own d) ∧ σ[i]? = some (some (.ref a))
def Msk (P0 : Addr → Prop) (Γ : Gm) (σ : L2.St) : Addr → Prop := fun a => P0 a ∨ OwnP Γ σ a

def OwnAt (K : PySem.W.Frag) (fa : Str → Option Addr) (HM H : Hp) (a : Addr) : D → Prop
  | .lst ds => ∃ xs, H a = some (.lst xs) ∧ RpL K fa HM xs ds
  | .dK ks ds => ∃ xs, H a = some (.dK (ks.zip xs)) ∧ ks.length = xs.length ∧ RpL K fa HM xs ds
  | .dT ks ds => ∃ xs, H a = some (.dT (ks.zip xs)) ∧ ks.length = xs.length ∧ RpL K fa HM xs ds
  | _ => False
theorem OwnAt.mut {K : PySem.W.Frag} {fa : Str → Option Addr} {HM H : Hp} {a : Addr} {d : D} (h : OwnAt K fa HM H a d) : ∃ o, H a = some o ∧ isM o := by
  cases d with
  | lst ds => obtain ⟨xs, e, _⟩ := h; exact ⟨_, e, trivial⟩
  | dK ks ds => obtain ⟨xs, e, _⟩ := h; exact ⟨_, e, trivial⟩
  | dT ks ds => obtain ⟨xs, e, _⟩ := h; exact ⟨_, e, trivial⟩
  | _ => exact absurd h (fun z => z)
theorem isM_tbl {o : HO} (h : isM o) : ∀ ps, o ≠ .tbl ps := fun ps e => by subst e; exact h
theorem OwnAt.ext {K : PySem.W.Frag} {fa : Str → Option Addr} {HM HM' H H' : Hp} {a : Addr} {d : D} (e : ExtN HM HM') (k : ∀ o, H a = some o → isM o → H' a = some o) (h : OwnAt K fa HM H a d) : OwnAt K fa HM' H' a d := by
  cases d with
  | lst ds => obtain ⟨xs, q, r⟩ := h; exact ⟨xs, k _ q trivial, r.ext e _ _⟩
  | dK ks ds => obtain ⟨xs, q, l, r⟩ := h; exact ⟨xs, k _ q trivial, l, r.ext e _ _⟩
  | dT ks ds => obtain ⟨xs, q, l, r⟩ := h; exact ⟨xs, k _ q trivial, l, r.ext e _ _⟩
  | _ => exact absurd h (fun z => z)
/-- owned, then let stand -/
theorem OwnAt.rp {K : PySem.W.Frag} {fa : Str → Option Addr} {HM H : Hp} {a : Addr} {d : D} (k : ∀ o, H a = some o → HM a = some o) (h : OwnAt K fa HM H a d) : Rp K fa HM (.ref a) d := by
  cases d with
  | lst ds => obtain ⟨xs, q, r⟩ := h; exact .lst (k _ q) r
  | dK ks ds => obtain ⟨xs, q, l, r⟩ := h; exact .dK (k _ q) l r
  | dT ks ds => obtain ⟨xs, q, l, r⟩ := h; exact .dT (k _ q) l r
  | _ => exact absurd h (fun z => z)

structure EnvOk (K : PySem.W.Frag) (C : Cn) (P0 : Addr → Prop) (H0 : Hp) (Γ : Gm) (σ : L2.St) (H : Hp) : Prop where
  base : Same H0 H
  tab : Tabs C.T H
  p0 : ∀ a, P0 a → ∃ o, H a = some o ∧ isM o
  dat : ∀ (i : Nat) (d : D), Γ[i]? = some (.dat d) → ∃ v, σ[i]? = some (some v) ∧ Rp K C.fa (mask (Msk P0 Γ σ) H) v d
  own : ∀ (i : Nat) (d : D), Γ[i]? = some (.own d) → ∃ a, σ[i]? = some (some (.ref a)) ∧ H0 a = none ∧ ¬ P0 a ∧ OwnAt K C.fa (mask (Msk P0 Γ σ) H) H a d
  inj : ∀ (i j : Nat) (d e : D) (a : Addr), Γ[i]? = some (.own d) → Γ[j]? = some (.own e) → σ[i]? = some (some (.ref a)) → σ[j]? = some (some (.ref a)) → i = j
  len : Γ.length = σ.length
section
variable {K : PySem.W.Frag} {C : Cn} {P0 : Addr → Prop} {H0 H H' : Hp} {Γ : Gm} {σ : L2.St}
theorem EnvOk.mut (E : EnvOk K C P0 H0 Γ σ H) : MutM (Msk P0 Γ σ) H := fun a m => by
  rcases m with m | ⟨i, d, e1, e2⟩
  · exact E.p0 a m
  · obtain ⟨b, q, _, _, o⟩ := E.own i d e1
    rw [e2] at q
    injection q with q
    injection q with q
    injection q with q
    subst q
    exact o.mut
theorem MutM.solid {M : Addr → Prop} (mm : MutM M H) : ∀ a, M a → Solid H a := fun a m => let ⟨o, e, i⟩ := mm a m; ⟨o, e, isM_tbl i⟩
theorem MutM.ext {M : Addr → Prop} (mm : MutM M H) (e : ExtN H H') : MutM M H' := fun a m => let ⟨o, h, i⟩ := mm a m; ⟨o, e _ _ h (isM_tbl i), i⟩
theorem mask_same {M : Addr → Prop} (e : ExtN H H') : ExtN (mask M H) (mask M H') := mask_ext e fun _ m _ => m
theorem EnvOk.ext (E : EnvOk K C P0 H0 Γ σ H) (e : ExtN H H') (t : Tabs C.T H') (nt : ∀ a ps, H0 a ≠ some (.tbl ps)) : EnvOk K C P0 H0 Γ σ H' where
  base := fun a o h => e a o (E.base a o h) fun ps z => nt a ps (by rw [h, z])
  tab := t
  p0 := fun a m => let ⟨o, h, i⟩ := E.p0 a m; ⟨o, e _ _ h (isM_tbl i), i⟩
  dat := fun i d h => let ⟨v, q, r⟩ := E.dat i d h; ⟨v, q, r.ext (mask_same e) _ _⟩
  own := fun i d h => let ⟨a, q, n, p, r⟩ := E.own i d h; ⟨a, q, n, p, r.ext (mask_same e) fun o h i => e _ _ h (isM_tbl i)⟩
  inj := E.inj
  len := E.len
end
/-- all lists of its own let stand -/
def unown (Γ : Gm) : Gm := Γ.map fun s => match s with
  | .own d => .dat d
  | s => s
theorem unown_own {Γ : Gm} {i : Nat} {d : D} : (unown Γ)[i]? ≠ some (.own d) := by
  unfold unown
  rw [List.getElem?_map]
  cases Γ[i]? with
  | none => simp
  | some s => cases s <;> simp
theorem unown_dat {Γ : Gm} {i : Nat} {d : D} (h : (unown Γ)[i]? = some (.dat d)) : Γ[i]? = some (.dat d) ∨ Γ[i]? = some (.own d) := by
  unfold unown at h
  rw [List.getElem?_map] at h
  cases e : Γ[i]? with
  | none => rw [e] at h; simp at h
  | some s =>
    rw [e] at h
    cases s with
    | no => simp at h
    | dat x => simp at h; subst h; exact .inl rfl
    | own x => simp at h; subst h; exact .inr rfl
theorem not_ownP_unown {Γ : Gm} {σ : L2.St} {a : Addr} : ¬ OwnP (unown Γ) σ a := fun ⟨_, _, h, _⟩ => unown_own h
section
variable {K : PySem.W.Frag} {C : Cn} {P0 : Addr → Prop} {H0 H H' : Hp} {Γ : Gm} {σ : L2.St}
theorem EnvOk.unown (E : EnvOk K C P0 H0 Γ σ H) : EnvOk K C P0 H0 (unown Γ) σ H where
  base := E.base
  tab := E.tab
  p0 := E.p0
  dat := fun i d h => by
    have mk : ExtN (mask (Msk P0 Γ σ) H) (mask (Msk P0 (DL.unown Γ) σ) H) := mask_ext (ExtN.refl H) fun a m _ => m.elim .inl fun z => absurd z not_ownP_unown
    rcases unown_dat h with h | h
    · obtain ⟨v, q, r⟩ := E.dat i d h
      exact ⟨v, q, r.ext mk _ _⟩
    · obtain ⟨a, q, n, p, r⟩ := E.own i d h
      refine ⟨.ref a, q, (r.ext (HM' := mask (Msk P0 (DL.unown Γ) σ) H) (H' := H) mk fun o h _ => h).rp fun o e => mask_some.mpr ⟨fun m => m.elim p fun z => absurd z not_ownP_unown, e⟩⟩
  own := fun i d h => absurd h unown_own
  inj := fun i j d e a h => absurd h unown_own
  len := by
    have h := E.len
    unfold DL.unown
    rw [List.length_map, h]
end

/-! ### what is wanted -/
/-- a reckoning's end: rep H H' b a: in H' (from H) b stands for a -/
def Got {α β : Type} (W : WX) (C : Cn) (rep : Hp → Hp → β → α → Prop) (σ : L2.St) (H : Hp) (r : Rg α) (Q : β → Hp → Prop) : Prop := match r with
  | .ok a => ∀ (b : β) (H' : Hp), ExtN H H' → Tabs C.T H' → rep H H' b a → Q b H'
  | .exc c => ∀ (c' : Addr) (H' : Hp), C.xa c = some c' → ExtN H H' → Tabs C.T H' → W (.ref c') none σ H'
  | .bad => False
def RepMono {α β : Type} (rep : Hp → Hp → β → α → Prop) : Prop := ∀ H H1 H' b a, ExtN H H1 → ExtN H1 H' → rep H1 H' b a → rep H H' b a
theorem Got.at {α β : Type} {W : WX} {C : Cn} {rep : Hp → Hp → β → α → Prop} {σ : L2.St} {H H1 : Hp} {r : Rg α} {Q : β → Hp → Prop} (m : RepMono rep) (e : ExtN H H1) (g : Got W C rep σ H r Q) : Got W C rep σ H1 r Q := by
  cases r with
  | ok a => exact fun b H' e' t q => g b H' (e.trans e') t (m _ _ _ _ _ e e' q)
  | exc c => exact fun c' H' x e' t => g c' H' x (e.trans e') t
  | bad => exact g
theorem Got.bind {α β γ δ : Type} {W : WX} {C : Cn} {rep : Hp → Hp → β → α → Prop} {rep' : Hp → Hp → δ → γ → Prop} {σ : L2.St} {H : Hp} {r : Rg α} {g : α → Rg γ} {Q : δ → Hp → Prop} {Q1 : β → Hp → Prop} (m : RepMono rep')
    (h : Got W C rep' σ H (r.bind g) Q) (k : ∀ (a : α) (b : β) (H1 : Hp), r = .ok a → ExtN H H1 → Tabs C.T H1 → rep H H1 b a → Got W C rep' σ H1 (g a) Q → Q1 b H1) : Got W C rep σ H r Q1 := by
  cases r with
  | ok a => exact fun b H' e' t q => k a b H' rfl e' t q (Got.at m e' h)
  | exc c => exact h
  | bad => exact h
theorem Got.imp {α β : Type} {W : WX} {C : Cn} {rep rep' : Hp → Hp → β → α → Prop} {σ : L2.St} {H : Hp} {r : Rg α} {Q Q' : β → Hp → Prop} (g : Got W C rep σ H r Q) (k : ∀ b a H', ExtN H H' → rep' H H' b a → rep H H' b a) (q : ∀ b H', Q b H' → Q' b H') :
    Got W C rep' σ H r Q' := by
  cases r with
  | ok a => exact fun b H' e' t p => q _ _ (g b H' e' t (k b a H' e' p))
  | exc c => exact g
  | bad => exact g

def repD (K : PySem.W.Frag) (C : Cn) (M : Addr → Prop) : Hp → Hp → V → D → Prop := fun _ H' v d => Rp K C.fa (mask M H') v d
def repL (K : PySem.W.Frag) (C : Cn) (M : Addr → Prop) : Hp → Hp → List V → List D → Prop := fun _ H' v d => RpL K C.fa (mask M H') v d
/-- a value that may be a new list or dict -/
def FrV (K : PySem.W.Frag) (fa : Str → Option Addr) (M : Addr → Prop) (H H' : Hp) (v : V) (d : D) : Prop := match d with
  | .lst ds => ∃ a, v = .ref a ∧ ¬ Solid H a ∧ OwnAt K fa (mask (fun b => M b ∨ b = a) H') H' a (.lst ds)
  | .dK ks ds => ∃ a, v = .ref a ∧ ¬ Solid H a ∧ OwnAt K fa (mask (fun b => M b ∨ b = a) H') H' a (.dK ks ds)
  | .dT ks ds => ∃ a, v = .ref a ∧ ¬ Solid H a ∧ OwnAt K fa (mask (fun b => M b ∨ b = a) H') H' a (.dT ks ds)
  | d => Rp K fa (mask M H') v d
def repF (K : PySem.W.Frag) (C : Cn) (M : Addr → Prop) : Hp → Hp → V → D → Prop := fun H H' v d => FrV K C.fa M H H' v d
theorem repD_mono {K : PySem.W.Frag} {C : Cn} {M : Addr → Prop} : RepMono (repD K C M) := fun _ _ _ _ _ _ _ h => h
theorem repL_mono {K : PySem.W.Frag} {C : Cn} {M : Addr → Prop} : RepMono (repL K C M) := fun _ _ _ _ _ _ _ h => h
theorem repF_mono {K : PySem.W.Frag} {C : Cn} {M : Addr → Prop} : RepMono (repF K C M) := fun H H1 H' b a e e' h => by
  cases a with
  | lst ds => obtain ⟨x, q, n, o⟩ := h; exact ⟨x, q, fun z => n (z.ext e), o⟩
  | dK ks ds => obtain ⟨x, q, n, o⟩ := h; exact ⟨x, q, fun z => n (z.ext e), o⟩
  | dT ks ds => obtain ⟨x, q, n, o⟩ := h; exact ⟨x, q, fun z => n (z.ext e), o⟩
  | _ => exact h
theorem FrV.rp {K : PySem.W.Frag} {C : Cn} {M : Addr → Prop} {H H' : Hp} {v : V} {d : D} (mm : MutM M H) (h : repF K C M H H' v d) : repD K C M H H' v d := by
  cases d with
  | lst ds => obtain ⟨x, rfl, n, o⟩ := h; exact (o.ext (HM' := mask M H') (mask_ext (ExtN.refl _) fun _ m _ => .inl m) fun _ e _ => e).rp fun u e => mask_some.mpr ⟨fun m => n (mm.solid x m), e⟩
  | dK ks ds => obtain ⟨x, rfl, n, o⟩ := h; exact (o.ext (HM' := mask M H') (mask_ext (ExtN.refl _) fun _ m _ => .inl m) fun _ e _ => e).rp fun u e => mask_some.mpr ⟨fun m => n (mm.solid x m), e⟩
  | dT ks ds => obtain ⟨x, rfl, n, o⟩ := h; exact (o.ext (HM' := mask M H') (mask_ext (ExtN.refl _) fun _ m _ => .inl m) fun _ e _ => e).rp fun u e => mask_some.mpr ⟨fun m => n (mm.solid x m), e⟩
  | _ => exact h
theorem Got.fr {K : PySem.W.Frag} {W : WX} {C : Cn} {M : Addr → Prop} {σ : L2.St} {H : Hp} {r : R} {Q : VK} (mm : MutM M H) (g : Got W C (repD K C M) σ H r Q) : Got W C (repF K C M) σ H r Q :=
  g.imp (fun _ _ _ _ h => FrV.rp mm h) fun _ _ q => q
/-- a test's end -/
def GotT (W : WX) (C : Cn) (σ : L2.St) (H : Hp) (r : R) (Q : Bool → Hp → Prop) : Prop := match r with
  | .ok (.bl b) => ∀ H' : Hp, ExtN H H' → Tabs C.T H' → Q b H'
  | .exc c => ∀ (c' : Addr) (H' : Hp), C.xa c = some c' → ExtN H H' → Tabs C.T H' → W (.ref c') none σ H'
  | _ => False
theorem GotT.at {W : WX} {C : Cn} {σ : L2.St} {H H1 : Hp} {r : R} {Q : Bool → Hp → Prop} (e : ExtN H H1) (g : GotT W C σ H r Q) : GotT W C σ H1 r Q := by
  cases r with
  | ok d => cases d with
    | bl b => exact fun H' e' t => g H' (e.trans e') t
    | _ => exact g
  | exc c => exact fun c' H' x e' t => g c' H' x (e.trans e') t
  | bad => exact g

/-! ### the judgements -/
/-- the base bears no table -/
def NoTb (H0 : Hp) : Prop := ∀ a ps, H0 a ≠ some (.tbl ps)
structure Here (K : PySem.W.Frag) (C : Cn) (P0 : Addr → Prop) (H0 : Hp) (Γ : Gm) (σ : L2.St) (H : Hp) : Prop where
  e : EnvOk K C P0 H0 Γ σ H
  nt : NoTb H0
theorem Here.ext {K : PySem.W.Frag} {C : Cn} {P0 : Addr → Prop} {H0 H H' : Hp} {Γ : Gm} {σ : L2.St} (E : Here K C P0 H0 Γ σ H) (e : ExtN H H') (t : Tabs C.T H') : Here K C P0 H0 Γ σ H' := ⟨E.e.ext e t E.nt, E.nt⟩
theorem Here.unown {K : PySem.W.Frag} {C : Cn} {P0 : Addr → Prop} {H0 H : Hp} {Γ : Gm} {σ : L2.St} (E : Here K C P0 H0 Γ σ H) : Here K C P0 H0 (unown Γ) σ H := ⟨E.e.unown, E.nt⟩
def rdE (K : PySem.W.Frag) (C : Cn) (W : WX) (f : Gm → R) : TE := fun σ H Q => ∃ Γ P0 H0, Here K C P0 H0 Γ σ H ∧ Got W C (repD K C (Msk P0 Γ σ)) σ H (f Γ) Q
def rdF (K : PySem.W.Frag) (C : Cn) (W : WX) (f : Gm → R) : TE := fun σ H Q => ∃ Γ P0 H0, Here K C P0 H0 Γ σ H ∧ Got W C (repF K C (Msk P0 Γ σ)) σ H (f Γ) Q
def rdA (K : PySem.W.Frag) (C : Cn) (W : WX) (f : Gm → Rg (List D)) : TA := fun σ H Q => ∃ Γ P0 H0, Here K C P0 H0 Γ σ H ∧ Got W C (repL K C (Msk P0 Γ σ)) σ H (f Γ) Q
def rdT (K : PySem.W.Frag) (C : Cn) (W : WX) (f : Gm → R) : TT := fun σ H Q => ∃ Γ P0 H0, Here K C P0 H0 Γ σ H ∧ GotT W C σ H (f Γ) Q
abbrev DE (X : Cx) (C : Cn) (W : WX) (e : Expr) (f : Gm → R) : Prop := PE X e (rdE X.K C W f)
abbrev DF (X : Cx) (C : Cn) (W : WX) (e : Expr) (f : Gm → R) : Prop := PE X e (rdF X.K C W f)
abbrev DA (X : Cx) (C : Cn) (W : WX) (es : List Expr) (f : Gm → Rg (List D)) : Prop := PA X es (rdA X.K C W f)
abbrev DT (X : Cx) (C : Cn) (W : WX) (e : Expr) (f : Gm → R) : Prop := PT X e (rdT X.K C W f)
theorem PE.to {X : Cx} {e : Expr} {t t' : TE} (h : PE X e t) (k : ∀ σ H Q, t' σ H Q → t σ H Q) : PE X e t' := ⟨fun pins s σ H Q I q => h.run pins s σ H Q I (k σ H Q q)⟩
theorem PT.to {X : Cx} {e : Expr} {t t' : TT} (h : PT X e t) (k : ∀ σ H Q, t' σ H Q → t σ H Q) : PT X e t' := ⟨fun pins s σ H Q I q => h.run pins s σ H Q I (k σ H Q q)⟩
theorem PW.to {X : Cx} {e : Expr} {t t' : TT} (h : PW X e t) (k : ∀ σ H Q, t' σ H Q → t σ H Q) : PW X e t' := ⟨fun wh pins s σ H Q I q => h.run wh pins s σ H Q I (k σ H Q q)⟩
theorem PA.to {X : Cx} {e : List Expr} {t t' : TA} (h : PA X e t) (k : ∀ σ H Q, t' σ H Q → t σ H Q) : PA X e t' := ⟨fun pos pins s σ H Q I q => h.run pos pins s σ H Q I (k σ H Q q)⟩
theorem PS.to {X : Cx} {e : Stmt} {t t' : TS} (h : PS X e t) (k : ∀ D σ H, t' D σ H → t D σ H) : PS X e t' := ⟨fun pins s σ H D I q => h.run pins s σ H D I (k D σ H q)⟩
theorem PSs.to {X : Cx} {e : List Stmt} {t t' : TS} (h : PSs X e t) (k : ∀ D σ H, t' D σ H → t D σ H) : PSs X e t' := ⟨fun pins s σ H D I q => h.run pins s σ H D I (k D σ H q)⟩

section
variable {X : Cx} {C : Cn} {W : WX} {e a b c : Expr} {f fa fb fc : Gm → R} {pos : Pos}
theorem DF.de (h : DF X C W e f) : DE X C W e f := PE.to h fun σ H Q ⟨Γ, P0, H0, E, g⟩ => ⟨Γ, P0, H0, E, g.fr E.e.mut⟩

/-! ### names, constants -/
def eVar (i : Nat) : Gm → R := fun Γ => match Γ[i]? with
  | some (.dat d) => .ok d
  | _ => .bad
theorem de_var (i : Nat) {x : Str} (hN : X.N[i]? = some x := by rfl) (hv : Vis X.env.scope x := by first | exact Or.inl rfl | exact Or.inr (Or.inl rfl) | exact Or.inr (Or.inr rfl)) (hd : (x == ("__debug__" : Str)) = false := by decide)
    (hcd : (x == ("__classdict__" : Str)) = false := by decide) : DE X C W (.Name x pos) (eVar i) := PE.to (pe_var hN hv hd hcd) fun σ H Q ⟨Γ, P0, H0, E, g⟩ => by
  unfold eVar at g
  split at g
  · rename_i d h
    obtain ⟨v, q, r⟩ := E.e.dat i d h
    exact ⟨v, q, g v H (ExtN.refl H) E.e.tab r⟩
  · exact g.elim
def eC (d : D) : Gm → R := fun _ => .ok d
theorem de_c {v : V} {d : D} {t : TE} (h : PE X e t) (k : ∀ σ H Q, Q v H → t σ H Q) (r : ∀ H, Rp X.K C.fa H v d) : DE X C W e (eC d) := PE.to h fun σ H Q ⟨Γ, P0, H0, E, g⟩ => k σ H Q (g v H (ExtN.refl H) E.e.tab (r _))
theorem de_int {i : Int} {j : Nat} : DE X C W (.Constant (.int i) j pos) (eC (.int i)) := de_c pe_int (fun _ _ _ h => h) fun _ => .int i
theorem de_bl {i : Bool} {j : Nat} : DE X C W (.Constant (.bool i) j pos) (eC (.bl i)) := de_c pe_bl (fun _ _ _ h => h) fun _ => .bl i
theorem de_str {i : Str} {j : Nat} : DE X C W (.Constant (.str i) j pos) (eC (.str i)) := de_c pe_str (fun _ _ _ h => h) fun _ => .str i
theorem de_non {j : Nat} : DE X C W (.Constant .none j pos) (eC .non) := de_c pe_non (fun _ _ _ h => h) fun _ => .non
/-- a module's constant -/
theorem de_glob {x : Str} {v : V} {u : Value} {d : D} (hm : X.mg x = some u) (r : RelV v u) (p : ∀ H, Rp X.K C.fa H v d) (hg : Gl X x := by rfl) (hd : (x == ("__debug__" : Str)) = false := by decide) : DE X C W (.Name x pos) (eC d) :=
  de_c (pe_glob hg hm r hd) (fun _ _ _ h => h) p

/-! ### two places -/
def VOp (K : PySem.W.Frag) (C : Cn) (r : R2) (g : D → D → R) : Prop := ∀ (W : WX) (M : Addr → Prop) (σ : L2.St) (H : Hp) (x y : V) (d e : D) (Q : VK), MutM M H → Tabs C.T H → Rp K C.fa (mask M H) x d → Rp K C.fa (mask M H) y e → Got W C (repD K C M) σ H (g d e) Q → r x y H Q
def VOpF (K : PySem.W.Frag) (C : Cn) (r : R2) (g : D → D → R) : Prop := ∀ (W : WX) (M : Addr → Prop) (σ : L2.St) (H : Hp) (x y : V) (d e : D) (Q : VK), MutM M H → Tabs C.T H → Rp K C.fa (mask M H) x d → Rp K C.fa (mask M H) y e → Got W C (repF K C M) σ H (g d e) Q → r x y H Q
def e2 (g : D → D → R) (fa fb : Gm → R) : Gm → R := fun Γ => (fa Γ).bind fun d => (fb Γ).bind fun e => g d e
theorem rd2 {K : PySem.W.Frag} {r : R2} {g : D → D → R} (hv : VOp K C r g) {σ : L2.St} {H : Hp} {Q : VK} (h : rdE K C W (e2 g fa fb) σ H Q) : tOp r (rdE K C W fa) (rdE K C W fb) σ H Q := by
  obtain ⟨Γ, P0, H0, E, g⟩ := h
  refine ⟨Γ, P0, H0, E, Got.bind repD_mono g fun d x H1 _ e1 t1 r1 g1 => ?_⟩
  refine ⟨Γ, P0, H0, E.ext e1 t1, Got.bind repD_mono g1 fun e y H2 _ e2 t2 r2 g2 => ?_⟩
  exact hv W _ σ H2 x y d e Q ((E.e.mut.ext e1).ext e2) t2 (Rp.ext (mask_same e2) _ _ r1) r2 g2
theorem rd2F {K : PySem.W.Frag} {r : R2} {g : D → D → R} (hv : VOpF K C r g) {σ : L2.St} {H : Hp} {Q : VK} (h : rdF K C W (e2 g fa fb) σ H Q) : tOp r (rdE K C W fa) (rdE K C W fb) σ H Q := by
  obtain ⟨Γ, P0, H0, E, g⟩ := h
  refine ⟨Γ, P0, H0, E, Got.bind repF_mono g fun d x H1 _ e1 t1 r1 g1 => ?_⟩
  refine ⟨Γ, P0, H0, E.ext e1 t1, Got.bind repF_mono g1 fun e y H2 _ e2 t2 r2 g2 => ?_⟩
  exact hv W _ σ H2 x y d e Q ((E.e.mut.ext e1).ext e2) t2 (Rp.ext (mask_same e2) _ _ r1) r2 g2
theorem de_op {op : Operator} {r : R2} {g : D → D → R} (ho : OpR X (binaryOp op) r) (hv : VOp X.K C r g) (ha : DE X C W a fa) (hb : DE X C W b fb) : DE X C W (.BinOp a op b pos) (e2 g fa fb) := PE.to (pe_op ho ha hb) fun _ _ _ h => rd2 hv h
theorem df_op {op : Operator} {r : R2} {g : D → D → R} (ho : OpR X (binaryOp op) r) (hv : VOpF X.K C r g) (ha : DE X C W a fa) (hb : DE X C W b fb) : DF X C W (.BinOp a op b pos) (e2 g fa fb) := PE.to (pe_op ho ha hb) fun _ _ _ h => rd2F hv h
theorem de_cmp {op : CmpOp} {r : R2} {g : D → D → R} (ho : OpR X (compareOp op) r) (hv : VOp X.K C r g) (ha : DE X C W a fa) (hb : DE X C W b fb) (hm : behindInMarks op b = false := by rfl) : DE X C W (.Compare a [op] [b] pos) (e2 g fa fb) :=
  PE.to (pe_cmpR ho ha hb hm) fun _ _ _ h => rd2 hv h
/-- from a value that is True or False to a test's -/
theorem Got.ofT {K : PySem.W.Frag} {M : Addr → Prop} {σ : L2.St} {H : Hp} {r : R} {Q : Bool → Hp → Prop} (g : GotT W C σ H r Q) : Got W C (repD K C M) σ H r fun x H' => ∃ k, x = .bl k ∧ Q k H' := by
  cases r with
  | ok d => cases d with
    | bl b => exact fun v H' e t q => by cases q; exact ⟨b, rfl, g H' e t⟩
    | _ => exact g.elim
  | exc c => exact g
  | bad => exact g
theorem dt_cmp {op : CmpOp} {r : R2} {g : D → D → R} (ho : OpR X (compareOp op) r) (hv : VOp X.K C r g) (ha : DE X C W a fa) (hb : DE X C W b fb) (hm : behindInMarks op b = false := by rfl) : DT X C W (.Compare a [op] [b] pos) (e2 g fa fb) :=
  PT.to (pt_cmpR ho ha hb hm) fun σ H Q ⟨Γ, P0, H0, E, g⟩ => rd2 hv ⟨Γ, P0, H0, E, Got.ofT g⟩
theorem dt_val (h : DE X C W e f) (he : ∀ whole, isTrue e X.env whole = (do let v ← whole; standAt e.pos; holding [v] (truthy v)) := by intro _; rfl) : DT X C W e f :=
  PT.to (pt_val h he) fun σ H Q ⟨Γ, P0, H0, E, g⟩ => ⟨Γ, P0, H0, E, Got.ofT g⟩

/-! ### and, or, not, if -/
def eAnd (fa fb : Gm → R) : Gm → R := fun Γ => (fa Γ).bind fun d => match d with
  | .bl true => fb Γ
  | .bl false => .ok (.bl false)
  | _ => .bad
def eOr (fa fb : Gm → R) : Gm → R := fun Γ => (fa Γ).bind fun d => match d with
  | .bl true => .ok (.bl true)
  | .bl false => fb Γ
  | _ => .bad
def eNot (fa : Gm → R) : Gm → R := fun Γ => (fa Γ).bind fun d => match d with
  | .bl b => .ok (.bl (!b))
  | _ => .bad
def eIf (ft fa fb : Gm → R) : Gm → R := fun Γ => (ft Γ).bind fun d => match d with
  | .bl true => fa Γ
  | .bl false => fb Γ
  | _ => .bad
theorem GotT.bind {σ : L2.St} {H : Hp} {r : R} {g : D → R} {Q Q1 : Bool → Hp → Prop} (h : GotT W C σ H (r.bind g) Q) (hg : ∀ d, (∀ b, d ≠ .bl b) → g d = .bad)
    (k : ∀ (b : Bool) (H1 : Hp), ExtN H H1 → Tabs C.T H1 → GotT W C σ H1 (g (.bl b)) Q → Q1 b H1) : GotT W C σ H r Q1 := by
  cases r with
  | ok d => cases d with
    | bl b => exact fun H' e t => k b H' e t (GotT.at e h)
    | _ =>
      rw [Rg.bind_ok, hg _ (fun b z => by cases z)] at h
      exact h
  | exc c => exact h
  | bad => exact h
theorem GotT.bindD {K : PySem.W.Frag} {M : Addr → Prop} {σ : L2.St} {H : Hp} {r : R} {g : D → R} {Q1 : Bool → Hp → Prop} {Q : VK} (h : Got W C (repD K C M) σ H (r.bind g) Q) (hg : ∀ d, (∀ b, d ≠ .bl b) → g d = .bad)
    (k : ∀ (b : Bool) (H1 : Hp), ExtN H H1 → Tabs C.T H1 → Got W C (repD K C M) σ H1 (g (.bl b)) Q → Q1 b H1) : GotT W C σ H r Q1 := by
  cases r with
  | ok d => cases d with
    | bl b => exact fun H' e t => k b H' e t (Got.at repD_mono e h)
    | _ =>
      rw [Rg.bind_ok, hg _ (fun b z => by cases z)] at h
      exact h
  | exc c => exact h
  | bad => exact h
theorem de_one {op : BoolOp} (h : DE X C W a fa) : DE X C W (.BoolOp op [a] pos) fa := pe_one h
theorem de_and {rest : List Expr} (ha : DE X C W a fa) (hb : DE X C W (.BoolOp .And (b :: rest) pos) fb) : DE X C W (.BoolOp .And (a :: b :: rest) pos) (eAnd fa fb) := PE.to (pe_and ha hb) fun σ H Q ⟨Γ, P0, H0, E, g⟩ => by
  refine ⟨Γ, P0, H0, E, Got.bind repD_mono g fun d x H1 _ e1 t1 r1 g1 => ?_⟩
  cases d with
  | bl k =>
    cases r1
    cases k with
    | true => exact ⟨true, rfl, (if_pos rfl).mpr ⟨Γ, P0, H0, E.ext e1 t1, g1⟩⟩
    | false => exact ⟨false, rfl, (if_neg Bool.false_ne_true).mpr (g1 _ H1 (ExtN.refl H1) t1 (.bl false))⟩
  | _ => exact g1.elim
theorem de_or {rest : List Expr} (ha : DE X C W a fa) (hb : DE X C W (.BoolOp .Or (b :: rest) pos) fb) : DE X C W (.BoolOp .Or (a :: b :: rest) pos) (eOr fa fb) := PE.to (pe_or ha hb) fun σ H Q ⟨Γ, P0, H0, E, g⟩ => by
  refine ⟨Γ, P0, H0, E, Got.bind repD_mono g fun d x H1 _ e1 t1 r1 g1 => ?_⟩
  cases d with
  | bl k =>
    cases r1
    cases k with
    | false => exact ⟨false, rfl, (if_neg Bool.false_ne_true).mpr ⟨Γ, P0, H0, E.ext e1 t1, g1⟩⟩
    | true => exact ⟨true, rfl, (if_pos rfl).mpr (g1 _ H1 (ExtN.refl H1) t1 (.bl true))⟩
  | _ => exact g1.elim
theorem de_not (ha : DE X C W a fa) : DE X C W (.UnaryOp .Not a pos) (eNot fa) := PE.to (pe_not ha) fun σ H Q ⟨Γ, P0, H0, E, g⟩ => by
  refine ⟨Γ, P0, H0, E, Got.bind repD_mono g fun d x H1 _ e1 t1 r1 g1 => ?_⟩
  cases d with
  | bl k =>
    cases r1
    exact ⟨k, rfl, g1 _ H1 (ExtN.refl H1) t1 (.bl _)⟩
  | _ => exact g1.elim
abbrev DW (X : Cx) (C : Cn) (W : WX) (e : Expr) (f : Gm → R) : Prop := PW X e (rdT X.K C W f)
theorem dw_and1 (ha : DT X C W a fa) : DW X C W (.BoolOp .And [a] pos) fa := pw_and1 ha
theorem dw_or1 (ha : DT X C W a fa) : DW X C W (.BoolOp .Or [a] pos) fa := pw_or1 ha
theorem dw_and {rest : List Expr} (ha : DT X C W a fa) (hb : DW X C W (.BoolOp .And (b :: rest) pos) fb) : DW X C W (.BoolOp .And (a :: b :: rest) pos) (eAnd fa fb) := PW.to (pw_and ha hb) fun σ H Q ⟨Γ, P0, H0, E, g⟩ => by
  refine ⟨Γ, P0, H0, E, GotT.bind g (fun d hd => by cases d <;> first | rfl | exact absurd rfl (hd _)) fun k H1 e1 t1 g1 => ?_⟩
  cases k with
  | true => exact (if_pos rfl).mpr ⟨Γ, P0, H0, E.ext e1 t1, g1⟩
  | false => exact (if_neg Bool.false_ne_true).mpr (g1 H1 (ExtN.refl H1) t1)
theorem dw_or {rest : List Expr} (ha : DT X C W a fa) (hb : DW X C W (.BoolOp .Or (b :: rest) pos) fb) : DW X C W (.BoolOp .Or (a :: b :: rest) pos) (eOr fa fb) := PW.to (pw_or ha hb) fun σ H Q ⟨Γ, P0, H0, E, g⟩ => by
  refine ⟨Γ, P0, H0, E, GotT.bind g (fun d hd => by cases d <;> first | rfl | exact absurd rfl (hd _)) fun k H1 e1 t1 g1 => ?_⟩
  cases k with
  | false => exact (if_neg Bool.false_ne_true).mpr ⟨Γ, P0, H0, E.ext e1 t1, g1⟩
  | true => exact (if_pos rfl).mpr (g1 H1 (ExtN.refl H1) t1)
theorem DW.dt (h : DW X C W e f) : DT X C W e f := PW.pt h
theorem dt_not (ha : DT X C W a fa) : DT X C W (.UnaryOp .Not a pos) (eNot fa) := PT.to (pt_not ha) fun σ H Q ⟨Γ, P0, H0, E, g⟩ =>
  ⟨Γ, P0, H0, E, GotT.bind g (fun d hd => by cases d <;> first | rfl | exact absurd rfl (hd _)) fun k H1 e1 t1 g1 => g1 H1 (ExtN.refl H1) t1⟩
theorem de_if (hc : DT X C W c fc) (ha : DE X C W a fa) (hb : DE X C W b fb) : DE X C W (.IfExp c a b pos) (eIf fc fa fb) := PE.to (pe_ifExp hc ha hb) fun σ H Q ⟨Γ, P0, H0, E, g⟩ => by
  refine ⟨Γ, P0, H0, E, GotT.bindD g (fun d hd => by cases d <;> first | rfl | exact absurd rfl (hd _)) fun k H1 e1 t1 g1 => ?_⟩
  cases k with
  | true => exact (if_pos rfl).mpr ⟨Γ, P0, H0, E.ext e1 t1, g1⟩
  | false => exact (if_neg Bool.false_ne_true).mpr ⟨Γ, P0, H0, E.ext e1 t1, g1⟩
/-! ### chains -/
def eChain (g g' : D → D → R) (fa fb fc : Gm → R) : Gm → R := fun Γ => (fa Γ).bind fun d => (fb Γ).bind fun e => (g d e).bind fun k => match k with
  | .bl true => (fc Γ).bind fun c => g' e c
  | .bl false => .ok (.bl false)
  | _ => .bad
theorem rd_chain {K : PySem.W.Frag} {r r' : R2} {g g' : D → D → R} (hv : VOp K C r g) (hv' : VOp K C r' g') {σ : L2.St} {H : Hp} {Q : VK} (h : rdE K C W (eChain g g' fa fb fc) σ H Q) :
    tChain r r' (rdE K C W fa) (rdE K C W fb) (rdE K C W fc) σ H Q := by
  obtain ⟨Γ, P0, H0, E, q⟩ := h
  refine ⟨Γ, P0, H0, E, Got.bind repD_mono q fun d x H1 _ e1 t1 r1 g1 => ?_⟩
  refine ⟨Γ, P0, H0, E.ext e1 t1, Got.bind repD_mono g1 fun e y H2 _ e2 t2 r2 g2 => ?_⟩
  refine hv W _ σ H2 x y d e _ ((E.e.mut.ext e1).ext e2) t2 (Rp.ext (mask_same e2) _ _ r1) r2 (Got.bind repD_mono g2 fun k z H3 _ e3 t3 r3 g3 => ?_)
  cases k with
  | bl k =>
    cases r3
    cases k with
    | true =>
      refine ⟨true, rfl, (if_pos rfl).mpr ⟨Γ, P0, H0, ((E.ext e1 t1).ext e2 t2).ext e3 t3, Got.bind repD_mono g3 fun c w H4 _ e4 t4 r4 g4 => ?_⟩⟩
      exact hv' W _ σ H4 y w e c Q ((((E.e.mut.ext e1).ext e2).ext e3).ext e4) t4 (Rp.ext (mask_same (e3.trans e4)) _ _ r2) r4 g4
    | false => exact ⟨false, rfl, (if_neg Bool.false_ne_true).mpr (g3 _ H3 (ExtN.refl H3) t3 (.bl false))⟩
  | _ => exact g3.elim
theorem de_chain {op op' : CmpOp} {r r' : R2} {g g' : D → D → R} (ho : OpR X (compareOp op) r) (ho' : OpR X (compareOp op') r') (hv : VOp X.K C r g) (hv' : VOp X.K C r' g') (ha : DE X C W a fa) (hb : DE X C W b fb) (hc : DE X C W c fc)
    (hm : lastMarks [op, op'] [b, c] = false := by with_unfolding_all rfl) : DE X C W (.Compare a [op, op'] [b, c] pos) (eChain g g' fa fb fc) := PE.to (pe_chain ho ho' ha hb hc hm) fun _ _ _ h => rd_chain hv hv' h
theorem dt_chain {op op' : CmpOp} {r r' : R2} {g g' : D → D → R} (ho : OpR X (compareOp op) r) (ho' : OpR X (compareOp op') r') (hv : VOp X.K C r g) (hv' : VOp X.K C r' g') (ha : DE X C W a fa) (hb : DE X C W b fb) (hc : DE X C W c fc)
    (hm : lastMarks [op, op'] [b, c] = false := by with_unfolding_all rfl) : DT X C W (.Compare a [op, op'] [b, c] pos) (eChain g g' fa fb fc) :=
  PT.to (pt_chain ho ho' ha hb hc hm) fun σ H Q ⟨Γ, P0, H0, E, g⟩ => rd_chain hv hv' ⟨Γ, P0, H0, E, Got.ofT g⟩
end
end DL

set_option Elab.async false
set_option linter.all false
set_option maxRecDepth 100000
set_option maxHeartbeats 2000000
namespace DL
open PySem PySem.Spec PyProof.Rows L2 LamX

/-! ### heaps that grow -/
theorem ext_new {H : Hp} {p : Addr} {o : HO} (h : H p = none) : ExtN H (upd H p o) := fun b u e _ => by rw [upd_ne (ne_of_none e h)]; exact e
theorem tabs_new {T : List (Addr × Str)} {H : Hp} {p : Addr} {o : HO} (t : Tabs T H) (h : H p = none) : Tabs T (upd H p o) := t.ext fun b u e => by rw [upd_ne (ne_of_none e h)]; exact e
theorem tabs_mut {T : List (Addr × Str)} {H : Hp} {p : Addr} {o u : HO} (t : Tabs T H) (h : H p = some u) (m : isM u) : Tabs T (upd H p o) := fun q hq => by
  obtain ⟨ps, h1, h2, h3⟩ := t q hq
  refine ⟨ps, ?_, h2, fun pos cv hc => ?_⟩
  · rw [upd_ne (ne_of h1 h (fun z => by subst z; exact m))]; exact h1
  · obtain ⟨c, e1, e2⟩ := h3 pos cv hc
    refine ⟨c, e1, ?_⟩
    rw [upd_ne (ne_of e2 h (fun z => by subst z; exact m))]; exact e2

/-! ### slots change -/
section
variable {K : PySem.W.Frag} {C : Cn} {P0 : Addr → Prop} {H0 H H' : Hp} {Γ : Gm} {σ : L2.St}
theorem ownP_set {i : Nat} {s : Sl} {ov : Option V} {b : Addr} (hs : ∀ d, s ≠ .own d) (h : OwnP (Γ.set i s) (σ.set i ov) b) : OwnP Γ σ b := by
  obtain ⟨j, d, e1, e2⟩ := h
  by_cases hj : i = j
  · subst hj
    by_cases hl : i < Γ.length
    · rw [List.getElem?_set_self hl] at e1
      exact absurd (Option.some.inj e1) (hs d)
    · rw [List.getElem?_set, if_pos rfl, if_neg hl] at e1; cases e1
  · rw [List.getElem?_set_ne hj] at e1 e2
    exact ⟨j, d, e1, e2⟩
/-- data is put at a slot -/
theorem EnvOk.setD {i : Nat} {d : D} {v : V} (E : EnvOk K C P0 H0 Γ σ H) (r : Rp K C.fa (mask (Msk P0 Γ σ) H) v d) : EnvOk K C P0 H0 (Γ.set i (.dat d)) (σ.set i (some v)) H := by
  have mk : ExtN (mask (Msk P0 Γ σ) H) (mask (Msk P0 (Γ.set i (.dat d)) (σ.set i (some v))) H) := mask_ext (ExtN.refl H) fun a m _ => m.elim .inl fun z => .inr (ownP_set (fun _ q => by cases q) z)
  refine ⟨E.base, E.tab, E.p0, fun j e h => ?_, fun j e h => ?_, fun j l e e' a h1 h2 h3 h4 => ?_, by rw [List.length_set, List.length_set]; exact E.len⟩
  · by_cases hj : i = j
    · subst hj
      by_cases hl : i < Γ.length
      · rw [List.getElem?_set_self hl] at h
        cases h
        exact ⟨v, by rw [List.getElem?_set_self (by rw [← E.len]; exact hl)], r.ext mk _ _⟩
      · rw [List.getElem?_set, if_pos rfl, if_neg hl] at h; cases h
    · rw [List.getElem?_set_ne hj] at h
      obtain ⟨w, q, r'⟩ := E.dat j e h
      exact ⟨w, by rw [List.getElem?_set_ne hj]; exact q, r'.ext mk _ _⟩
  · by_cases hj : i = j
    · subst hj
      by_cases hl : i < Γ.length
      · rw [List.getElem?_set_self hl] at h; cases h
      · rw [List.getElem?_set, if_pos rfl, if_neg hl] at h; cases h
    · rw [List.getElem?_set_ne hj] at h
      obtain ⟨a, q, n, p, o⟩ := E.own j e h
      exact ⟨a, by rw [List.getElem?_set_ne hj]; exact q, n, p, o.ext mk fun _ e _ => e⟩
  · have nj : ∀ k x, (Γ.set i (.dat d))[k]? = some (.own x) → i ≠ k := fun k x h z => by
      subst z
      by_cases hl : i < Γ.length
      · rw [List.getElem?_set_self hl] at h; cases h
      · rw [List.getElem?_set, if_pos rfl, if_neg hl] at h; cases h
    have n1 := nj j e h1
    have n2 := nj l e' h2
    rw [List.getElem?_set_ne n1] at h1 h3
    rw [List.getElem?_set_ne n2] at h2 h4
    exact E.inj j l e e' a h1 h2 h3 h4
/-- a slot is forgotten -/
theorem EnvOk.kill {i : Nat} (E : EnvOk K C P0 H0 Γ σ H) : EnvOk K C P0 H0 (Γ.set i .no) σ H := by
  have op : ∀ b, OwnP (Γ.set i .no) σ b → OwnP Γ σ b := fun b ⟨j, d, e1, e2⟩ => by
    by_cases hj : i = j
    · subst hj
      by_cases hl : i < Γ.length
      · rw [List.getElem?_set_self hl] at e1; cases e1
      · rw [List.getElem?_set, if_pos rfl, if_neg hl] at e1; cases e1
    · rw [List.getElem?_set_ne hj] at e1
      exact ⟨j, d, e1, e2⟩
  have mk : ExtN (mask (Msk P0 Γ σ) H) (mask (Msk P0 (Γ.set i .no) σ) H) := mask_ext (ExtN.refl H) fun a m _ => m.elim .inl fun z => .inr (op a z)
  have up : ∀ {j : Nat} {s : Sl}, s ≠ .no → (Γ.set i .no)[j]? = some s → Γ[j]? = some s := fun {j s} n h => by
    by_cases hj : i = j
    · subst hj
      by_cases hl : i < Γ.length
      · rw [List.getElem?_set_self hl] at h; exact absurd (Option.some.inj h).symm n
      · rw [List.getElem?_set, if_pos rfl, if_neg hl] at h; cases h
    · rw [List.getElem?_set_ne hj] at h; exact h
  refine ⟨E.base, E.tab, E.p0, fun j e h => ?_, fun j e h => ?_, fun j l e e' a h1 h2 h3 h4 => E.inj j l e e' a (up (fun z => by cases z) h1) (up (fun z => by cases z) h2) h3 h4, by rw [List.length_set]; exact E.len⟩
  · obtain ⟨w, q, r'⟩ := E.dat j e (up (fun z => by cases z) h)
    exact ⟨w, q, r'.ext mk _ _⟩
  · obtain ⟨a, q, n, p, o⟩ := E.own j e (up (fun z => by cases z) h)
    exact ⟨a, q, n, p, o.ext mk fun _ e _ => e⟩
/-- a new list or dict is put at a slot; E: ahead of its making -/
theorem EnvOk.setO {i : Nat} {d : D} {a : Addr} (E : EnvOk K C P0 H0 Γ σ H) (nt : ∀ a ps, H0 a ≠ some (.tbl ps)) (e : ExtN H H') (t : Tabs C.T H') (ns : ¬ Solid H a) (o : OwnAt K C.fa (mask (fun b => Msk P0 Γ σ b ∨ b = a) H') H' a d) :
    EnvOk K C P0 H0 (Γ.set i (.own d)) (σ.set i (some (.ref a))) H' := by
  have op : ∀ b, OwnP (Γ.set i (.own d)) (σ.set i (some (.ref a))) b → OwnP Γ σ b ∨ b = a := fun b ⟨j, x, e1, e2⟩ => by
    by_cases hj : i = j
    · subst hj
      by_cases hl : i < Γ.length
      · rw [List.getElem?_set_self (by rw [← E.len]; exact hl)] at e2
        exact .inr (by injection e2 with e2; injection e2 with e2; injection e2 with e2; exact e2.symm)
      · rw [List.getElem?_set, if_pos rfl, if_neg hl] at e1; cases e1
    · rw [List.getElem?_set_ne hj] at e1 e2
      exact .inl ⟨j, x, e1, e2⟩
  have mk : ExtN (mask (Msk P0 Γ σ) H) (mask (Msk P0 (Γ.set i (.own d)) (σ.set i (some (.ref a)))) H') := mask_ext e fun b m s => m.elim .inl fun z => (op b z).elim .inr fun q => absurd (q ▸ s) ns
  have mk2 : ExtN (mask (fun b => Msk P0 Γ σ b ∨ b = a) H') (mask (Msk P0 (Γ.set i (.own d)) (σ.set i (some (.ref a)))) H') := mask_ext (ExtN.refl _) fun b m _ => m.elim (fun z => .inl (.inl z)) fun z => (op b z).elim (fun q => .inl (.inr q)) .inr
  have h0 : H0 a = none := by
    cases q : H0 a with
    | none => rfl
    | some u => exact absurd ⟨u, E.base a u q, fun ps z => nt a ps (by rw [q, z])⟩ ns
  have np : ¬ P0 a := fun z => ns (by obtain ⟨u, q, i⟩ := E.p0 a z; exact ⟨u, q, isM_tbl i⟩)
  have E' := E.ext e t nt
  have nown : ∀ (j : Nat) (x : D) (b : Addr), Γ[j]? = some (.own x) → σ[j]? = some (some (.ref b)) → b ≠ a := fun j x b h1 h2 z => by
    subst z
    exact ns (E.mut.solid _ (.inr ⟨j, x, h1, h2⟩))
  refine ⟨E'.base, t, E'.p0, fun j x h => ?_, fun j x h => ?_, fun j l x y b h1 h2 h3 h4 => ?_, by rw [List.length_set, List.length_set]; exact E.len⟩
  · by_cases hj : i = j
    · subst hj
      by_cases hl : i < Γ.length
      · rw [List.getElem?_set_self hl] at h; cases h
      · rw [List.getElem?_set, if_pos rfl, if_neg hl] at h; cases h
    · rw [List.getElem?_set_ne hj] at h
      obtain ⟨w, q, r'⟩ := E.dat j x h
      exact ⟨w, by rw [List.getElem?_set_ne hj]; exact q, r'.ext mk _ _⟩
  · by_cases hj : i = j
    · subst hj
      by_cases hl : i < Γ.length
      · rw [List.getElem?_set_self hl] at h
        cases h
        exact ⟨a, by rw [List.getElem?_set_self (by rw [← E.len]; exact hl)], h0, np, o.ext mk2 fun _ e _ => e⟩
      · rw [List.getElem?_set, if_pos rfl, if_neg hl] at h; cases h
    · rw [List.getElem?_set_ne hj] at h
      obtain ⟨b, q, n, p, ob⟩ := E.own j x h
      exact ⟨b, by rw [List.getElem?_set_ne hj]; exact q, n, p, ob.ext mk fun u q i => e _ _ q (isM_tbl i)⟩
  · have look : ∀ (k : Nat) (x : D), (Γ.set i (.own d))[k]? = some (.own x) → (σ.set i (some (.ref a)))[k]? = some (some (.ref b)) → (k = i ∧ b = a) ∨ (i ≠ k ∧ Γ[k]? = some (.own x) ∧ σ[k]? = some (some (.ref b))) := fun k x q1 q2 => by
      by_cases hk : i = k
      · subst hk
        by_cases hl : i < Γ.length
        · rw [List.getElem?_set_self (by rw [← E.len]; exact hl)] at q2
          exact .inl ⟨rfl, by injection q2 with q2; injection q2 with q2; injection q2 with q2; exact q2.symm⟩
        · rw [List.getElem?_set, if_pos rfl, if_neg hl] at q1; cases q1
      · rw [List.getElem?_set_ne hk] at q1 q2
        exact .inr ⟨hk, q1, q2⟩
    rcases look j x h1 h3 with ⟨z1, z2⟩ | ⟨z1, z2, z3⟩
    · rcases look l y h2 h4 with ⟨w1, w2⟩ | ⟨w1, w2, w3⟩
      · rw [z1, w1]
      · exact absurd z2 (nown l y b w2 w3)
    · rcases look l y h2 h4 with ⟨w1, w2⟩ | ⟨w1, w2, w3⟩
      · exact absurd w2 (nown j x b z2 z3)
      · exact E.inj j l x y b z2 w2 z3 w3
/-- a list or dict of its own is changed -/
theorem EnvOk.mutO {i : Nat} {d d' : D} {a : Addr} {o : HO} (E : EnvOk K C P0 H0 Γ σ H) (hi : Γ[i]? = some (.own d)) (ha : σ[i]? = some (some (.ref a)))
    (o' : OwnAt K C.fa (mask (Msk P0 Γ σ) H) (upd H a o) a d') : EnvOk K C P0 H0 (Γ.set i (.own d')) σ (upd H a o) := by
  obtain ⟨b, q, n, p, ob⟩ := E.own i d hi
  rw [ha] at q
  injection q with q; injection q with q; injection q with q
  subst q
  obtain ⟨u, hu, mu⟩ := ob.mut
  have hl : i < Γ.length := (List.getElem?_eq_some_iff.mp hi).1
  have up : ∀ {j : Nat} {s : Sl}, i ≠ j → (Γ.set i (.own d'))[j]? = some s → Γ[j]? = some s := fun {j s} n h => by rw [List.getElem?_set_ne n] at h; exact h
  have op : ∀ c, OwnP (Γ.set i (.own d')) σ c ↔ OwnP Γ σ c := fun c => by
    constructor
    · rintro ⟨j, x, e1, e2⟩
      by_cases hj : i = j
      · subst hj; exact ⟨i, d, hi, e2⟩
      · exact ⟨j, x, up hj e1, e2⟩
    · rintro ⟨j, x, e1, e2⟩
      by_cases hj : i = j
      · subst hj; exact ⟨i, d', by rw [List.getElem?_set_self hl], e2⟩
      · exact ⟨j, x, by rw [List.getElem?_set_ne hj]; exact e1, e2⟩
  have ma : Msk P0 Γ σ a := .inr ⟨i, d, hi, ha⟩
  have mk : ExtN (mask (Msk P0 Γ σ) H) (mask (Msk P0 (Γ.set i (.own d')) σ) (upd H a o)) := fun c x h _ => by
    obtain ⟨h1, h2⟩ := mask_some.mp h
    refine mask_some.mpr ⟨fun z => h1 (z.elim .inl fun y => .inr ((op c).mp y)), ?_⟩
    rw [upd_ne (fun z => h1 (by rw [z]; exact ma))]; exact h2
  refine ⟨fun c x h => ?_, tabs_mut E.tab hu mu, fun c h => ?_, fun j x h => ?_, fun j x h => ?_, fun j l x y c h1 h2 h3 h4 => ?_, by rw [List.length_set]; exact E.len⟩
  · rw [upd_ne (fun z => by rw [z, n] at h; cases h)]; exact E.base c x h
  · obtain ⟨x, e, m⟩ := E.p0 c h
    exact ⟨x, by rw [upd_ne (show c ≠ a from fun z => p (by rw [← z]; exact h))]; exact e, m⟩
  · by_cases hj : i = j
    · subst hj
      rw [List.getElem?_set_self hl] at h; cases h
    · obtain ⟨w, q, r'⟩ := E.dat j x (up hj h)
      exact ⟨w, q, r'.ext mk _ _⟩
  · by_cases hj : i = j
    · subst hj
      rw [List.getElem?_set_self hl] at h
      cases h
      exact ⟨a, ha, n, p, o'.ext mk fun _ e _ => e⟩
    · obtain ⟨c, q, n', p', oc⟩ := E.own j x (up hj h)
      refine ⟨c, q, n', p', oc.ext mk fun y e _ => ?_⟩
      rw [upd_ne (show c ≠ a from fun z => hj (E.inj i j d x a hi (up hj h) ha (by rw [← z]; exact q)))]; exact e
  · have dn : ∀ (k : Nat) (z : D), (Γ.set i (.own d'))[k]? = some (Sl.own z) → ∃ z', Γ[k]? = some (Sl.own z') := fun k z h => by
      by_cases hk : i = k
      · subst hk; exact ⟨d, hi⟩
      · exact ⟨z, up hk h⟩
    obtain ⟨x', g1⟩ := dn j x h1
    obtain ⟨y', g2⟩ := dn l y h2
    exact E.inj j l x' y' c g1 g2 h3 h4
end

/-! ### arguments, displays -/
def aNil : Gm → Rg (List D) := fun _ => .ok []
def aCons (f : Gm → R) (fs : Gm → Rg (List D)) : Gm → Rg (List D) := fun Γ => (f Γ).bind fun d => (fs Γ).bind fun ds => .ok (d :: ds)
def lstD (ds : List D) : R := if ds.length ≤ sizeLine then .ok (.lst ds) else .bad
def tupD (ds : List D) : R := if ds.length ≤ sizeLine then .ok (.tup ds) else .bad
def eTup (fs : Gm → Rg (List D)) : Gm → R := fun Γ => (fs Γ).bind tupD
def eLst (fs : Gm → Rg (List D)) : Gm → R := fun Γ => (fs Γ).bind lstD
section
variable {X : Cx} {C : Cn} {W : WX} {e a b : Expr} {es : List Expr} {f fa fb : Gm → R} {fs : Gm → Rg (List D)} {pos : Pos}
theorem da_nil : DA X C W [] aNil := PA.to pa_nil fun σ H Q ⟨Γ, P0, H0, E, g⟩ => g [] H (ExtN.refl H) E.e.tab .nil
theorem da_cons (ha : DE X C W e f) (hr : DA X C W es fs) (hs : starEach (e :: es) X.env = (false, eval e X.env) :: starEach es X.env := by rfl) : DA X C W (e :: es) (aCons f fs) := PA.to (pa_cons ha hr hs) fun σ H Q ⟨Γ, P0, H0, E, g⟩ => by
  refine ⟨Γ, P0, H0, E, Got.bind repL_mono g fun d x H1 _ e1 t1 r1 g1 => ?_⟩
  refine ⟨Γ, P0, H0, E.ext e1 t1, Got.bind repL_mono g1 fun ds xs H2 _ e2 t2 r2 g2 => ?_⟩
  exact g2 (x :: xs) H2 (ExtN.refl H2) t2 (.cons (Rp.ext (mask_same e2) _ _ r1) r2)
theorem de_tup {k : Nat} (h : DA X C W es fs) : DE X C W (.Tuple es k pos) (eTup fs) := PE.to (pe_tup h) fun σ H Q ⟨Γ, P0, H0, E, g⟩ => by
  refine ⟨Γ, P0, H0, E, Got.bind repD_mono g fun ds xs H1 _ e1 t1 r1 g1 => ?_⟩
  unfold tupD at g1
  split at g1
  · rename_i hl
    refine ⟨by rw [r1.length]; exact hl, fun p hp => g1 _ _ (ext_new hp) (tabs_new t1 hp) ?_⟩
    have np : ¬ Msk P0 Γ σ p := fun m => not_solid hp ((E.e.mut.ext e1).solid p m)
    exact .tup (mask_some.mpr ⟨np, upd_same⟩) (RpL.ext (mask_same (ext_new hp)) _ _ r1)
  · exact g1.elim
theorem new_lst {K : PySem.W.Frag} {M : Addr → Prop} {H H1 : Hp} {p : Addr} {xs : List V} {ds : List D} (e1 : ExtN H H1) (hp : H1 p = none) (r1 : RpL K C.fa (mask M H1) xs ds) : repF K C M H (upd H1 p (.lst xs)) (.ref p) (.lst ds) := by
  refine ⟨p, rfl, fun s => not_solid hp (s.ext e1), xs, upd_same, RpL.ext (mask_ext (ext_new hp) fun b m s => m.elim id fun z => ?_) _ _ r1⟩
  exact absurd (z ▸ s) (not_solid hp)
theorem df_lst (h : DA X C W es fs) : DF X C W (.List es pos) (eLst fs) := PE.to (pe_lst h) fun σ H Q ⟨Γ, P0, H0, E, g⟩ => by
  refine ⟨Γ, P0, H0, E, Got.bind repF_mono g fun ds xs H1 _ e1 t1 r1 g1 => ?_⟩
  unfold lstD at g1
  split at g1
  · rename_i hl
    refine ⟨by rw [r1.length]; exact hl, fun p hp => g1 _ _ (ext_new hp) (tabs_new t1 hp) (new_lst (ExtN.refl _) hp r1)⟩
  · exact g1.elim

/-! ### calls of defs -/
def dSp (K : PySem.W.Frag) (C : Cn) (n : Nat) (m : List D → R) : Sp := fun vs H Q E => vs.length = n ∧ ∃ (M : Addr → Prop) (ds : List D), MutM M H ∧ Tabs C.T H ∧ RpL K C.fa (mask M H) vs ds ∧ Got (fun c d _ H' => E c d H') C (repD K C M) [] H (m ds) Q
structure Cal (P : Program) (w : World) (K : PySem.W.Frag) (mg : Str → Option Value) (base : Heap) (C : Cn) (k : Nat) (x : Str) (ps : List Str) (m : List D → R) : Prop where
  ex : ∃ (f : Addr) (fd : FuncData), FnOk P w K mg base (L2N.CX P w) k f fd ps (dSp K C ps.length m) ∧ mg x = some (.ref f) ∧ PySem.W.keepIn K (.ref f) = true ∧ Binds K fd ps []
def eCall (n : Nat) (m : List D → R) (fs : Gm → Rg (List D)) : Gm → R := fun Γ => (fs Γ).bind fun ds => if ds.length = n then m ds else .bad
theorem de_call {k : Nat} {x : Str} {ps : List Str} {m : List D → R} {p : Pos} (c : Cal X.prog X.w X.K X.mg X.base C k x ps m) (hr : Room k X.A) (tk : L2N.Takes X W) (ha : DA X C W (e :: es) fs) (hg : Gl X x := by rfl)
    (hdb : (x == ("__debug__" : Str)) = false := by decide) (he : starEach (e :: es) X.env = (false, eval e X.env) :: starEach es X.env := by rfl) (hpl : (backTo pos (starEach es X.env)).any (·.1) = false := by rfl) :
    DE X C W (.Call (.Name x p) (e :: es) [] pos) (eCall ps.length m fs) := by
  obtain ⟨f, fd, F, hm, hk, hb⟩ := c.ex
  refine PE.to (pe_callS F hr hg hm hk hb (E := WE W) (fun σ => L2N.passAt tk σ) ha hdb he hpl) fun σ H Q ⟨Γ, P0, H0, E, g⟩ => ?_
  refine ⟨Γ, P0, H0, E, Got.bind repD_mono g fun ds xs H1 _ e1 t1 r1 g1 => ?_⟩
  split at g1
  · rename_i hl
    refine ⟨by rw [r1.length]; exact hl, _, ds, E.e.mut.ext e1, t1, r1, ?_⟩
    cases hq : m ds with
    | ok d => rw [hq] at g1; exact g1
    | exc c => rw [hq] at g1; exact g1
    | bad => rw [hq] at g1; exact g1
  · exact g1.elim
/-! ### calls of built-ins -/
def VCall (K : PySem.W.Frag) (C : Cn) (r : List V → Hp → VK → Prop) (g : List D → R) : Prop := ∀ (W : WX) (M : Addr → Prop) (σ : L2.St) (H : Hp) (xs : List V) (ds : List D) (Q : VK), MutM M H → Tabs C.T H → RpL K C.fa (mask M H) xs ds → Got W C (repD K C M) σ H (g ds) Q → r xs H Q
def VCallF (K : PySem.W.Frag) (C : Cn) (r : List V → Hp → VK → Prop) (g : List D → R) : Prop := ∀ (W : WX) (M : Addr → Prop) (σ : L2.St) (H : Hp) (xs : List V) (ds : List D) (Q : VK), MutM M H → Tabs C.T H → RpL K C.fa (mask M H) xs ds → Got W C (repF K C M) σ H (g ds) Q → r xs H Q
def eB (g : List D → R) (fs : Gm → Rg (List D)) : Gm → R := fun Γ => (fs Γ).bind g
theorem rdB {K : PySem.W.Frag} {r : List V → Hp → VK → Prop} {g : List D → R} (hv : VCall K C r g) {σ : L2.St} {H : Hp} {Q : VK} (h : rdE K C W (eB g fs) σ H Q) : tCB r (rdA K C W fs) σ H Q := by
  obtain ⟨Γ, P0, H0, E, q⟩ := h
  exact ⟨Γ, P0, H0, E, Got.bind repD_mono q fun ds xs H1 _ e1 t1 r1 g1 => hv W _ σ H1 xs ds Q (E.e.mut.ext e1) t1 r1 g1⟩
theorem rdBF {K : PySem.W.Frag} {r : List V → Hp → VK → Prop} {g : List D → R} (hv : VCallF K C r g) {σ : L2.St} {H : Hp} {Q : VK} (h : rdF K C W (eB g fs) σ H Q) : tCB r (rdA K C W fs) σ H Q := by
  obtain ⟨Γ, P0, H0, E, q⟩ := h
  exact ⟨Γ, P0, H0, E, Got.bind repF_mono q fun ds xs H1 _ e1 t1 r1 g1 => hv W _ σ H1 xs ds Q (E.e.mut.ext e1) t1 r1 g1⟩
theorem de_callB {x : Str} {id : String} {r : List V → Hp → VK → Prop} {g : List D → R} {p : Pos} (hc : CallR X (.builtin id) r) (hv : VCall X.K C r g) (hm : X.mg x = none) (ha : DA X C W (e :: es) fs) (hbt : bootBuiltins x = some (.builtin id)) (hg : Gl X x := by rfl) (hn : x ≠ "__name__" := by decide) (hdb : (x == ("__debug__" : Str)) = false := by decide)
    (he : starEach (e :: es) X.env = (false, eval e X.env) :: starEach es X.env := by rfl) (hpl : (backTo pos (starEach es X.env)).any (·.1) = false := by rfl) : DE X C W (.Call (.Name x p) (e :: es) [] pos) (eB g fs) :=
  PE.to (pe_callB hc hg hm hbt ha hn hdb he hpl) fun _ _ _ h => rdB hv h
theorem df_callB {x : Str} {id : String} {r : List V → Hp → VK → Prop} {g : List D → R} {p : Pos} (hc : CallR X (.builtin id) r) (hv : VCallF X.K C r g) (hm : X.mg x = none) (ha : DA X C W (e :: es) fs) (hbt : bootBuiltins x = some (.builtin id)) (hg : Gl X x := by rfl) (hn : x ≠ "__name__" := by decide) (hdb : (x == ("__debug__" : Str)) = false := by decide)
    (he : starEach (e :: es) X.env = (false, eval e X.env) :: starEach es X.env := by rfl) (hpl : (backTo pos (starEach es X.env)).any (·.1) = false := by rfl) : DF X C W (.Call (.Name x p) (e :: es) [] pos) (eB g fs) :=
  PE.to (pe_callB hc hg hm hbt ha hn hdb he hpl) fun _ _ _ h => rdBF hv h
theorem de_callT {x : Str} {T : String} {r : List V → Hp → VK → Prop} {g : List D → R} {p : Pos} (hc : CallR X (.type T) r) (hv : VCall X.K C r g) (hm : X.mg x = none) (ha : DA X C W (e :: es) fs) (hbt : bootBuiltins x = some (.type T)) (hg : Gl X x := by rfl) (hn : x ≠ "__name__" := by decide) (hdb : (x == ("__debug__" : Str)) = false := by decide)
    (he : starEach (e :: es) X.env = (false, eval e X.env) :: starEach es X.env := by rfl) (hpl : (backTo pos (starEach es X.env)).any (·.1) = false := by rfl) : DE X C W (.Call (.Name x p) (e :: es) [] pos) (eB g fs) :=
  PE.to (pe_callTy hc hg hm hbt ha hn hdb he hpl) fun _ _ _ h => rdB hv h
theorem df_callT {x : Str} {T : String} {r : List V → Hp → VK → Prop} {g : List D → R} {p : Pos} (hc : CallR X (.type T) r) (hv : VCallF X.K C r g) (hm : X.mg x = none) (ha : DA X C W (e :: es) fs) (hbt : bootBuiltins x = some (.type T)) (hg : Gl X x := by rfl) (hn : x ≠ "__name__" := by decide) (hdb : (x == ("__debug__" : Str)) = false := by decide)
    (he : starEach (e :: es) X.env = (false, eval e X.env) :: starEach es X.env := by rfl) (hpl : (backTo pos (starEach es X.env)).any (·.1) = false := by rfl) : DF X C W (.Call (.Name x p) (e :: es) [] pos) (eB g fs) :=
  PE.to (pe_callTy hc hg hm hbt ha hn hdb he hpl) fun _ _ _ h => rdBF hv h
end
end DL

set_option Elab.async false
set_option linter.all false
set_option maxRecDepth 100000
set_option maxHeartbeats 2000000
namespace DL
open PySem PySem.Spec PyProof.Rows L2 LamX

/-! ### a value, and what becomes of the slots -/
def flatItems : D → Bool
  | .lst ds => D.flats ds
  | .dK _ ds => D.flats ds
  | .dT _ ds => D.flats ds
  | d => d.flat
/-- as it stands -/
def vP (f : Gm → R) : Gm → Rg (D × Gm) := fun Γ => (f Γ).bind fun d => .ok (d, Γ)
/-- lists of its own are read: they stay its own where what comes holds no list -/
def vB (f : Gm → R) : Gm → Rg (D × Gm) := fun Γ => (f (unown Γ)).bind fun d => .ok (d, if d.flat then Γ else unown Γ)
/-- the same where what comes is a new list -/
def vF (f : Gm → R) : Gm → Rg (D × Gm) := fun Γ => (f (unown Γ)).bind fun d => .ok (d, if flatItems d then Γ else unown Γ)
def repV (K : PySem.W.Frag) (C : Cn) (P0 : Addr → Prop) (H0 : Hp) (σ : L2.St) : Hp → Hp → V → D × Gm → Prop := fun _ H' v p => Here K C P0 H0 p.2 σ H' ∧ Rp K C.fa (mask (Msk P0 p.2 σ) H') v p.1
/-- .. told of a value that may be a new list -/
def repO (K : PySem.W.Frag) (C : Cn) (P0 : Addr → Prop) (H0 : Hp) (σ : L2.St) : Hp → Hp → V → D × Gm → Prop := fun H H' v p => Here K C P0 H0 p.2 σ H ∧ FrV K C.fa (Msk P0 p.2 σ) H H' v p.1
def rdV (K : PySem.W.Frag) (C : Cn) (W : WX) (h : Gm → Rg (D × Gm)) : TE := fun σ H Q => ∃ Γ P0 H0, Here K C P0 H0 Γ σ H ∧ Got W C (repV K C P0 H0 σ) σ H (h Γ) Q
def rdO (K : PySem.W.Frag) (C : Cn) (W : WX) (h : Gm → Rg (D × Gm)) : TE := fun σ H Q => ∃ Γ P0 H0, Here K C P0 H0 Γ σ H ∧ Got W C (repO K C P0 H0 σ) σ H (h Γ) Q
abbrev DV (X : Cx) (C : Cn) (W : WX) (e : Expr) (h : Gm → Rg (D × Gm)) : Prop := PE X e (rdV X.K C W h)
abbrev DO (X : Cx) (C : Cn) (W : WX) (e : Expr) (h : Gm → Rg (D × Gm)) : Prop := PE X e (rdO X.K C W h)
theorem Got.map {α β γ : Type} {W : WX} {C : Cn} {rep : Hp → Hp → β → α → Prop} {rep' : Hp → Hp → β → γ → Prop} {σ : L2.St} {H : Hp} {r : Rg α} {g : α → γ} {Q : β → Hp → Prop}
    (h : Got W C rep' σ H (r.bind fun a => .ok (g a)) Q) (k : ∀ a b H', r = .ok a → ExtN H H' → Tabs C.T H' → rep H H' b a → rep' H H' b (g a)) : Got W C rep σ H r Q := by
  cases r with
  | ok a => exact fun b H' e t q => h b H' e t (k a b H' rfl e t q)
  | exc c => exact h
  | bad => exact h
section
variable {K : PySem.W.Frag} {C : Cn} {W : WX} {f : Gm → R} {σ : L2.St} {H : Hp} {Q : VK}
theorem rd_vP (h : rdV K C W (vP f) σ H Q) : rdE K C W f σ H Q := by
  obtain ⟨Γ, P0, H0, E, g⟩ := h
  exact ⟨Γ, P0, H0, E, Got.map g fun d v H' _ e t r => ⟨E.ext e t, r⟩⟩
theorem rp_keep {P0 : Addr → Prop} {H0 H' : Hp} {Γ : Gm} {v : V} {d : D} (E : Here K C P0 H0 Γ σ H') (fl : d.flat = true) (r : Rp K C.fa (mask (Msk P0 (unown Γ) σ) H') v d) : Rp K C.fa (mask (Msk P0 Γ σ) H') v d := Rp.remask E.e.mut E.e.mut.solid _ _ fl r
theorem rd_vB (h : rdV K C W (vB f) σ H Q) : rdE K C W f σ H Q := by
  obtain ⟨Γ, P0, H0, E, g⟩ := h
  refine ⟨unown Γ, P0, H0, E.unown, Got.map g fun d v H' _ e t r => ?_⟩
  by_cases hf : d.flat = true
  · simp only [hf, if_true]
    exact ⟨E.ext e t, rp_keep (E.ext e t) hf r⟩
  · simp only [hf]
    exact ⟨E.unown.ext e t, r⟩
theorem frV_keep {P0 : Addr → Prop} {H0 H' : Hp} {Γ : Gm} {v : V} {d : D} (E : Here K C P0 H0 Γ σ H) (e : ExtN H H') (fl : flatItems d = true) (r : FrV K C.fa (Msk P0 (unown Γ) σ) H H' v d) : FrV K C.fa (Msk P0 Γ σ) H H' v d := by
  have mm := E.e.mut.ext e
  cases d with
  | lst ds =>
    obtain ⟨a, q, n, xs, hx, rr⟩ := r
    have m2 : MutM (fun b => Msk P0 Γ σ b ∨ b = a) H' := fun b m => m.elim (mm b) fun z => ⟨_, (congrArg H' z).trans hx, trivial⟩
    exact ⟨a, q, n, xs, hx, RpL.remask m2 m2.solid _ _ fl rr⟩
  | dK ks ds =>
    obtain ⟨a, q, n, xs, hx, l, rr⟩ := r
    have m2 : MutM (fun b => Msk P0 Γ σ b ∨ b = a) H' := fun b m => m.elim (mm b) fun z => ⟨_, (congrArg H' z).trans hx, trivial⟩
    exact ⟨a, q, n, xs, hx, l, RpL.remask m2 m2.solid _ _ fl rr⟩
  | dT ks ds =>
    obtain ⟨a, q, n, xs, hx, l, rr⟩ := r
    have m2 : MutM (fun b => Msk P0 Γ σ b ∨ b = a) H' := fun b m => m.elim (mm b) fun z => ⟨_, (congrArg H' z).trans hx, trivial⟩
    exact ⟨a, q, n, xs, hx, l, RpL.remask m2 m2.solid _ _ fl rr⟩
  | _ => exact Rp.remask mm mm.solid _ _ fl r
theorem rd_vF (h : rdV K C W (vF f) σ H Q) : rdF K C W f σ H Q := by
  obtain ⟨Γ, P0, H0, E, g⟩ := h
  refine ⟨unown Γ, P0, H0, E.unown, Got.map g fun d v H' _ e t r => ?_⟩
  by_cases hf : flatItems d = true
  · simp only [hf, if_true]
    exact ⟨E.ext e t, FrV.rp (H := H) E.e.mut (frV_keep E e hf r)⟩
  · simp only [hf]
    exact ⟨E.unown.ext e t, FrV.rp (H := H) E.unown.e.mut r⟩
theorem rd_oP (h : rdO K C W (vP f) σ H Q) : rdF K C W f σ H Q := by
  obtain ⟨Γ, P0, H0, E, g⟩ := h
  exact ⟨Γ, P0, H0, E, Got.map g fun d v H' _ e t r => ⟨E, r⟩⟩
theorem rd_oF (h : rdO K C W (vF f) σ H Q) : rdF K C W f σ H Q := by
  obtain ⟨Γ, P0, H0, E, g⟩ := h
  refine ⟨unown Γ, P0, H0, E.unown, Got.map g fun d v H' _ e t r => ?_⟩
  by_cases hf : flatItems d = true
  · simp only [hf, if_true]
    exact ⟨E, frV_keep E e hf r⟩
  · simp only [hf]
    exact ⟨E.unown, r⟩
end
section
variable {X : Cx} {C : Cn} {W : WX} {e : Expr} {f : Gm → R}
theorem dv_p (h : DE X C W e f) : DV X C W e (vP f) := PE.to h fun _ _ _ q => rd_vP q
theorem dv_b (h : DE X C W e f) : DV X C W e (vB f) := PE.to h fun _ _ _ q => rd_vB q
theorem dv_f (h : DF X C W e f) : DV X C W e (vF f) := PE.to h fun _ _ _ q => rd_vF q
theorem do_p (h : DF X C W e f) : DO X C W e (vP f) := PE.to h fun _ _ _ q => rd_oP q
theorem do_f (h : DF X C W e f) : DO X C W e (vF f) := PE.to h fun _ _ _ q => rd_oF q
end

/-! ### statements -/
inductive O where
  | nx (Γ : Gm) | rt (d : D) | bk (Γ : Gm) | ct (Γ : Gm) | exc (c : Str) (Γ : Gm) | bad
def Rg.toS {α : Type} (r : Rg α) (Γ : Gm) (k : α → O) : O := match r with
  | .ok a => k a
  | .exc c => .exc c Γ
  | .bad => .bad
@[simp] theorem Rg.toS_ok {α : Type} (a : α) (Γ : Gm) (k : α → O) : (Rg.ok a).toS Γ k = k a := id rfl
@[simp] theorem Rg.toS_exc {α : Type} (c : Str) (Γ : Gm) (k : α → O) : (Rg.exc c).toS Γ k = .exc c Γ := id rfl
@[simp] theorem Rg.toS_bad {α : Type} (Γ : Gm) (k : α → O) : (Rg.bad).toS Γ k = .bad := id rfl
def GotS (K : PySem.W.Frag) (C : Cn) (W : WX) (P0 : Addr → Prop) (H0 : Hp) (o : O) (D : Ends) : Prop := match o with
  | .nx Γ => ∀ σ H, Here K C P0 H0 Γ σ H → D.nx σ H
  | .rt d => ∀ v H, Same H0 H → Tabs C.T H → Rp K C.fa (mask P0 H) v d → D.rt v H
  | .bk Γ => ∀ σ H, Here K C P0 H0 Γ σ H → D.bk σ H
  | .ct Γ => ∀ σ H, Here K C P0 H0 Γ σ H → D.ct σ H
  | .exc c Γ => ∀ c' σ H, C.xa c = some c' → Here K C P0 H0 Γ σ H → W (.ref c') none σ H
  | .bad => False
def rdS (K : PySem.W.Frag) (C : Cn) (W : WX) (F : Gm → O) : TS := fun D σ H => ∃ Γ P0 H0, Here K C P0 H0 Γ σ H ∧ GotS K C W P0 H0 (F Γ) D
abbrev DS (X : Cx) (C : Cn) (W : WX) (st : Stmt) (F : Gm → O) : Prop := PS X st (rdS X.K C W F)
abbrev DSs (X : Cx) (C : Cn) (W : WX) (st : List Stmt) (F : Gm → O) : Prop := PSs X st (rdS X.K C W F)
section
variable {K : PySem.W.Frag} {C : Cn} {W : WX} {P0 : Addr → Prop} {H0 : Hp}
theorem got_of {α β : Type} {rep : Hp → Hp → β → α → Prop} {r : Rg α} {Γ : Gm} {k : α → O} {D : Ends} {σ : L2.St} {H : Hp} {Q : β → Hp → Prop} (h : GotS K C W P0 H0 (r.toS Γ k) D) (E : Here K C P0 H0 Γ σ H)
    (q : ∀ a b H', r = .ok a → ExtN H H' → Tabs C.T H' → rep H H' b a → GotS K C W P0 H0 (k a) D → Q b H') : Got W C rep σ H r Q := by
  cases r with
  | ok a => exact fun b H' e t p => q a b H' rfl e t p h
  | exc c => exact fun c' H' x e t => h c' σ H' x (E.ext e t)
  | bad => exact h
end
def sPass : Gm → O := .nx
def sSeq (F1 F2 : Gm → O) : Gm → O := fun Γ => match F1 Γ with
  | .nx Γ' => F2 Γ'
  | o => o
def sSet (i : Nat) (h : Gm → Rg (D × Gm)) : Gm → O := fun Γ => (h Γ).toS Γ fun p => .nx (p.2.set i (.dat p.1))
def slotD : D → Sl
  | .lst ds => .own (.lst ds)
  | .dK ks ds => .own (.dK ks ds)
  | .dT ks ds => .own (.dT ks ds)
  | d => .dat d
def sOwn (i : Nat) (h : Gm → Rg (D × Gm)) : Gm → O := fun Γ => (h Γ).toS Γ fun p => .nx (p.2.set i (slotD p.1))
def sRet (h : Gm → Rg (D × Gm)) : Gm → O := fun Γ => (h Γ).toS Γ fun p => .rt p.1
def sDrop (h : Gm → Rg (D × Gm)) : Gm → O := fun Γ => (h Γ).toS Γ fun p => .nx p.2
/-- a test: b: lists of its own are read in it -/
def tst (b : Bool) (f : Gm → R) : Gm → R := fun Γ => f (if b then unown Γ else Γ)
def sIf (b : Bool) (f : Gm → R) (F1 F2 : Gm → O) : Gm → O := fun Γ => match tst b f Γ with
  | .ok (.bl true) => F1 Γ
  | .ok (.bl false) => F2 Γ
  | .exc c => .exc c Γ
  | _ => .bad
section
variable {K : PySem.W.Frag} {C : Cn} {W : WX} {Z : Ends} {σ : L2.St} {H : Hp} {h : Gm → Rg (D × Gm)}
theorem rd_set {i : Nat} (q : rdS K C W (sSet i h) Z σ H) : tAsg (rdV K C W h) (gName i) Z σ H := by
  obtain ⟨Γ, P0, H0, E, g⟩ := q
  exact ⟨Γ, P0, H0, E, got_of g E fun p v H' _ e t ⟨E', r⟩ k => k _ H' ⟨E'.e.setD r, E'.nt⟩⟩
theorem frV_set {P0 : Addr → Prop} {H0 : Hp} {Γ : Gm} {H' : Hp} {i : Nat} {v : V} {d : D} (E : Here K C P0 H0 Γ σ H) (e : ExtN H H') (t : Tabs C.T H') (r : FrV K C.fa (Msk P0 Γ σ) H H' v d) : Here K C P0 H0 (Γ.set i (slotD d)) (σ.set i (some v)) H' := by
  cases d with
  | lst ds => obtain ⟨a, rfl, n, o⟩ := r; exact ⟨E.e.setO E.nt e t n o, E.nt⟩
  | dK ks ds => obtain ⟨a, rfl, n, o⟩ := r; exact ⟨E.e.setO E.nt e t n o, E.nt⟩
  | dT ks ds => obtain ⟨a, rfl, n, o⟩ := r; exact ⟨E.e.setO E.nt e t n o, E.nt⟩
  | _ => exact ⟨(E.ext e t).e.setD r, E.nt⟩
theorem rd_own {i : Nat} (q : rdS K C W (sOwn i h) Z σ H) : tAsg (rdO K C W h) (gName i) Z σ H := by
  obtain ⟨Γ, P0, H0, E, g⟩ := q
  exact ⟨Γ, P0, H0, E, got_of g E fun p v H' _ e t ⟨E', r⟩ k => k _ H' (frV_set E' e t r)⟩
end
section
variable {X : Cx} {C : Cn} {W : WX} {e c : Expr} {h : Gm → Rg (D × Gm)} {f : Gm → R} {F F1 F2 : Gm → O} {st : Stmt} {sts : List Stmt} {pos : Pos}
theorem dss_nil : DSs X C W [] sPass := PSs.to pss_nil fun D σ H ⟨Γ, P0, H0, E, g⟩ => g σ H E
theorem dss_cons (h1 : DS X C W st F1) (h2 : DSs X C W sts F2) : DSs X C W (st :: sts) (sSeq F1 F2) := PSs.to (pss_cons h1 h2) fun D σ H ⟨Γ, P0, H0, E, g⟩ => by
  refine ⟨Γ, P0, H0, E, ?_⟩
  unfold sSeq at g
  cases hq : F1 Γ with
  | nx Γ' => rw [hq] at g; exact fun σ' H' E' => ⟨Γ', P0, H0, E', g⟩
  | rt d => rw [hq] at g; exact g
  | bk Γ' => rw [hq] at g; exact g
  | ct Γ' => rw [hq] at g; exact g
  | exc c Γ' => rw [hq] at g; exact g
  | bad => rw [hq] at g; exact g
theorem dss_one (h1 : DS X C W st F) : DSs X C W [st] F := pss_one h1
theorem ds_pass : DS X C W (.Pass pos) sPass := PS.to ps_pass fun D σ H ⟨Γ, P0, H0, E, g⟩ => g σ H E
theorem ds_set (i : Nat) {x : Str} {pos' : Pos} (hN : X.N.Nodup) (he : DV X C W e h) (hi : X.N[i]? = some x := by rfl) (hx : Loc X.env.scope x := by first | exact Or.inl rfl | exact Or.inr rfl)
    (hs : swapsWith e (some (.Name x pos')) pos.line X.env = pure false := by rfl) (hf : X.fn x = true ∨ X.env.scope.names.lookup x = some .local := by first | exact .inl rfl | exact .inr rfl | assumption) :
    DS X C W (.Assign [.Name x pos'] e pos) (sSet i h) := PS.to (ps_set hN hi hx he hs hf) fun D σ H q => rd_set q
theorem ds_own (i : Nat) {x : Str} {pos' : Pos} (hN : X.N.Nodup) (he : DO X C W e h) (hi : X.N[i]? = some x := by rfl) (hx : Loc X.env.scope x := by first | exact Or.inl rfl | exact Or.inr rfl)
    (hs : swapsWith e (some (.Name x pos')) pos.line X.env = pure false := by rfl) (hf : X.fn x = true ∨ X.env.scope.names.lookup x = some .local := by first | exact .inl rfl | exact .inr rfl | assumption) :
    DS X C W (.Assign [.Name x pos'] e pos) (sOwn i h) := PS.to (ps_set hN hi hx he hs hf) fun D σ H q => rd_own q
theorem ds_ret (he : DV X C W e h) : DS X C W (.Return (some e) pos) (sRet h) := PS.to (ps_ret he) fun D σ H ⟨Γ, P0, H0, E, g⟩ =>
  ⟨Γ, P0, H0, E, got_of g E fun p v H' _ e t ⟨E', r⟩ k => k v H' E'.e.base t (Rp.ext (mask_ext (ExtN.refl _) fun _ m _ => .inl m) _ _ r)⟩
theorem ds_drop (he : DV X C W e h) (hs : swapsWith e none pos.line X.env = pure false := by rfl) : DS X C W (.Expr e pos) (sDrop h) := PS.to (ps_expr he hs) fun D σ H ⟨Γ, P0, H0, E, g⟩ =>
  ⟨Γ, P0, H0, E, got_of g E fun p v H' _ e t ⟨E', r⟩ k => k σ H' E'⟩
theorem ds_if (b : Bool) {p q : List Stmt} (hc : DT X C W c f) (ha : DSs X C W p F1) (hb : DSs X C W q F2) : DS X C W (.If c p q pos) (sIf b f F1 F2) := PS.to (ps_if hc ha hb) fun D σ H ⟨Γ, P0, H0, E, g⟩ => by
  have E2 : Here X.K C P0 H0 (if b then unown Γ else Γ) σ H := by
    cases b with
    | true => exact E.unown
    | false => exact E
  refine ⟨_, P0, H0, E2, ?_⟩
  unfold sIf tst at g
  cases hq : f (if b then unown Γ else Γ) with
  | ok d =>
    rw [hq] at g
    cases d with
    | bl k =>
      cases k with
      | true => exact fun H' e t => (if_pos rfl).mpr ⟨Γ, P0, H0, E.ext e t, g⟩
      | false => exact fun H' e t => (if_neg Bool.false_ne_true).mpr ⟨Γ, P0, H0, E.ext e t, g⟩
    | _ => exact g.elim
  | exc c => rw [hq] at g; exact fun c' H' x e t => g c' σ H' x (E.ext e t)
  | bad => rw [hq] at g; exact g.elim
/-- raise X('..') -/
def sRaise (c : Str) : Gm → O := fun Γ => .exc c Γ
structure Exn (K : PySem.W.Frag) (mg : Str → Option Value) (C : Cn) (x : Str) : Prop where
  ex : ∃ a : Addr, C.xa x = some a ∧ PySem.W.excIn K a [.type "ValueError", .type "Exception", .type "BaseException", .type "object"] "ValueError.__new__" = true ∧ mg x = some (.ref a) ∧ PySem.W.keepIn K (.ref a) = true ∧
    PySem.W.subIn K (.ref a) (.type "BaseException") = some true ∧ PySem.W.typeIn K (.ref a) = some (.type "type")
theorem ds_raise {x m : Str} {j : Nat} {p p2 pos2 : Pos} (T : Exn X.K X.mg C x) (tk : L2N.Takes X W) (hc : X.calm = true := by rfl) (hg : Gl X x := by rfl) (hdb : (x == ("__debug__" : Str)) = false := by decide) :
    DS X C W (.Raise (some (.Call (.Name x p) [.Constant (.str m) j p2] [] pos)) none pos2) (sRaise x) := by
  obtain ⟨a, h1, h2, h3, h4, h5, h6⟩ := T.ex
  exact PS.to (L2N.ps_raise hc tk (L2N.pmk_own PySem.F.excBase_ValueError h2 h3 h4 (raises_own h5 h6) hg hdb)) fun D σ H ⟨Γ, P0, H0, E, g⟩ => g a σ H h1 E

/-! ### a list of its own changed -/
def sApp (i : Nat) (h : Gm → Rg (D × Gm)) : Gm → O := fun Γ => match Γ[i]? with
  | some (.own (.lst _)) => (h Γ).toS Γ fun p => (match p.2[i]? with
    | some (.own (.lst ds)) => if ds.length < sizeLine then .nx (p.2.set i (.own (.lst (ds ++ [p.1])))) else .bad
    | _ => .bad)
  | _ => .bad
theorem own_lst {K : PySem.W.Frag} {C : Cn} {P0 : Addr → Prop} {H0 H : Hp} {Γ : Gm} {σ : L2.St} {i : Nat} {ds : List D} (E : Here K C P0 H0 Γ σ H) (hi : Γ[i]? = some (.own (.lst ds))) :
    ∃ a xs, σ[i]? = some (some (.ref a)) ∧ H a = some (.lst xs) ∧ RpL K C.fa (mask (Msk P0 Γ σ) H) xs ds ∧ ∀ (ys : List V) (es : List D), RpL K C.fa (mask (Msk P0 Γ σ) H) ys es → Here K C P0 H0 (Γ.set i (.own (.lst es))) σ (upd H a (.lst ys)) := by
  obtain ⟨a, q, _, _, xs, hx, r⟩ := E.e.own i _ hi
  exact ⟨a, xs, q, hx, r, fun ys es r' => ⟨E.e.mutO hi q ⟨ys, upd_same, r'⟩, E.nt⟩⟩
theorem ds_app (i : Nat) {x : Str} {p apos cpos : Pos} (he : DV X C W e h)
    (hpe : ∀ {t : TE}, PE X e t → PE X (.Call (.Attribute (.Name x p) "append" apos) [e] [] cpos) (tBM X.K "list" rAppend (tVar i) (tCons t tNil)))
    (hs : swapsWith (.Call (.Attribute (.Name x p) "append" apos) [e] [] cpos) none pos.line X.env = pure false := by rfl) :
    DS X C W (.Expr (.Call (.Attribute (.Name x p) "append" apos) [e] [] cpos) pos) (sApp i h) := PS.to (ps_expr (hpe he) hs) fun Z σ H ⟨Γ, P0, H0, E, g⟩ => by
  unfold sApp at g
  split at g
  · rename_i ds0 hi
    obtain ⟨a, xs, hσ, hx, _, _⟩ := own_lst E hi
    refine ⟨.ref a, hσ, .inl ⟨rfl, _, .inl (.inl hx)⟩, Γ, P0, H0, E, got_of g E fun p v H' _ e t ⟨E', r⟩ k => ?_⟩
    split at k
    · rename_i ds hi'
      split at k
      · rename_i hl
        obtain ⟨a', xs', hσ', hx', rr, mk⟩ := own_lst E' hi'
        rw [hσ] at hσ'
        cases hσ'
        exact ⟨a, xs', v, rfl, rfl, hx', by rw [rr.length]; exact hl, k σ _ (mk _ _ (rr.snoc r))⟩
      · exact k.elim
    · exact k.elim
  · exact g.elim
def sExt (i : Nat) (h : Gm → Rg (D × Gm)) : Gm → O := fun Γ => match Γ[i]? with
  | some (.own (.lst _)) => (h Γ).toS Γ fun p => (match p.2[i]?, p.1 with
    | some (.own (.lst ds)), .lst es => if ds.length + es.length ≤ sizeLine then .nx (p.2.set i (.own (.lst (ds ++ es)))) else .bad
    | _, _ => .bad)
  | _ => .bad
theorem ds_ext (i : Nat) {x : Str} {p apos cpos : Pos} (he : DV X C W e h)
    (hpe : ∀ {t : TE}, PE X e t → PE X (.Call (.Attribute (.Name x p) "extend" apos) [e] [] cpos) (tBM X.K "list" rExtend (tVar i) (tCons t tNil)))
    (hs : swapsWith (.Call (.Attribute (.Name x p) "extend" apos) [e] [] cpos) none pos.line X.env = pure false := by rfl) :
    DS X C W (.Expr (.Call (.Attribute (.Name x p) "extend" apos) [e] [] cpos) pos) (sExt i h) := PS.to (ps_expr (hpe he) hs) fun Z σ H ⟨Γ, P0, H0, E, g⟩ => by
  unfold sExt at g
  split at g
  · rename_i ds0 hi
    obtain ⟨a, xs, hσ, hx, _, _⟩ := own_lst E hi
    refine ⟨.ref a, hσ, .inl ⟨rfl, _, .inl (.inl hx)⟩, Γ, P0, H0, E, got_of g E fun p v H' _ e t ⟨E', r⟩ k => ?_⟩
    split at k
    · rename_i ds es hi' he'
      rw [he'] at r
      split at k
      · rename_i hl
        obtain ⟨a', xs', hσ', hx', rr, mk⟩ := own_lst E' hi'
        rw [hσ] at hσ'
        cases hσ'
        obtain ⟨b, zs, rfl, hb, rb⟩ := rp_lst r
        exact ⟨a, b, xs', zs, rfl, rfl, hx', (mask_some.mp hb).2, by rw [rr.length, rb.length]; exact hl, k σ _ (mk _ _ (rr.append rb))⟩
      · exact k.elim
    · exact k.elim
  · exact g.elim
/-- x[i] = e, x a list of its own; the place by an expression that may read lists of its own -/
def sSetL (i : Nat) (h : Gm → Rg (D × Gm)) (b : Bool) (f : Gm → R) : Gm → O := fun Γ => (h Γ).toS Γ fun p => match p.2[i]? with
  | some (.own (.lst _)) => (match tst b f p.2 with
    | .ok (.int k) => (match p.2[i]? with
      | some (.own (.lst ds)) => (match ixN ds.length k with
        | some j => .nx (p.2.set i (.own (.lst (ds.set j p.1))))
        | none => .bad)
      | _ => .bad)
    | .exc c => .exc c p.2
    | _ => .bad)
  | _ => .bad
end
end DL

set_option Elab.async false
set_option linter.all false
set_option maxRecDepth 100000
set_option maxHeartbeats 2000000
namespace DL
open PySem PySem.Spec PyProof.Rows L2 LamX

/-! ### targets -/
/-- where a target has stored: the slots but js are as they were, no list is owned that wasn't -/
structure Kept (js : List Nat) (P0 : Addr → Prop) (Γ Γ' : Gm) (σ σ' : L2.St) : Prop where
  len : σ'.length = σ.length
  keep : ∀ j, j ∉ js → σ'[j]? = σ[j]?
  msk : ∀ a, Msk P0 Γ' σ' a → Msk P0 Γ σ a
theorem Kept.refl {P0 : Addr → Prop} {Γ : Gm} {σ : L2.St} {js : List Nat} : Kept js P0 Γ Γ σ σ := ⟨rfl, fun _ _ => rfl, fun _ h => h⟩
theorem Kept.trans {js ks ls : List Nat} {P0 : Addr → Prop} {Γ Γ' Γ2 : Gm} {σ σ' σ2 : L2.St} (a : Kept js P0 Γ Γ' σ σ') (b : Kept ks P0 Γ' Γ2 σ' σ2) (h1 : ∀ j ∈ js, j ∈ ls) (h2 : ∀ j ∈ ks, j ∈ ls) : Kept ls P0 Γ Γ2 σ σ2 :=
  ⟨b.len.trans a.len, fun j n => (b.keep j fun z => n (h2 j z)).trans (a.keep j fun z => n (h1 j z)), fun x h => a.msk x (b.msk x h)⟩
theorem Kept.mono {js ls : List Nat} {P0 : Addr → Prop} {Γ Γ' : Gm} {σ σ' : L2.St} (a : Kept js P0 Γ Γ' σ σ') (h1 : ∀ j ∈ js, j ∈ ls) : Kept ls P0 Γ Γ' σ σ' :=
  ⟨a.len, fun j n => a.keep j fun z => n (h1 j z), a.msk⟩
abbrev Tg := D → Gm → Option Gm
abbrev Tgs := List D → Gm → Option Gm
def rdG (K : PySem.W.Frag) (C : Cn) (t : Tg) (js : List Nat) : TG := fun v σ H Q => ∃ Γ P0 H0 d Γ', Here K C P0 H0 Γ σ H ∧ Rp K C.fa (mask (Msk P0 Γ σ) H) v d ∧ t d Γ = some Γ' ∧ ∀ σ', Here K C P0 H0 Γ' σ' H → Kept js P0 Γ Γ' σ σ' → Q σ' H
def rdGs (K : PySem.W.Frag) (C : Cn) (t : Tgs) (js : List Nat) : TGs := fun vs σ H Q => ∃ Γ P0 H0 ds Γ', Here K C P0 H0 Γ σ H ∧ RpL K C.fa (mask (Msk P0 Γ σ) H) vs ds ∧ t ds Γ = some Γ' ∧ ∀ σ', Here K C P0 H0 Γ' σ' H → Kept js P0 Γ Γ' σ σ' → Q σ' H
abbrev DG (X : Cx) (C : Cn) (e : Expr) (t : Tg) (js : List Nat) : Prop := PG X e (rdG X.K C t js)
abbrev DGs (X : Cx) (C : Cn) (es : List Expr) (t : Tgs) (js : List Nat) : Prop := PGs X es (rdGs X.K C t js)
theorem PG.to {X : Cx} {e : Expr} {t t' : TG} (h : PG X e t) (k : ∀ v σ H Q, t' v σ H Q → t v σ H Q) : PG X e t' := ⟨fun pins s σ H v u Q I r q => h.run pins s σ H v u Q I r (k v σ H Q q)⟩
theorem PGs.to {X : Cx} {e : List Expr} {t t' : TGs} (h : PGs X e t) (k : ∀ v σ H Q, t' v σ H Q → t v σ H Q) : PGs X e t' := ⟨fun pins s σ H v u Q I r q => h.run pins s σ H v u Q I r (k v σ H Q q)⟩
def tgN (i : Nat) : Tg := fun d Γ => some (Γ.set i (.dat d))
def tgNil : Tgs := fun ds Γ => match ds with
  | [] => some Γ
  | _ => none
def tgCons (t : Tg) (ts : Tgs) : Tgs := fun ds Γ => match ds with
  | [] => none
  | d :: r => (t d Γ).bind fun Γ' => ts r Γ'
/-- a tuple of n targets -/
def tgT (n : Nat) (ts : Tgs) : Tg := fun d Γ => match d with
  | .tup ds => if ds.length = n then ts ds Γ else none
  | _ => none
def tgL (n : Nat) (ts : Tgs) : Tg := fun d Γ => match d with
  | .lst ds => if ds.length = n then ts ds Γ else none
  | _ => none
theorem sqT_unmask {K : PySem.W.Frag} {M : Addr → Prop} {H : Hp} {a : Addr} {xs : List V} (h : SqT K (mask M H) a xs) : SqT K H a xs := sqT_ext (fun b o e _ => (mask_some.mp e).2) h
section
variable {X : Cx} {C : Cn} {e : Expr} {es : List Expr} {t : Tg} {ts : Tgs} {js ks : List Nat} {pos : Pos}
theorem dg_name (i : Nat) {x : Str} (hN : X.N.Nodup) (hi : X.N[i]? = some x := by rfl) (hx : Loc X.env.scope x := by first | exact Or.inl rfl | exact Or.inr rfl) (hf : X.fn x = true ∨ X.env.scope.names.lookup x = some .local := by first | exact .inl rfl | exact .inr rfl | assumption) :
    DG X C (.Name x pos) (tgN i) [i] := PG.to (pg_name hN hi hx hf) fun v σ H Q ⟨Γ, P0, H0, d, Γ', E, r, ht, k⟩ => by
  cases ht
  refine k _ ⟨E.e.setD r, E.nt⟩ ⟨List.length_set, fun j n => List.getElem?_set_ne (fun z => n (by rw [z]; simp)), fun a m => m.elim .inl fun z => .inr (ownP_set (fun _ q => by cases q) z)⟩
theorem dgs_nil : DGs X C [] tgNil [] := PGs.to pgs_nil fun vs σ H Q ⟨Γ, P0, H0, ds, Γ', E, r, ht, k⟩ => by
  cases ds with
  | nil =>
    cases ht
    exact ⟨rpL_nil r, k σ E Kept.refl⟩
  | cons d ds => cases ht
theorem dgs_cons (h1 : DG X C e t js) (h2 : DGs X C es ts ks) (hs : (assignEach (e :: es) X.env).map (·.2) = assign e X.env :: (assignEach es X.env).map (·.2) := by rfl) : DGs X C (e :: es) (tgCons t ts) (js ++ ks) :=
  PGs.to (pgs_cons h1 h2 hs) fun vs σ H Q ⟨Γ, P0, H0, ds, Γ', E, r, ht, k⟩ => by
  cases ds with
  | nil => cases ht
  | cons d ds =>
    obtain ⟨x, xs, rfl, r1, r2⟩ := rpL_cons r
    obtain ⟨Γ1, g1, g2⟩ := Option.bind_eq_some_iff.mp ht
    refine ⟨x, xs, rfl, Γ, P0, H0, d, Γ1, E, r1, g1, fun σ1 E1 k1 => ?_⟩
    refine ⟨Γ1, P0, H0, ds, Γ', E1, RpL.ext (mask_ext (ExtN.refl _) fun a m _ => k1.msk a m) _ _ r2, g2, fun σ2 E2 k2 => ?_⟩
    exact k σ2 E2 (k1.trans k2 (fun j h => List.mem_append_left _ h) (fun j h => List.mem_append_right _ h))
theorem dg_tup {k : Nat} {n : Nat} (hc : X.calm = true) (h : DGs X C es ts js) (hn : (assignEach es X.env).length = n := by rfl) (hst : (assignEach es X.env).findIdx? (·.1) = none := by rfl) : DG X C (.Tuple es k pos) (tgT n ts) js :=
  PG.to (pg_tup hc h hn hst) fun v σ H Q ⟨Γ, P0, H0, d, Γ', E, r, ht, q⟩ => by
  unfold tgT at ht
  split at ht
  · rename_i ds
    split at ht
    · rename_i hl
      obtain ⟨a, xs, rfl, hs, rr⟩ := rp_tup r
      exact ⟨a, xs, rfl, .inl (.inl (mask_some.mp hs).2), by rw [rr.length]; exact hl, Γ, P0, H0, ds, Γ', E, rr, ht, q⟩
    · cases ht
  · cases ht
theorem dg_lst {k : Nat} {n : Nat} (hc : X.calm = true) (h : DGs X C es ts js) (hn : (assignEach es X.env).length = n := by rfl) (hst : (assignEach es X.env).findIdx? (·.1) = none := by rfl) : DG X C (.Tuple es k pos) (tgL n ts) js :=
  PG.to (pg_lst hc h hn hst) fun v σ H Q ⟨Γ, P0, H0, d, Γ', E, r, ht, q⟩ => by
  unfold tgL at ht
  split at ht
  · rename_i ds
    split at ht
    · rename_i hl
      obtain ⟨a, xs, rfl, hs, rr⟩ := rp_lst r
      exact ⟨a, xs, rfl, .inl (.inl (mask_some.mp hs).2), by rw [rr.length]; exact hl, Γ, P0, H0, ds, Γ', E, rr, ht, q⟩
    · cases ht
  · cases ht
end

/-! ### what is walked -/
/-- J walks the things ds, as long as what B tells stays -/
def Wk (K : PySem.W.Frag) (C : Cn) (B : Hp) (J : It) (ds : List D) : Prop := ∃ (G : Hp → Prop) (Y : Nat → Hp → V → Hp → Prop), Walk J ds.length G Y ∧ (∀ H2, ExtN B H2 → G H2) ∧
  ∀ (i : Nat) (d : D) (H2 : Hp) (x : V) (H3 : Hp), ds[i]? = some d → ExtN B H2 → Y i H2 x H3 → ExtN H2 H3 ∧ (Tabs C.T H2 → Tabs C.T H3) ∧ ∀ M' : Addr → Prop, ExtN B (mask M' H2) → MutM M' H2 → Rp K C.fa (mask M' H3) x d
def repI (K : PySem.W.Frag) (C : Cn) (M : Addr → Prop) : Hp → Hp → It → List D → Prop := fun _ H' J ds => Wk K C (mask M H') J ds
def rdI (K : PySem.W.Frag) (C : Cn) (W : WX) (f : Gm → Rg (List D)) : TI := fun σ H R => ∃ Γ P0 H0, Here K C P0 H0 Γ σ H ∧ Got W C (repI K C (Msk P0 Γ σ)) σ H (f Γ) R
abbrev DI (X : Cx) (C : Cn) (W : WX) (tg iter : Expr) (f : Gm → Rg (List D)) : Prop := PI X tg iter (rdI X.K C W f)
theorem PI.to {X : Cx} {tg e : Expr} {t t' : TI} (h : PI X tg e t) (k : ∀ σ H Q, t' σ H Q → t σ H Q) : PI X tg e t' := ⟨fun pins s σ H Q I q => h.run pins s σ H Q I (k σ H Q q)⟩
theorem PI.or {X : Cx} {tg e : Expr} {t t' : TI} (h : PI X tg e t) (h' : PI X tg e t') : PI X tg e (fun σ H Q => t σ H Q ∨ t' σ H Q) := ⟨fun pins s σ H Q I q => q.elim (h.run pins s σ H Q I) (h'.run pins s σ H Q I)⟩
theorem repI_mono {K : PySem.W.Frag} {C : Cn} {M : Addr → Prop} : RepMono (repI K C M) := fun _ _ _ _ _ _ _ h => h
/-- the items of a list or a tuple -/
def itD : D → Rg (List D)
  | .lst ds => .ok ds
  | .tup ds => .ok ds
  | _ => .bad
def iSeq (f : Gm → R) : Gm → Rg (List D) := fun Γ => (f Γ).bind itD
theorem wk_list {K : PySem.W.Frag} {C : Cn} {B : Hp} {a : Addr} {xs : List V} {ds : List D} (h : B a = some (.lst xs)) (r : RpL K C.fa B xs ds) : Wk K C B (Itl K a) ds := by
  have w := walk_list (K := K) (a := a) (xs := xs)
  rw [r.length] at w
  refine ⟨_, _, w, fun H2 e => .inl (.inl (e _ _ h (fun _ z => by cases z))), fun i d H2 x H3 hd e y => ?_⟩
  obtain ⟨rfl, hx⟩ := y
  refine ⟨ExtN.refl _, fun t => t, fun M' e' _ => ?_⟩
  obtain ⟨v, hv, rv⟩ := r.get hd
  rw [hx] at hv
  cases hv
  exact rv.ext e' _ _
theorem wk_tup {K : PySem.W.Frag} {C : Cn} {B : Hp} {a : Addr} {xs : List V} {ds : List D} (h : SqT K B a xs) (r : RpL K C.fa B xs ds) : Wk K C B (Itt K a) ds := by
  have w := walk_tup (K := K) (a := a) (xs := xs)
  rw [r.length] at w
  refine ⟨_, _, w, fun H2 e => sqT_ext e h, fun i d H2 x H3 hd e y => ?_⟩
  obtain ⟨rfl, hx⟩ := y
  refine ⟨ExtN.refl _, fun t => t, fun M' e' _ => ?_⟩
  obtain ⟨v, hv, rv⟩ := r.get hd
  rw [hx] at hv
  cases hv
  exact rv.ext e' _ _
def rngD (lo : Int) (n : Nat) : List D := (List.range n).map fun (i : Nat) => .int (lo + (i : Int))
theorem wk_range {K : PySem.W.Frag} {C : Cn} {B : Hp} {lo : Int} {n : Nat} : Wk K C B (Itr lo n) (rngD lo n) := by
  have w := walk_range (lo := lo) (n := n)
  have hl : (rngD lo n).length = n := by unfold rngD; rw [List.length_map, List.length_range]
  refine ⟨fun _ => True, YFn fun i => .int (lo + i), by rw [hl]; exact w, fun _ _ => trivial, fun i d H2 x H3 hd e y => ?_⟩
  obtain ⟨rfl, rfl⟩ := y
  refine ⟨ExtN.refl _, fun t => t, fun M' e' _ => ?_⟩
  unfold rngD at hd
  rw [List.getElem?_map] at hd
  cases q : (List.range n)[i]? with
  | none => rw [q] at hd; cases hd
  | some j =>
    rw [q] at hd
    cases hd
    have : j = i := by
      obtain ⟨h1, h2⟩ := List.getElem?_eq_some_iff.mp q
      rw [List.getElem_range] at h2
      exact h2.symm
    subst this
    exact .int _
section
variable {X : Cx} {C : Cn} {W : WX} {tg e a b : Expr} {f fa fb : Gm → R} {fs : Gm → Rg (List D)} {pos p : Pos}
theorem di_seq (h : DE X C W e f) : DI X C W tg e (iSeq f) := PI.to (PI.or (pi_list h) (pi_tup h)) fun σ H R ⟨Γ, P0, H0, E, g⟩ => by
  unfold iSeq at g
  cases hq : f Γ with
  | ok d =>
    rw [hq] at g
    cases d with
    | lst ds =>
      refine .inl ⟨Γ, P0, H0, E, ?_⟩
      rw [hq]
      intro v H1 e1 t1 r1
      obtain ⟨a, xs, rfl, hx, rr⟩ := rp_lst r1
      exact ⟨a, rfl, ⟨xs, .inl (.inl (mask_some.mp hx).2)⟩, g _ H1 e1 t1 (wk_list hx rr)⟩
    | tup ds =>
      refine .inr ⟨Γ, P0, H0, E, ?_⟩
      rw [hq]
      intro v H1 e1 t1 r1
      obtain ⟨a, xs, rfl, hx, rr⟩ := rp_tup r1
      exact ⟨a, rfl, ⟨xs, .inl (.inl (mask_some.mp hx).2)⟩, g _ H1 e1 t1 (wk_tup (.inl (.inl hx)) rr)⟩
    | _ => exact g.elim
  | exc c =>
    rw [hq] at g
    refine .inl ⟨Γ, P0, H0, E, ?_⟩
    rw [hq]
    exact g
  | bad => rw [hq] at g; exact g.elim
/-- range -/
def rngA : List D → Rg (List D)
  | [.int j] => if -(2 ^ 62) ≤ j ∧ j < 2 ^ 62 then .ok (rngD 0 j.toNat) else .bad
  | [.int i, .int j] => if -(2 ^ 62) ≤ i ∧ i < 2 ^ 62 ∧ -(2 ^ 62) ≤ j ∧ j < 2 ^ 62 then .ok (rngD i (j - i).toNat) else .bad
  | _ => .bad
def iRng (fs : Gm → Rg (List D)) : Gm → Rg (List D) := fun Γ => (fs Γ).bind rngA
theorem di_range1 (hm : X.mg "range" = none) (ha : DE X C W a fa) (hg : Gl X "range" := by rfl) (hs : starEach [a] X.env = [(false, eval a X.env)] := by rfl) : DI X C W tg (.Call (.Name "range" p) [a] [] pos) (iRng (aCons fa aNil)) :=
  PI.to (pi_range1 hg hm (da_cons ha da_nil hs) hs) fun σ H R ⟨Γ, P0, H0, E, g⟩ => by
  refine ⟨Γ, P0, H0, E, Got.bind repI_mono g fun ds xs H1 hds e1 t1 r1 g1 => ?_⟩
  unfold rngA at g1
  split at g1
  · rename_i j
    split at g1
    · rename_i hj
      obtain ⟨x, xs', rfl, rx, r2⟩ := rpL_cons r1
      cases rpL_nil r2
      cases rp_int rx
      exact ⟨j, rfl, hj.1, hj.2, g1 _ H1 (ExtN.refl _) t1 wk_range⟩
    · exact g1.elim
  · rename_i i j
    unfold aCons aNil at hds
    exfalso
    cases hq : fa Γ with
    | ok d => rw [hq] at hds; simp at hds
    | exc c => rw [hq] at hds; cases hds
    | bad => rw [hq] at hds; cases hds
  · exact g1.elim
theorem di_range2 (hm : X.mg "range" = none) (ha : DE X C W a fa) (hb : DE X C W b fb) (hg : Gl X "range" := by rfl) (hs : starEach [a, b] X.env = [(false, eval a X.env), (false, eval b X.env)] := by rfl) (hs2 : starEach [b] X.env = [(false, eval b X.env)] := by rfl)
    (hs3 : starEach [a, b] X.env = (false, eval a X.env) :: starEach [b] X.env := by rfl) : DI X C W tg (.Call (.Name "range" p) [a, b] [] pos) (iRng (aCons fa (aCons fb aNil))) :=
  PI.to (pi_range2 hg hm (da_cons ha (da_cons hb da_nil hs2) hs3) hs hs2) fun σ H R ⟨Γ, P0, H0, E, g⟩ => by
  refine ⟨Γ, P0, H0, E, Got.bind repI_mono g fun ds xs H1 hds e1 t1 r1 g1 => ?_⟩
  unfold rngA at g1
  split at g1
  · rename_i j
    unfold aCons aNil at hds
    exfalso
    cases hq : fa Γ with
    | ok d =>
      cases hq2 : fb Γ with
      | ok d2 => rw [hq, hq2] at hds; simp at hds
      | exc c => rw [hq, hq2] at hds; cases hds
      | bad => rw [hq, hq2] at hds; cases hds
    | exc c => rw [hq] at hds; cases hds
    | bad => rw [hq] at hds; cases hds
  · rename_i i j
    split at g1
    · rename_i hj
      obtain ⟨x, xs', rfl, rx, r2⟩ := rpL_cons r1
      obtain ⟨y, ys', rfl, ry, r3⟩ := rpL_cons r2
      cases rpL_nil r3
      cases rp_int rx
      cases rp_int ry
      exact ⟨i, j, rfl, hj, g1 _ H1 (ExtN.refl _) t1 wk_range⟩
    · exact g1.elim
  · exact g1.elim
end

/-! ### loops -/
def killAll : List Nat → Gm → Gm
  | [], Γ => Γ
  | i :: r, Γ => killAll r (Γ.set i .no)
section
variable {K : PySem.W.Frag} {C : Cn} {W : WX} {P0 : Addr → Prop} {H0 H : Hp} {σ : L2.St}
theorem Here.kill : ∀ (ks : List Nat) {Γ : Gm}, Here K C P0 H0 Γ σ H → Here K C P0 H0 (killAll ks Γ) σ H
  | [], _, E => E
  | _ :: r, _, E => Here.kill r ⟨E.e.kill, E.nt⟩
theorem EnvOk.rebase {H0' : Hp} {Γ : Gm} (E : EnvOk K C P0 H0' Γ σ H) (sub : ∀ b o, H0 b = some o → H0' b = some o) : EnvOk K C P0 H0 Γ σ H where
  base := fun b o h => E.base b o (sub b o h)
  tab := E.tab
  p0 := E.p0
  dat := E.dat
  own := fun i d h => by
    obtain ⟨a, q, n, p, o⟩ := E.own i d h
    refine ⟨a, q, ?_, p, o⟩
    cases z : H0 a with
    | none => rfl
    | some u => rw [sub a u z] at n; cases n
  inj := E.inj
  len := E.len
theorem GotS.rebase {H0' : Hp} {o : O} {Z : Ends} (g : GotS K C W P0 H0 o Z) (nt : NoTb H0) (sub : ∀ b o, H0 b = some o → H0' b = some o) : GotS K C W P0 H0' o Z := by
  cases o with
  | nx Γ => exact fun σ H E => g σ H ⟨E.e.rebase sub, nt⟩
  | rt d => exact fun v H s t r => g v H (fun b u h => s b u (sub b u h)) t r
  | bk Γ => exact fun σ H E => g σ H ⟨E.e.rebase sub, nt⟩
  | ct Γ => exact fun σ H E => g σ H ⟨E.e.rebase sub, nt⟩
  | exc c Γ => exact fun c' σ H x E => g c' σ H x ⟨E.e.rebase sub, nt⟩
  | bad => exact g
/-- a base that knows all that stands still now -/
noncomputable def stands (Γ : Gm) (σ : L2.St) (H : Hp) : Hp := nt (mask (OwnP Γ σ) H)
theorem stands_nt {Γ : Gm} : NoTb (stands Γ σ H) := fun a ps e => (nt_some.mp e).2 ps rfl
theorem stands_sub {Γ : Gm} (E : Here K C P0 H0 Γ σ H) : ∀ b o, H0 b = some o → stands Γ σ H b = some o := fun b o h => by
  refine nt_some.mpr ⟨mask_some.mpr ⟨fun ⟨i, d, e1, e2⟩ => ?_, E.e.base b o h⟩, fun ps z => E.nt b ps (by rw [h, z])⟩
  obtain ⟨a, q, n, _⟩ := E.e.own i d e1
  rw [e2] at q
  cases q
  rw [h] at n
  cases n
theorem Here.stand {Γ : Gm} (E : Here K C P0 H0 Γ σ H) : Here K C P0 (stands Γ σ H) Γ σ H := by
  refine ⟨⟨fun b o h => (mask_some.mp (nt_some.mp h).1).2, E.e.tab, E.e.p0, E.e.dat, fun i d h => ?_, E.e.inj, E.e.len⟩, stands_nt⟩
  obtain ⟨a, q, n, p, o⟩ := E.e.own i d h
  refine ⟨a, q, ?_, p, o⟩
  cases z : stands Γ σ H a with
  | none => rfl
  | some u => exact absurd ⟨i, d, h, q⟩ (mask_some.mp (nt_some.mp z).1).1
theorem stands_ext {Γ : Gm} {H2 : Hp} (s : Same (stands Γ σ H) H2) : ExtN (mask (Msk P0 Γ σ) H) H2 := fun b o h n => by
  obtain ⟨h1, h2⟩ := mask_some.mp h
  exact s b o (nt_some.mpr ⟨mask_some.mpr ⟨fun z => h1 (.inr z), h2⟩, n⟩)
theorem stands_mask {Γ Γ2 : Gm} {σ2 : L2.St} {H2 : Hp} (E2 : Here K C P0 (stands Γ σ H) Γ2 σ2 H2) : ExtN (mask (Msk P0 Γ σ) H) (mask (Msk P0 Γ2 σ2) H2) := fun b o h n => by
  obtain ⟨h1, h2⟩ := mask_some.mp h
  have z : stands Γ σ H b = some o := nt_some.mpr ⟨mask_some.mpr ⟨fun z => h1 (.inr z), h2⟩, n⟩
  refine mask_some.mpr ⟨fun m => m.elim (fun q => h1 (.inl q)) fun ⟨i, d, e1, e2⟩ => ?_, E2.e.base b o z⟩
  obtain ⟨a, q, n', _⟩ := E2.e.own i d e1
  rw [e2] at q
  cases q
  rw [z] at n'
  cases n'
end
def forL (ks : List Nat) (t : Tg) (F : Gm → O) : List D → Gm → O
  | [], Γ => .nx Γ
  | d :: r, Γ => match t d Γ with
    | none => .bad
    | some Γ1 => match F Γ1 with
      | .nx Γ2 => forL ks t F r (killAll ks Γ2)
      | .ct Γ2 => forL ks t F r (killAll ks Γ2)
      | .bk Γ2 => .nx (killAll ks Γ2)
      | .rt d => .rt d
      | .exc c Γ2 => .exc c Γ2
      | .bad => .bad
/-- for: ks are forgotten behind each turn and at the start -/
def sFor (ks : List Nat) (b : Bool) (fi : Gm → Rg (List D)) (t : Tg) (F : Gm → O) : Gm → O := fun Γ => (fi (if b then unown Γ else Γ)).toS (if b then unown Γ else Γ) fun ds => forL ks t F ds (killAll ks (if b then unown Γ else Γ))
section
variable {X : Cx} {C : Cn} {W : WX} {tg e c : Expr} {F : Gm → O} {f : Gm → R} {fi : Gm → Rg (List D)} {t : Tg} {js : List Nat} {body : List Stmt} {pos : Pos}
theorem drop_cons {α : Type} {l : List α} {i : Nat} (h : i < l.length) : ∃ x, l[i]? = some x ∧ l.drop i = x :: l.drop (i + 1) := ⟨l[i], List.getElem?_eq_getElem h, (List.drop_eq_getElem_cons h)⟩
theorem ds_for (ks : List Nat) (b : Bool) (hp : PassesOwn (model X.prog X.w) X.A X.env X.xe) (hi : DI X C W tg e fi) (hg : DG X C tg t js) (hb : DSs X C W body F) (hc : X.calm = true := by rfl) (hs : ∀ x, foldedSetIterable e X.env x = pure x := by intro _; rfl) :
    DS X C W (.For tg e body [] pos) (sFor ks b fi t F) := PS.to (ps_for hp hc hi hg hb hs) fun Z σ H ⟨Γ, P0, H0, E0, g0⟩ => by
  generalize hΓe : (if b then unown Γ else Γ) = Γe
  have E : Here X.K C P0 H0 Γe σ H := by
    rw [← hΓe]
    cases b with
    | true => exact E0.unown
    | false => exact E0
  unfold sFor at g0
  rw [hΓe] at g0
  have g := g0
  refine ⟨Γe, P0, H0, E, got_of (rep := repI X.K C (Msk P0 Γe σ)) g E fun ds J H1 _ e1 t1 hJ g1 => ?_⟩
  obtain ⟨G, Y, wk, hG, hY⟩ := hJ
  have E1 := E.ext e1 t1
  have nb := stands_sub E1
  refine for_it wk (fun i σ2 H2 => ∃ Γ2, Here X.K C P0 (stands Γe σ H1) Γ2 σ2 H2 ∧ GotS X.K C W P0 (stands Γe σ H1) (forL ks t F (ds.drop i) Γ2) Z)
    ⟨_, E1.stand.kill ks, g1.rebase E.nt nb⟩ (fun i σ2 H2 _ ⟨Γ2, E2, _⟩ => hG H2 (stands_ext E2.e.base)) ?_ ?_
  · rintro i x σ2 H2 H3 hi ⟨Γ2, E2, g2⟩ hy
    obtain ⟨d, hd, hdrop⟩ := drop_cons hi
    rw [hdrop] at g2
    obtain ⟨e3, t3, r3⟩ := hY i d H2 x H3 hd (stands_ext E2.e.base) hy
    have r4 := r3 _ (stands_mask E2) E2.e.mut
    have E3 := E2.ext e3 (t3 E2.e.tab)
    unfold forL at g2
    cases ht : t d Γ2 with
    | none => rw [ht] at g2; exact g2.elim
    | some Γ3 =>
      rw [ht] at g2
      refine ⟨Γ2, P0, _, d, Γ3, E3, r4, ht, fun σ4 E4 _ => ⟨Γ3, P0, _, E4, ?_⟩⟩
      simp only at g2
      cases hF : F Γ3 with
      | nx Γ5 => rw [hF] at g2; exact fun σ' H' E' => ⟨_, E'.kill ks, g2⟩
      | ct Γ5 => rw [hF] at g2; exact fun σ' H' E' => ⟨_, E'.kill ks, g2⟩
      | bk Γ5 => rw [hF] at g2; exact fun σ' H' E' => g2 σ' H' (E'.kill ks)
      | rt d => rw [hF] at g2; exact g2
      | exc c Γ5 => rw [hF] at g2; exact g2
      | bad => rw [hF] at g2; exact g2
  · rintro σ2 H2 ⟨Γ2, E2, g2⟩
    rw [List.drop_length] at g2
    exact g2 σ2 H2 E2

/-! ### while -/
def whileN (ks : List Nat) (b : Bool) (f : Gm → R) (F : Gm → O) : Nat → Gm → O
  | 0, _ => .bad
  | n + 1, Γ => match tst b f Γ with
    | .ok (.bl true) => (match F Γ with
      | .nx Γ2 => whileN ks b f F n (killAll ks Γ2)
      | .ct Γ2 => whileN ks b f F n (killAll ks Γ2)
      | .bk Γ2 => .nx (killAll ks Γ2)
      | .rt d => .rt d
      | .exc c Γ2 => .exc c Γ2
      | .bad => .bad)
    | .ok (.bl false) => .nx Γ
    | .exc c => .exc c Γ
    | _ => .bad
def sWhile (ks : List Nat) (b : Bool) (f : Gm → R) (F : Gm → O) (n : Nat) : Gm → O := fun Γ => whileN ks b f F n (killAll ks Γ)
theorem ds_while (ks : List Nat) (b : Bool) (n : Nat) (hp : PassesOwn (model X.prog X.w) X.A X.env X.xe) (hc : DT X C W c f) (hb : DSs X C W body F) : DS X C W (.While c body [] pos) (sWhile ks b f F n) :=
  PS.to (ps_while hp hc hb) fun Z σ H ⟨Γ, P0, H0, E0, g0⟩ => by
  refine ⟨fun m σ H => ∃ Γ, Here X.K C P0 H0 Γ σ H ∧ GotS X.K C W P0 H0 (whileN ks b f F m Γ) Z, ⟨n, _, E0.kill ks, g0⟩, ?_⟩
  rintro m σ2 H2 ⟨Γ2, E2, g2⟩
  cases m with
  | zero => exact g2.elim
  | succ m =>
    have E3 : Here X.K C P0 H0 (if b then unown Γ2 else Γ2) σ2 H2 := by
      cases b with
      | true => exact E2.unown
      | false => exact E2
    refine ⟨_, P0, H0, E3, ?_⟩
    unfold whileN tst at g2
    cases hq : f (if b then unown Γ2 else Γ2) with
    | ok d =>
      rw [hq] at g2
      cases d with
      | bl k =>
        cases k with
        | true =>
          refine fun H' e t => (if_pos rfl).mpr ⟨fun σ' H' => ∃ Γ, Here X.K C P0 H0 Γ σ' H' ∧ GotS X.K C W P0 H0 (whileN ks b f F m Γ) Z, fun σ' H' q => ⟨m, Nat.lt_succ_self m, q⟩, Γ2, P0, H0, E2.ext e t, ?_⟩
          simp only at g2
          cases hF : F Γ2 with
          | nx Γ5 => rw [hF] at g2; exact fun σ' H' E' => ⟨_, E'.kill ks, g2⟩
          | ct Γ5 => rw [hF] at g2; exact fun σ' H' E' => ⟨_, E'.kill ks, g2⟩
          | bk Γ5 => rw [hF] at g2; exact fun σ' H' E' => g2 σ' H' (E'.kill ks)
          | rt d => rw [hF] at g2; exact g2
          | exc c Γ5 => rw [hF] at g2; exact g2
          | bad => rw [hF] at g2; exact g2
        | false => exact fun H' e t => (if_neg Bool.false_ne_true).mpr (g2 σ2 H' (E2.ext e t))
      | _ => exact g2.elim
    | exc c => rw [hq] at g2; exact fun c' H' x e t => g2 c' σ2 H' x (E2.ext e t)
    | bad => rw [hq] at g2; exact g2.elim

/-! ### comprehensions -/
def W0 : WX := fun _ _ _ _ => False
def hideOwn (Γ : Gm) : Gm := Γ.map fun s => match s with
  | .own _ => .no
  | s => s
def lcL (t : Tg) (ft fe : Gm → R) : List D → Gm → Rg (List D)
  | [], _ => .ok []
  | d :: r, Γ => match t d Γ with
    | none => .bad
    | some Γ1 => match ft Γ1 with
      | .ok (.bl true) => (match fe Γ1 with
        | .ok y => (lcL t ft fe r Γ).bind fun ys => .ok (y :: ys)
        | _ => .bad)
      | .ok (.bl false) => lcL t ft fe r Γ
      | _ => .bad
def eLc (vs : List Nat) (fi : Gm → Rg (List D)) (t : Tg) (ft fe : Gm → R) : Gm → R := fun Γ => (fi Γ).bind fun ds => if ds.length ≤ sizeLine then (match lcL t ft fe ds (killAll vs (hideOwn Γ)) with
  | .ok ys => .ok (.lst ys)
  | _ => .bad) else .bad
theorem hide_own {Γ : Gm} {i : Nat} {d : D} : (hideOwn Γ)[i]? ≠ some (.own d) := by
  unfold hideOwn
  rw [List.getElem?_map]
  cases Γ[i]? with
  | none => simp
  | some s => cases s <;> simp
theorem hide_dat {Γ : Gm} {i : Nat} {d : D} (h : (hideOwn Γ)[i]? = some (.dat d)) : Γ[i]? = some (.dat d) := by
  unfold hideOwn at h
  rw [List.getElem?_map] at h
  cases e : Γ[i]? with
  | none => rw [e] at h; simp at h
  | some s =>
    rw [e] at h
    cases s with
    | no => simp at h
    | dat x => simp at h; subst h; rfl
    | own x => simp at h
theorem killAll_some : ∀ {ks : List Nat} {Γ : Gm} {i : Nat} {s : Sl}, s ≠ .no → (killAll ks Γ)[i]? = some s → Γ[i]? = some s ∧ i ∉ ks
  | [], _, _, _, _, h => ⟨h, by simp⟩
  | k :: r, Γ, i, s, n, h => by
    obtain ⟨h1, h2⟩ := killAll_some (ks := r) n h
    by_cases hk : k = i
    · subst hk
      by_cases hl : k < Γ.length
      · rw [List.getElem?_set_self hl] at h1
        exact absurd (Option.some.inj h1).symm n
      · rw [List.getElem?_set, if_pos rfl, if_neg hl] at h1; cases h1
    · rw [List.getElem?_set_ne hk] at h1
      exact ⟨h1, by simp only [List.mem_cons, not_or]; exact ⟨fun z => hk z.symm, h2⟩⟩
theorem killAll_len : ∀ {ks : List Nat} {Γ : Gm}, (killAll ks Γ).length = Γ.length
  | [], _ => rfl
  | k :: r, Γ => by
    unfold killAll
    rw [killAll_len (ks := r), List.length_set]
theorem wipe_in {σ : L2.St} {i : Nat} : ∀ {vs : List Nat}, i ∈ vs → i < σ.length → (wipe σ vs)[i]? = some none
  | [], h, _ => by cases h
  | v :: vs, h, hl => by
    unfold wipe
    by_cases hv : v = i
    · subst hv
      rw [List.getElem?_set_self (by rw [wipe_length]; exact hl)]
    · rw [List.getElem?_set_ne hv]
      rcases List.mem_cons.mp h with z | z
      · exact absurd z.symm hv
      · exact wipe_in z hl
theorem wipe_same {σ σ2 : L2.St} {vs : List Nat} (hl : σ2.length = (wipe σ vs).length) (hk : ∀ j, j ∉ vs → σ2[j]? = (wipe σ vs)[j]?) : wipe σ2 vs = wipe σ vs := by
  have hl' : σ2.length = σ.length := hl.trans (wipe_length σ vs)
  apply List.ext_getElem?
  intro i
  by_cases hi : i ∈ vs
  · by_cases hlt : i < σ.length
    · rw [wipe_in hi hlt, wipe_in hi (by rw [hl']; exact hlt)]
    · rw [List.getElem?_eq_none (by rw [wipe_length]; omega), List.getElem?_eq_none (by rw [wipe_length]; omega)]
  · rw [wipe_out hi, hk i hi]
section
variable {K : PySem.W.Frag} {C : Cn} {W : WX}
theorem rd_lc {fi : Gm → Rg (List D)} {t : Tg} {js vs : List Nat} {ft fe : Gm → R} (hj : ∀ j ∈ js, j ∈ vs) {σ : L2.St} {H : Hp} {Q : VK} (h : rdF K C W (eLc vs fi t ft fe) σ H Q) :
    tLc (rdI K C W fi) (rdG K C t js) (rdT K C W0 ft) (rdE K C W0 fe) vs σ H Q := by
  obtain ⟨Γ, P0, H0, E, g⟩ := h
  refine ⟨Γ, P0, H0, E, Got.bind (rep := repI K C (Msk P0 Γ σ)) repF_mono g fun ds J H1 _ e1 t1 hJ g1 => ?_⟩
  obtain ⟨G, Y, wk, hG, hY⟩ := hJ
  intro L hL
  split at g1
  · rename_i hsz
    cases hq : lcL t ft fe ds (killAll vs (hideOwn Γ)) with
    | bad => rw [hq] at g1; exact g1.elim
    | exc c => rw [hq] at g1; exact g1.elim
    | ok zs =>
      rw [hq] at g1
      have E1 := E.ext e1 t1
      have nL : ¬ Solid H1 L := not_solid hL
      generalize hΓb : killAll vs (hideOwn Γ) = Γb at hq
      generalize hPb : (fun a => Msk P0 Γ σ a ∨ a = L) = Pb
      have PbM : ∀ a, Pb a ↔ (Msk P0 Γ σ a ∨ a = L) := fun a => by rw [← hPb]
      -- the block's state at any later heap
      have here : ∀ H2, ExtN H1 H2 → Tabs C.T H2 → (∃ acc, H2 L = some (.lst acc)) → Here K C Pb (nt H1) Γb (wipe σ vs) H2 := fun H2 e2 t2 ⟨acc, hacc⟩ => by
        have nown : ∀ (i : Nat) (d : D), Γb[i]? ≠ some (.own d) := fun i d z => by
          rw [← hΓb] at z
          exact hide_own (killAll_some (fun q => by cases q) z).1
        refine ⟨⟨nt_ext e2, t2, fun a m => ?_, fun i d hd => ?_, fun i d hd => absurd hd (nown i d), fun i j d e a hd => absurd hd (nown i d), ?_⟩, fun a ps z => (nt_some.mp z).2 ps rfl⟩
        · rcases (PbM a).mp m with m | m
          · obtain ⟨o, ho, io⟩ := (E1.e.mut.ext e2) a m
            exact ⟨o, ho, io⟩
          · exact ⟨_, (congrArg H2 m).trans hacc, trivial⟩
        · rw [← hΓb] at hd
          obtain ⟨h1, h2⟩ := killAll_some (fun q => by cases q) hd
          obtain ⟨v, hv, r⟩ := E1.e.dat i d (hide_dat h1)
          refine ⟨v, by rw [wipe_out h2]; exact hv, r.ext (mask_ext e2 fun a m s => ?_) _ _⟩
          rcases m with m | m
          · rcases (PbM a).mp m with m | m
            · exact m
            · exact absurd (m ▸ s) nL
          · obtain ⟨j, x, q, _⟩ := m
            exact absurd q (nown j x)
        · rw [← hΓb, killAll_len, wipe_length]
          unfold hideOwn
          rw [List.length_map]
          exact E.e.len
      have nown' : ∀ a, ¬ OwnP Γb (wipe σ vs) a := fun a ⟨i, d, z, _⟩ => by
        rw [← hΓb] at z
        exact hide_own (killAll_some (fun q => by cases q) z).1
      have bm : ∀ H2, ExtN H1 H2 → ExtN (mask (Msk P0 Γ σ) H1) (mask (Msk Pb Γb (wipe σ vs)) H2) := fun H2 e2 => mask_ext e2 fun a m s => by
        rcases m with m | m
        · rcases (PbM a).mp m with m | m
          · exact m
          · exact absurd (m ▸ s) nL
        · exact absurd m (nown' a)
      refine lc_it wk (fun i H2 => ∃ acc ys, H2 L = some (.lst acc) ∧ ExtN H1 H2 ∧ Tabs C.T H2 ∧ RpL K C.fa (mask Pb H2) acc ys ∧ acc.length ≤ i ∧ ∃ ws, lcL t ft fe (ds.drop i) Γb = .ok ws ∧ zs = ys ++ ws)
        ⟨[], [], upd_same, ext_new hL, tabs_new t1 hL, .nil, Nat.le_refl _, zs, hq, rfl⟩ (fun i H2 _ ⟨acc, ys, _, e2, _⟩ => hG H2 (fun b o hb n => e2 b o (mask_some.mp hb).2 n)) ?_ ?_
      · rintro i x H2 H3 hi ⟨acc, ys, hacc, e2, t2, racc, hlen, ws, hws, hzs⟩ hy
        obtain ⟨d, hd, hdrop⟩ := drop_cons hi
        rw [hdrop] at hws
        have E2 := here H2 e2 t2 ⟨acc, hacc⟩
        obtain ⟨e3, t3, r3⟩ := hY i d H2 x H3 hd (fun b o hb n => e2 b o (mask_some.mp hb).2 n) hy
        have r4 := r3 _ (bm H2 e2) E2.e.mut
        have E3 := E2.ext e3 (t3 t2)
        have hacc3 : H3 L = some (.lst acc) := e3 _ _ hacc (fun _ z => by cases z)
        unfold lcL at hws
        cases ht : t d Γb with
        | none => rw [ht] at hws; cases hws
        | some Γ3 =>
          rw [ht] at hws
          simp only at hws
          refine ⟨Γb, Pb, _, d, Γ3, E3, r4, ht, fun σ4 E4 k4 => ⟨wipe_same k4.len fun j n => k4.keep j fun z => n (hj j z), ?_⟩⟩
          have mk4 : ∀ a, Msk Pb Γ3 σ4 a → Pb a := fun a m => (k4.msk a m).elim id fun z => absurd z (nown' a)
          refine ⟨Γ3, Pb, _, E4, ?_⟩
          cases hft : ft Γ3 with
          | ok b =>
            rw [hft] at hws
            cases b with
            | bl b =>
              cases b with
              | true =>
                refine fun H5 e5 t5 => (if_pos rfl).mpr ⟨Γ3, Pb, _, E4.ext e5 t5, ?_⟩
                simp only at hws
                cases hfe : fe Γ3 with
                | ok y =>
                  rw [hfe] at hws
                  intro v H6 e6 t6 r6
                  have e16 : ExtN H1 H6 := e2.trans (e3.trans (e5.trans e6))
                  have hacc6 : H6 L = some (.lst acc) := e6 _ _ (e5 _ _ hacc3 (fun _ z => by cases z)) (fun _ z => by cases z)
                  simp only at hws
                  cases hrest : lcL t ft fe (ds.drop (i + 1)) Γb with
                  | ok us =>
                    rw [hrest] at hws
                    simp only [Rg.bind_ok] at hws
                    cases hws
                    refine ⟨acc, hacc6, by omega, acc ++ [v], ys ++ [y], upd_same, fun b o hb n => ?_, tabs_mut t6 hacc6 trivial, ?_, by rw [List.length_append]; exact Nat.succ_le_succ hlen, us, rfl, by rw [hzs, List.append_assoc]; rfl⟩
                    · rw [upd_ne (fun z => nL ⟨o, by rw [← z]; exact hb, n⟩)]
                      exact e16 b o hb n
                    · have mm : ExtN (mask Pb H6) (mask Pb (upd H6 L (.lst (acc ++ [v])))) := fun b o hb _ => by
                        obtain ⟨q1, q2⟩ := mask_some.mp hb
                        refine mask_some.mpr ⟨q1, ?_⟩
                        rw [upd_ne (fun z => q1 ((PbM b).mpr (.inr z)))]
                        exact q2
                      refine RpL.snoc (RpL.ext mm _ _ (RpL.ext (mask_same (e3.trans (e5.trans e6))) _ _ racc)) (Rp.ext mm _ _ (Rp.ext (mask_ext (ExtN.refl _) fun a m _ => ?_) _ _ r6))
                      exact .inl m
                  | exc c => rw [hrest] at hws; cases hws
                  | bad => rw [hrest] at hws; cases hws
                | exc c => rw [hfe] at hws; cases hws
                | bad => rw [hfe] at hws; cases hws
              | false =>
                refine fun H5 e5 t5 => (if_neg Bool.false_ne_true).mpr ⟨acc, ys, e5 _ _ hacc3 (fun _ z => by cases z), e2.trans (e3.trans e5), t5, RpL.ext (mask_same (e3.trans e5)) _ _ racc, Nat.le_succ_of_le hlen, ws, hws, hzs⟩
            | _ => cases hws
          | exc c => rw [hft] at hws; cases hws
          | bad => rw [hft] at hws; cases hws
      · rintro H2 ⟨acc, ys, hacc, e2, t2, racc, hlen, ws, hws, hzs⟩
        rw [List.drop_length] at hws
        cases hws
        rw [List.append_nil] at hzs
        subst hzs
        refine g1 (.ref L) H2 e2 t2 ⟨L, rfl, nL, acc, hacc, ?_⟩
        rw [hPb]
        exact racc
  · exact g1.elim
end
abbrev DTs (X : Cx) (C : Cn) (W : WX) (es : List Expr) (f : Gm → R) : Prop := PTs X es (rdT X.K C W f)
section
variable {X : Cx} {C : Cn} {W : WX} {tg iter elt e : Expr} {ifs : List Expr} {f ft fe : Gm → R} {fi : Gm → Rg (List D)} {t : Tg} {js : List Nat} {scope : Scope} {own : List (Str × Nat)} {pos : Pos}
theorem dts_nil : DTs X C W [] (eC (.bl true)) := ⟨fun pins s σ H Q I ⟨Γ, P0, H0, E, g⟩ => pts_nil.run pins s σ H Q I (g H (ExtN.refl H) E.e.tab)⟩
theorem dts_one (h : DT X C W e f) : DTs X C W [e] f := pts_one h
theorem df_lc (hN : X.N.Nodup) (hi : DI X C W tg iter fi) (ok : BlkOk X.N X.env.scope scope own)
    (hg : ∀ (s : Shared) (H : Hp) (c : Addr) (cl : List (Str × Addr)) (fp : List Addr), DG (X.blk s H scope (compEnvC scope cl c X.env) fp) C tg t js)
    (ht : ∀ (s : Shared) (H : Hp) (c : Addr) (cl : List (Str × Addr)) (fp : List Addr), DTs (X.blk s H scope (compEnvC scope cl c X.env) fp) C W0 ifs ft)
    (he : ∀ (s : Shared) (H : Hp) (c : Addr) (cl : List (Str × Addr)) (fp : List Addr), DE (X.blk s H scope (compEnvC scope cl c X.env) fp) C W0 elt fe)
    (hj : ∀ j ∈ js, j ∈ own.map (·.2)) (hc : X.calm = true := by rfl) (hs : ∀ x, foldedSetIterable iter X.env x = pure x := by intro _; rfl) :
    DF X C W (.ListComp elt [⟨tg, iter, ifs, 0⟩] scope pos) (eLc (own.map (·.2)) fi t ft fe) :=
  PE.to (pe_lc hc hN hi ok hg ht he hs) fun σ H Q h => rd_lc hj h
theorem ds_lc (i : Nat) {y : Str} {py spos : Pos} {F : Gm → O} (hN : X.N.Nodup) (hi : DI X C W tg iter fi) (ok : BlkOk X.N X.env.scope scope own)
    (hg : ∀ (s : Shared) (H : Hp) (c : Addr) (cl : List (Str × Addr)) (fp : List Addr), DG (X.blk s H scope (compEnvC scope cl c X.env) fp) C tg t js)
    (ht : ∀ (s : Shared) (H : Hp) (c : Addr) (cl : List (Str × Addr)) (fp : List Addr), DTs (X.blk s H scope (compEnvC scope cl c X.env) fp) C W0 ifs ft)
    (he : ∀ (s : Shared) (H : Hp) (c : Addr) (cl : List (Str × Addr)) (fp : List Addr), DE (X.blk s H scope (compEnvC scope cl c X.env) fp) C W0 elt fe)
    (hj : ∀ j ∈ js, j ∈ own.map (·.2)) (hF : ∀ Z σ H, rdS X.K C W F Z σ H → tAsg (rdF X.K C W (eLc (own.map (·.2)) fi t ft fe)) (gName i) Z σ H) (hy : X.N[i]? = some y := by rfl) (hyl : X.env.scope.names.lookup y = some .local := by rfl)
    (hsw : swapsWith (.ListComp elt [⟨tg, iter, ifs, 0⟩] scope pos) (some (.Name y py)) spos.line X.env = pure true := by exact sw_true rfl rfl rfl (by decide +kernel)) (hc : X.calm = true := by rfl) (hs : ∀ x, foldedSetIterable iter X.env x = pure x := by intro _; rfl) :
    DS X C W (.Assign [.Name y py] (.ListComp elt [⟨tg, iter, ifs, 0⟩] scope pos) spos) F :=
  PS.to (ps_setLc hc hN hy hyl hsw hi ok hg ht he hs) fun Z σ H h => rd_lc hj (hF Z σ H h)
theorem rd_setP {i : Nat} {Z : Ends} {σ : L2.St} {H : Hp} (q : rdS X.K C W (sSet i (vP f)) Z σ H) : tAsg (rdF X.K C W f) (gName i) Z σ H := by
  obtain ⟨Γ, P0, H0, E, g⟩ := rd_vP (rd_set q)
  exact ⟨Γ, P0, H0, E, g.fr E.e.mut⟩
theorem rd_setF {i : Nat} {Z : Ends} {σ : L2.St} {H : Hp} (q : rdS X.K C W (sSet i (vF f)) Z σ H) : tAsg (rdF X.K C W f) (gName i) Z σ H := rd_vF (rd_set q)
theorem rd_ownP {i : Nat} {Z : Ends} {σ : L2.St} {H : Hp} (q : rdS X.K C W (sOwn i (vP f)) Z σ H) : tAsg (rdF X.K C W f) (gName i) Z σ H := rd_oP (rd_own q)
theorem rd_ownF {i : Nat} {Z : Ends} {σ : L2.St} {H : Hp} (q : rdS X.K C W (sOwn i (vF f)) Z σ H) : tAsg (rdF X.K C W f) (gName i) Z σ H := rd_oF (rd_own q)
end
end
end DL

set_option Elab.async false
set_option linter.all false
set_option maxRecDepth 100000
set_option maxHeartbeats 2000000
namespace DL
open PySem PySem.Spec PyProof.Rows L2 LamX

/-! ### numbers, + and * of lists, tuples, texts -/
def addD : D → D → R
  | .int i, .int j => .ok (.int (i + j))
  | .lst a, .lst b => if a.length + b.length ≤ sizeLine then .ok (.lst (a ++ b)) else .bad
  | .tup a, .tup b => if a.length + b.length ≤ sizeLine then .ok (.tup (a ++ b)) else .bad
  | .str a, .str b => if a.length + b.length ≤ sizeLine then .ok (.str (a ++ b)) else .bad
  | _, _ => .bad
def subD : D → D → R
  | .int i, .int j => .ok (.int (i - j))
  | _, _ => .bad
/-- the size of a product -/
def mulOk (i j : Int) : Bool := decide (i.natAbs.log2 + j.natAbs.log2 < 100000000)
def mulD : D → D → R
  | .int i, .int j => if mulOk i j then .ok (.int (i * j)) else .bad
  | .lst a, .int k => if k.natAbs ≤ 1000 ∧ a.length * k.toNat ≤ sizeLine then .ok (.lst (List.replicate k.toNat a).flatten) else .bad
  | .tup a, .int k => if a ≠ [] ∧ 2 ≤ k ∧ k ≤ 1000 ∧ a.length ≤ 1000 then .ok (.tup (List.replicate k.toNat a).flatten) else if a ≠ [] ∧ k = 1 then .ok (.tup a) else .bad
  | _, _ => .bad
def fdivD : D → D → R
  | .int i, .int j => if 0 < j ∧ j.natAbs.log2 < 9000 then .ok (.int (i / j)) else .bad
  | _, _ => .bad
def modD : D → D → R
  | .int i, .int j => if 0 < j then .ok (.int (i % j)) else .bad
  | _, _ => .bad
def powD : D → D → R
  | .int i, .int j => if 0 ≤ j ∧ j ≤ 1000 ∧ i.natAbs < 2 ^ 64 then .ok (.int (i ^ j.toNat)) else .bad
  | _, _ => .bad
section
variable {X : Cx} {C : Cn} {K : PySem.W.Frag}
theorem Got.ok1 {W : WX} {M : Addr → Prop} {σ : L2.St} {H : Hp} {d : D} {Q : VK} (g : Got W C (repD K C M) σ H (.ok d) Q) (t : Tabs C.T H) {v : V} (r : Rp K C.fa (mask M H) v d) : Q v H := g v H (ExtN.refl H) t r
theorem Got.okF {W : WX} {M : Addr → Prop} {σ : L2.St} {H : Hp} {d : D} {Q : VK} (g : Got W C (repF K C M) σ H (.ok d) Q) (t : Tabs C.T H) {v : V} (r : FrV K C.fa M H H v d) : Q v H := g v H (ExtN.refl H) t r
/-- a new tuple -/
theorem Got.newT {W : WX} {M : Addr → Prop} {σ : L2.St} {H : Hp} {ds : List D} {Q : VK} (g : Got W C (repF K C M) σ H (.ok (.tup ds)) Q) (mm : MutM M H) (t : Tabs C.T H) {xs : List V} (r : RpL K C.fa (mask M H) xs ds) : ∀ p, H p = none → Q (.ref p) (upd H p (.tup xs)) := fun p hp => by
  refine g _ _ (ext_new hp) (tabs_new t hp) ?_
  exact Rp.tup (mask_some.mpr ⟨fun m => not_solid hp (mm.solid p m), upd_same⟩) (RpL.ext (mask_same (ext_new hp)) _ _ r)
theorem Got.newTD {W : WX} {M : Addr → Prop} {σ : L2.St} {H : Hp} {ds : List D} {Q : VK} (g : Got W C (repD K C M) σ H (.ok (.tup ds)) Q) (mm : MutM M H) (t : Tabs C.T H) {xs : List V} (r : RpL K C.fa (mask M H) xs ds) : ∀ p, H p = none → Q (.ref p) (upd H p (.tup xs)) := fun p hp => by
  refine g _ _ (ext_new hp) (tabs_new t hp) ?_
  exact Rp.tup (mask_some.mpr ⟨fun m => not_solid hp (mm.solid p m), upd_same⟩) (RpL.ext (mask_same (ext_new hp)) _ _ r)
/-- a new list -/
theorem Got.newL {W : WX} {M : Addr → Prop} {σ : L2.St} {H : Hp} {ds : List D} {Q : VK} (g : Got W C (repF K C M) σ H (.ok (.lst ds)) Q) (t : Tabs C.T H) {xs : List V} (r : RpL K C.fa (mask M H) xs ds) : ∀ p, H p = none → Q (.ref p) (upd H p (.lst xs)) := fun p hp =>
  g _ _ (ext_new hp) (tabs_new t hp) (new_lst (ExtN.refl _) hp r)
theorem vop_add : VOpF K C (fun x y H Q => rI0 (fun i j => .int (i + j)) x y H Q ∨ rCat x y H Q ∨ rCatA K x y H Q ∨ (∃ i j, x = .str i ∧ y = .str j ∧ i.length + j.length ≤ sizeLine ∧ Q (.str (i ++ j)) H)) addD := by
  intro W M σ H x y d e Q mm t rx ry g
  unfold addD at g
  split at g
  · cases rp_int rx; cases rp_int ry
    exact .inl ⟨_, _, rfl, rfl, g.okF t (.int _)⟩
  · split at g
    · rename_i hl
      obtain ⟨a, xs, rfl, ha, ra⟩ := rp_lst rx
      obtain ⟨b, ys, rfl, hb, rb⟩ := rp_lst ry
      refine .inr (.inl ⟨a, b, xs, ys, rfl, rfl, (mask_some.mp ha).2, (mask_some.mp hb).2, by rw [ra.length, rb.length]; exact hl, g.newL t (ra.append rb)⟩)
    · exact g.elim
  · split at g
    · rename_i hl
      obtain ⟨a, xs, rfl, ha, ra⟩ := rp_tup rx
      obtain ⟨b, ys, rfl, hb, rb⟩ := rp_tup ry
      refine .inr (.inr (.inl ⟨a, b, xs, ys, rfl, rfl, .inl (.inl (mask_some.mp ha).2), .inl (.inl (mask_some.mp hb).2), by rw [ra.length, rb.length]; exact hl, fun e => ?_, fun _ e => ?_, fun _ _ => g.newT mm t (ra.append rb)⟩))
      · subst e
        cases ra
        exact g.okF t ry
      · subst e
        cases rb
        rw [List.append_nil] at g
        exact g.okF t rx
    · exact g.elim
  · split at g
    · rename_i hl
      cases rp_str rx; cases rp_str ry
      exact .inr (.inr (.inr ⟨_, _, rfl, rfl, hl, g.okF t (.str _)⟩))
    · exact g.elim
  · exact g.elim
theorem vop_sub : VOp K C (rI0 fun i j => .int (i - j)) subD := by
  intro W M σ H x y d e Q mm t rx ry g
  unfold subD at g
  split at g
  · cases rp_int rx; cases rp_int ry
    exact ⟨_, _, rfl, rfl, g.ok1 t (.int _)⟩
  · exact g.elim
theorem mulOk_ok {i j : Int} (h : mulOk i j = true) : IntMulOk i j := by
  have h3 : i.natAbs.log2 + j.natAbs.log2 < 100000000 := of_decide_eq_true h
  have b : ∀ x : Int, Builtin.Int.intBits x ≤ x.natAbs.log2 + 1 := fun x => by
    unfold Builtin.Int.intBits
    split <;> omega
  have h1 := b i
  have h2 := b j
  have e : bitsLine = 134217728 := by decide
  unfold IntMulOk
  intro z
  rw [Bool.and_eq_true] at z
  have z2 := z.2
  unfold Builtin.Int.intTooBig at z2
  have z3 := of_decide_eq_true z2
  rw [e] at z3
  omega
theorem op_mulAny : OpR X (binaryOp .Mult) (rI IntMulOk fun i j => .int (i * j)) := opI fun _ _ _ _ _ _ _ hc q => mul_int q hc
def rRep1 (K : PySem.W.Frag) : R2 := fun x y H Q => ∃ l xs, x = .ref l ∧ y = .int 1 ∧ SqT K H l xs ∧ xs ≠ [] ∧ Q (.ref l) H
theorem tuple_mul1 (l : Addr) (items : Array Value) (n : Nat) (dd : Option Addr) (sl : Array (Option Value)) (u : Tok) :
    Meets (Builtin.«tuple.__mul__» ⟨[.ref l, .int 1 u], []⟩) (fun _ R s => s.heap.get? l = some { cls := .type "tuple", dict := dd, data := .seq items n, slots := sl } ∧ R (.ok (.ret (Value.ref l))) s) :=
  .of_wp fun prog w A R s h => by
    obtain ⟨hp, g, d, tk, os⟩ := s
    obtain ⟨hl, h⟩ := h
    have f1 := AutoSeq1.idx_int
    wp_walk using PySem.AutoSeq1.wpAny_loadPart' hl
    exact ⟨_, rfl, h⟩
theorem op_rep1 : OpR X (binaryOp .Mult) (rRep1 X.K) := by
  intro pins s σ H x y v u Q I rx ry h
  obtain ⟨l, xs, rfl, rfl, hT, hne, q⟩ := h
  cases rx
  obtain ⟨t, rfl⟩ := ry
  obtain ⟨its, r, ⟨⟨cls, dd, data, sl⟩, ho, hc, n, hd⟩, hs⟩ := I.tuple hT
  simp only at hc hd
  subst hc hd
  refine wpAny_binaryOp_repeat_ref (T := "tuple") (U := "int") (by decide) ⟨_, ho, rfl⟩ (fun s' => typeIs_int s' 1 t) noFill_tuple_mul F.fills_int_mul F.slot_int_rmul repeat_tuple F.slot_int_index.lookup
    (call_meets F.slot_int_rmul (typeIs_int s 1 t) F.entry_int_rmul (F.args_int_rmul_2 _ _) (int_rmul_tuple 1 t l its.toArray n dd sl)
      ⟨ho, rfl, ⟨_, ho, rfl⟩, call_meets F.slot_tuple_mul ⟨_, ho, rfl⟩ F.entry_tuple_mul (F.args_tuple_mul_2 _ _) (tuple_mul1 l its.toArray n dd sl t) ⟨ho, ?_⟩⟩)
  exact ⟨.ref l, H, I, rfl, q⟩
theorem RpL.rep {fa : Str → Option Addr} {H : Hp} {vs : List V} {ds : List D} (h : RpL K fa H vs ds) : ∀ k : Nat, RpL K fa H (List.replicate k vs).flatten (List.replicate k ds).flatten
  | 0 => .nil
  | k + 1 => by
    rw [List.replicate_succ, List.replicate_succ, List.flatten_cons, List.flatten_cons]
    exact h.append (RpL.rep h k)
theorem vop_mul : VOpF K C (fun x y H Q => rI IntMulOk (fun i j => .int (i * j)) x y H Q ∨ rRep x y H Q ∨ rRepT K x y H Q ∨ rRep1 K x y H Q) mulD := by
  intro W M σ H x y d e Q mm t rx ry g
  unfold mulD at g
  split at g
  · split at g
    · rename_i hm
      cases rp_int rx; cases rp_int ry
      exact .inl ⟨_, _, rfl, rfl, mulOk_ok hm, g.okF t (.int _)⟩
    · exact g.elim
  · split at g
    · rename_i hl
      obtain ⟨a, xs, rfl, ha, ra⟩ := rp_lst rx
      cases rp_int ry
      have h1 := hl.1
      refine .inr (.inl ⟨a, _, xs, rfl, rfl, (mask_some.mp ha).2, by omega, by omega, by rw [ra.length]; exact hl.2, g.newL t (ra.rep _)⟩)
    · exact g.elim
  · split at g
    · rename_i hl
      obtain ⟨a, xs, rfl, ha, ra⟩ := rp_tup rx
      cases rp_int ry
      refine .inr (.inr (.inl ⟨a, _, xs, rfl, rfl, .inl (.inl (mask_some.mp ha).2), fun z => hl.1 ?_, hl.2.1, hl.2.2.1, by rw [ra.length]; exact hl.2.2.2, g.newT mm t (ra.rep _)⟩))
      subst z
      cases ra
      rfl
    · split at g
      · rename_i hl
        obtain ⟨a, xs, rfl, ha, ra⟩ := rp_tup rx
        cases rp_int ry
        obtain ⟨h1, h2⟩ := hl
        subst h2
        refine .inr (.inr (.inr ⟨a, xs, rfl, rfl, .inl (.inl (mask_some.mp ha).2), fun z => h1 ?_, g.okF t rx⟩))
        subst z
        cases ra
        rfl
      · exact g.elim
  · exact g.elim
theorem vop_fdiv : VOp K C (rI CDivW fun i j => .int (i / j)) fdivD := by
  intro W M σ H x y d e Q mm t rx ry g
  unfold fdivD at g
  split at g
  · split at g
    · rename_i h
      cases rp_int rx; cases rp_int ry
      exact ⟨_, _, rfl, rfl, h, g.ok1 t (.int _)⟩
    · exact g.elim
  · exact g.elim
theorem vop_mod : VOp K C (rI (fun _ j => 0 < j) fun i j => .int (i % j)) modD := by
  intro W M σ H x y d e Q mm t rx ry g
  unfold modD at g
  split at g
  · split at g
    · rename_i h
      cases rp_int rx; cases rp_int ry
      exact ⟨_, _, rfl, rfl, h, g.ok1 t (.int _)⟩
    · exact g.elim
  · exact g.elim
theorem vop_pow : VOp K C (rI CPow fun i j => .int (i ^ j.toNat)) powD := by
  intro W M σ H x y d e Q mm t rx ry g
  unfold powD at g
  split at g
  · split at g
    · rename_i h
      cases rp_int rx; cases rp_int ry
      exact ⟨_, _, rfl, rfl, ⟨h.1, by omega, h.2.2⟩, g.ok1 t (.int _)⟩
    · exact g.elim
  · exact g.elim
end

/-! ### == -/
mutual
def D.toPy : D → PyData
  | .non => .none
  | .bl b => .bool b
  | .int i => .int i
  | .str x => .str x
  | .tup ds => .tuple (D.toPys ds)
  | .cst ds => .tuple (D.toPys ds)
  | .lst ds => .list (D.toPys ds)
  | .scr ns => .list (ns.map .int)
  | _ => .dict []
def D.toPys : List D → List PyData
  | [] => []
  | d :: ds => D.toPy d :: D.toPys ds
end
theorem dpInts {K : PySem.W.Frag} {H : Hp} : ∀ ns : List Int, DpAll K H (ns.map V.int) (ns.map PyData.int)
  | [] => .nil
  | n :: ns => .cons (.int n) (dpInts ns)
section
variable {K : PySem.W.Frag} {fa : Str → Option Addr} {M : Addr → Prop} {H : Hp}
mutual
theorem Rp.dp : ∀ (d : D) (v : V), d.toPy.canLay0 = true → Rp K fa (mask M H) v d → Dp K H v d.toPy
  | .non, _, _, h => by cases h; exact .non
  | .bl _, _, _, h => by cases h; exact .bl _
  | .int _, _, _, h => by cases h; exact .int _
  | .str _, _, _, h => by cases h; exact .str _
  | .tup ds, _, c, h => by
    obtain ⟨a, xs, rfl, ha, r⟩ := rp_tup h
    exact .tup (.inl (.inl (mask_some.mp ha).2)) (RpL.dp ds _ (by simpa [D.toPy, PyData.canLay0] using c) r)
  | .cst ds, _, c, h => by
    obtain ⟨a, xs, rfl, ha, r⟩ := rp_cst h
    exact .tup (sqT_ext (fun b o (z : (none : Option HO) = some o) _ => nomatch z) ha) (RpL.dp ds _ (by simpa [D.toPy, PyData.canLay0] using c) r)
  | .lst ds, _, c, h => by
    obtain ⟨a, xs, rfl, ha, r⟩ := rp_lst h
    exact .lst (.inl (.inl (mask_some.mp ha).2)) (RpL.dp ds _ (by simpa [D.toPy, PyData.canLay0] using c) r)
  | .scr ns, _, _, h => by
    obtain ⟨a, rfl, ha⟩ := rp_scr h
    exact .lst (sqL_ext (fun b o e _ => (mask_some.mp e).2) ha.sq) (dpInts ns)
  | .dK _ _, _, c, _ => by simp [D.toPy, PyData.canLay0] at c
  | .dT _ _, _, c, _ => by simp [D.toPy, PyData.canLay0] at c
  | .fn _, _, c, _ => by simp [D.toPy, PyData.canLay0] at c
theorem RpL.dp : ∀ (ds : List D) (vs : List V), PyData.canLayAll0 (D.toPys ds) = true → RpL K fa (mask M H) vs ds → DpAll K H vs (D.toPys ds)
  | [], _, _, h => by cases h; exact .nil
  | d :: ds, _, c, h => by
    obtain ⟨x, xs, rfl, r1, r2⟩ := rpL_cons h
    have c' : d.toPy.canLay0 = true ∧ PyData.canLayAll0 (D.toPys ds) = true := by simpa [D.toPys, PyData.canLayAll0] using c
    exact .cons (Rp.dp d _ c'.1 r1) (RpL.dp ds _ c'.2 r2)
end
end
def eqOk (d : D) : Bool := SeqAt.shaped d.toPy
def eqD (d e : D) : R := if eqOk d && eqOk e then .ok (.bl (PyData.eqv d.toPy e.toPy)) else .bad
def neD (d e : D) : R := if eqOk d && eqOk e then .ok (.bl (!PyData.eqv d.toPy e.toPy)) else .bad
def inD (d e : D) : R := match e with
  | .lst es => if eqOk d && eqOk (.lst es) then .ok (.bl (es.any fun z => PyData.eqv z.toPy d.toPy)) else .bad
  | .tup es => if eqOk d && eqOk (.tup es) then .ok (.bl (es.any fun z => PyData.eqv z.toPy d.toPy)) else .bad
  | .cst es => if eqOk d && eqOk (.cst es) then .ok (.bl (es.any fun z => PyData.eqv z.toPy d.toPy)) else .bad
  | _ => .bad
def notB (r : R) : R := match r with
  | .ok (.bl b) => .ok (.bl (!b))
  | _ => .bad
def ninD (d e : D) : R := notB (inD d e)
theorem toPys_map : ∀ ds : List D, D.toPys ds = ds.map D.toPy
  | [] => rfl
  | d :: ds => by
    unfold D.toPys
    rw [toPys_map ds]
    rfl
theorem any_toPys (d : D) (es : List D) : ((D.toPys es).any fun z => PyData.eqv z d.toPy) = es.any fun z => PyData.eqv z.toPy d.toPy := by
  rw [toPys_map, List.any_map]
  rfl
section
variable {X : Cx} {C : Cn} {K : PySem.W.Frag}
theorem vop_eq : VOp K C (rEqD K) eqD := by
  intro W M σ H x y d e Q mm t rx ry g
  unfold eqD at g
  split at g
  · rename_i h
    obtain ⟨h1, h2⟩ := Bool.and_eq_true_iff.mp h
    exact ⟨_, _, Rp.dp d x (SeqAt.canLay_of_shaped h1) rx, Rp.dp e y (SeqAt.canLay_of_shaped h2) ry, h1, h2, g.ok1 t (.bl _)⟩
  · exact g.elim
theorem vop_ne : VOp K C (rNeD K) neD := by
  intro W M σ H x y d e Q mm t rx ry g
  unfold neD at g
  split at g
  · rename_i h
    obtain ⟨h1, h2⟩ := Bool.and_eq_true_iff.mp h
    exact ⟨_, _, Rp.dp d x (SeqAt.canLay_of_shaped h1) rx, Rp.dp e y (SeqAt.canLay_of_shaped h2) ry, h1, h2, g.ok1 t (.bl _)⟩
  · exact g.elim
def rInT (K : PySem.W.Frag) : R2 := fun x y H Q => ∃ d ds, Dp K H x d ∧ Dp K H y (.tuple ds) ∧ SeqAt.shaped d = true ∧ SeqAt.shaped (.tuple ds) = true ∧ Q (.bl (ds.any fun z => PyData.eqv z d)) H
def rNotInT (K : PySem.W.Frag) : R2 := fun x y H Q => ∃ d ds, Dp K H x d ∧ Dp K H y (.tuple ds) ∧ SeqAt.shaped d = true ∧ SeqAt.shaped (.tuple ds) = true ∧ Q (.bl (!ds.any fun z => PyData.eqv z d)) H
theorem op_inT (hu : X.A.units + 65 < cLine) : OpR X (compareOp .In) (rInT X.K) := by
  intro pins s σ H x y v u Q I rx ry h
  obtain ⟨d, ds, hd, he, sd, se, q⟩ := h
  obtain ⟨as, r1⟩ := Dp.reads I d x v hd rx
  obtain ⟨bs, r2⟩ := Dp.reads I (.tuple ds) y u he ry
  exact SeqAt.in_tuple_reads r2 r1 (SeqAt.canLay_of_shaped se) (SeqAt.canLay_of_shaped sd) (room_in_shaped sd hu) ⟨.bl _, H, I, rfl, q⟩
theorem op_notInT (hu : X.A.units + 65 < cLine) : OpR X (compareOp .NotIn) (rNotInT X.K) := by
  intro pins s σ H x y v u Q I rx ry h
  obtain ⟨d, ds, hd, he, sd, se, q⟩ := h
  obtain ⟨as, r1⟩ := Dp.reads I d x v hd rx
  obtain ⟨bs, r2⟩ := Dp.reads I (.tuple ds) y u he ry
  exact SeqAt.notIn_tuple_reads r2 r1 (SeqAt.canLay_of_shaped se) (SeqAt.canLay_of_shaped sd) (room_in_shaped sd hu) ⟨.bl _, H, I, rfl, q⟩
theorem vop_in : VOp K C (fun x y H Q => rInD K x y H Q ∨ rInT K x y H Q) inD := by
  intro W M σ H x y d e Q mm t rx ry g
  unfold inD at g
  split at g
  · split at g
    · rename_i h
      obtain ⟨h1, h2⟩ := Bool.and_eq_true_iff.mp h
      refine .inl ⟨_, _, Rp.dp d x (SeqAt.canLay_of_shaped h1) rx, Rp.dp _ y (SeqAt.canLay_of_shaped h2) ry, h1, h2, ?_⟩
      rw [any_toPys]
      exact g.ok1 t (.bl _)
    · exact g.elim
  · split at g
    · rename_i h
      obtain ⟨h1, h2⟩ := Bool.and_eq_true_iff.mp h
      refine .inr ⟨_, _, Rp.dp d x (SeqAt.canLay_of_shaped h1) rx, Rp.dp _ y (SeqAt.canLay_of_shaped h2) ry, h1, h2, ?_⟩
      rw [any_toPys]
      exact g.ok1 t (.bl _)
    · exact g.elim
  · split at g
    · rename_i h
      obtain ⟨h1, h2⟩ := Bool.and_eq_true_iff.mp h
      refine .inr ⟨_, _, Rp.dp d x (SeqAt.canLay_of_shaped h1) rx, Rp.dp _ y (SeqAt.canLay_of_shaped h2) ry, h1, h2, ?_⟩
      rw [any_toPys]
      exact g.ok1 t (.bl _)
    · exact g.elim
  · exact g.elim
theorem vop_nin : VOp K C (fun x y H Q => rNotInD K x y H Q ∨ rNotInT K x y H Q) ninD := by
  intro W M σ H x y d e Q mm t rx ry g
  unfold ninD inD at g
  split at g
  · split at g
    · rename_i h
      obtain ⟨h1, h2⟩ := Bool.and_eq_true_iff.mp h
      refine .inl ⟨_, _, Rp.dp d x (SeqAt.canLay_of_shaped h1) rx, Rp.dp _ y (SeqAt.canLay_of_shaped h2) ry, h1, h2, ?_⟩
      rw [any_toPys]
      exact Got.ok1 (show Got W C (repD K C M) σ H (.ok (.bl _)) Q from g) t (.bl _)
    · exact g.elim
  · split at g
    · rename_i h
      obtain ⟨h1, h2⟩ := Bool.and_eq_true_iff.mp h
      refine .inr ⟨_, _, Rp.dp d x (SeqAt.canLay_of_shaped h1) rx, Rp.dp _ y (SeqAt.canLay_of_shaped h2) ry, h1, h2, ?_⟩
      rw [any_toPys]
      exact Got.ok1 (show Got W C (repD K C M) σ H (.ok (.bl _)) Q from g) t (.bl _)
    · exact g.elim
  · split at g
    · rename_i h
      obtain ⟨h1, h2⟩ := Bool.and_eq_true_iff.mp h
      refine .inr ⟨_, _, Rp.dp d x (SeqAt.canLay_of_shaped h1) rx, Rp.dp _ y (SeqAt.canLay_of_shaped h2) ry, h1, h2, ?_⟩
      rw [any_toPys]
      exact Got.ok1 (show Got W C (repD K C M) σ H (.ok (.bl _)) Q from g) t (.bl _)
    · exact g.elim
  · exact g.elim
/-! ### < and its like -/
def intsOf : List D → Option (List Int)
  | [] => some []
  | .int i :: r => (intsOf r).map (i :: ·)
  | _ => none
theorem intsOf_map : ∀ {ds : List D} {ns : List Int}, intsOf ds = some ns → ds = ns.map D.int
  | [], ns, h => by cases h; rfl
  | d :: ds, ns, h => by
    cases d with
    | int i =>
      unfold intsOf at h
      cases q : intsOf ds with
      | none => rw [q] at h; cases h
      | some ms =>
        rw [q] at h
        cases h
        rw [intsOf_map q]
        rfl
    | _ => simp [intsOf] at h
theorem intsOf_ints : ∀ ns : List Int, intsOf (ns.map D.int) = some ns
  | [] => rfl
  | n :: ns => by
    show (intsOf (ns.map D.int)).map (n :: ·) = _
    rw [intsOf_ints ns]
    rfl
def cmpI (f : Int → Int → Bool) (g : List Int → List Int → Bool) : D → D → R
  | .int i, .int j => .ok (.bl (f i j))
  | .tup a, .tup b => (match intsOf a, intsOf b with
    | some ns, some ms => .ok (.bl (g ns ms))
    | _, _ => .bad)
  | _, _ => .bad
def ltD : D → D → R := cmpI (fun i j => decide (i < j)) HT.lexLt
def leD : D → D → R := cmpI (fun i j => decide (i ≤ j)) lexLeI
def gtD : D → D → R
  | .int i, .int j => .ok (.bl (decide (j < i)))
  | _, _ => .bad
def geD : D → D → R
  | .int i, .int j => .ok (.bl (decide (j ≤ i)))
  | _, _ => .bad
theorem rp_tupI {fa : Str → Option Addr} {M : Addr → Prop} {H : Hp} {v : V} {ds : List D} {ns : List Int} (h : Rp K fa (mask M H) v (.tup ds)) (e : intsOf ds = some ns) : ∃ a, v = .ref a ∧ SqT K H a (ns.map V.int) := by
  obtain ⟨a, xs, rfl, ha, r⟩ := rp_tup h
  rw [intsOf_map e] at r
  rw [r.ints] at ha
  exact ⟨a, rfl, .inl (.inl (mask_some.mp ha).2)⟩
theorem vop_lt : VOp K C (fun x y H Q => rI0 (fun i j => .bl (decide (i < j))) x y H Q ∨ rLtT K x y H Q) ltD := by
  intro W M σ H x y d e Q mm t rx ry g
  unfold ltD cmpI at g
  split at g
  · cases rp_int rx; cases rp_int ry
    exact .inl ⟨_, _, rfl, rfl, g.ok1 t (.bl _)⟩
  · split at g
    · rename_i ns ms h1 h2
      obtain ⟨a, rfl, ha⟩ := rp_tupI rx h1
      obtain ⟨b, rfl, hb⟩ := rp_tupI ry h2
      exact .inr ⟨a, b, ns, ms, rfl, rfl, ha, hb, g.ok1 t (.bl _)⟩
    · exact g.elim
  · exact g.elim
theorem lexAt_le : ∀ (ns ms : List Int) (i : Nat) (xs ys : List Int), xs.drop i = ns → ys.drop i = ms → i ≤ xs.length → i ≤ ys.length →
    Ob.lexAt (fun j => decide (xs.getD j 0 = ys.getD j 0)) (fun j => decide (xs.getD j 0 ≤ ys.getD j 0)) (decide (xs.length ≤ ys.length)) i (min xs.length ys.length - i) = lexLeI ns ms
  | [], ms, i, xs, ys, h1, h2, l1, l2 => by
    have e1 : xs.length = i := by
      have := congrArg List.length h1
      rw [List.length_drop] at this
      simp at this
      omega
    rw [show min xs.length ys.length - i = 0 by omega, Ob.lexAt_zero, decide_eq_true (by omega)]
    cases ms <;> rfl
  | n :: ns, [], i, xs, ys, h1, h2, l1, l2 => by
    have e2 : ys.length = i := by
      have := congrArg List.length h2
      rw [List.length_drop] at this
      simp at this
      omega
    have e1 := congrArg List.length h1
    rw [List.length_drop, List.length_cons] at e1
    rw [show min xs.length ys.length - i = 0 by omega, Ob.lexAt_zero, decide_eq_false (by omega)]
    rfl
  | n :: ns, m :: ms, i, xs, ys, h1, h2, l1, l2 => by
    have e1 := congrArg List.length h1
    have e2 := congrArg List.length h2
    rw [List.length_drop, List.length_cons] at e1 e2
    have x1 : xs[i]? = some n := by
      have := congrArg (·[0]?) h1
      simpa using this
    have y1 : ys[i]? = some m := by
      have := congrArg (·[0]?) h2
      simpa using this
    have gx : xs.getD i 0 = n := by rw [List.getD_eq_getElem?_getD, x1]; rfl
    have gy : ys.getD i 0 = m := by rw [List.getD_eq_getElem?_getD, y1]; rfl
    have ih := lexAt_le ns ms (i + 1) xs ys (by rw [← List.drop_drop, h1]; rfl) (by rw [← List.drop_drop, h2]; rfl) (by omega) (by omega)
    rw [show min xs.length ys.length - i = (min xs.length ys.length - (i + 1)) + 1 by omega, Ob.lexAt_succ, ih, gx, gy]
    show (if decide (n = m) = true then lexLeI ns ms else decide (n ≤ m)) = if n = m then lexLeI ns ms else decide (n ≤ m)
    by_cases q : n = m
    · rw [if_pos q, if_pos (decide_eq_true q)]
    · rw [if_neg q, if_neg (by simpa using q)]
theorem vop_le : VOp K C (fun x y H Q => rI0 (fun i j => .bl (decide (i ≤ j))) x y H Q ∨ rLeT K x y H Q) leD := by
  intro W M σ H x y d e Q mm t rx ry g
  unfold leD cmpI at g
  split at g
  · cases rp_int rx; cases rp_int ry
    exact .inl ⟨_, _, rfl, rfl, g.ok1 t (.bl _)⟩
  · split at g
    · rename_i ns ms h1 h2
      obtain ⟨a, rfl, ha⟩ := rp_tupI rx h1
      obtain ⟨b, rfl, hb⟩ := rp_tupI ry h2
      refine .inr ⟨a, b, ns, ms, rfl, rfl, ha, hb, ?_⟩
      have := lexAt_le ns ms 0 ns ms rfl rfl (Nat.zero_le _) (Nat.zero_le _)
      rw [Nat.sub_zero] at this
      rw [this]
      exact g.ok1 t (.bl _)
    · exact g.elim
  · exact g.elim
theorem vop_gt : VOp K C (rI0 fun i j => .bl (decide (j < i))) gtD := by
  intro W M σ H x y d e Q mm t rx ry g
  unfold gtD at g
  split at g
  · cases rp_int rx; cases rp_int ry
    exact ⟨_, _, rfl, rfl, g.ok1 t (.bl _)⟩
  · exact g.elim
theorem vop_ge : VOp K C (rI0 fun i j => .bl (decide (j ≤ i))) geD := by
  intro W M σ H x y d e Q mm t rx ry g
  unfold geD at g
  split at g
  · cases rp_int rx; cases rp_int ry
    exact ⟨_, _, rfl, rfl, g.ok1 t (.bl _)⟩
  · exact g.elim
/-! ### is -/
def isNon : D → Bool
  | .non => true
  | _ => false
def isD (d e : D) : R := match e with
  | .non => .ok (.bl (isNon d))
  | .bl b => (match d with
    | .bl a => .ok (.bl (decide (a = b)))
    | _ => .bad)
  | _ => .bad
def isntD (d e : D) : R := notB (isD d e)
theorem rp_isNon {fa : Str → Option Addr} {H : Hp} {v : V} {d : D} (h : Rp K fa H v d) : decide (v = .non) = isNon d := by
  cases h <;> first | rfl | exact decide_eq_false (fun z => by cases z)
theorem vop_is : VOp K C (fun x y H Q => (y = .non ∧ Q (.bl (decide (x = .non))) H) ∨ rIsB x y H Q) isD := by
  intro W M σ H x y d e Q mm t rx ry g
  unfold isD at g
  split at g
  · cases rp_non ry
    refine .inl ⟨rfl, ?_⟩
    rw [rp_isNon rx]
    exact g.ok1 t (.bl _)
  · split at g
    · cases rp_bl rx; cases rp_bl ry
      exact .inr ⟨_, _, rfl, rfl, g.ok1 t (.bl _)⟩
    · exact g.elim
  · exact g.elim
theorem vop_isnt : VOp K C (fun x y H Q => (y = .non ∧ Q (.bl (!decide (x = .non))) H) ∨ rNotB x y H Q) isntD := by
  intro W M σ H x y d e Q mm t rx ry g
  unfold isntD isD at g
  split at g
  · cases rp_non ry
    refine .inl ⟨rfl, ?_⟩
    rw [rp_isNon rx]
    exact Got.ok1 (show Got W C (repD K C M) σ H (.ok (.bl _)) Q from g) t (.bl _)
  · split at g
    · cases rp_bl rx; cases rp_bl ry
      exact .inr ⟨_, _, rfl, rfl, Got.ok1 (show Got W C (repD K C M) σ H (.ok (.bl _)) Q from g) t (.bl _)⟩
    · exact g.elim
  · exact g.elim
end
end DL

set_option Elab.async false
set_option linter.all false
set_option maxRecDepth 100000
set_option maxHeartbeats 2000000
namespace DL
open PySem PySem.Spec PyProof.Rows L2 LamX

/-! ### places -/
def keyOf : D → Option Key
  | .int i => some (.inl i)
  | .str x => some (.inr x)
  | _ => none
def keysOf : List D → Option (List Key)
  | [] => some []
  | d :: r => match keyOf d, keysOf r with
    | some k, some ks => some (k :: ks)
    | _, _ => none
/-- the value at a key -/
def lookD {κ : Type} [DecidableEq κ] : List κ → List D → κ → Option D
  | k :: ks, d :: ds, q => if k = q then some d else lookD ks ds q
  | _, _, _ => none
def optR : Option D → R
  | some d => .ok d
  | none => .bad
def ixD : D → D → R
  | .lst ds, .int i => optR (atI ds i)
  | .tup ds, .int i => optR (atI ds i)
  | .cst ds, .int i => optR (atI ds i)
  | .scr ns, .int i => optR ((atI ns i).map .int)
  | .str z, .int i => if z.length ≤ sizeLine then optR ((atI z.cps.toList i).map fun c => .str ⟨#[c]⟩) else .bad
  | .dK ks ds, k => (match keyOf k with
    | some q => optR (lookD ks ds q)
    | none => .bad)
  | .dT ks ds, .tup k => (match keysOf k with
    | some q => optR (lookD ks ds q)
    | none => .bad)
  | _, _ => .bad
theorem keyOf_rp {K : PySem.W.Frag} {fa : Str → Option Addr} {H : Hp} {v : V} {d : D} {k : Key} (h : Rp K fa H v d) (e : keyOf d = some k) : v = kV k := by
  cases d with
  | int i => cases e; cases rp_int h; rfl
  | str x => cases e; cases rp_str h; rfl
  | _ => cases e
theorem keysOf_rp {K : PySem.W.Frag} {fa : Str → Option Addr} {H : Hp} : ∀ {ds : List D} {vs : List V} {ks : List Key}, RpL K fa H vs ds → keysOf ds = some ks → vs = ks.map kV
  | [], vs, ks, h, e => by cases e; cases h; rfl
  | d :: ds, vs, ks, h, e => by
    obtain ⟨x, xs, rfl, r1, r2⟩ := rpL_cons h
    unfold keysOf at e
    split at e
    · rename_i k ks' h1 h2
      cases e
      rw [keyOf_rp r1 h1, keysOf_rp r2 h2]
      rfl
    · cases e
theorem lookD_rp {K : PySem.W.Frag} {fa : Str → Option Addr} {H : Hp} {κ : Type} [DecidableEq κ] {q : κ} {d : D} : ∀ {ks : List κ} {ds : List D} {xs : List V}, RpL K fa H xs ds → ks.length = xs.length → lookD ks ds q = some d → ∃ v, valV (ks.zip xs) q = some v ∧ Rp K fa H v d
  | [], ds, xs, _, _, h => by unfold lookD at h; cases h
  | k :: ks, [], xs, _, _, h => by unfold lookD at h; cases h
  | k :: ks, d' :: ds, xs, r, l, h => by
    obtain ⟨x, ys, rfl, r1, r2⟩ := rpL_cons r
    unfold lookD at h
    by_cases e : k = q
    · rw [if_pos e] at h
      cases h
      exact ⟨x, by rw [List.zip_cons_cons]; exact valV_pos e, r1⟩
    · rw [if_neg e] at h
      obtain ⟨v, h1, h2⟩ := lookD_rp r2 (by simpa using l) h
      exact ⟨v, by rw [List.zip_cons_cons, valV_neg e]; exact h1, h2⟩
theorem lookD_none {K : PySem.W.Frag} {fa : Str → Option Addr} {H : Hp} {κ : Type} [DecidableEq κ] {q : κ} : ∀ {ks : List κ} {ds : List D} {xs : List V}, RpL K fa H xs ds → ks.length = xs.length → lookD ks ds q = none → valV (ks.zip xs) q = none
  | [], ds, xs, _, _, _ => by simp [valV_nil]
  | k :: ks, [], xs, r, l, _ => by
    cases r
    simp at l
  | k :: ks, d' :: ds, xs, r, l, h => by
    obtain ⟨x, ys, rfl, r1, r2⟩ := rpL_cons r
    unfold lookD at h
    by_cases e : k = q
    · rw [if_pos e] at h; cases h
    · rw [if_neg e] at h
      rw [List.zip_cons_cons, valV_neg e]
      exact lookD_none r2 (by simpa using l) h
theorem atI_rp {K : PySem.W.Frag} {fa : Str → Option Addr} {H : Hp} {ds : List D} {xs : List V} {i : Int} {d : D} (r : RpL K fa H xs ds) (h : atI ds i = some d) : ∃ v, atI xs i = some v ∧ Rp K fa H v d := by
  unfold atI at h ⊢
  rw [r.length]
  cases e : ixN ds.length i with
  | none => rw [e] at h; cases h
  | some j =>
    rw [e] at h
    exact r.get h
section
variable {X : Cx} {C : Cn} {K : PySem.W.Frag} {W : WX} {a b : Expr} {fa fb : Gm → R} {pos : Pos}
def rIxDct : R2 := fun x y H Q => ∃ a v, x = .ref a ∧ DGet H a y (some v) ∧ Q v H
theorem ix_dct (hu : X.A.units + 1 < cLine) : IxR X rIxDct := by
  intro value slice pins s σ H x y v u Q I rx ry h hs
  obtain ⟨a, w, rfl, g, q⟩ := h
  cases rx
  have hT := dict_typeIs I g
  unfold subscriptTail
  refine wpAny_bind ?_
  rw [getitemInPython_of_ne hT.not_modules]
  refine wpAny_bind (wpAny_specialOf hT PySem.F.slot_dict_getitem.lookup ?_)
  have key : wpAny (model X.prog X.w) X.A (getItem (.ref a) u) (EP X pins σ Q) X.xe s := d_getItem hu I g ry fun w' s' I' r' => ⟨w, H, I', r', q⟩
  have fin : wpAny (model X.prog X.w) X.A (subscripted slice false (.ref a) u) (fun r s₃ => wpAny (model X.prog X.w) X.A (letTemporaryGo value (.ref a) r >>= fun _ => pure r) (EP X pins σ Q) X.xe s₃) X.xe s := by
    rw [hs]
    exact wpAny_operating (wpAny_mono key (fun r s₃ h₃ => wpAny_bind (wpAny_letTemporaryGo (wpAny_pure h₃))) fun _ _ z => z)
  first
    | exact wpAny_pure (wpAny_bind fin)
    | exact wpAny_bind (wpAny_pure (wpAny_bind fin))
    | exact wpAny_bind fin
theorem vop_ix : VOp K C (fun x y H Q => rIx K x y H Q ∨ rIxDct x y H Q) ixD := by
  intro W M σ H x y d e Q mm t rx ry g
  unfold ixD at g
  split at g
  · rename_i ds i
    obtain ⟨p, xs, rfl, hp, r⟩ := rp_lst rx
    cases rp_int ry
    cases h : atI ds i with
    | none => rw [h] at g; exact g.elim
    | some z =>
      rw [h] at g
      obtain ⟨v, hv, rv⟩ := atI_rp r h
      exact .inl (.inl ⟨p, xs, i, v, rfl, rfl, .inl (.inl (mask_some.mp hp).2), hv, Got.ok1 g t rv⟩)
  · rename_i ds i
    obtain ⟨p, xs, rfl, hp, r⟩ := rp_tup rx
    cases rp_int ry
    cases h : atI ds i with
    | none => rw [h] at g; exact g.elim
    | some z =>
      rw [h] at g
      obtain ⟨v, hv, rv⟩ := atI_rp r h
      exact .inl (.inr (.inl ⟨p, xs, i, v, rfl, rfl, .inl (.inl (mask_some.mp hp).2), hv, Got.ok1 g t rv⟩))
  · rename_i ds i
    obtain ⟨p, xs, rfl, hp, r⟩ := rp_cst rx
    cases rp_int ry
    cases h : atI ds i with
    | none => rw [h] at g; exact g.elim
    | some z =>
      rw [h] at g
      obtain ⟨v, hv, rv⟩ := atI_rp r h
      exact .inl (.inr (.inl ⟨p, xs, i, v, rfl, rfl, sqT_ext (fun b o (z : (none : Option HO) = some o) _ => nomatch z) hp, hv, Got.ok1 g t rv⟩))
  · rename_i ns i
    obtain ⟨p, rfl, hp⟩ := rp_scr rx
    cases rp_int ry
    cases h : atI ns i with
    | none => rw [h] at g; exact g.elim
    | some z =>
      rw [h] at g
      refine .inl (.inl ⟨p, _, i, .int z, rfl, rfl, sqL_ext (fun b o e _ => (mask_some.mp e).2) hp.sq, ?_, Got.ok1 g t (.int z)⟩)
      unfold atI at h ⊢
      rw [List.length_map]
      cases e : ixN ns.length i with
      | none => rw [e] at h; cases h
      | some j =>
        rw [e] at h
        have h' : ns[j]? = some z := h
        show (ns.map V.int)[j]? = some (.int z)
        rw [List.getElem?_map, h']
        rfl
  · rename_i z i
    split at g
    · rename_i hz
      cases rp_str rx
      cases rp_int ry
      cases h : atI z.cps.toList i with
      | none => rw [h] at g; exact g.elim
      | some c =>
        rw [h] at g
        exact .inl (.inr (.inr ⟨z, i, c, rfl, rfl, hz, h, Got.ok1 g t (.str _)⟩))
    · exact g.elim
  · rename_i ks ds
    split at g
    · rename_i q hq
      obtain ⟨p, xs, rfl, hp, hl, r⟩ := rp_dK rx
      cases h : lookD ks ds q with
      | none => rw [h] at g; exact g.elim
      | some z =>
        rw [h] at g
        obtain ⟨v, hv, rv⟩ := lookD_rp r hl h
        have ey := keyOf_rp ry hq
        subst ey
        refine .inr ⟨p, v, rfl, ?_, Got.ok1 g t rv⟩
        have := DGet.k (k := q) (mask_some.mp hp).2
        rw [hv] at this
        exact this
    · exact g.elim
  · rename_i ks ds k
    split at g
    · rename_i q hq
      obtain ⟨p, xs, rfl, hp, hl, r⟩ := rp_dT rx
      obtain ⟨b, ys, rfl, hb, rb⟩ := rp_tup ry
      have ey := keysOf_rp rb hq
      subst ey
      cases h : lookD ks ds q with
      | none => rw [h] at g; exact g.elim
      | some z =>
        rw [h] at g
        obtain ⟨v, hv, rv⟩ := lookD_rp r hl h
        refine .inr ⟨p, v, rfl, ?_, Got.ok1 g t rv⟩
        have := DGet.t (k := q) (mask_some.mp hp).2 (mask_some.mp hb).2
        rw [hv] at this
        exact this
    · exact g.elim
  · exact g.elim
theorem de_ix (hu : X.A.units + 1 < cLine) (ha : DE X C W a fa) (hb : DE X C W b fb) (hs : PlainIx b := by intro _ _; rfl) : DE X C W (.Subscript a b pos) (e2 ixD fa fb) :=
  PE.to (pe_ix (ix_seq.or (ix_dct hu)) ha hb hs) fun _ _ _ h => rd2 vop_ix h

/-! ### slices -/
/-- a part of a slice -/
abbrev Rp1 := Gm → Rg (Option Int)
def pNo : Rp1 := fun _ => .ok none
def pAt (f : Gm → R) : Rp1 := fun Γ => (f Γ).bind fun d => match d with
  | .int i => .ok (some i)
  | _ => .bad
def repP : Hp → Hp → Option Int → Option Int → Prop := fun _ _ b a => b = a
def rdP (K : PySem.W.Frag) (C : Cn) (W : WX) (f : Rp1) : TO := fun σ H Q => ∃ Γ P0 H0, Here K C P0 H0 Γ σ H ∧ Got W C repP σ H (f Γ) Q
abbrev DP (X : Cx) (C : Cn) (W : WX) (e : Option Expr) (f : Rp1) : Prop := PO X e (rdP X.K C W f)
theorem PO.to {e : Option Expr} {t t' : TO} (h : PO X e t) (k : ∀ σ H Q, t' σ H Q → t σ H Q) : PO X e t' := ⟨fun pins s σ H Q I q => h.run pins s σ H Q I (k σ H Q q)⟩
theorem dp_no : DP X C W none pNo := PO.to po_none fun σ H Q ⟨Γ, P0, H0, E, g⟩ => g none H (ExtN.refl H) E.e.tab rfl
theorem dp_at (h : DE X C W a fa) : DP X C W (some a) (pAt fa) := PO.to (po_some h) fun σ H Q ⟨Γ, P0, H0, E, g⟩ => by
  refine ⟨Γ, P0, H0, E, Got.bind (fun _ _ _ _ _ _ _ h => h) g fun d x H1 _ e1 t1 r1 g1 => ?_⟩
  cases d with
  | int i => cases rp_int r1; exact ⟨i, rfl, g1 _ H1 (ExtN.refl H1) t1 rfl⟩
  | _ => exact g1.elim
def cutD (xs : List D) (lo hi : Option Int) : List D := (xs.drop (HT.sIx xs.length 0 lo)).take (HT.sIx xs.length xs.length hi - HT.sIx xs.length 0 lo)
def slD (lo hi : Option Int) : D → R
  | .lst ds => .ok (.lst (cutD ds lo hi))
  | .tup ds => .ok (.tup (cutD ds lo hi))
  | .str z => if z.length ≤ sizeLine then .ok (.str (cutS z lo hi)) else .bad
  | _ => .bad
theorem cutD_whole {ds : List D} {lo hi : Option Int} (h : HT.sIx ds.length 0 lo = 0 ∧ HT.sIx ds.length ds.length hi = ds.length) : cutD ds lo hi = ds := by
  unfold cutD
  rw [h.1, h.2]
  simp
theorem cut_rp {fa : Str → Option Addr} {H : Hp} {xs : List V} {ds : List D} (r : RpL K fa H xs ds) (lo hi : Option Int) : RpL K fa H (cutV xs lo hi) (cutD ds lo hi) := by
  unfold cutV cutD
  rw [r.length]
  exact (r.drop _).take _
def eSl (lo hi : Rp1) (f : Gm → R) : Gm → R := fun Γ => (f Γ).bind fun d => (lo Γ).bind fun l => (hi Γ).bind fun h => slD l h d
theorem df_sl {l h : Option Expr} {fl fh : Rp1} {p2 : Pos} (ha : DE X C W a fa) (hl : DP X C W l fl) (hh : DP X C W h fh) : DF X C W (.Subscript a (.Slice l h none p2) pos) (eSl fl fh fa) :=
  PE.to (pe_slice (sl_list.or (sl_tupA.or sl_str)) ha hl hh) fun σ H Q ⟨Γ, P0, H0, E, g⟩ => by
  refine ⟨Γ, P0, H0, E, Got.bind repF_mono g fun d x H1 _ e1 t1 r1 g1 => ?_⟩
  refine ⟨Γ, P0, H0, E.ext e1 t1, Got.bind repF_mono g1 fun lo lo' H2 _ e2 t2 r2 g2 => ?_⟩
  refine ⟨Γ, P0, H0, (E.ext e1 t1).ext e2 t2, Got.bind repF_mono g2 fun hi hi' H3 _ e3 t3 r3 g3 => ?_⟩
  have r2' : lo' = lo := r2
  have r3' : hi' = hi := r3
  subst r2' r3'
  have r4 := Rp.ext (mask_same (e2.trans e3)) _ _ r1
  have mm := ((E.e.mut.ext e1).ext e2).ext e3
  unfold slD at g3
  split at g3
  · obtain ⟨p, xs, rfl, hp, r⟩ := rp_lst r4
    exact .inl ⟨p, xs, rfl, .inl (.inl (mask_some.mp hp).2), g3.newL t3 (cut_rp r _ _)⟩
  · obtain ⟨p, xs, rfl, hp, r⟩ := rp_tup r4
    refine .inr (.inl ⟨p, xs, rfl, .inl (.inl (mask_some.mp hp).2), fun hw => ?_, fun hw => g3.newT mm t3 (cut_rp r _ _)⟩)
    rw [r.length] at hw
    rw [cutD_whole hw] at g3
    exact g3.okF t3 r4
  · split at g3
    · rename_i hz
      cases rp_str r4
      exact .inr (.inr ⟨_, rfl, hz, g3.okF t3 (.str _)⟩)
    · exact g3.elim
  · exact g3.elim
/-- xs[::-1] -/
def revD : D → R
  | .lst ds => .ok (.lst ds.reverse)
  | _ => .bad
def e1 (g : D → R) (f : Gm → R) : Gm → R := fun Γ => (f Γ).bind g
theorem df_rev {k : Nat} {p1 p2 p3 : Pos} (ha : DE X C W a fa) : DF X C W (.Subscript a (.Slice none none (some (.UnaryOp .USub (.Constant (.int 1) k p1) p2)) p3) pos) (e1 revD fa) :=
  PE.to (pe_revL ha) fun σ H Q ⟨Γ, P0, H0, E, g⟩ => by
  refine ⟨Γ, P0, H0, E, Got.bind repF_mono g fun d x H1 _ e1 t1 r1 g1 => ?_⟩
  cases d with
  | lst ds =>
    obtain ⟨p, xs, rfl, hp, r⟩ := rp_lst r1
    exact ⟨p, xs, rfl, .inl (.inl (mask_some.mp hp).2), g1.newL t1 r.reverse⟩
  | _ => exact g1.elim

/-! ### built-ins -/
def lenD : List D → R
  | [.lst ds] => .ok (.int ds.length)
  | [.tup ds] => .ok (.int ds.length)
  | [.cst ds] => .ok (.int ds.length)
  | [.scr ns] => .ok (.int ns.length)
  | [.str z] => if z.length ≤ sizeLine then .ok (.int z.length) else .bad
  | _ => .bad
theorem rpL_one {fa : Str → Option Addr} {H : Hp} {xs : List V} {d : D} (r : RpL K fa H xs [d]) : ∃ x, xs = [x] ∧ Rp K fa H x d := by
  obtain ⟨x, ys, rfl, r1, r2⟩ := rpL_cons r
  cases rpL_nil r2
  exact ⟨x, rfl, r1⟩
theorem rpL_two {fa : Str → Option Addr} {H : Hp} {xs : List V} {d e : D} (r : RpL K fa H xs [d, e]) : ∃ x y, xs = [x, y] ∧ Rp K fa H x d ∧ Rp K fa H y e := by
  obtain ⟨x, ys, rfl, r1, r2⟩ := rpL_cons r
  obtain ⟨y, zs, rfl, r3, r4⟩ := rpL_cons r2
  cases rpL_nil r4
  exact ⟨x, y, rfl, r1, r3⟩
theorem vc_len : VCall K C (fun xs H Q => ∃ x n, xs = [x] ∧ LenV K x H n ∧ Q (.int n) H) lenD := by
  intro W M σ H xs ds Q mm t r g
  unfold lenD at g
  split at g
  · obtain ⟨x, rfl, rx⟩ := rpL_one r
    obtain ⟨p, ys, rfl, hp, rr⟩ := rp_lst rx
    exact ⟨_, _, rfl, .inl ⟨ys, .inl (.inl (mask_some.mp hp).2), by rw [rr.length]⟩, Got.ok1 g t (.int _)⟩
  · obtain ⟨x, rfl, rx⟩ := rpL_one r
    obtain ⟨p, ys, rfl, hp, rr⟩ := rp_tup rx
    exact ⟨_, _, rfl, .inr ⟨ys, .inl (.inl (mask_some.mp hp).2), by rw [rr.length]⟩, Got.ok1 g t (.int _)⟩
  · obtain ⟨x, rfl, rx⟩ := rpL_one r
    obtain ⟨p, ys, rfl, hp, rr⟩ := rp_cst rx
    exact ⟨_, _, rfl, .inr ⟨ys, sqT_ext (fun b o (z : (none : Option HO) = some o) _ => nomatch z) hp, by rw [rr.length]⟩, Got.ok1 g t (.int _)⟩
  · rename_i ns
    obtain ⟨x, rfl, rx⟩ := rpL_one r
    obtain ⟨p, rfl, hp⟩ := rp_scr rx
    exact ⟨_, _, rfl, .inl ⟨_, sqL_ext (fun b o e _ => (mask_some.mp e).2) hp.sq, by rw [List.length_map]⟩, Got.ok1 g t (.int _)⟩
  · split at g
    · rename_i hz
      obtain ⟨x, rfl, rx⟩ := rpL_one r
      cases rp_str rx
      exact ⟨_, _, rfl, ⟨hz, rfl⟩, Got.ok1 g t (.int _)⟩
    · exact g.elim
  · exact g.elim
def absD : List D → R
  | [.int i] => .ok (.int (if i < 0 then -i else i))
  | _ => .bad
theorem vc_abs : VCall K C (fun xs H Q => ∃ i, xs = [.int i] ∧ Q (.int (if i < 0 then -i else i)) H) absD := by
  intro W M σ H xs ds Q mm t r g
  unfold absD at g
  split at g
  · obtain ⟨x, rfl, rx⟩ := rpL_one r
    cases rp_int rx
    exact ⟨_, rfl, Got.ok1 g t (.int _)⟩
  · exact g.elim
def intD : List D → R
  | [.int i] => .ok (.int i)
  | [.bl b] => .ok (.int (if b then 1 else 0))
  | _ => .bad
theorem vc_int : VCall K C (fun xs H Q => (∃ i, xs = [.int i] ∧ Q (.int i) H) ∨ ∃ k, xs = [.bl k] ∧ Q (.int (if k then 1 else 0)) H) intD := by
  intro W M σ H xs ds Q mm t r g
  unfold intD at g
  split at g
  · obtain ⟨x, rfl, rx⟩ := rpL_one r
    cases rp_int rx
    exact .inl ⟨_, rfl, Got.ok1 g t (.int _)⟩
  · obtain ⟨x, rfl, rx⟩ := rpL_one r
    cases rp_bl rx
    exact .inr ⟨_, rfl, Got.ok1 g t (.int _)⟩
  · exact g.elim
def max2D : List D → R
  | [.int i, .int j] => .ok (.int (if j > i then j else i))
  | _ => .bad
def min2D : List D → R
  | [.int i, .int j] => .ok (.int (if j < i then j else i))
  | _ => .bad
theorem vc_max2 : VCall K C (fun xs H Q => ∃ i j, xs = [.int i, .int j] ∧ Q (.int (if j > i then j else i)) H) max2D := by
  intro W M σ H xs ds Q mm t r g
  unfold max2D at g
  split at g
  · obtain ⟨x, y, rfl, rx, ry⟩ := rpL_two r
    cases rp_int rx; cases rp_int ry
    exact ⟨_, _, rfl, Got.ok1 g t (.int _)⟩
  · exact g.elim
theorem vc_min2 : VCall K C (fun xs H Q => ∃ i j, xs = [.int i, .int j] ∧ Q (.int (if j < i then j else i)) H) min2D := by
  intro W M σ H xs ds Q mm t r g
  unfold min2D at g
  split at g
  · obtain ⟨x, y, rfl, rx, ry⟩ := rpL_two r
    cases rp_int rx; cases rp_int ry
    exact ⟨_, _, rfl, Got.ok1 g t (.int _)⟩
  · exact g.elim
/-- sum, all, any of a list -/
def sumD : List D → R
  | [.lst ds] => (match intsOf ds with
    | some ns => .ok (.int ns.sum)
    | none => .bad)
  | _ => .bad
def blsOf : List D → Option (List Bool)
  | [] => some []
  | .bl b :: r => (blsOf r).map (b :: ·)
  | _ => none
theorem blsOf_map : ∀ {ds : List D} {ns : List Bool}, blsOf ds = some ns → ds = ns.map D.bl
  | [], ns, h => by cases h; rfl
  | d :: ds, ns, h => by
    cases d with
    | bl i =>
      unfold blsOf at h
      cases q : blsOf ds with
      | none => rw [q] at h; cases h
      | some ms =>
        rw [q] at h
        cases h
        rw [blsOf_map q]
        rfl
    | _ => simp [blsOf] at h
theorem blsOf_bls : ∀ ns : List Bool, blsOf (ns.map D.bl) = some ns
  | [] => rfl
  | n :: ns => by
    show (blsOf (ns.map D.bl)).map (n :: ·) = _
    rw [blsOf_bls ns]
    rfl
def allD : List D → R
  | [.lst ds] => (match blsOf ds with
    | some bs => .ok (.bl (bs.all id))
    | none => .bad)
  | _ => .bad
def anyD : List D → R
  | [.lst ds] => (match blsOf ds with
    | some bs => .ok (.bl (bs.any id))
    | none => .bad)
  | _ => .bad
theorem rp_lstI {fa : Str → Option Addr} {M : Addr → Prop} {H : Hp} {v : V} {ds : List D} {ns : List Int} (h : Rp K fa (mask M H) v (.lst ds)) (e : intsOf ds = some ns) : ∃ a, v = .ref a ∧ SqL K H a (ns.map V.int) := by
  obtain ⟨a, xs, rfl, ha, r⟩ := rp_lst h
  rw [intsOf_map e] at r
  rw [r.ints] at ha
  exact ⟨a, rfl, .inl (.inl (mask_some.mp ha).2)⟩
theorem rp_lstB {fa : Str → Option Addr} {M : Addr → Prop} {H : Hp} {v : V} {ds : List D} {ns : List Bool} (h : Rp K fa (mask M H) v (.lst ds)) (e : blsOf ds = some ns) : ∃ a, v = .ref a ∧ SqL K H a (ns.map V.bl) := by
  obtain ⟨a, xs, rfl, ha, r⟩ := rp_lst h
  rw [blsOf_map e] at r
  rw [r.bls] at ha
  exact ⟨a, rfl, .inl (.inl (mask_some.mp ha).2)⟩
theorem vc_sum : VCall K C (rSum K) sumD := by
  intro W M σ H xs ds Q mm t r g
  unfold sumD at g
  split at g
  · split at g
    · rename_i ns h
      obtain ⟨x, rfl, rx⟩ := rpL_one r
      obtain ⟨a, rfl, ha⟩ := rp_lstI rx h
      exact ⟨a, ns, rfl, ha, Got.ok1 g t (.int _)⟩
    · exact g.elim
  · exact g.elim
theorem vc_all : VCall K C (rAll K) allD := by
  intro W M σ H xs ds Q mm t r g
  unfold allD at g
  split at g
  · split at g
    · rename_i ns h
      obtain ⟨x, rfl, rx⟩ := rpL_one r
      obtain ⟨a, rfl, ha⟩ := rp_lstB rx h
      exact ⟨a, ns, rfl, ha, Got.ok1 g t (.bl _)⟩
    · exact g.elim
  · exact g.elim
theorem vc_any : VCall K C (rAny K) anyD := by
  intro W M σ H xs ds Q mm t r g
  unfold anyD at g
  split at g
  · split at g
    · rename_i ns h
      obtain ⟨x, rfl, rx⟩ := rpL_one r
      obtain ⟨a, rfl, ha⟩ := rp_lstB rx h
      exact ⟨a, ns, rfl, ha, Got.ok1 g t (.bl _)⟩
    · exact g.elim
  · exact g.elim
/-- list(..), tuple(..) of a list or a tuple -/
def listD : List D → R
  | [.lst ds] => .ok (.lst ds)
  | [.tup ds] => .ok (.lst ds)
  | _ => .bad
def tupleD : List D → R
  | [.lst ds] => .ok (.tup ds)
  | [.tup ds] => .ok (.tup ds)
  | _ => .bad
theorem vc_list : VCallF K C (fun xs H Q => ∃ p ys, xs = [.ref p] ∧ (SqL K H p ys ∨ SqT K H p ys) ∧ ∀ l, H l = none → Q (.ref l) (upd H l (.lst ys))) listD := by
  intro W M σ H xs ds Q mm t r g
  unfold listD at g
  split at g
  · obtain ⟨x, rfl, rx⟩ := rpL_one r
    obtain ⟨p, ys, rfl, hp, rr⟩ := rp_lst rx
    exact ⟨p, ys, rfl, .inl (.inl (.inl (mask_some.mp hp).2)), Got.newL g t rr⟩
  · obtain ⟨x, rfl, rx⟩ := rpL_one r
    obtain ⟨p, ys, rfl, hp, rr⟩ := rp_tup rx
    exact ⟨p, ys, rfl, .inr (.inl (.inl (mask_some.mp hp).2)), Got.newL g t rr⟩
  · exact g.elim
theorem vc_tuple : VCall K C (fun xs H Q => ∃ p ys, xs = [.ref p] ∧ ((SqL K H p ys ∧ ∀ l, H l = none → Q (.ref l) (upd H l (.tup ys))) ∨ (SqT K H p ys ∧ Q (.ref p) H))) tupleD := by
  intro W M σ H xs ds Q mm t r g
  unfold tupleD at g
  split at g
  · obtain ⟨x, rfl, rx⟩ := rpL_one r
    obtain ⟨p, ys, rfl, hp, rr⟩ := rp_lst rx
    exact ⟨p, ys, rfl, .inl ⟨.inl (.inl (mask_some.mp hp).2), Got.newTD g mm t rr⟩⟩
  · obtain ⟨x, rfl, rx⟩ := rpL_one r
    obtain ⟨p, ys, rfl, hp, rr⟩ := rp_tup rx
    exact ⟨p, ys, rfl, .inr ⟨.inl (.inl (mask_some.mp hp).2), Got.ok1 g t rx⟩⟩
  · exact g.elim
/-- list(range(..)) -/
def lrngA : List D → R
  | [.int j] => if 0 ≤ j ∧ j ≤ 100000 then .ok (.lst (rngD 0 j.toNat)) else .bad
  | [.int i, .int j] => if 0 ≤ i ∧ i ≤ 100000 ∧ 0 ≤ j ∧ j ≤ 100000 then .ok (.lst (rngD i (j - i).toNat)) else .bad
  | _ => .bad
def eLRng (f : Gm → R) : Gm → R := fun Γ => (f Γ).bind fun d => lrngA [d]
theorem rgV_rp {fa : Str → Option Addr} {H : Hp} {a b : Int} : RpL K fa H (rgV a b) (rngD a (b - a).toNat) := by
  unfold rgV rngD
  generalize (b - a).toNat = n
  have : ∀ l : List Nat, RpL K fa H (l.map fun (i : Nat) => V.int (a + (i : Int))) (l.map fun (i : Nat) => D.int (a + (i : Int))) := fun l => by
    induction l with
    | nil => exact .nil
    | cons x l ih => exact .cons (.int _) ih
  exact this _
theorem df_listRng1 {p1 p2 q : Pos} (hm : X.mg "list" = none) (hm2 : X.mg "range" = none) (ha : DE X C W a fa) (hc : X.calm = true := by rfl) (hg : Gl X "list" := by rfl) (hg2 : Gl X "range" := by rfl)
    (na : starEach [a] X.env = (false, eval a X.env) :: starEach [] X.env := by rfl) (na2 : starEach [Expr.Call (.Name "range" p2) [a] [] q] X.env = (false, eval (Expr.Call (.Name "range" p2) [a] [] q) X.env) :: starEach [] X.env := by rfl) :
    DF X C W (.Call (.Name "list" p1) [.Call (.Name "range" p2) [a] [] q] [] pos) (eLRng fa) := PE.to (pe_listRg hc hg hm (prg_1 hg2 hm2 ha na) na2) fun σ H Q ⟨Γ, P0, H0, E, g⟩ => by
  refine ⟨Γ, P0, H0, E, Got.bind repF_mono g fun d x H1 _ e1 t1 r1 g1 => ?_⟩
  unfold lrngA at g1
  split at g1
  · split at g1
    · rename_i j heq hj
      cases heq
      cases rp_int r1
      exact ⟨j, rfl, .of_le (by omega) (by omega) (by omega) (by omega), g1.newL t1 (by have := rgV_rp (K := X.K) (fa := C.fa) (H := mask (Msk P0 Γ σ) H1) (a := 0) (b := j); rw [Int.sub_zero] at this; exact this)⟩
    · exact g1.elim
  · rename_i heq; cases heq
  · exact g1.elim

/-! ### isinstance -/
def tyN : D → Option String
  | .non => some "NoneType"
  | .bl _ => some "bool"
  | .int _ => some "int"
  | .str _ => some "str"
  | .tup _ => some "tuple"
  | .lst _ => some "list"
  | .scr _ => some "list"
  | .dK _ _ => some "dict"
  | .dT _ _ => some "dict"
  | _ => none
theorem tyN_rp {fa : Str → Option Addr} {M : Addr → Prop} {H : Hp} {v : V} {d : D} {T : String} (r : Rp K fa (mask M H) v d) (h : tyN d = some T) : TyX K H v (.type T) := by
  cases d with
  | non => cases h; cases rp_non r; exact .base .non
  | bl b => cases h; cases rp_bl r; exact .base (.bl _)
  | int i => cases h; cases rp_int r; exact .base (.int _)
  | str i => cases h; cases rp_str r; exact .base (.str _)
  | tup ds => cases h; obtain ⟨a, xs, rfl, ha, _⟩ := rp_tup r; exact .base (.tup (mask_some.mp ha).2)
  | lst ds => cases h; obtain ⟨a, xs, rfl, ha, _⟩ := rp_lst r; exact .base (.lst (mask_some.mp ha).2)
  | dK ks ds => cases h; obtain ⟨a, xs, rfl, ha, _⟩ := rp_dK r; exact .base (.dK (mask_some.mp ha).2)
  | dT ks ds => cases h; obtain ⟨a, xs, rfl, ha, _⟩ := rp_dT r; exact .base (.dT (mask_some.mp ha).2)
  | scr ns =>
    cases h
    obtain ⟨a, rfl, ha⟩ := rp_scr r
    rcases ha with ⟨o, ha⟩ | ⟨o, its, n, h1, h2, _⟩
    · exact .base (.frz (mask_some.mp ha).2)
    · exact .kList h1 h2
  | _ => cases h
/-- the built-in type T has the class T' -/
def subTy (T' : String) : String → Bool := fun T => T == T' || (T == "bool" && T' == "int")
theorem kit_sub {T' T : String} (h1 : T' ∈ ["int", "bool", "tuple", "list", "str", "dict"]) (h2 : T ∈ ["NoneType", "bool", "int", "str", "tuple", "list", "dict"]) : PySem.W.kitOne K (.type T) (.type T') = some (subTy T' T) := by
  simp only [List.mem_cons, List.not_mem_nil, or_false] at h1 h2
  rcases h1 with rfl | rfl | rfl | rfl | rfl | rfl <;> rcases h2 with rfl | rfl | rfl | rfl | rfl | rfl | rfl <;> rfl
end
end DL

set_option Elab.async false
set_option linter.all false
set_option maxRecDepth 100000
set_option maxHeartbeats 2000000
namespace DL
open PySem PySem.Spec PyProof.Rows L2 LamX

/-! ### a def -/
def gam0 (n : Nat) (ds : List D) : Gm := ds.map Sl.dat ++ List.replicate (n - ds.length) Sl.no
def O.toR : O → R
  | .nx _ => .ok .non
  | .rt d => .ok d
  | .exc c _ => .exc c
  | _ => .bad
def runDef (n : Nat) (F : Gm → O) (ds : List D) : R := (F (gam0 n ds)).toR
theorem gam0_own {n : Nat} {ds : List D} {i : Nat} {d : D} : (gam0 n ds)[i]? ≠ some (.own d) := fun h => by
  have m := List.mem_of_getElem? h
  unfold gam0 at m
  rcases List.mem_append.mp m with m | m
  · obtain ⟨x, _, e⟩ := List.mem_map.mp m
    cases e
  · cases List.eq_of_mem_replicate m
theorem gam0_dat {n : Nat} {ds : List D} {i : Nat} {d : D} (h : (gam0 n ds)[i]? = some (.dat d)) : ds[i]? = some d := by
  unfold gam0 at h
  rw [List.getElem?_append] at h
  split at h
  · rw [List.getElem?_map] at h
    cases e : ds[i]? with
    | none => rw [e] at h; cases h
    | some x => rw [e] at h; simp only [Option.map_some, Option.some.injEq, Sl.dat.injEq] at h; rw [h]
  · have m := List.mem_of_getElem? h
    cases List.eq_of_mem_replicate m
theorem here_start {K : PySem.W.Frag} {C : Cn} {M : Addr → Prop} {N : List Str} {vs : List V} {ds : List D} {H : Hp} (m : MutM M H) (t : Tabs C.T H) (r : RpL K C.fa (mask M H) vs ds) (hl : vs.length ≤ N.length) : Here K C M (nt H) (gam0 N.length ds) (L2.start N vs) H := by
  have hd : vs.length = ds.length := r.length
  refine ⟨⟨nt_ext (ExtN.refl H), t, m, fun i d h => ?_, fun i d h => absurd h gam0_own, fun i j d e a h => absurd h gam0_own, ?_⟩, fun a ps h => (nt_some.mp h).2 ps rfl⟩
  · obtain ⟨v, e, q⟩ := RpL.get r (gam0_dat h)
    refine ⟨v, ?_, Rp.ext (mask_ext (ExtN.refl H) fun a m _ => m.elim id fun ⟨_, _, z, _⟩ => absurd z gam0_own) _ _ q⟩
    unfold L2.start
    have hi : i < vs.length := (List.getElem?_eq_some_iff.mp e).1
    rw [List.getElem?_append_left (by rw [List.length_map]; exact hi), List.getElem?_map, e]
    rfl
  · unfold gam0 L2.start
    rw [List.length_append, List.length_append, List.length_map, List.length_map, List.length_replicate, List.length_replicate, hd]
theorem okXN {P : Program} {w : World} {K : PySem.W.Frag} {mg : Str → Option Value} {base : Heap} {x qual : Str} {st : Stmt} {f : Addr} {fd : FuncData} {N ps : List Str} {k : Nat} {sp : Sp} (F : Fun K x qual st f fd) (S : FnScope N ps (defScope st)) (len : ∀ vs H Q E, sp vs H Q E → vs.length = ps.length)
    (hbody : ∀ (cdv : Value) (A : Around) (outer : List Env) (s : Shared) (H : Hp) (vs : List V) (Q : VK) (E : XK), Room k (A.deeper (envOfC qual (defScope st) s.heap.objs.size f cdv)) → sp vs H Q E →
      ∃ t, PSs (cxOf (L2N.CX P w) P w K mg base N qual (defScope st) f cdv A outer s H E) (defBody st) t ∧ t { nx := fun _ H' => Q .non H', rt := Q } (L2.start N vs) H) : FnOk P w K mg base (L2N.CX P w) (k + 1) f fd ps sp := by
  obtain ⟨oc, od, kV, doc, pm, an, cdv, ct, osl, rfl, lk, hcd⟩ := F.ex
  exact fn_of lk hcd S len fun A outer s H vs Q E hr hsp => hbody cdv A outer s H vs Q E hr hsp
theorem takes0N {X : Cx} : L2N.Takes X (fun _ _ _ _ => False) := fun _ _ x => by
  obtain ⟨_, _, _, _, _, _, _, _, _, _, _, _, _, _, _, _, z⟩ := x
  exact z.elim
structure DefAt (K : PySem.W.Frag) (mg : Str → Option Value) (x : Str) (st : Stmt) (ps : List Str) : Prop where
  ex : ∃ (f : Addr) (fd : FuncData), Fun K x x st f fd ∧ mg x = some (.ref f) ∧ Binds K fd ps [] ∧ ∀ us : List Value, us.length = ps.length → bindArgs fd ⟨us, []⟩ = pure (ps.zip us)
section
variable {P : Program} {w : World} {K : PySem.W.Frag} {mg : Str → Option Value} {base : Heap} {C : Cn}
theorem fn_def {x : Str} {st : Stmt} {N ps : List Str} {k : Nat} {F : Gm → O} {f : Addr} {fd : FuncData} (Fu : Fun K x x st f fd) (S : FnScope N ps (defScope st)) (hN : ps.length ≤ N.length)
    (hbody : ∀ (f : Addr) (cdv : Value) (A : Around) (outer : List Env) (s : Shared) (H : Hp) (E : XK), Room k (A.deeper (envOfC x (defScope st) s.heap.objs.size f cdv)) →
      DSs (cxOf (L2N.CX P w) P w K mg base N x (defScope st) f cdv A outer s H E) C (fun c d _ H' => E c d H') (defBody st) F) : FnOk P w K mg base (L2N.CX P w) (k + 1) f fd ps (dSp K C ps.length (runDef N.length F)) := by
  refine okXN Fu S (fun vs H Q E h => h.1) (fun cdv A outer s H vs Q E hr h => ⟨_, hbody f cdv A outer s H E hr, ?_⟩)
  obtain ⟨hl, M, ds, m, t, r, g⟩ := h
  refine ⟨gam0 N.length ds, M, nt H, here_start m t r (by rw [hl]; exact hN), ?_⟩
  unfold runDef at g
  cases e : F (gam0 N.length ds) with
  | nx Γ =>
    rw [e] at g
    exact fun σ H' E' => g .non H' (ext_nt E'.e.base) E'.e.tab .non
  | rt d =>
    rw [e] at g
    exact fun v H' b t' q => g v H' (ext_nt b) t' q
  | exc c Γ =>
    rw [e] at g
    exact fun c' σ H' x E' => g c' H' x (ext_nt E'.e.base) E'.e.tab
  | bk Γ => rw [e] at g; exact g.elim
  | ct Γ => rw [e] at g; exact g.elim
  | bad => rw [e] at g; exact g.elim
theorem cal_def {x : Str} {st : Stmt} {N ps : List Str} {k : Nat} {F : Gm → O} (T : DefAt K mg x st ps) (S : FnScope N ps (defScope st)) (hN : ps.length ≤ N.length)
    (hbody : ∀ (f : Addr) (cdv : Value) (A : Around) (outer : List Env) (s : Shared) (H : Hp) (E : XK), Room k (A.deeper (envOfC x (defScope st) s.heap.objs.size f cdv)) →
      DSs (cxOf (L2N.CX P w) P w K mg base N x (defScope st) f cdv A outer s H E) C (fun c d _ H' => E c d H') (defBody st) F) : Cal P w K mg base C (k + 1) x ps (runDef N.length F) := by
  obtain ⟨f, fd, Fu, hm, hb, _⟩ := T.ex
  exact ⟨f, fd, fn_def Fu S hN hbody, hm, Fu.kp, hb⟩
theorem def_at {x : Str} {st : Stmt} {ps : List Str} {f : Addr} {h : Heap} {oc : Value} {od an : Option Addr} {osl : Array (Option Value)} {kV doc pm cdv ct : Value} (X : K.In h) (G : h.Ns mainGlobals mg)
    (a : PySem.W.nsIn K mainGlobals x = some (some (.ref f))) (l : K.lookup f = some ⟨oc, od, .func (PySem.W.fnOf x x (defArgs st) (defBody st) (defScope st) .none kV doc pm an cdv ct), osl⟩)
    (c : PySem.W.codeIn K cdv x = true) (k : PySem.W.keepIn K (.ref f) = true) (b : ∀ (kV doc pm : Value) (an : Option Addr) (cdv ct : Value) (us : List Value), us.length = ps.length → bindArgs (PySem.W.fnOf x x (defArgs st) (defBody st) (defScope st) .none kV doc pm an cdv ct) ⟨us, []⟩ = pure (ps.zip us)) :
    DefAt K mg x st ps := ⟨f, _, fun_mk l c k, PySem.W.mg_of X G a, .all (b kV doc pm an cdv ct), b kV doc pm an cdv ct⟩
theorem exn_at {x : Str} {a : Addr} {h : Heap} (X : K.In h) (G : h.Ns mainGlobals mg) (hx : C.xa x = some a) (g : PySem.W.nsIn K mainGlobals x = some (some (.ref a))) (q : PySem.W.excIn K a [.type "ValueError", .type "Exception", .type "BaseException", .type "object"] "ValueError.__new__" = true)
    (k : PySem.W.keepIn K (.ref a) = true) (s : PySem.W.subIn K (.ref a) (.type "BaseException") = some true) (t : PySem.W.typeIn K (.ref a) = some (.type "type")) : Exn K mg C x := ⟨a, hx, q, PySem.W.mg_of X G g, k, s, t⟩
end

/-! ### the law's end -/
/-- the script: locked (a law row's own), or a list -/
def IsScr (d : D) (ns : List Int) : Prop := d = .scr ns ∨ d = .lst (ns.map .int)
theorem law_at {l : PySem.W.OpenLaw} {w : World} {K : PySem.W.Frag} {mg : Str → Option Value} {fa : Addr} {h : Heap} {k n : Nat} {C : Cn} {st : Stmt} {p : Str} {m : List D → R} (hT : C.T = []) (D : DefAt K mg "law" st [p]) (hfa : mg "law" = some (.ref fa))
    (fn : ∀ (base : Heap) (f : Addr) (fd : FuncData), Fun K "law" "law" st f fd → FnOk l.prog w K mg base (L2N.CX l.prog w) k f fd [p] (dSp K C 1 m))
    (hm : ∀ (d : DL.D) (ns : List Int), IsScr d ns → ns.length ≤ n → (∀ z ∈ ns, Builtin.Int.intBits z ≤ 1048576) → m [d] = .ok (.bl true)) : LawAtS l w K (L2N.CX l.prog w) k n p mg fa h := by
  obtain ⟨f, fd, Fu, hg, _, hb⟩ := D.ex
  rw [hfa] at hg
  injection hg with hg
  injection hg with hg
  subst hg
  refine ⟨fd, [], dSp K C 1 m, fun q hq => (nomatch hq), fun q hq => (nomatch hq), fun q hq => (nomatch hq), fun s u => .of_eq (hb [u] rfl), fun H a ns hl hbits _ hS => ?_, fun base _ _ _ => fn base _ fd Fu⟩
  have fin : ∀ d : DL.D, IsScr d ns → Rp K C.fa (mask (fun _ => False) H) (.ref a) d → dSp K C 1 m [.ref a] H (fun v _ => v = .bl true) fun _ _ _ => False := fun d hd r => by
    refine ⟨rfl, fun _ => False, [d], fun a z => z.elim, ?_, .cons r .nil, ?_⟩
    · rw [hT]; exact fun q hq => (nomatch hq)
    · rw [hm d ns hd hl hbits]
      exact fun b H' _ _ r' => rp_bl r'
  have me : ExtN H (mask (fun _ => False) H) := fun b o e _ => mask_some.mpr ⟨fun z => z, e⟩
  rcases hS with (hS | ⟨o, hS⟩) | hS
  · exact fin _ (.inr rfl) (.lst (me _ _ hS (fun _ z => by cases z)) (RpL.of_ints ns))
  · exact fin _ (.inl rfl) (.scr (.inl ⟨o, me _ _ hS (fun _ z => by cases z)⟩))
  · exact fin _ (.inl rfl) (.scr (.inr hS))
theorem cx_end {P : Program} {w : World} {H : Hp} {s : Shared} {e : Value} {s' : Shared} (h : L2N.CX P w [] H s (fun _ _ _ => False) e s') : False := by
  obtain ⟨_, _, _, _, _, _, _, _, _, _, _, _, z⟩ := h
  exact z
end DL

set_option Elab.async false
set_option linter.all false
set_option maxRecDepth 100000
set_option maxHeartbeats 4000000
namespace DL
open PySem PySem.Spec PyProof.Rows L2 LamX
section
variable {P : Program} {w : World} {A : Around} {E : Value → Shared → Prop} {s : Shared}
/-- a new, empty set -/
def newSet (w : World) : Obj := { cls := .type "set", dict := none, data := .set #[] 0 (.fresh 0 0 (!w.params.followText "set-order")) }
/-- set(x): what its __init__ does -/
theorem call_set_by {x : Value} {R : Shared → Prop} {Q : Value → Shared → Prop}
    (hi : wpAny (model P w) A.in1.in1 (Builtin.«set.__init__» ⟨[.ref s.heap.objs.size, x], []⟩) (fun fin s' => match fin with
      | Fin.done f => wants (fun r s₂ => r = Value.none ∧ R s₂) E (Except.ok f) s'
      | Fin.again c' => c'.quiet = true ∧ codeAny (model P w) A.in1 c' (wants (fun r s₂ => r = Value.none ∧ R s₂) E) s') E { s with heap := s.heap.push (newSet w) })
    (h : ∀ s₂, R s₂ → Q (.ref s.heap.objs.size) s₂) : wpAny (model P w) A (call (.type "set") [x]) Q E s := by
  have c0 := F.called_set
  obtain ⟨mro0, rest0, em⟩ := c0.mro
  have e1 := c0.made
  have e2 := c0.sub
  have e3 := c0.notType
  have e4 := c0.canCreate
  have e5 := F.typeCall_set_1 x
  have e6 := c0.init.lookup
  refine wpAny_call (codeAny_of_tree ?_)
  show wpAny _ _ (callAny (.type "set") _) _ _ _
  refine wpAny_pure ⟨Code.quiet_builtin _ (by decide +kernel), codeAny_builtin F.entry_type_call ?_⟩
  rw [Around.under_plain (weight_type_call_type "set" [x] []) rfl]
  repeat (any_goals (first | assumption | wp_step))
  refine codeAny_mono (code_set_led1 x (E := E) (Q₁ := fun obj s₁ => obj = .ref s.heap.objs.size ∧ s₁ = { s with heap := s.heap.push (newSet w) }) ⟨rfl, rfl⟩) fun r s₁ hr => ?_
  match r, hr with
  | .error e, hr => exact hr
  | .ok (.ret obj), hr =>
    obtain ⟨rfl, rfl⟩ := hr
    have hS : (s.heap.push (newSet w)).get? s.heap.objs.size = some (newSet w) := Heap.get?_push_size _ rfl
    have hT : Shared.TypeIs { s with heap := s.heap.push (newSet w) } (.ref s.heap.objs.size) "set" := ⟨_, hS, rfl⟩
    have e7 := c0.init.bind (.ref s.heap.objs.size)
    repeat (any_goals (first | assumption | wp_step))
    refine codeAny_mono (codeAny_call_builtin (R := wants (fun r s₂ => r = .none ∧ R s₂) E) c0.init.plain F.entry_set_init (check_set_init_1 hT ?_)) fun r₂ s₂ hr₂ => ?_
    · exact hi
    · match r₂, hr₂ with
      | .error e, hr₂ => exact hr₂
      | .ok (.ret r), hr₂ =>
        obtain ⟨rfl, q⟩ := hr₂
        repeat (any_goals (first | assumption | wp_step))
        exact h _ q
      | .ok .next, hr₂ => exact hr₂.elim
      | .ok .brk, hr₂ => exact hr₂.elim
      | .ok .cont, hr₂ => exact hr₂.elim
  | .ok .next, hr => exact hr.elim
  | .ok .brk, hr => exact hr.elim
  | .ok .cont, hr => exact hr.elim
/-- set(xs), xs a list of ints -/
theorem call_set_listI {l : Addr} {items : Array Value} (ns : List Int) {Q : Value → Shared → Prop} (hh : A.handled = none) (hl : s.heap.IsList l items) (hit : IntsAre items.toList ns) (hb : ns.length + 1 < scanBound)
    (h : ∀ (h' : Heap) (tk c : Nat), SetR w h' s.heap.objs.size (fun j => decide (j ∈ ns)) c → c ≤ ns.length → (∀ b o, s.heap.get? b = some o → h'.get? b = some o) → Q (.ref s.heap.objs.size) { s with heap := h', toks := tk }) :
    wpAny (model P w) A (call (.type "set") [.ref l]) Q E s := by
  have hn : items.size = ns.length := by rw [← Array.length_toList]; exact IntsAre.length hit
  refine call_set_by (R := fun s₂ => ∃ h' tk c, s₂ = { s with heap := h', toks := tk } ∧ SetR w h' s.heap.objs.size (fun j => decide (j ∈ ns)) c ∧ c ≤ ns.length ∧ (∀ b o, s.heap.get? b = some o → h'.get? b = some o)) ?_ fun s₂ ⟨h', tk, c, e, R, hc, k⟩ => by
    subst e; exact h h' tk c R hc k
  obtain ⟨ol, hol, hcl, nl, hdl⟩ := hl
  obtain ⟨ocls, odict, odata, oslots⟩ := ol
  simp only at hcl hdl
  subst hcl; subst hdl
  have old : (s.heap.push (newSet w)).get? l = some { cls := .type "list", dict := odict, data := .seq items nl, slots := oslots } := Heap.get?_push_of_some _ hol
  have f1 := F.sub_list_set
  have f2 := F.sub_list_frozenset
  have f3 : (Value.type "list" == Value.type "dict") = false := by decide
  have isl : (s.heap.push (newSet w)).IsList l items := ⟨_, old, rfl, nl, rfl⟩
  unfold Builtin.«set.__init__» noKeywords Builtin.Frozenset.updateFrom
  generalize hPI : pyIter = PI
  wp_walk
  subst hPI
  refine wpAny_pyIter_list isl ?_
  refine wpAny_bind (wpAny_runValue ?_)
  have lt : l < s.heap.objs.size := Heap.lt_size hol
  have sz : (s.heap.push (newSet w)).objs.size = s.heap.objs.size + 1 := Heap.size_push ..
  have n1 : l ≠ (s.heap.push (newSet w)).objs.size := fun z => Nat.lt_irrefl _ (Nat.lt_trans lt (by rw [z, sz]; exact Nat.lt_succ_self _))
  have n2 : s.heap.objs.size ∉ [(s.heap.push (newSet w)).objs.size, l] := by
    rw [sz]; simp only [List.mem_cons, List.not_mem_nil, or_false, not_or]; exact ⟨Nat.ne_of_lt (Nat.lt_succ_self _), Nat.ne_of_gt lt⟩
  have val : ∀ (i : Nat) (v : Value), items[i]? = some v → ∃ k t, ns[i]? = some k ∧ v = .int k t := fun i v hv => by
    have hi : i < ns.length := by rw [← hn]; exact (Array.getElem?_eq_some_iff.mp hv).1
    obtain ⟨t, e⟩ := PyProof.Rows.IntsAre.int_at hit i v (by rw [Array.getElem?_toList]; exact hv)
    exact ⟨ns[i], t, List.getElem?_eq_getElem hi, by rw [e, List.getD_eq_getElem?_getD, List.getElem?_eq_getElem hi] <;> rfl⟩
  refine set_update_ints ((Walks.list (show A.in1.in1.in1.handled = none by simp [hh]) _ l n1 items).toS) s.heap.objs.size n2 ns hn hb val (items.size - 0) 0 _ (by omega) (Nat.zero_le _) ⟨⟨_, Heap.get?_push_size _ rfl, rfl, rfl⟩, isl.push _⟩ ?hS0 ?hR
  case hS0 => exact ⟨0, Nat.le_refl 0, setR_new_at (Heap.get?_push_of_some _ (Heap.get?_push_size _ rfl))⟩
  case hR =>
    intro s' c mv hc hS'
    obtain ⟨h', g2, d', tk', os'⟩ := s'
    obtain rfl : g2 = s.gens := mv.gens
    obtain rfl : d' = s.drawn := mv.drawn
    obtain rfl : os' = s.os := mv.os
    show wpAny _ _ _ _ _ _
    refine wpAny_pure ?_
    show wpAny _ _ (ret Value.none) _ _ _
    refine wpAny_pure ⟨rfl, h', tk', c, rfl, hS', by rw [← hn]; exact hc, fun b o e => ?_⟩
    have b0 : b < s.heap.objs.size := Heap.lt_size e
    refine mv.heap b o ?_ (Heap.get?_push_of_some _ (Heap.get?_push_of_some _ e))
    simp only [List.mem_cons, List.not_mem_nil, or_false, not_or]
    exact ⟨Nat.ne_of_lt b0, fun z => Nat.lt_irrefl _ (Nat.lt_trans b0 (by rw [z, sz]; exact Nat.lt_succ_self _))⟩
end
end DL

set_option Elab.async false
set_option linter.all false
set_option maxRecDepth 100000
set_option maxHeartbeats 4000000
namespace DL
open PySem PySem.Spec PyProof.Rows L2 LamX

/-! ### sorted, each once -/
section
variable {α : Type}
def insS (lt : α → α → Bool) (x : α) : List α → List α
  | [] => [x]
  | y :: ys => if lt x y = true then x :: y :: ys else if lt y x = true then y :: insS lt x ys else y :: ys
def nubS (lt : α → α → Bool) (l : List α) : List α := l.foldr (insS lt) []
structure Lin (lt : α → α → Bool) : Prop where
  irr : ∀ a, lt a a = false
  tr : ∀ a b c, lt a b = true → lt b c = true → lt a c = true
  eq : ∀ a b, lt a b = false → lt b a = false → a = b
variable {lt : α → α → Bool}
theorem mem_insS (L : Lin lt) {x z : α} : ∀ l : List α, z ∈ insS lt x l ↔ z = x ∨ z ∈ l
  | [] => by simp [insS]
  | y :: ys => by
    unfold insS
    split
    · simp
    · rename_i h1
      split
      · rw [List.mem_cons, mem_insS L ys, List.mem_cons]
        constructor
        · rintro (h | h | h)
          · exact .inr (.inl h)
          · exact .inl h
          · exact .inr (.inr h)
        · rintro (h | h | h)
          · exact .inr (.inl h)
          · exact .inl h
          · exact .inr (.inr h)
      · rename_i h2
        have e : x = y := L.eq x y (by simpa using h1) (by simpa using h2)
        subst e
        simp
theorem insS_pw (L : Lin lt) {x : α} : ∀ l : List α, l.Pairwise (fun a b => lt a b = true) → (insS lt x l).Pairwise (fun a b => lt a b = true)
  | [], _ => by simp [insS]
  | y :: ys, h => by
    obtain ⟨h1, h2⟩ := List.pairwise_cons.mp h
    unfold insS
    split
    · rename_i c
      refine List.pairwise_cons.mpr ⟨fun z hz => ?_, h⟩
      rcases List.mem_cons.mp hz with e | e
      · rw [e]; exact c
      · exact L.tr _ _ _ c (h1 z e)
    · split
      · rename_i c
        refine List.pairwise_cons.mpr ⟨fun z hz => ?_, insS_pw L ys h2⟩
        rcases (mem_insS L ys).mp hz with e | e
        · rw [e]; exact c
        · exact h1 z e
      · exact h
theorem mem_nubS (L : Lin lt) {z : α} : ∀ l : List α, z ∈ nubS lt l ↔ z ∈ l
  | [] => by simp [nubS]
  | x :: l => by
    show z ∈ insS lt x (nubS lt l) ↔ _
    rw [mem_insS L, mem_nubS L l, List.mem_cons]
theorem nubS_pw (L : Lin lt) : ∀ l : List α, (nubS lt l).Pairwise (fun a b => lt a b = true)
  | [] => List.Pairwise.nil
  | x :: l => insS_pw L _ (nubS_pw L l)
theorem pw_ext (L : Lin lt) : ∀ {l m : List α}, l.Pairwise (fun a b => lt a b = true) → m.Pairwise (fun a b => lt a b = true) → (∀ z, z ∈ l ↔ z ∈ m) → l = m
  | [], [], _, _, _ => rfl
  | [], y :: m, _, _, h => absurd ((h y).mpr List.mem_cons_self) (by simp)
  | x :: l, [], _, _, h => absurd ((h x).mp List.mem_cons_self) (by simp)
  | x :: l, y :: m, p, q, h => by
    obtain ⟨p1, p2⟩ := List.pairwise_cons.mp p
    obtain ⟨q1, q2⟩ := List.pairwise_cons.mp q
    have e : x = y := by
      rcases List.mem_cons.mp ((h x).mp List.mem_cons_self) with e | e
      · exact e
      · rcases List.mem_cons.mp ((h y).mpr List.mem_cons_self) with e' | e'
        · exact e'.symm
        · have a := L.tr _ _ _ (p1 y e') (q1 x e)
          rw [L.irr] at a
          cases a
    subst e
    refine congrArg (x :: ·) (pw_ext L p2 q2 fun z => ⟨fun hz => ?_, fun hz => ?_⟩)
    · rcases List.mem_cons.mp ((h z).mp (List.mem_cons_of_mem _ hz)) with e | e
      · have a := p1 z hz
        rw [e, L.irr] at a
        cases a
      · exact e
    · rcases List.mem_cons.mp ((h z).mpr (List.mem_cons_of_mem _ hz)) with e | e
      · have a := q1 z hz
        rw [e, L.irr] at a
        cases a
      · exact e
theorem pw_nodup (L : Lin lt) {l : List α} (h : l.Pairwise (fun a b => lt a b = true)) : l.Nodup := h.imp fun {a b} c e => by
  rw [e, L.irr] at c
  cases c
theorem insS_len {x : α} : ∀ l : List α, (insS lt x l).length ≤ l.length + 1
  | [] => by simp [insS]
  | y :: ys => by
    unfold insS
    split
    · simp
    · split
      · have := insS_len (x := x) ys
        simp only [List.length_cons]
        omega
      · simp
theorem nubS_len : ∀ l : List α, (nubS lt l).length ≤ l.length
  | [] => by simp [nubS]
  | x :: l => by
    have h : (nubS lt (x :: l)).length ≤ (nubS lt l).length + 1 := insS_len _
    have := nubS_len l
    simp only [List.length_cons]
    omega
theorem nubS_of (L : Lin lt) {l m : List α} (p : m.Pairwise (fun a b => lt a b = true)) (h : ∀ z, z ∈ m ↔ z ∈ l) : m = nubS lt l := pw_ext L p (nubS_pw L l) fun z => (h z).trans (mem_nubS L l).symm
/-- each once: as many -/
theorem nub_count (L : Lin lt) {l m : List α} (p : m.Nodup) (h : ∀ z, z ∈ m ↔ z ∈ l) : m.length = (nubS lt l).length :=
  ((List.perm_ext_iff_of_nodup p (pw_nodup L (nubS_pw L l))).mpr fun z => (h z).trans (mem_nubS L l).symm).length_eq
end
def ltI (i j : Int) : Bool := decide (i < j)
theorem linI : Lin ltI := ⟨fun a => decide_eq_false (Int.lt_irrefl a), fun a b c h1 h2 => decide_eq_true (Int.lt_trans (of_decide_eq_true h1) (of_decide_eq_true h2)), fun a b h1 h2 => by
  have a1 := of_decide_eq_false h1
  have a2 := of_decide_eq_false h2
  omega⟩
theorem lex_irr : ∀ a : List Int, HT.lexLt a a = false
  | [] => HT.lexLt_nil_nil
  | x :: a => by rw [HT.lexLt_cons, if_pos rfl]; exact lex_irr a
theorem lex_tr : ∀ a b c : List Int, HT.lexLt a b = true → HT.lexLt b c = true → HT.lexLt a c = true
  | a, [], c, h, _ => by cases a <;> simp [HT.lexLt] at h
  | a, y :: b, [], _, h => by simp [HT.lexLt] at h
  | [], y :: b, z :: c, _, _ => HT.lexLt_nil_cons z c
  | x :: a, y :: b, z :: c, h1, h2 => by
    rw [HT.lexLt_cons] at h1 h2 ⊢
    split at h1
    · rename_i e; subst e
      split at h2
      · rename_i e; subst e
        rw [if_pos rfl]; exact lex_tr a b c h1 h2
      · rename_i n; rw [if_neg n]; exact h2
    · rename_i n1
      have l1 := of_decide_eq_true h1
      split at h2
      · rename_i e; subst e; rw [if_neg n1]; exact h1
      · have l2 := of_decide_eq_true h2
        rw [if_neg (by omega)]; exact decide_eq_true (by omega)
theorem lex_eq : ∀ a b : List Int, HT.lexLt a b = false → HT.lexLt b a = false → a = b
  | [], [], _, _ => rfl
  | [], y :: b, h, _ => by simp [HT.lexLt] at h
  | x :: a, [], _, h => by simp [HT.lexLt] at h
  | x :: a, y :: b, h1, h2 => by
    rw [HT.lexLt_cons] at h1 h2
    by_cases e : x = y
    · subst e
      rw [if_pos rfl] at h1 h2
      rw [lex_eq a b h1 h2]
    · rw [if_neg e] at h1
      rw [if_neg (Ne.symm e)] at h2
      have a1 := of_decide_eq_false h1
      have a2 := of_decide_eq_false h2
      omega
theorem linT : Lin HT.lexLt := ⟨lex_irr, lex_tr, lex_eq⟩
theorem lex_code {B : Int} : ∀ a b : List Int, a.length = b.length → TS.Bd B a → TS.Bd B b → TS.code B a ≤ TS.code B b → a ≠ b → HT.lexLt a b = true
  | [], [], _, _, _, _, n => absurd rfl n
  | [], y :: b, l, _, _, _, _ => by simp at l
  | x :: a, [], l, _, _, _, _ => by simp at l
  | x :: a, y :: b, l, h1, h2, h, n => by
    have l' : a.length = b.length := by simpa using l
    rw [HT.lexLt_cons]
    by_cases e : x = y
    · subst e
      rw [if_pos rfl]
      refine lex_code a b l' h1.tail h2.tail ?_ fun z => n (by rw [z])
      exact Int.not_lt.mp fun z => absurd ((TS.code_same (d := x) l'.symm).mpr z) (by omega)
    · rw [if_neg e]
      refine decide_eq_true ?_
      rcases Int.lt_trichotomy x y with c | c | c
      · exact c
      · exact absurd c e
      · have := TS.code_lt l'.symm h2.tail h1.tail c
        omega
theorem bd_ex : ∀ L : List (List Int), ∃ B : Int, ∀ k ∈ L, ∀ i ∈ k, i < B
  | [] => ⟨0, fun k h => by simp at h⟩
  | k :: L => by
    obtain ⟨B, hB⟩ := bd_ex L
    have one : ∀ k : List Int, ∃ B : Int, ∀ i ∈ k, i < B := fun k => by
      induction k with
      | nil => exact ⟨0, fun i h => by simp at h⟩
      | cons j k ih =>
        obtain ⟨B, h⟩ := ih
        refine ⟨max B (j + 1), fun i hi => ?_⟩
        rcases List.mem_cons.mp hi with e | e
        · omega
        · have := h i e; omega
    obtain ⟨B2, h2⟩ := one k
    refine ⟨max B B2, fun q hq i hi => ?_⟩
    rcases List.mem_cons.mp hq with e | e
    · subst e; have := h2 i hi; omega
    · have := hB q e i hi; omega

theorem lexTr {a b c : List Int} (h1 : (!HT.lexLt b a) = true) (h2 : (!HT.lexLt c b) = true) : (!HT.lexLt c a) = true := by
  cases h : HT.lexLt c a with
  | false => rfl
  | true =>
    have n1 : HT.lexLt b a = false := by simpa using h1
    have n2 : HT.lexLt c b = false := by simpa using h2
    exfalso
    cases h3 : HT.lexLt a b with
    | true => rw [lex_tr _ _ _ h h3] at n2; cases n2
    | false =>
      have := lex_eq _ _ h3 n1
      subst this
      rw [h] at n2
      cases n2
theorem lexTot (a b : List Int) : (!HT.lexLt b a || !HT.lexLt a b) = true := by
  cases h : HT.lexLt a b with
  | false => simp
  | true =>
    cases h2 : HT.lexLt b a with
    | false => rfl
    | true =>
      have := lex_tr _ _ _ h h2
      rw [lex_irr] at this
      cases this
/-! ### sorted of a set of tuples of ints, all of one length (none may be ahead of 0, and there may be the empty one) -/
/-- one value, or none: it can be sorted, whatever it is -/
theorem sorts_few {prog : Program} {w : World} {A : Around} {s : Shared} {vs : List Value} {ds : List PyData} (e : PySem.W.EachIs (fun v d => ∃ as, Reads s.heap v d as) vs ds) (hal : PySem.W.AllAlike ds)
    (hk : PySem.W.Sortable ds ∨ (vs.length ≤ 1 ∧ ∀ d ∈ ds, d ≠ .none)) (hu : ∀ d ∈ ds, A.units + d.depth < cLine) : PySem.W.SortsAt prog w A s (PySem.W.dataKind s.heap ds) vs := by
  rcases hk with hk | ⟨h1, hn⟩
  · exact PySem.W.SortsAt.data e hal hk hu
  · refine ⟨fun v hv => ?_, PyProof.Rows.general', fun E x y a b Q ha hb hq => ?_, fun h2 => absurd h2 (by omega)⟩
    · obtain ⟨d, hd, as, r⟩ := e.left v hv
      exact ⟨_, PySem.W.dataKind_some hal hd r⟩
    · obtain ⟨d, as, hd, ra, rfl⟩ := PySem.W.dataKind_inv ha
      obtain ⟨d', as', hd', rb, rfl⟩ := PySem.W.dataKind_inv hb
      have hm : A.units + min d.depth d'.depth < cLine := by have := hu d hd; omega
      exact PySem.W.oneLt_alike (f := false) (fun z => by cases z) ra rb (hal d hd d' hd') (hn d hd) hm hq
def tE (p : Addr × List Int) : PyData := .tuple (p.2.map .int)
theorem alike_ints : ∀ a b : List Int, a.length = b.length → PySem.W.alikeAll (a.map PyData.int) (b.map PyData.int) = true
  | [], [], _ => by simp [PySem.W.alikeAll]
  | x :: a, y :: b, h => by simp [PySem.W.alikeAll, PySem.W.alike, alike_ints a b (by simpa using h)]
  | [], y :: b, h => by simp at h
  | x :: a, [], h => by simp at h
theorem row_lex : ∀ a b : List Int, PySem.W.rowLt (a.map .int) (b.map .int) = HT.lexLt a b
  | [], [] => by decide
  | [], y :: b => by rfl
  | x :: a, [] => by rfl
  | x :: a, y :: b => by
    unfold PySem.W.rowLt
    rw [List.map_cons, List.map_cons, PySem.W.dataLt_cons (by simp [PySem.W.alike]), HT.lexLt_cons]
    have ih := row_lex a b
    unfold PySem.W.rowLt at ih
    rw [ih, PySem.W.dataLt_int]
    by_cases h : x = y <;> simp [PyData.eqv, h]
theorem le_tE (p q : Addr × List Int) : PySem.W.dataLe false tE p q = !HT.lexLt q.2 p.2 := by
  have h := row_lex q.2 p.2
  unfold PySem.W.rowLt at h
  rw [← h, ← PySem.W.dataLt_tuple]
  rfl
theorem depth_ints : ∀ a : List Int, PyData.depthAll (a.map PyData.int) ≤ 1
  | [] => by rw [List.map_nil]; simp [PyData.depthAll]
  | x :: a => by
    have := depth_ints a
    simp [PyData.depthAll, PyData.depth]
    omega
theorem depth_tE (p : Addr × List Int) : (tE p).depth ≤ 2 := by
  have := depth_ints p.2
  unfold tE
  simp only [PyData.depth]
  omega
theorem each_refs {h : Heap} {vs : List Value} : ∀ {bs : List (Addr × List Int)}, vs = bs.map (fun q => Value.ref q.1) → PySem.W.EachIs (fun (v : Value) (q : Addr × List Int) => v = .ref q.1) vs bs
  | [], e => by subst e; exact .nil
  | b :: bs, e => by subst e; exact .cons rfl (each_refs (h := h) rfl)
theorem refs_each : ∀ {vs : List Value} {bs : List (Addr × List Int)}, PySem.W.EachIs (fun (v : Value) (q : Addr × List Int) => v = .ref q.1) vs bs → vs = bs.map fun q => Value.ref q.1
  | _, _, .nil => rfl
  | _, _, .cons h t => by rw [h, refs_each t]; rfl
theorem each_tE {h : Heap} : ∀ {vs : List Value} {bs : List (Addr × List Int)}, vs = bs.map (fun q => Value.ref q.1) → (∀ q ∈ bs, ∃ as, Reads h (.ref q.1) (tE q) as) → PySem.W.EachIs (fun v q => ∃ as, Reads h v (tE q) as) vs bs
  | _, [], e, _ => by subst e; exact .nil
  | _, b :: bs, e, hr => by subst e; exact .cons (hr b List.mem_cons_self) (each_tE rfl fun q hq => hr q (List.mem_cons_of_mem _ hq))
section
variable {P : Program} {w : World} {A : Around} {E : Value → Shared → Prop} {s : Shared}
/-- the values of a set of tuples stand for its rows, in some turn -/
theorem set_rows {h : Heap} {a : Addr} {L : List (Addr × List Int)} {es : Array (Int × Value)} {ep : Nat} {t : SetTable} (R : SetTR P w h a L es ep t) {vs : List Value} (pm : vs.Perm (L.map fun q => Value.ref q.1)) :
    ∃ L1 : List (Addr × List Int), vs = L1.map (fun q => Value.ref q.1) ∧ L1.Perm L := by
  generalize hm : L.map (fun q => Value.ref q.1) = ms at pm
  clear R
  induction pm generalizing L with
  | nil =>
    cases L with
    | nil => exact ⟨[], rfl, List.Perm.refl _⟩
    | cons q L => cases hm
  | cons x _ ih =>
    cases L with
    | nil => cases hm
    | cons q L =>
      rw [List.map_cons, List.cons.injEq] at hm
      obtain ⟨L1, e, p⟩ := ih hm.2
      exact ⟨q :: L1, by rw [List.map_cons, ← e, hm.1], p.cons q⟩
  | swap x y l =>
    cases L with
    | nil => cases hm
    | cons q L =>
      cases L with
      | nil => simp at hm
      | cons r L =>
        simp only [List.map_cons, List.cons.injEq] at hm
        obtain ⟨h1, h2, h3⟩ := hm
        exact ⟨r :: q :: L, by rw [List.map_cons, List.map_cons, h1, h2, h3], List.Perm.swap q r L⟩
  | trans _ _ ih1 ih2 =>
    obtain ⟨L2, e2, p2⟩ := ih2 hm
    obtain ⟨L1, e1, p1⟩ := ih1 e2.symm
    exact ⟨L1, e1, p1.trans p2⟩
theorem sorted_setU {a : Addr} {L : List (Addr × List Int)} {es : Array (Int × Value)} {ep : Nat} {t : SetTable} {Q : Value → Shared → Prop} (R : SetTR P w s.heap a L es ep t) (hh : A.handled = none) (hu : A.units + 64 < cLine)
    (hr : ∀ q ∈ L, ∃ as, Reads s.heap (.ref q.1) (tE q) as) {d : Nat} (hd : ∀ q ∈ L, q.2.length = d)
    (hQ : ∀ (z : Shared) (p : Addr) (out : Array Value) (c : Nat) (N : List (Addr × List Int)), (∀ b u, s.heap.get? b = some u → z.heap.get? b = some u) → z.gens = s.gens → z.os = s.os → s.heap.objs.size ≤ p →
      z.heap.get? p = some (seqObj "list" out c) → out.toList = N.map (fun q => Value.ref q.1) → N.Perm L → N.Pairwise (fun q r => HT.lexLt r.2 q.2 = false) → Q (.ref p) z) :
    wpAny (model P w) A (call (.builtin "sorted") [Value.ref a]) Q E s := by
  obtain ⟨o, ho, hex, hdt⟩ := R.ob
  have hsz := R.size
  have hfew := R.few
  refine Calls.call_function_entry kind_sorted plain_sorted entry_sorted (args_sorted1 _) ?_
  unfold Builtin.«sorted»; refine wpAny_bind (m := checkCount "sorted" 1 1 _) (wpAny_pure ?_)
  have hbound : es.size < scanBound := by unfold scanBound; omega
  refine wpAny_bind (collect_set (A := A.in1) hh ⟨o, ho, hex.1, hdt⟩ R.fits hbound R.tab.ris R.led fun s1 vs k1 hz g1 o1 pm => ?_)
  have hes : es.toList.map Prod.snd = L.map fun q => Value.ref q.1 := by
    rw [R.rows]
    simp only [rowsOf, List.map_map]
    rfl
  rw [hes] at pm
  obtain ⟨bs, hvs, pbs⟩ := set_rows R pm
  have hlen : vs.length = L.length := by rw [hvs, List.length_map, pbs.length_eq]
  have hline : vs.length ≤ sizeLine := by rw [sizeLine_eq]; omega
  refine wpAny_bind (wpAny_newList ?_ hline)
  have hoL : (s1.heap.push (seqObj "list" vs.toArray 0)).get? s1.heap.objs.size = some (seqObj "list" vs.toArray 0) := by exact Heap.get?_push_size _ rfl
  have old : ∀ b u, s1.heap.get? b = some u → (PySem.W.sortingHeap (s1.heap.push (seqObj "list" vs.toArray 0)) s1.heap.objs.size vs).get? b = some u := fun b u e =>
    PySem.W.sortingHeap_old (Nat.ne_of_lt (Heap.lt_size e)) (Heap.get?_push_of_some _ e)
  have hrd : ∀ q ∈ bs, ∃ as, Reads (PySem.W.sortingHeap (s1.heap.push (seqObj "list" vs.toArray 0)) s1.heap.objs.size vs) (.ref q.1) (tE q) as := fun q hq => by
    obtain ⟨as, r⟩ := hr q (pbs.mem_iff.mp hq)
    exact ⟨as, PyProof.Rows.Reads.keeps (fun b u e => old b u (k1 b u e)) r⟩
  have er := each_tE hvs hrd
  have hal : PySem.W.AllAlike (bs.map tE) := fun x hx y hy => by
    obtain ⟨q, hq, rfl⟩ := List.mem_map.mp hx
    obtain ⟨r, hr', rfl⟩ := List.mem_map.mp hy
    simp only [tE, PySem.W.alike]
    exact alike_ints _ _ ((hd q (pbs.mem_iff.mp hq)).trans (hd r (pbs.mem_iff.mp hr')).symm)
  have hk : PySem.W.Sortable (bs.map tE) ∨ (vs.length ≤ 1 ∧ ∀ x ∈ bs.map tE, x ≠ .none) := by
    by_cases c : d = 0
    · refine .inr ⟨?_, fun x hx => ?_⟩
      · have nd := R.nd
        have : ∀ z ∈ L.map (·.2), z ∈ [([] : List Int)] := fun z hz => by
          obtain ⟨q, hq, rfl⟩ := List.mem_map.mp hz
          have := hd q hq
          rw [c] at this
          rw [List.eq_nil_of_length_eq_zero this]
          exact List.mem_singleton_self _
        rw [hlen, ← List.length_map (f := (·.2)) (as := L)]
        cases hL : L.map (·.2) with
        | nil => simp
        | cons x l =>
          cases l with
          | nil => simp
          | cons y l =>
            rw [hL] at this nd
            have e1 := List.mem_singleton.mp (this x (by simp))
            have e2 := List.mem_singleton.mp (this y (by simp))
            rw [e1, e2] at nd
            simp at nd
      · obtain ⟨q, hq, rfl⟩ := List.mem_map.mp hx
        exact fun z => by cases z
    · refine .inl (.inl fun x hx => ?_)
      obtain ⟨q, hq, rfl⟩ := List.mem_map.mp hx
      have := hd q (pbs.mem_iff.mp hq)
      cases hq2 : q.2 with
      | nil => rw [hq2] at this; exact absurd this.symm c
      | cons i r => exact ⟨.int i, r.map .int, by simp [tE, hq2]⟩
  have S : PySem.W.SortsAt P w A.in1.in1 { s1 with heap := PySem.W.sortingHeap (s1.heap.push (seqObj "list" vs.toArray 0)) s1.heap.objs.size vs } _ vs :=
    sorts_few (PySem.W.each_map (R := fun v d => ∃ as, Reads _ v d as) tE er) hal hk fun x hx => by
      obtain ⟨q, hq, rfl⟩ := List.mem_map.mp hx
      have := depth_tE q
      show A.units + 2 + _ < _
      omega
  have hsorted := refs_each (PySem.W.sortVals_data (enc := tE) false (each_refs (h := s1.heap) hvs) er hal)
  generalize hout : PySem.W.sortVals (PySem.W.dataKind (PySem.W.sortingHeap (s1.heap.push (seqObj "list" vs.toArray 0)) s1.heap.objs.size vs) (bs.map tE)) false vs vs = out at hsorted
  refine wpAny_bind (wpAny_holding (PyProof.Rows.wpAny_call_entry_kw slot_list_sort ⟨_, hoL, rfl⟩ entry_list_sort (PySem.W.list_sort_vals hoL S hline ⟨.none, rfl, ?_⟩) (args_list_sort _)))
  rw [hout]
  obtain ⟨c, hc⟩ := sortedHeap_at (vs := vs) (out := out.toArray) hoL
  have pL : (bs.mergeSort (PySem.W.dataLe false tE)).Perm L := (List.mergeSort_perm _ _).trans pbs
  have pw : (bs.mergeSort (PySem.W.dataLe false tE)).Pairwise (fun q r => HT.lexLt r.2 q.2 = false) := by
    have hle : ∀ x y, PySem.W.dataLe false tE x y = !HT.lexLt y.2 x.2 := le_tE
    have := List.pairwise_mergeSort (le := PySem.W.dataLe false tE) (fun x y z h1 h2 => by
      rw [hle] at h1 h2 ⊢
      exact lexTr h1 h2) (fun x y => by rw [hle, hle]; exact lexTot _ _) bs
    exact this.imp fun {x y} h => by
      rw [hle] at h
      simpa using h
  refine wpAny_pure ⟨_, rfl, hQ _ s1.heap.objs.size out.toArray c _ (fun b u e => ?_) g1 o1 hz hc hsorted pL pw⟩
  have q := k1 b u e
  have hlt := Heap.lt_size q
  show (sortedHeap (s1.heap.push (seqObj "list" vs.toArray 0)) s1.heap.objs.size vs out.toArray).get? b = some u
  rw [sortedHeap_old (Nat.ne_of_lt hlt) (Nat.lt_succ_of_lt hlt |> fun z => by rw [size_push']; exact z)]
  exact Heap.get?_push_of_some (_ : Obj) q
end
/-! ### sets of ints, of tuples of ints -/
def rSetI (K : PySem.W.Frag) (w : World) : List V → Hp → VK → Prop := fun xs H Q => ∃ (l : Addr) (ns : List Int), xs = [V.ref l] ∧ (SqL K H l (ns.map V.int) ∨ SqT K H l (ns.map V.int)) ∧ ns.length < 1000 ∧
  ∀ a c, H a = none → c = (nubS ltI ns).length → Q (.ref a) (upd H a (SetO w a (fun j => decide (j ∈ ns)) c))
theorem setR_nub {w : World} {h : Heap} {a : Addr} {ns : List Int} {c : Nat} (R : SetR w h a (fun j => decide (j ∈ ns)) c) : c = (nubS ltI ns).length := by
  obtain ⟨o, es, ep, t, _, _, _, _, nd, hm, _, _, hn, _⟩ := R
  have e : es.size = (nubS ltI ns).length := by
    rw [← Array.length_toList, ← List.length_map (f := L2.keyOf)]
    exact nub_count linI nd fun z => (hm z).symm.trans decide_eq_true_iff
  exact hn.symm.trans e
section
variable {X : Cx}
theorem cr_setI (hc : X.calm = true) : CallR X (.type "set") (rSetI X.K X.w) := by
  intro pins s σ H xs us Q I r h
  obtain ⟨l, ns, rfl, hl, hs, q⟩ := h
  rw [Vals.ref1 r]
  have hb : ns.length + 1 < scanBound := by unfold scanBound; omega
  have hn : H s.heap.objs.size = none := I.hok.fresh (Nat.le_refl _)
  have fin : ∀ (h' : Heap) (tk c : Nat), SetR X.w h' s.heap.objs.size (fun j => decide (j ∈ ns)) c → c ≤ ns.length → (∀ b o, s.heap.get? b = some o → h'.get? b = some o) → EP X pins σ Q (.ref s.heap.objs.size) { s with heap := h', toks := tk } := fun h' tk c R hc k =>
    ⟨.ref s.heap.objs.size, upd H s.heap.objs.size (SetO X.w s.heap.objs.size (fun j => decide (j ∈ ns)) c), I.laid (t' := tk) k (Nat.le_refl _) (setO_new R), rfl, q _ c hn (setR_nub R)⟩
  rcases hl with hl | hl
  · obtain ⟨its, rv, pl, hz⟩ := I.list hl
    exact call_set_listI (P := X.prog) (w := X.w) ns (I.ok.hd hc) pl.isList (by simpa using rv.ints) hb fin
  · obtain ⟨its, rv, pl, hz⟩ := I.tuple hl
    exact call_set_tupI (P := X.prog) (w := X.w) ns (I.ok.hd hc) pl (by simpa using rv.ints) hb fin
def rSetX (K : PySem.W.Frag) (P : Program) (w : World) : List V → Hp → VK → Prop := fun xs H Q => rSetI K w xs H Q ∨ rSetOfT K P w xs H Q
theorem cr_setX (hc : X.calm = true) (hu : X.A.units + 64 < cLine) : CallR X (.type "set") (rSetX X.K X.prog X.w) := (cr_setI hc).or (cr_setOfT hc hu)
/-- sorted(set), the tuples all of one length -/
def rSortedU (K : PySem.W.Frag) (P : Program) (w : World) : List V → Hp → VK → Prop := fun vs H Q => ∃ (a : Addr) (L : List (Addr × List Int)) (d : Nat), vs = [V.ref a] ∧ H a = some (SetTO P w a L) ∧ (∀ p ∈ L, SqT K H p.1 (p.2.map V.int)) ∧ (∀ p ∈ L, p.2.length = d) ∧
  ∀ (L' : List (Addr × List Int)) (p : Addr), L'.Perm L → (L'.map (·.2)).Nodup → L'.Pairwise (fun q r => HT.lexLt r.2 q.2 = false) → H p = none → Q (.ref p) (upd H p (.lst (L'.map fun q => V.ref q.1)))
theorem dp_intsJ {K : PySem.W.Frag} {H : Hp} : ∀ ns : List Int, DpAll K H (ns.map V.int) (ns.map PyData.int)
  | [] => .nil
  | n :: ns => .cons (.int n) (dp_intsJ ns)
theorem cr_sortedU (hc : X.calm = true) (hu : X.A.units + 64 < cLine) : CallR X (.builtin "sorted") (rSortedU X.K X.prog X.w) := by
  intro pins s σ H vs us Q I rel h
  obtain ⟨a, L, d, rfl, ha, hk, hd, q⟩ := h
  have S0 : SetT0 X.prog X.w s.heap a L := And.left (I.hok a _ ha)
  obtain ⟨es, ep, t, R⟩ := S0.full fun y hy => I.isT (hk y hy)
  rw [Vals.ref1 rel]
  refine sorted_setU R (I.ok.hd hc) hu (fun p hp => Dp.reads I (tE p) (.ref p.1) (.ref p.1) (.tup (hk p hp) (dp_intsJ p.2)) rfl) hd fun z p out c M k g o hp hg hout pm pw => ?_
  have few1 : M.length < 64 := by rw [pm.length_eq]; exact R.few
  have len1 : (M.map fun q => V.ref q.1).length ≤ sizeLine := by rw [List.length_map, sizeLine_eq]; omega
  have new1 : H p = none := I.hok.fresh hp
  have val1 : Vals (M.map fun q => V.ref q.1) out.toList := by rw [hout]; exact vals_of_refs M
  have J : Inv X pins σ (upd H p (.lst (M.map fun q => V.ref q.1))) { s with heap := z.heap, gens := z.gens, drawn := z.drawn, toks := z.toks } :=
    I.call (ch := []) (Un.laid k hp new1) (I.hok.laid k hp ⟨len1, out.toList, c, val1, hg⟩) (by rw [g]; exact I.bare) fun _ z => nomatch z
  have e : z = { s with heap := z.heap, gens := z.gens, drawn := z.drawn, toks := z.toks } := by
    cases z; cases s; cases o; rfl
  rw [e]
  exact ⟨.ref p, _, J, rfl, q M p pm ((pm.map (·.2)).nodup_iff.mpr R.nd) pw new1⟩
def rSortX (K : PySem.W.Frag) (P : Program) (w : World) : List V → Hp → VK → Prop := fun xs H Q => rSortedSet w xs H Q ∨ rSortedU K P w xs H Q
theorem cr_sortX (hc : X.calm = true) (hu : X.A.units + 64 < cLine) : CallR X (.builtin "sorted") (rSortX X.K X.prog X.w) := (cr_sortedSet hc).or (cr_sortedU hc hu)
/-- len of a set -/
def rLenS (P : Program) (w : World) : List V → Hp → VK → Prop := fun xs H Q => (∃ a ns c, xs = [V.ref a] ∧ H a = some (SetO w a (fun j => decide (j ∈ ns)) c) ∧ c ≤ ns.length ∧ ns.length < 1000 ∧ Q (.int (nubS ltI ns).length) H) ∨
  ∃ a L, xs = [V.ref a] ∧ H a = some (SetTO P w a L) ∧ ((L.map (·.2)).Nodup → L.length < 64 → Q (.int L.length) H)
theorem cr_lenS : CallR X (.builtin "len") (rLenS X.prog X.w) := by
  intro pins s σ H xs us Q I r h
  rcases h with ⟨a, ns, c, rfl, ha, hc, hl, q⟩ | ⟨a, L, rfl, ha, q⟩
  · rw [Vals.ref1 r]
    obtain ⟨o, es, ep, t, ho, hex, hd, g, nd, hm, hb, hf, hn, _⟩ := setO_get I ha
    have e : es.size = (nubS ltI ns).length := by
      rw [← Array.length_toList, ← List.length_map (f := L2.keyOf)]
      exact nub_count linI nd fun z => (hm z).symm.trans decide_eq_true_iff
    refine call_len_set ho hex hd hf (by rw [hn]; omega) ⟨.int (nubS ltI ns).length, H, I.tok _, ⟨_, by rw [e]⟩, q⟩
  · rw [Vals.ref1 r]
    have R0 : SetT0 X.prog X.w s.heap a L := (I.hok a _ ha).1
    obtain ⟨es, ep, t, ⟨o, ho, hex, hd⟩, hr, tab, nd, _, _, hf, few⟩ := R0.ex
    have e : es.size = L.length := by
      rw [← Array.length_toList, hr]
      unfold rowsOf
      rw [List.length_map]
    refine call_len_set ho hex hd ?_ (by rw [e]; omega) ⟨.int L.length, H, I.tok _, ⟨_, by rw [e]⟩, q nd few⟩
    have h1 := tab.sz
    rw [List.length_map] at h1
    unfold SetTable.fits SetTable.fill
    rw [tab.dm, Bool.and_eq_true, beq_iff_eq, decide_eq_true_eq]
    show t.place.size = es.size ∧ t.place.size + 0 ≤ t.mask
    omega
end

/-! ### sorted(set(x)), len(set(x)) -/
def tupsOf : List D → Option (List (List Int))
  | [] => some []
  | .tup ds :: r => (match intsOf ds, tupsOf r with
    | some k, some L => some (k :: L)
    | _, _ => none)
  | _ => none
theorem tupsOf_map : ∀ {ds : List D} {L : List (List Int)}, tupsOf ds = some L → ds = L.map fun k => .tup (k.map D.int)
  | [], L, h => by simp [tupsOf] at h; subst h; rfl
  | d :: r, L, h => by
    cases d with
    | tup ds =>
      unfold tupsOf at h
      split at h
      · rename_i k L' h1 h2
        cases h
        rw [List.map_cons, ← tupsOf_map h2, intsOf_map h1]
      · cases h
    | _ => simp [tupsOf] at h
theorem tupsOf_tups : ∀ L : List (List Int), tupsOf (L.map fun k => .tup (k.map D.int)) = some L
  | [] => rfl
  | k :: L => by simp only [List.map_cons, tupsOf, intsOf_ints, tupsOf_tups L]
def okT : List (List Int) → Bool
  | [] => true
  | k :: L => decide (1 ≤ k.length) && (k :: L).all fun q => decide (q.length = k.length) && q.all fun i => decide (0 ≤ i)
/-- all of one length -/
def okU : List (List Int) → Bool
  | [] => true
  | k :: L => L.all fun q => decide (q.length = k.length)
theorem okT_okU {L : List (List Int)} (h : okT L = true) : okU L = true := by
  cases L with
  | nil => rfl
  | cons k L =>
    unfold okT at h
    simp only [Bool.and_eq_true, decide_eq_true_eq, List.all_eq_true] at h
    unfold okU
    rw [List.all_eq_true]
    exact fun q hq => decide_eq_true (h.2 q (List.mem_cons_of_mem _ hq)).1
def sortI (ns : List Int) : R := if ns.length < 1000 ∧ (nubS ltI ns).length < 64 then .ok (.lst ((nubS ltI ns).map .int)) else .bad
def sortSetD : D → R
  | .lst ds => (match intsOf ds with
    | some ns => sortI ns
    | none => (match tupsOf ds with
      | some L => if okU L = true ∧ L.length < 64 then .ok (.lst ((nubS HT.lexLt L).map fun k => .tup (k.map .int))) else .bad
      | none => .bad))
  | .tup ds => (match intsOf ds with
    | some ns => sortI ns
    | none => .bad)
  | _ => .bad
def lenSetD : D → R
  | .lst ds => (match intsOf ds with
    | some ns => if ns.length < 1000 then .ok (.int (nubS ltI ns).length) else .bad
    | none => (match tupsOf ds with
      | some L => if L.length < 64 then .ok (.int (nubS HT.lexLt L).length) else .bad
      | none => .bad))
  | .tup ds => (match intsOf ds with
    | some ns => if ns.length < 1000 then .ok (.int (nubS ltI ns).length) else .bad
    | none => .bad)
  | _ => .bad
def eSortSet (f : Gm → R) : Gm → R := fun Γ => (f Γ).bind sortSetD
def eLenSet (f : Gm → R) : Gm → R := fun Γ => (f Γ).bind lenSetD
section
variable {K : PySem.W.Frag} {fa : Str → Option Addr} {M : Addr → Prop} {H : Hp}
theorem rp_tups : ∀ {L : List (List Int)} {xs : List V}, RpL K fa (mask M H) xs (L.map fun k => .tup (k.map D.int)) → ∃ ks : List (Addr × List Int), xs = ks.map (fun p => V.ref p.1) ∧ ks.map (·.2) = L ∧ ∀ p ∈ ks, mask M H p.1 = some (.tup (p.2.map V.int))
  | [], xs, h => ⟨[], rpL_nil h, rfl, fun p hp => by simp at hp⟩
  | k :: L, xs, h => by
    obtain ⟨x, ys, rfl, r1, r2⟩ := rpL_cons h
    obtain ⟨a, zs, rfl, ha, r3⟩ := rp_tup r1
    obtain ⟨ks, e1, e2, e3⟩ := rp_tups r2
    refine ⟨(a, k) :: ks, by rw [e1]; rfl, by rw [← e2]; rfl, fun p hp => ?_⟩
    rcases List.mem_cons.mp hp with e | e
    · subst e
      rw [r3.ints] at ha
      exact ha
    · exact e3 p e
theorem tups_rp : ∀ ks : List (Addr × List Int), (∀ p ∈ ks, mask M H p.1 = some (.tup (p.2.map V.int))) → RpL K fa (mask M H) (ks.map fun p => V.ref p.1) ((ks.map (·.2)).map fun k => .tup (k.map D.int))
  | [], _ => .nil
  | p :: ks, h => .cons (.tup (h p List.mem_cons_self) (RpL.of_ints _)) (tups_rp ks fun q hq => h q (List.mem_cons_of_mem _ hq))
end
section
variable {X : Cx} {C : Cn} {W : WX} {e : Expr} {f : Gm → R} {p p2 q pos : Pos}
theorem set_ints {M : Addr → Prop} {H1 : Hp} {v : V} {ds : List D} {ns : List Int} {d : D} (hd : d = .lst ds ∨ d = .tup ds) (e : intsOf ds = some ns) (r : Rp X.K C.fa (mask M H1) v d) : ∃ l, v = .ref l ∧ (SqL X.K H1 l (ns.map V.int) ∨ SqT X.K H1 l (ns.map V.int)) := by
  rcases hd with rfl | rfl
  · obtain ⟨a, xs, rfl, ha, r'⟩ := rp_lst r
    rw [intsOf_map e] at r'
    rw [r'.ints] at ha
    exact ⟨a, rfl, .inl (.inl (.inl (mask_some.mp ha).2))⟩
  · obtain ⟨a, rfl, ha⟩ := rp_tupI r e
    exact ⟨a, rfl, .inr ha⟩
theorem gets_ints {M : Addr → Prop} {σ : L2.St} {H1 : Hp} {ns : List Int} {Q : VK} {l : Addr} (t : Tabs C.T H1) (hl : SqL X.K H1 l (ns.map V.int) ∨ SqT X.K H1 l (ns.map V.int)) (g : Got W C (repF X.K C M) σ H1 (sortI ns) Q) :
    rSetX X.K X.prog X.w [.ref l] H1 fun v H2 => rSortX X.K X.prog X.w [v] H2 Q := by
  unfold sortI at g
  split at g
  · rename_i h64
    refine .inl ⟨l, ns, rfl, hl, h64.1, fun a c ha hc => .inl ⟨a, _, c, rfl, upd_same, by rw [hc]; exact h64.2, fun ns' p' pw hm hn hp => ?_⟩⟩
    have e1 : ns' = nubS ltI ns := nubS_of linI (pw.imp fun h => decide_eq_true h) fun z => (hm z).trans decide_eq_true_iff
    subst e1
    have x1 := ext_new (o := SetO X.w a (fun j => decide (j ∈ ns)) c) ha
    exact g _ _ (x1.trans (ext_new hp)) (tabs_new (tabs_new t ha) hp) (new_lst x1 hp (RpL.of_ints _))
  · exact g.elim
theorem df_sortset (hc : X.calm = true) (hu : X.A.units + 64 < cLine) (hm1 : X.mg "sorted" = none) (hm2 : X.mg "set" = none) (ha : DE X C W e f) (hg1 : Gl X "sorted" := by rfl) (hg2 : Gl X "set" := by rfl)
    (he : starEach [e] X.env = (false, eval e X.env) :: starEach [] X.env := by rfl) : DF X C W (.Call (.Name "sorted" p) [.Call (.Name "set" p2) [e] [] q] [] pos) (eSortSet f) := by
  refine PE.to (pe_callB (cr_sortX hc hu) hg1 hm1 (by rfl) (pa_cons (pe_callTy (cr_setX hc hu) hg2 hm2 (by rfl) (pa_cons ha pa_nil he) (by decide) (by decide) he (by rfl)) pa_nil (by rfl)) (by decide) (by decide) (by rfl) (by rfl)) fun σ H Q ⟨Γ, P0, H0, E, g⟩ => ?_
  refine ⟨Γ, P0, H0, E, Got.bind repF_mono g fun d v H1 _ e1 t1 r1 g1 => ?_⟩
  unfold sortSetD at g1
  split at g1
  · rename_i ds
    split at g1
    · rename_i ns hi
      obtain ⟨l, rfl, hl⟩ := set_ints (.inl rfl) hi r1
      exact gets_ints t1 hl g1
    · split at g1
      · rename_i L hL
        split at g1
        · rename_i h
          obtain ⟨hok, h64⟩ := h
          obtain ⟨a, xs, rfl, hx, rx⟩ := rp_lst r1
          rw [tupsOf_map hL] at rx
          obtain ⟨ks, rfl, e2, h3⟩ := rp_tups rx
          have hT : ∀ p ∈ ks, SqT X.K H1 p.1 (p.2.map V.int) := fun p hp => .inl (.inl (mask_some.mp (h3 p hp)).2)
          refine .inr ⟨a, ks, rfl, .inl (.inl (mask_some.mp hx).2), hT, by rw [← List.length_map (f := (·.2)), e2]; exact h64, fun b S hb hsub hall => ?_⟩
          have hmem : ∀ z, z ∈ S.map (·.2) ↔ z ∈ L := fun z => by
            rw [← e2]
            constructor
            · intro h
              obtain ⟨p, hp, e⟩ := List.mem_map.mp h
              exact List.mem_map.mpr ⟨p, hsub p hp, e⟩
            · intro h
              obtain ⟨p, hp, e⟩ := List.mem_map.mp h
              rw [← e]; exact hall p hp
          have x1 := ext_new (o := SetTO X.prog X.w b S) hb
          have hBd : ∀ p ∈ S, p.2.length = (L.headD []).length := fun p hp => by
            have hk := (hmem _).mp (List.mem_map.mpr ⟨p, hp, rfl⟩)
            cases L with
            | nil => simp at hk
            | cons k0 L0 =>
              unfold okU at hok
              simp only [decide_eq_true_eq, List.all_eq_true] at hok
              rcases List.mem_cons.mp hk with e | e
              · rw [e]; rfl
              · exact hok _ e
          refine .inr ⟨b, S, (L.headD []).length, rfl, upd_same, fun p hp => sqT_ext (fun c o e _ => by rw [upd_ne (ne_of_none e hb)]; exact e) (hT p (hsub p hp)), hBd, fun L' p' pm nd pw hp' => ?_⟩
          have memL' : ∀ z, z ∈ L'.map (·.2) ↔ z ∈ L := fun z => ((pm.map (·.2)).mem_iff).trans (hmem z)
          have e3 : L'.map (·.2) = nubS HT.lexLt L := by
            refine nubS_of linT ?_ memL'
            have nd' := nd
            rw [List.Nodup, List.pairwise_map] at nd'
            rw [List.pairwise_map]
            refine (pw.and nd').imp fun {x y} z => ?_
            cases hxy : HT.lexLt x.2 y.2 with
            | true => rfl
            | false => exact absurd (lex_eq _ _ hxy z.1) z.2
          refine g1 _ _ (x1.trans (ext_new hp')) (tabs_new (tabs_new t1 hb) hp') (new_lst x1 hp' ?_)
          rw [← e3]
          refine tups_rp L' fun p hp => ?_
          obtain ⟨m1, m2⟩ := mask_some.mp (h3 p (hsub p (pm.mem_iff.mp hp)))
          exact mask_some.mpr ⟨m1, by rw [upd_ne (ne_of_none m2 hb)]; exact m2⟩
        · exact g1.elim
      · exact g1.elim
  · rename_i ds
    split at g1
    · rename_i ns hi
      obtain ⟨l, rfl, hl⟩ := set_ints (.inr rfl) hi r1
      exact gets_ints t1 hl g1
    · exact g1.elim
  · exact g1.elim
theorem de_lenset (hc : X.calm = true) (hu : X.A.units + 64 < cLine) (hm1 : X.mg "len" = none) (hm2 : X.mg "set" = none) (ha : DE X C W e f) (hg1 : Gl X "len" := by rfl) (hg2 : Gl X "set" := by rfl)
    (he : starEach [e] X.env = (false, eval e X.env) :: starEach [] X.env := by rfl) : DE X C W (.Call (.Name "len" p) [.Call (.Name "set" p2) [e] [] q] [] pos) (eLenSet f) := by
  refine PE.to (pe_callB cr_lenS hg1 hm1 (by rfl) (pa_cons (pe_callTy (cr_setX hc hu) hg2 hm2 (by rfl) (pa_cons ha pa_nil he) (by decide) (by decide) he (by rfl)) pa_nil (by rfl)) (by decide) (by decide) (by rfl) (by rfl)) fun σ H Q ⟨Γ, P0, H0, E, g⟩ => ?_
  refine ⟨Γ, P0, H0, E, Got.bind repD_mono g fun d v H1 _ e1 t1 r1 g1 => ?_⟩
  have intz : ∀ {ds : List D} {ns : List Int}, (d = .lst ds ∨ d = .tup ds) → intsOf ds = some ns → Got W C (repD X.K C (Msk P0 Γ σ)) σ H1 (if ns.length < 1000 then .ok (.int (nubS ltI ns).length) else .bad) Q →
      rSetX X.K X.prog X.w [v] H1 fun v H2 => rLenS X.prog X.w [v] H2 Q := fun {ds ns} hd hi g => by
    obtain ⟨l, rfl, hl⟩ := set_ints hd hi r1
    split at g
    · rename_i hs
      exact .inl ⟨l, ns, rfl, hl, hs, fun a c ha hc => .inl ⟨a, ns, c, rfl, upd_same, by rw [hc]; exact nubS_len ns, hs, g _ _ (ext_new ha) (tabs_new t1 ha) (.int _)⟩⟩
    · exact g.elim
  unfold lenSetD at g1
  split at g1
  · rename_i ds
    split at g1
    · rename_i ns hi
      exact intz (.inl rfl) hi g1
    · split at g1
      · rename_i L hL
        split at g1
        · rename_i h64
          obtain ⟨a, xs, rfl, hx, rx⟩ := rp_lst r1
          rw [tupsOf_map hL] at rx
          obtain ⟨ks, rfl, e2, h3⟩ := rp_tups rx
          have hT : ∀ p ∈ ks, SqT X.K H1 p.1 (p.2.map V.int) := fun p hp => .inl (.inl (mask_some.mp (h3 p hp)).2)
          refine .inr ⟨a, ks, rfl, .inl (.inl (mask_some.mp hx).2), hT, by rw [← List.length_map (f := (·.2)), e2]; exact h64, fun b S hb hsub hall => ?_⟩
          have hmem : ∀ z, z ∈ S.map (·.2) ↔ z ∈ L := fun z => by
            rw [← e2]
            constructor
            · intro h
              obtain ⟨p, hp, e⟩ := List.mem_map.mp h
              exact List.mem_map.mpr ⟨p, hsub p hp, e⟩
            · intro h
              obtain ⟨p, hp, e⟩ := List.mem_map.mp h
              rw [← e]; exact hall p hp
          refine .inr ⟨b, S, rfl, upd_same, fun nd _ => ?_⟩
          have e4 := nub_count linT nd hmem
          rw [List.length_map] at e4
          rw [e4]
          exact g1 _ _ (ext_new hb) (tabs_new t1 hb) (.int _)
        · exact g1.elim
      · exact g1.elim
  · rename_i ds
    split at g1
    · rename_i ns hi
      exact intz (.inr rfl) hi g1
    · exact g1.elim
  · exact g1.elim
end
end DL

set_option Elab.async false
set_option linter.all false
set_option maxRecDepth 100000
set_option maxHeartbeats 4000000
namespace DL
open PySem PySem.Spec PyProof.Rows L2 LamX

/-! ### isinstance(x, T) -/
def isiD (T : String) (d : D) : R := match tyN d with
  | some t => .ok (.bl (subTy T t))
  | none => .bad
def eIsi (T : String) (f : Gm → R) : Gm → R := fun Γ => (f Γ).bind (isiD T)
theorem tyN_in {d : D} {t : String} (h : tyN d = some t) : t ∈ ["NoneType", "bool", "int", "str", "tuple", "list", "dict"] := by
  cases d <;> first | (cases h; decide) | cases h
section
variable {X : Cx} {C : Cn} {W : WX} {e : Expr} {f : Gm → R} {p p2 pos : Pos}
theorem de_isi (T : String) {x : Str} (hT : T ∈ ["int", "bool", "tuple", "list", "str", "dict"]) (hb : bootBuiltins x = some (.type T)) (hm1 : X.mg "isinstance" = none) (hm2 : X.mg x = none) (ha : DE X C W e f) (hg1 : Gl X "isinstance" := by rfl) (hg2 : Gl X x := by rfl)
    (hn : x ≠ "__name__" := by decide) (hd : (x == ("__debug__" : Str)) = false := by decide)
    (he : starEach [e, .Name x p2] X.env = (false, eval e X.env) :: starEach [.Name x p2] X.env := by rfl) (he2 : starEach [.Name x p2] X.env = (false, eval (.Name x p2) X.env) :: starEach [] X.env := by rfl)
    (hpl : (backTo pos (starEach [.Name x p2] X.env)).any (·.1) = false := by rfl) : DE X C W (.Call (.Name "isinstance" p) [e, .Name x p2] [] pos) (eIsi T f) := by
  refine PE.to (pe_callB call_isi hg1 hm1 PyProof.Rows.boot_isinstance (pa_cons ha (pa_cons (pe_bltn (v := .ty T) hg2 hm2 hb rfl hn hd) pa_nil he2) he) (by decide) (by decide) he hpl) fun σ H Q ⟨Γ, P0, H0, E, g⟩ => ?_
  refine ⟨Γ, P0, H0, E, Got.bind repD_mono g fun d v H1 _ e1 t1 r1 g1 => ?_⟩
  unfold isiD at g1
  split at g1
  · rename_i t ht
    exact ⟨v, .ty T, .type t, .type T, subTy T t, rfl, .ty T, tyN_rp r1 ht, kit_sub hT (tyN_in ht), g1.ok1 t1 (.bl _)⟩
  · exact g1.elim

/-! ### target = value -/
def sAsg (t : Tg) (h : Gm → Rg (D × Gm)) : Gm → O := fun Γ => (h Γ).toS Γ fun p => match t p.1 p.2 with
  | some Γ' => .nx Γ'
  | none => .bad
theorem ds_asg {tg : Expr} {t : Tg} {js : List Nat} {h : Gm → Rg (D × Gm)} (he : DV X C W e h) (hg : DG X C tg t js) (hs : swapsWithSole [tg] e pos.line X.env = pure false := by rfl) (hw : swappedStores [tg] e X.env = pure none := by rfl)
    (h1 : (assignEach [tg] X.env).map (·.2) = [assign tg X.env] := by rfl) : DS X C W (.Assign [tg] e pos) (sAsg t h) := PS.to (ps_asg he hg hs hw h1) fun Z σ H ⟨Γ, P0, H0, E, g⟩ => by
  refine ⟨Γ, P0, H0, E, got_of g E fun p v H' _ e t' ⟨E', r⟩ k => ?_⟩
  split at k
  · rename_i Γ' ht
    exact ⟨p.2, P0, H0, p.1, Γ', E', r, ht, fun σ' E2 _ => k σ' H' E2⟩
  · exact k.elim

/-! ### a, b = x, y -/
def aP (fs : Gm → Rg (List D)) : Gm → Rg (List D × Gm) := fun Γ => (fs Γ).bind fun ds => .ok (ds, Γ)
def aB (fs : Gm → Rg (List D)) : Gm → Rg (List D × Gm) := fun Γ => (fs (unown Γ)).bind fun ds => .ok (ds, if D.flats ds then Γ else unown Γ)
def repVL (K : PySem.W.Frag) (C : Cn) (P0 : Addr → Prop) (H0 : Hp) (σ : L2.St) : Hp → Hp → List V → List D × Gm → Prop := fun _ H' v p => Here K C P0 H0 p.2 σ H' ∧ RpL K C.fa (mask (Msk P0 p.2 σ) H') v p.1
def rdVL (K : PySem.W.Frag) (C : Cn) (W : WX) (h : Gm → Rg (List D × Gm)) : TA := fun σ H Q => ∃ Γ P0 H0, Here K C P0 H0 Γ σ H ∧ Got W C (repVL K C P0 H0 σ) σ H (h Γ) Q
abbrev DVL (X : Cx) (C : Cn) (W : WX) (es : List Expr) (h : Gm → Rg (List D × Gm)) : Prop := PA X es (rdVL X.K C W h)
theorem dvl_p {es : List Expr} {fs : Gm → Rg (List D)} (h : DA X C W es fs) : DVL X C W es (aP fs) := PA.to h fun σ H Q ⟨Γ, P0, H0, E, g⟩ =>
  ⟨Γ, P0, H0, E, Got.map g fun ds vs H' _ e t r => ⟨E.ext e t, r⟩⟩
theorem dvl_b {es : List Expr} {fs : Gm → Rg (List D)} (h : DA X C W es fs) : DVL X C W es (aB fs) := PA.to h fun σ H Q ⟨Γ, P0, H0, E, g⟩ => by
  refine ⟨unown Γ, P0, H0, E.unown, Got.map g fun ds vs H' _ e t r => ?_⟩
  by_cases hf : D.flats ds = true
  · simp only [hf, if_true]
    exact ⟨E.ext e t, RpL.remask (E.ext e t).e.mut (E.ext e t).e.mut.solid _ _ hf r⟩
  · simp only [hf]
    exact ⟨E.unown.ext e t, r⟩
def sPar2 (i j : Nat) (h : Gm → Rg (List D × Gm)) : Gm → O := fun Γ => (h Γ).toS Γ fun p => match p.1 with
  | [a, b] => .nx ((p.2.set i (.dat a)).set j (.dat b))
  | _ => .bad
def sPar3 (i j l : Nat) (h : Gm → Rg (List D × Gm)) : Gm → O := fun Γ => (h Γ).toS Γ fun p => match p.1 with
  | [a, b, c] => .nx (((p.2.set i (.dat a)).set j (.dat b)).set l (.dat c))
  | _ => .bad
theorem set_rp {K : PySem.W.Frag} {P0 : Addr → Prop} {Γ : Gm} {σ : L2.St} {H : Hp} {i : Nat} {v x : V} {d b : D} (r : Rp K C.fa (mask (Msk P0 Γ σ) H) v d) : Rp K C.fa (mask (Msk P0 (Γ.set i (.dat b)) (σ.set i (some x))) H) v d :=
  Rp.ext (mask_ext (ExtN.refl H) fun a m _ => m.elim .inl fun z => .inr (ownP_set (fun _ q => by cases q) z)) _ _ r
theorem ds_par2 (i j : Nat) {x y : Str} {a b : Expr} {h : Gm → Rg (List D × Gm)} {px py pt : Pos} {kt k2 : Nat} {pt2 : Pos} (hN : X.N.Nodup) (ha : DVL X C W [a, b] h) (hc : X.calm = true := by rfl) (hi : X.N[i]? = some x := by rfl) (hj : X.N[j]? = some y := by rfl) (hij : i ≠ j := by decide)
    (hx : X.env.scope.names.lookup x = some .local := by rfl) (hy : X.env.scope.names.lookup y = some .local := by rfl)
    (hw : swappedStores [.Tuple [.Name x px, .Name y py] kt pt] (.Tuple [a, b] k2 pt2) X.env = pure (some [x, y]) := by rfl)
    (hs : swapsWithSole [.Tuple [.Name x px, .Name y py] kt pt] (.Tuple [a, b] k2 pt2) pos.line X.env = pure false := by rfl) :
    DS X C W (.Assign [.Tuple [.Name x px, .Name y py] kt pt] (.Tuple [a, b] k2 pt2) pos) (sPar2 i j h) := PS.to (ps_par hc hN hi hj hij hx hy ha hw hs) fun Z σ H ⟨Γ, P0, H0, E, g⟩ => by
  refine ⟨Γ, P0, H0, E, got_of g E fun p vs H' _ e t' ⟨E', r⟩ k => ?_⟩
  split at k
  · rename_i da db hp
    rw [hp] at r
    obtain ⟨v, vs', rfl, r1, r'⟩ := rpL_cons r
    obtain ⟨w', vs2, rfl, r2, r3⟩ := rpL_cons r'
    obtain rfl := rpL_nil r3
    have E1 : Here X.K C P0 H0 (p.2.set i (.dat da)) (σ.set i (some v)) H' := ⟨E'.e.setD r1, E'.nt⟩
    exact ⟨v, w', rfl, k _ _ ⟨E1.e.setD (set_rp r2), E1.nt⟩⟩
  · exact k.elim
theorem ds_par3 (i j l : Nat) {x y z : Str} {a b c : Expr} {h : Gm → Rg (List D × Gm)} {px py pz pt : Pos} {kt k2 : Nat} {pt2 : Pos} (hN : X.N.Nodup) (ha : DVL X C W [a, b, c] h) (hc : X.calm = true := by rfl) (hi : X.N[i]? = some x := by rfl) (hj : X.N[j]? = some y := by rfl) (hl : X.N[l]? = some z := by rfl)
    (hij : i ≠ j := by decide) (hil : i ≠ l := by decide) (hjl : j ≠ l := by decide)
    (hx : X.env.scope.names.lookup x = some .local := by rfl) (hy : X.env.scope.names.lookup y = some .local := by rfl) (hz : X.env.scope.names.lookup z = some .local := by rfl)
    (hw : swappedStores [.Tuple [.Name x px, .Name y py, .Name z pz] kt pt] (.Tuple [a, b, c] k2 pt2) X.env = pure (some [x, y, z]) := by rfl)
    (hs : swapsWithSole [.Tuple [.Name x px, .Name y py, .Name z pz] kt pt] (.Tuple [a, b, c] k2 pt2) pos.line X.env = pure false := by rfl) :
    DS X C W (.Assign [.Tuple [.Name x px, .Name y py, .Name z pz] kt pt] (.Tuple [a, b, c] k2 pt2) pos) (sPar3 i j l h) := PS.to (ps_par3 hc hN hi hj hl hij hil hjl hx hy hz ha hw hs) fun Z σ H ⟨Γ, P0, H0, E, g⟩ => by
  refine ⟨Γ, P0, H0, E, got_of g E fun p vs H' _ e t' ⟨E', r⟩ k => ?_⟩
  split at k
  · rename_i da db dc hp
    rw [hp] at r
    obtain ⟨v, vs', rfl, r1, r'⟩ := rpL_cons r
    obtain ⟨w', vs2, rfl, r2, r''⟩ := rpL_cons r'
    obtain ⟨u', vs3, rfl, r3, r4⟩ := rpL_cons r''
    obtain rfl := rpL_nil r4
    have E1 : Here X.K C P0 H0 (p.2.set i (.dat da)) (σ.set i (some v)) H' := ⟨E'.e.setD r1, E'.nt⟩
    have E2 : Here X.K C P0 H0 ((p.2.set i (.dat da)).set j (.dat db)) ((σ.set i (some v)).set j (some w')) H' := ⟨E1.e.setD (set_rp r2), E1.nt⟩
    exact ⟨v, w', u', rfl, k _ _ ⟨E2.e.setD (set_rp (set_rp r3)), E2.nt⟩⟩
  · exact k.elim

/-! ### methods that change nothing -/
def isTy (T : String) : D → Bool
  | .lst _ => T == "list"
  | .scr _ => T == "list"
  | .str _ => T == "str"
  | .dK _ _ => T == "dict"
  | .dT _ _ => T == "dict"
  | _ => false
theorem tyV_of {K : PySem.W.Frag} {fa : Str → Option Addr} {M : Addr → Prop} {H : Hp} {T : String} {d : D} {v : V} (h : isTy T d = true) (r : Rp K fa (mask M H) v d) : tyV K T v H := by
  cases d with
  | lst ds => obtain ⟨a, xs, rfl, ha, _⟩ := rp_lst r; exact .inl ⟨by simpa [isTy] using h, xs, .inl (.inl (mask_some.mp ha).2)⟩
  | scr ns => obtain ⟨a, rfl, ha⟩ := rp_scr r; exact .inl ⟨by simpa [isTy] using h, _, sqL_ext (fun b o e _ => (mask_some.mp e).2) ha.sq⟩
  | str x => cases rp_str r; exact (show T = "str" by simpa [isTy] using h)
  | dK ks ds => obtain ⟨a, xs, rfl, ha, _⟩ := rp_dK r; exact .inr (.inr (.inl ⟨by simpa [isTy] using h, .inl ⟨_, (mask_some.mp ha).2⟩⟩))
  | dT ks ds => obtain ⟨a, xs, rfl, ha, _⟩ := rp_dT r; exact .inr (.inr (.inl ⟨by simpa [isTy] using h, .inr ⟨_, (mask_some.mp ha).2⟩⟩))
  | _ => cases h
def VMt (K : PySem.W.Frag) (C : Cn) (r : V → List V → Hp → VK → Prop) (g : D → List D → R) : Prop := ∀ (W : WX) (M : Addr → Prop) (σ : L2.St) (H : Hp) (x : V) (xs : List V) (d : D) (ds : List D) (Q : VK), MutM M H → Tabs C.T H → Rp K C.fa (mask M H) x d → RpL K C.fa (mask M H) xs ds →
  Got W C (repD K C M) σ H (g d ds) Q → r x xs H Q
def VMtF (K : PySem.W.Frag) (C : Cn) (r : V → List V → Hp → VK → Prop) (g : D → List D → R) : Prop := ∀ (W : WX) (M : Addr → Prop) (σ : L2.St) (H : Hp) (x : V) (xs : List V) (d : D) (ds : List D) (Q : VK), MutM M H → Tabs C.T H → Rp K C.fa (mask M H) x d → RpL K C.fa (mask M H) xs ds →
  Got W C (repF K C M) σ H (g d ds) Q → r x xs H Q
def eMt (T : String) (g : D → List D → R) (f : Gm → R) (fs : Gm → Rg (List D)) : Gm → R := fun Γ => (f Γ).bind fun d => if isTy T d = true then (fs Γ).bind fun ds => g d ds else .bad
theorem de_mt {o : Expr} {es : List Expr} {fs : Gm → Rg (List D)} {T : String} {id : String} {name : Str} {apos cpos : Pos} {r : V → List V → Hp → VK → Prop} {g : D → List D → R} (hm : MtR X id r) (hv : VMt X.K C r g)
    (hpe : ∀ {t : TE} {ta : TA}, PE X o t → PA X es ta → PE X (.Call (.Attribute o name apos) es [] cpos) (tBM X.K T r t ta)) (ho : DE X C W o f) (ha : DA X C W es fs) : DE X C W (.Call (.Attribute o name apos) es [] cpos) (eMt T g f fs) :=
  PE.to (hpe ho ha) fun σ H Q ⟨Γ, P0, H0, E, q⟩ => by
  refine ⟨Γ, P0, H0, E, Got.bind repD_mono q fun d v H1 _ e1 t1 r1 g1 => ?_⟩
  split at g1
  · rename_i ht
    refine ⟨tyV_of ht r1, Γ, P0, H0, E.ext e1 t1, Got.bind repD_mono g1 fun ds vs H2 _ e2 t2 r2 g2 => ?_⟩
    exact hv W _ σ H2 v vs d ds Q (E.e.mut.ext (e1.trans e2)) t2 (Rp.ext (mask_same e2) _ _ r1) r2 g2
  · exact g1.elim
theorem df_mt {o : Expr} {es : List Expr} {fs : Gm → Rg (List D)} {T : String} {id : String} {name : Str} {apos cpos : Pos} {r : V → List V → Hp → VK → Prop} {g : D → List D → R} (hm : MtR X id r) (hv : VMtF X.K C r g)
    (hpe : ∀ {t : TE} {ta : TA}, PE X o t → PA X es ta → PE X (.Call (.Attribute o name apos) es [] cpos) (tBM X.K T r t ta)) (ho : DE X C W o f) (ha : DA X C W es fs) : DF X C W (.Call (.Attribute o name apos) es [] cpos) (eMt T g f fs) :=
  PE.to (hpe ho ha) fun σ H Q ⟨Γ, P0, H0, E, q⟩ => by
  refine ⟨Γ, P0, H0, E, Got.bind repF_mono q fun d v H1 _ e1 t1 r1 g1 => ?_⟩
  split at g1
  · rename_i ht
    refine ⟨tyV_of ht r1, Γ, P0, H0, E.ext e1 t1, Got.bind repF_mono g1 fun ds vs H2 _ e2 t2 r2 g2 => ?_⟩
    exact hv W _ σ H2 v vs d ds Q (E.e.mut.ext (e1.trans e2)) t2 (Rp.ext (mask_same e2) _ _ r1) r2 g2
  · exact g1.elim
/-- l.index(x) -/
def findD (d : D) : Nat → List D → Option Nat
  | _, [] => none
  | i, x :: r => if PyData.eqv x.toPy d.toPy = true then some i else findD d (i + 1) r
def indexD (d : D) (ds : List D) : R := match d, ds with
  | .lst es, [x] => if eqOk (.lst es) && eqOk x then (match findD x 0 es with
    | some j => .ok (.int j)
    | none => .bad) else .bad
  | _, _ => .bad
theorem findD_is (d : D) : ∀ (es : List D) (i j : Nat), findD d i es = some j → i ≤ j ∧ (∃ z, (D.toPys es)[j - i]? = some z ∧ PyData.eqv z d.toPy = true) ∧ ∀ m z, m < j - i → (D.toPys es)[m]? = some z → PyData.eqv z d.toPy = false
  | [], i, j, h => by cases h
  | x :: r, i, j, h => by
    unfold findD at h
    rw [D.toPys]
    split at h
    · rename_i e
      cases h
      exact ⟨Nat.le_refl _, ⟨x.toPy, by simp, e⟩, fun m z hm => by omega⟩
    · rename_i e
      obtain ⟨h1, ⟨z, h2, h3⟩, h4⟩ := findD_is d r (i + 1) j h
      refine ⟨by omega, ⟨z, ?_, h3⟩, fun m z hm hz => ?_⟩
      · rw [show j - i = (j - (i + 1)) + 1 by omega]; simpa using h2
      · cases m with
        | zero => simp at hz; subst hz; simpa using e
        | succ m => exact h4 m z (by omega) (by simpa using hz)
theorem vm_index {K : PySem.W.Frag} : VMt K C (rIndexD K) indexD := by
  intro W M σ H x xs d ds Q mm t rx rs g
  unfold indexD at g
  split at g
  · rename_i es z
    split at g
    · rename_i h
      obtain ⟨h1, h2⟩ := Bool.and_eq_true_iff.mp h
      split at g
      · rename_i j hj
        obtain ⟨y, ys, rfl, r1, r2⟩ := rpL_cons rs
        obtain rfl := rpL_nil r2
        obtain ⟨a, vs, rfl, ha, rv⟩ := rp_lst rx
        obtain ⟨_, ⟨w', h3, h4⟩, h5⟩ := findD_is z es 0 j hj
        exact ⟨a, y, z.toPy, D.toPys es, j, w', rfl, rfl, Rp.dp (.lst es) _ (SeqAt.canLay_of_shaped h1) rx, Rp.dp z y (SeqAt.canLay_of_shaped h2) r1, h1, h2, by simpa using h3, h4, fun m z' hm hz => h5 m z' (by omega) hz, g.ok1 t (.int _)⟩
      · exact g.elim
    · exact g.elim
  · exact g.elim

/-! ### max, min of one list or tuple of ints -/
def rMaxT (K : PySem.W.Frag) : List V → Hp → VK → Prop := fun vs H Q => ∃ (a : Addr) (ns : List Int), vs = [V.ref a] ∧ SqT K H a (ns.map V.int) ∧ 0 < ns.length ∧ ∀ m, m ∈ ns → (∀ y, y ∈ ns → y ≤ m) → Q (.int m) H
def rMinT (K : PySem.W.Frag) : List V → Hp → VK → Prop := fun vs H Q => ∃ (a : Addr) (ns : List Int), vs = [V.ref a] ∧ SqT K H a (ns.map V.int) ∧ 0 < ns.length ∧ ∀ m, m ∈ ns → (∀ y, y ∈ ns → m ≤ y) → Q (.int m) H
theorem tup_walk {A : Around} {E : Value → Shared → Prop} {s : Shared} {l : Addr} {its : Array Value} {Q : Value → Shared → Prop} (hl : s.heap.IsTuple l its)
    (h : ∀ s₂ : Shared, s₂ = { s with heap := s.heap.push { cls := .type "tuple_iterator", data := .fields #[.ref l, .int 0 0] } } → (s₂.heap.IsTupleIter s.heap.objs.size l 0 ∧ s₂.heap.IsTuple l its) → (∀ b ∈ [s.heap.objs.size, l], b < s₂.heap.objs.size) → l ≠ s.heap.objs.size → Q (.ref s.heap.objs.size) s₂) :
    wpAny (model X.prog X.w) A (pyIter (.ref l)) Q E s := by
  have hlt : l < s.heap.objs.size := by obtain ⟨_, e, _⟩ := hl; exact Heap.lt_size e
  refine wpAny_pyIter_tuple hl (h _ rfl ⟨⟨_, Heap.get?_push_size _ rfl, rfl, rfl⟩, hl.push _⟩ (fun b hb => ?_) (Nat.ne_of_lt hlt))
  show b < (s.heap.push _).objs.size
  rw [Heap.size_push]
  simp only [List.mem_cons, List.not_mem_nil, or_false] at hb
  rcases hb with e | e
  · rw [e]; exact Nat.lt_succ_self _
  · rw [e]; exact Nat.lt_succ_of_lt hlt
theorem ints_getD {us : List Value} {ns : List Int} (hi : IntsAre us ns) {i : Nat} {v : Value} (h : us.toArray[i]? = some v) : i < ns.length ∧ ∃ t, v = .int (ns.getD i 0) t := by
  have q : us[i]? = some v := by simpa using h
  have hl : i < us.length := (List.getElem?_eq_some_iff.mp q).1
  obtain ⟨t, e⟩ := PyProof.Rows.IntsAre.int_at hi i v q
  exact ⟨by rw [← hi.length]; exact hl, t, e⟩
theorem cr_maxT (hc : X.calm = true) : CallR X (.builtin "max") (rMaxT X.K) := by
  intro pins s σ H vs us Q I r h
  obtain ⟨a, ns, rfl, hs, hne, q⟩ := h
  obtain ⟨its, rv, hl, _⟩ := I.tuple hs
  rw [Vals.ref1 r]
  have hi := rv.ints
  have hlen : its.toArray.size = ns.length := by rw [List.size_toArray]; exact hi.length
  refine call_max_walk (tup_walk (X := X) hl fun s₂ e st hfp hlI => ?_)
  subst e
  refine ⟨_, _, _, _, _, _, _, rfl, Walks.tuple (A := X.A.in1) (I.ok.hd hc) _ a hlI its.toArray, st, hfp, by rw [hlen]; exact hne, CmpOf.ints_gt (fun i => ns.getD i 0) (fun i v h => (ints_getD hi h).2), fun v h' tk hP hk => ?_⟩
  obtain ⟨b1, t, rfl⟩ := ints_getD hi hP
  obtain ⟨b2, b3⟩ := argBest_gt (fun i => ns.getD i 0) (its.toArray.size - 1)
  refine ⟨.int _, H, I.kept (t' := tk) (fun b o e => hk b o (fun z => ?_) (Heap.get?_push_of_some _ e)), ⟨t, rfl⟩, q _ ?_ fun y hy => ?_⟩
  · rw [List.mem_singleton.mp z] at e
    exact absurd (Heap.lt_size e) (Nat.lt_irrefl _)
  · rw [List.getD_eq_getElem?_getD, List.getElem?_eq_getElem b1]
    exact List.getElem_mem b1
  · obtain ⟨j, hj, e⟩ := List.getElem_of_mem hy
    have := b3 j (by omega)
    rw [List.getD_eq_getElem?_getD, List.getElem?_eq_getElem hj, Option.getD_some, e] at this
    exact this
theorem cr_minT (hc : X.calm = true) : CallR X (.builtin "min") (rMinT X.K) := by
  intro pins s σ H vs us Q I r h
  obtain ⟨a, ns, rfl, hs, hne, q⟩ := h
  obtain ⟨its, rv, hl, _⟩ := I.tuple hs
  rw [Vals.ref1 r]
  have hi := rv.ints
  have hlen : its.toArray.size = ns.length := by rw [List.size_toArray]; exact hi.length
  refine call_min_walk (tup_walk (X := X) hl fun s₂ e st hfp hlI => ?_)
  subst e
  refine ⟨_, _, _, _, _, _, _, rfl, Walks.tuple (A := X.A.in1) (I.ok.hd hc) _ a hlI its.toArray, st, hfp, by rw [hlen]; exact hne, CmpOf.ints_lt (fun i => ns.getD i 0) (fun i v h => (ints_getD hi h).2), fun v h' tk hP hk => ?_⟩
  obtain ⟨b1, t, rfl⟩ := ints_getD hi hP
  obtain ⟨b2, b3⟩ := argBest_lt (fun i => ns.getD i 0) (its.toArray.size - 1)
  refine ⟨.int _, H, I.kept (t' := tk) (fun b o e => hk b o (fun z => ?_) (Heap.get?_push_of_some _ e)), ⟨t, rfl⟩, q _ ?_ fun y hy => ?_⟩
  · rw [List.mem_singleton.mp z] at e
    exact absurd (Heap.lt_size e) (Nat.lt_irrefl _)
  · rw [List.getD_eq_getElem?_getD, List.getElem?_eq_getElem b1]
    exact List.getElem_mem b1
  · obtain ⟨j, hj, e⟩ := List.getElem_of_mem hy
    have := b3 j (by omega)
    have e2 : ns.getD j 0 = y := by rw [List.getD_eq_getElem?_getD, List.getElem?_eq_getElem hj]; exact e
    rw [e2] at this
    exact this
def maxL : List Int → Int
  | [] => 0
  | [x] => x
  | x :: y :: r => max x (maxL (y :: r))
def minL : List Int → Int
  | [] => 0
  | [x] => x
  | x :: y :: r => min x (minL (y :: r))
theorem maxL_mem : ∀ {l : List Int}, l ≠ [] → maxL l ∈ l ∧ ∀ y ∈ l, y ≤ maxL l
  | [], h => absurd rfl h
  | [x], _ => ⟨by simp [maxL], fun y hy => by simp at hy; subst hy; exact Int.le_refl _⟩
  | x :: y :: r, _ => by
    obtain ⟨h1, h2⟩ := maxL_mem (l := y :: r) (by simp)
    unfold maxL
    refine ⟨?_, fun z hz => ?_⟩
    · rcases Int.le_total x (maxL (y :: r)) with c | c
      · rw [Int.max_eq_right c]; exact List.mem_cons_of_mem _ h1
      · rw [Int.max_eq_left c]; exact List.mem_cons_self
    · rcases List.mem_cons.mp hz with e | e
      · subst e; omega
      · have := h2 z e; omega
theorem minL_mem : ∀ {l : List Int}, l ≠ [] → minL l ∈ l ∧ ∀ y ∈ l, minL l ≤ y
  | [], h => absurd rfl h
  | [x], _ => ⟨by simp [minL], fun y hy => by simp at hy; subst hy; exact Int.le_refl _⟩
  | x :: y :: r, _ => by
    obtain ⟨h1, h2⟩ := minL_mem (l := y :: r) (by simp)
    unfold minL
    refine ⟨?_, fun z hz => ?_⟩
    · rcases Int.le_total x (minL (y :: r)) with c | c
      · rw [Int.min_eq_left c]; exact List.mem_cons_self
      · rw [Int.min_eq_right c]; exact List.mem_cons_of_mem _ h1
    · rcases List.mem_cons.mp hz with e | e
      · subst e; omega
      · have := h2 z e; omega
def mm1D (g : List Int → Int) : List D → R
  | [.lst ds] => (match intsOf ds with
    | some ns => if ns = [] then .bad else .ok (.int (g ns))
    | none => .bad)
  | [.tup ds] => (match intsOf ds with
    | some ns => if ns = [] then .bad else .ok (.int (g ns))
    | none => .bad)
  | _ => .bad
theorem vc_max1 {K : PySem.W.Frag} : VCall K C (fun xs H Q => rMax K xs H Q ∨ rMaxT K xs H Q) (mm1D maxL) := by
  intro W M σ H xs ds Q mm t rs g
  unfold mm1D at g
  split at g
  · obtain ⟨x, ys, rfl, r1, r2⟩ := rpL_cons rs
    obtain rfl := rpL_nil r2
    split at g
    · rename_i ns hi
      split at g
      · exact g.elim
      · rename_i hne
        obtain ⟨a, vs, rfl, ha, rv⟩ := rp_lst r1
        rw [intsOf_map hi] at rv
        rw [rv.ints] at ha
        refine .inl ⟨a, ns, rfl, .inl (.inl (mask_some.mp ha).2), List.length_pos_iff.mpr hne, fun m h1 h2 => ?_⟩
        obtain ⟨h3, h4⟩ := maxL_mem hne
        obtain rfl : m = maxL ns := Int.le_antisymm (h4 m h1) (h2 _ h3)
        exact g.ok1 t (.int _)
    · exact g.elim
  · obtain ⟨x, ys, rfl, r1, r2⟩ := rpL_cons rs
    obtain rfl := rpL_nil r2
    split at g
    · rename_i ns hi
      split at g
      · exact g.elim
      · rename_i hne
        obtain ⟨a, rfl, ha⟩ := rp_tupI r1 hi
        refine .inr ⟨a, ns, rfl, ha, List.length_pos_iff.mpr hne, fun m h1 h2 => ?_⟩
        obtain ⟨h3, h4⟩ := maxL_mem hne
        obtain rfl : m = maxL ns := Int.le_antisymm (h4 m h1) (h2 _ h3)
        exact g.ok1 t (.int _)
    · exact g.elim
  · exact g.elim
theorem vc_min1 {K : PySem.W.Frag} : VCall K C (fun xs H Q => rMin K xs H Q ∨ rMinT K xs H Q) (mm1D minL) := by
  intro W M σ H xs ds Q mm t rs g
  unfold mm1D at g
  split at g
  · obtain ⟨x, ys, rfl, r1, r2⟩ := rpL_cons rs
    obtain rfl := rpL_nil r2
    split at g
    · rename_i ns hi
      split at g
      · exact g.elim
      · rename_i hne
        obtain ⟨a, vs, rfl, ha, rv⟩ := rp_lst r1
        rw [intsOf_map hi] at rv
        rw [rv.ints] at ha
        refine .inl ⟨a, ns, rfl, .inl (.inl (mask_some.mp ha).2), List.length_pos_iff.mpr hne, fun m h1 h2 => ?_⟩
        obtain ⟨h3, h4⟩ := minL_mem hne
        obtain rfl : m = minL ns := Int.le_antisymm (h2 _ h3) (h4 m h1)
        exact g.ok1 t (.int _)
    · exact g.elim
  · obtain ⟨x, ys, rfl, r1, r2⟩ := rpL_cons rs
    obtain rfl := rpL_nil r2
    split at g
    · rename_i ns hi
      split at g
      · exact g.elim
      · rename_i hne
        obtain ⟨a, rfl, ha⟩ := rp_tupI r1 hi
        refine .inr ⟨a, ns, rfl, ha, List.length_pos_iff.mpr hne, fun m h1 h2 => ?_⟩
        obtain ⟨h3, h4⟩ := minL_mem hne
        obtain rfl : m = minL ns := Int.le_antisymm (h2 _ h3) (h4 m h1)
        exact g.ok1 t (.int _)
    · exact g.elim
  · exact g.elim
theorem cr_max1 (hc : X.calm = true) : CallR X (.builtin "max") (fun xs H Q => rMax X.K xs H Q ∨ rMaxT X.K xs H Q) := (cr_max hc).or (cr_maxT hc)
theorem cr_min1 (hc : X.calm = true) : CallR X (.builtin "min") (fun xs H Q => rMin X.K xs H Q ∨ rMinT X.K xs H Q) := (cr_min hc).or (cr_minT hc)
end
end DL

set_option Elab.async false
set_option linter.all false
set_option maxRecDepth 100000
set_option maxHeartbeats 4000000
namespace DL
open PySem PySem.Spec PyProof.Rows L2 LamX

theorem zip_no_len : typeLookup (.type "zip") "__len__" = pure none := am_miss_of_fast (by decide +kernel)
theorem zip_no_hint : typeLookup (.type "zip") "__length_hint__" = pure none := am_miss_of_fast (by decide +kernel)
section
variable {prog : Program} {w : World} {A : Around} {E : Value → Shared → Prop} {s : Shared} {z TI TO i1 i2 : Addr} {fp1 fp2 : List Addr} {n1 n2 i : Nat} {P1 P2 : Nat → Value → Prop} {St1 St2 : Nat → Heap → Prop}
/-- the next pair while the one that was given out is kept -/
theorem zip_held_next {T : Addr} {f : Bool} {oT : Obj} {Q : Value → Shared → Prop} (S : ZipSep2 z TI TO i1 i2 fp1 fp2) (D1 : Draws prog w A i1 fp1 n1 P1 St1) (D2 : Draws prog w A i2 fp2 n2 P2 St2)
    (hz : IsZipHeld s.heap z TI TO T f) (hT : s.heap.get? T = some oT) (hTI : IsTupOf2 s.heap TI (.ref i1) (.ref i2)) (st1 : St1 i s.heap) (st2 : St2 i s.heap) (l1 : i < n1) (l2 : i < n2)
    (hQ : ∀ x1 x2 h' tk, P1 i x1 → P2 i x2 → IsZipHeld h' z TI TO T true → St1 (i + 1) h' → St2 (i + 1) h' → IsTupOf2 h' s.heap.objs.size x1 x2 →
      (∀ c o, c ≠ z → c ≠ i1 → c ≠ i2 → s.heap.get? c = some o → h'.get? c = some o) → Q (.ref s.heap.objs.size) { s with heap := h', toks := tk }) :
    wpAny (model prog w) A (Builtin.«zip.__next__» ⟨[.ref z], []⟩) (fun fin s' => ∃ v, fin = .done (.ret v) ∧ Q v s') E s := by
  obtain ⟨hp, g, d, tk0, os⟩ := s
  show wpAny _ _ (field (.ref z) 2 >>= _) _ _ _
  refine wpAny_bind (wpAny_field hz rfl (x := .bool false) rfl ?_)
  show wpAny _ _ (field (.ref z) 3 >>= _) _ _ _
  refine wpAny_bind (wpAny_field hz rfl (x := .ref TI) rfl (wpAny_bind (wpAny_seqItems hTI rfl ?_)))
  show wpAny _ _ (Builtin.SmallTypes.ownedTupleIsFree (.ref z) >>= _) _ _ _
  refine wpAny_bind (wpAny_tupleHeld_zip hz hT fun ha za ka => ?_)
  replace ka : Heap.SameBut z hp ha := ka
  simp only [Bool.false_eq_true, if_false]
  refine wpAny_bind ?_
  rw [← Array.forIn_toList]
  simp only [List.forIn_cons, List.forIn_nil]
  refine wpAny_bind (wpAny_bind (wpAny_holding ?_))
  show wpAny _ _ (Builtin.SmallTypes.nextOf (.ref i1) >>= _) _ _ ⟨ha, g, d, tk0, os⟩
  refine wpAny_bind (D1.item i _ _ _ l1 (D1.over st1 ka S.zf1) fun x1 hb tk1 p1 sa kb => wpAny_pure (wpAny_pure ?_))
  replace kb : Heap.SameBut i1 ha hb := kb
  refine wpAny_bind (wpAny_bind (wpAny_holding ?_))
  show wpAny _ _ (Builtin.SmallTypes.nextOf (.ref i2) >>= _) _ _ ⟨hb, g, d, tk1, os⟩
  refine wpAny_bind (D2.item i _ _ _ l2 (D2.over (D2.over st2 ka S.zf2) kb S.sep1_2) fun x2 hc tk2 p2 sb kc => wpAny_pure (wpAny_pure (wpAny_pure ?_)))
  replace kc : Heap.SameBut i2 hb hc := kc
  show wpAny _ _ (newTuple [x1, x2] >>= _) _ _ ⟨hc, g, d, tk2, os⟩
  refine wpAny_bind (wpAny_newTuple (wpAny_pure ⟨_, rfl, ?_⟩))
  have sz : hc.objs.size = hp.objs.size := by rw [kc.1, kb.1, ka.1]
  have up : ∀ b o, hc.get? b = some o → (hc.push { cls := .type "tuple", data := .seq #[x1, x2] }).get? b = some o := fun b o e => Heap.get?_push_of_some _ e
  have zc : IsZipHeld hc z TI TO T true := kc.extBut _ _ S.zi2 (kb.extBut _ _ S.zi1 za)
  have nt : IsTupOf2 (hc.push { cls := .type "tuple", data := .seq #[x1, x2] }) hc.objs.size x1 x2 := Heap.get?_push_size _ rfl
  rw [sz] at nt
  show Q (.ref hc.objs.size) _
  rw [sz]
  exact hQ x1 x2 _ tk2 p1 p2 (up _ _ zc) (D1.frame _ _ _ (D1.over sa kc S.sep2_1) fun b _ o e => up b o e) (D2.frame _ _ _ sb fun b _ o e => up b o e) nt fun c o c1 c2 c3 e => up c o (kc.extBut _ _ c3 (kb.extBut _ _ c2 (ka.extBut _ _ c1 e)))
theorem zip_held_stop {T : Addr} {f : Bool} {oT : Obj} {Q : Fin → Shared → Prop} (S : ZipSep2 z TI TO i1 i2 fp1 fp2) (D1 : Draws prog w A i1 fp1 n1 P1 St1) (D2 : Draws prog w A i2 fp2 n2 P2 St2)
    (hz : IsZipHeld s.heap z TI TO T f) (hT : s.heap.get? T = some oT) (hTI : IsTupOf2 s.heap TI (.ref i1) (.ref i2)) (st1 : St1 i s.heap) (st2 : St2 i s.heap) (l1 : i ≤ n1) (l2 : i ≤ n2) (hend : i = n1 ∨ i = n2)
    (hE : ∀ h' tk e, (∀ c o, c ≠ z → c ≠ i1 → c ≠ i2 → s.heap.get? c = some o → h'.get? c = some o) → (∃ o, h'.get? e = some o ∧ o.cls = .type "StopIteration") → E (.ref e) { s with heap := h', toks := tk }) :
    wpAny (model prog w) A (Builtin.«zip.__next__» ⟨[.ref z], []⟩) Q E s := by
  obtain ⟨hp, g, d, tk0, os⟩ := s
  show wpAny _ _ (field (.ref z) 2 >>= _) _ _ _
  refine wpAny_bind (wpAny_field hz rfl (x := .bool false) rfl ?_)
  show wpAny _ _ (field (.ref z) 3 >>= _) _ _ _
  refine wpAny_bind (wpAny_field hz rfl (x := .ref TI) rfl (wpAny_bind (wpAny_seqItems hTI rfl ?_)))
  show wpAny _ _ (Builtin.SmallTypes.ownedTupleIsFree (.ref z) >>= _) _ _ _
  refine wpAny_bind (wpAny_tupleHeld_zip hz hT fun ha za ka => ?_)
  replace ka : Heap.SameBut z hp ha := ka
  simp only [Bool.false_eq_true, if_false]
  refine wpAny_bind ?_
  rw [← Array.forIn_toList]
  simp only [List.forIn_cons, List.forIn_nil]
  refine wpAny_bind (wpAny_bind (wpAny_holding ?_))
  show wpAny _ _ (Builtin.SmallTypes.nextOf (.ref i1) >>= _) _ _ ⟨ha, g, d, tk0, os⟩
  by_cases c : i < n1
  · refine wpAny_bind (D1.item i _ _ _ c (D1.over st1 ka S.zf1) fun x1 hb tk1 p1 sa kb => wpAny_pure (wpAny_pure ?_))
    replace kb : Heap.SameBut i1 ha hb := kb
    obtain rfl : i = n2 := by omega
    refine wpAny_bind (wpAny_bind (wpAny_holding ?_))
    show wpAny _ _ (Builtin.SmallTypes.nextOf (.ref i2) >>= _) _ _ ⟨hb, g, d, tk1, os⟩
    refine wpAny_bind (D2.done ⟨hb, g, d, tk1, os⟩ _ _ (D2.over (D2.over st2 ka S.zf2) kb S.sep1_2) fun hc e kc he => ?_)
    replace kc : Heap.ExtBut i2 hb hc := kc
    exact hE hc tk1 e (fun b o b1 b2 b3 x => kc _ _ b3 (kb.extBut _ _ b2 (ka.extBut _ _ b1 x))) he
  · obtain rfl : i = n1 := by omega
    refine wpAny_bind (D1.done ⟨ha, g, d, tk0, os⟩ _ _ (D1.over st1 ka S.zf1) fun hc e kc he => ?_)
    replace kc : Heap.ExtBut i1 ha hc := kc
    exact hE hc tk0 e (fun b o b1 b2 b3 x => kc _ _ b2 (ka.extBut _ _ b1 x)) he
end

/-! ### list(zip(a, b)) -/
/-- amid the gathering: i pairs stand in the list at L -/
structure Zg (h : Heap) (old : Heap) (z TI TO i1 i2 L : Addr) (St1 St2 : Nat → Heap → Prop) (xs ys : Array Value) (i : Nat) (acc : Array Value) (Ts : List Addr) : Prop where
  st : (IsZip h z TI TO .none ∧ ∃ a b, IsTupOf2 h TO a b) ∨ ∃ T f oT, IsZipHeld h z TI TO T f ∧ h.get? T = some oT ∧ T ≠ L ∧ T ≠ z ∧ T ≠ i1 ∧ T ≠ i2
  tt : ∃ o, h.get? TO = some o
  ti : IsTupOf2 h TI (.ref i1) (.ref i2)
  s1 : St1 i h
  s2 : St2 i h
  ls : ∃ c, h.get? L = some { cls := .type "list", dict := none, data := .seq acc c, slots := #[] }
  ac : acc.toList = Ts.map Value.ref
  ln : Ts.length = i
  tu : ∀ (j : Nat) (T : Addr), Ts[j]? = some T → (T ≠ z ∧ T ≠ TO ∧ T ≠ i1 ∧ T ≠ i2 ∧ T ≠ L) ∧ ∃ x y, xs[j]? = some x ∧ ys[j]? = some y ∧ IsTupOf2 h T x y
  ol : ∀ b o, old.get? b = some o → h.get? b = some o
  nd : Ts.Nodup
  nw : ∀ T ∈ Ts, old.get? T = none
structure Zc (old : Heap) (z TI TO i1 i2 L : Addr) (fp1 fp2 : List Addr) : Prop where
  sep : ZipSep2 z TI TO i1 i2 fp1 fp2
  hL : L ≠ z ∧ L ≠ TI ∧ L ≠ TO ∧ L ≠ i1 ∧ L ≠ i2
  f1 : L ∉ fp1
  f2 : L ∉ fp2
  ol : ∀ b o, old.get? b = some o → b ≠ z ∧ b ≠ TO ∧ b ≠ i1 ∧ b ≠ i2 ∧ b ≠ L
section
variable {prog : Program} {w : World} {A : Around} {E : Value → Shared → Prop} {s : Shared} {z TI TO i1 i2 L : Addr} {fp1 fp2 : List Addr} {St1 St2 : Nat → Heap → Prop} {xs ys : Array Value} {old : Heap} {R : Result → Shared → Prop}
theorem zg_next {i : Nat} {acc : Array Value} {Ts : List Addr} {Q : Option Value → Shared → Prop} (Z : Zc old z TI TO i1 i2 L fp1 fp2) (D1 : Draws prog w A.in1 i1 fp1 xs.size (fun i v => xs[i]? = some v) St1) (D2 : Draws prog w A.in1 i2 fp2 ys.size (fun i v => ys[i]? = some v) St2)
    (G : Zg s.heap old z TI TO i1 i2 L St1 St2 xs ys i acc Ts) (l1 : i < xs.size) (l2 : i < ys.size)
    (h : ∀ T h' tk c, Zg (h'.update L (Obj.mapSeq (·.push (.ref T)))) old z TI TO i1 i2 L St1 St2 xs ys (i + 1) (acc.push (.ref T)) (Ts ++ [T]) → h'.get? L = some { cls := .type "list", dict := none, data := .seq acc c, slots := #[] } → Q (some (.ref T)) { s with heap := h', toks := tk }) :
    wpAny (model prog w) A (pyNext (.ref z)) Q E s := by
  have S := Z.sep
  have hL := Z.hL
  obtain ⟨c, lc⟩ := G.ls
  obtain ⟨o1, e1⟩ := D1.live _ _ G.s1
  obtain ⟨o2, e2⟩ := D2.live _ _ G.s2
  obtain ⟨oO, eO⟩ := G.tt
  have ez : ∃ o, s.heap.get? z = some o := by
    rcases G.st with ⟨q, _⟩ | ⟨_, _, _, q, _⟩
    · exact ⟨_, q⟩
    · exact ⟨_, q⟩
  obtain ⟨oz, ez⟩ := ez
  have lsz : ∀ {b : Addr} {o : Obj}, s.heap.get? b = some o → s.heap.objs.size ≠ b := fun e q => by rw [← q] at e; exact absurd (Heap.lt_size e) (Nat.lt_irrefl _)
  have fin : ∀ (h' : Heap) (tk : Nat) (x1 x2 : Value) (T2 : Addr) (f : Bool) (oT : Obj), xs[i]? = some x1 → ys[i]? = some x2 → IsZipHeld h' z TI TO T2 f → h'.get? T2 = some oT → (T2 ≠ L ∧ T2 ≠ z ∧ T2 ≠ i1 ∧ T2 ≠ i2) → (∃ o, h'.get? TO = some o) → St1 (i + 1) h' → St2 (i + 1) h' → IsTupOf2 h' s.heap.objs.size x1 x2 →
      (∀ c o, c ≠ z → c ≠ TO → c ≠ i1 → c ≠ i2 → s.heap.get? c = some o → h'.get? c = some o) → Q (some (.ref s.heap.objs.size)) { s with heap := h', toks := tk } := by
    intro h' tk x1 x2 T2 f oT p1 p2 hz hT2 nT2 hTO sa sb tup k
    have lk : h'.get? L = some { cls := .type "list", dict := none, data := .seq acc c, slots := #[] } := k _ _ hL.1 hL.2.2.1 hL.2.2.2.1 hL.2.2.2.2 lc
    have oth : ∀ b o, b ≠ L → h'.get? b = some o → (h'.update L (Obj.mapSeq (·.push (.ref s.heap.objs.size)))).get? b = some o := fun b o n e => (Heap.get?_update_other _ _ (Ne.symm n)).trans e
    obtain ⟨oT', eT'⟩ := hTO
    refine h _ h' tk c ⟨.inr ⟨T2, f, oT, oth _ _ hL.1.symm hz, oth _ _ nT2.1 hT2, nT2⟩, ⟨_, oth _ _ hL.2.2.1.symm eT'⟩, oth _ _ hL.2.1.symm (k _ _ S.TIz S.TITO S.TIi1 S.TIi2 G.ti), D1.frame _ _ _ sa fun b hb o e => oth b o (fun q => Z.f1 (q ▸ hb)) e, D2.frame _ _ _ sb fun b hb o e => oth b o (fun q => Z.f2 (q ▸ hb)) e,
      ⟨_, Heap.get?_update_self _ lk rfl⟩, ?_, by rw [List.length_append, G.ln]; rfl, fun j T' hj => ?_, fun b o e => ?_, ?_, ?_⟩ lk
    · rw [Array.toList_push, G.ac, List.map_append]
      rfl
    · rw [List.getElem?_append] at hj
      split at hj
      · obtain ⟨⟨a1, a2, a3, a4, a5⟩, x, y, hx, hy, ht⟩ := G.tu j T' hj
        exact ⟨⟨a1, a2, a3, a4, a5⟩, x, y, hx, hy, oth _ _ a5 (k _ _ a1 a2 a3 a4 ht)⟩
      · rename_i hlt
        rw [G.ln] at hj hlt
        have ej : j = i := by
          have := (List.getElem?_eq_some_iff.mp hj).1
          simp at this
          omega
        subst ej
        simp at hj
        subst hj
        exact ⟨⟨lsz ez, lsz eO, lsz e1, lsz e2, lsz lc⟩, x1, x2, p1, p2, oth _ _ (lsz lc) tup⟩
    · obtain ⟨a1, a2, a3, a4, a5⟩ := Z.ol b o e
      exact oth _ _ a5 (k _ _ a1 a2 a3 a4 (G.ol b o e))
    · refine List.nodup_append.mpr ⟨G.nd, by simp, fun a ha b hb e => ?_⟩
      rw [List.mem_singleton.mp hb] at e
      subst e
      obtain ⟨j, hj, ej⟩ := List.getElem_of_mem ha
      obtain ⟨_, x, y, _, _, ht⟩ := G.tu j _ (List.getElem?_eq_getElem hj)
      rw [ej] at ht
      exact lsz ht rfl
    · intro T hT
      rcases List.mem_append.mp hT with hT | hT
      · exact G.nw T hT
      · rw [List.mem_singleton.mp hT]
        cases q : old.get? s.heap.objs.size with
        | none => rfl
        | some o => exact absurd rfl (lsz (G.ol _ _ q))
  rcases G.st with ⟨hz, a, b, hTO⟩ | ⟨T, f, oT, hz, hT, n1, n2, n3, n4⟩
  · refine wpAny_pyNext_zipD2_item S D1 D2 hz G.ti hTO G.s1 G.s2 l1 l2 fun x1 x2 h' tk p1 p2 b1 b2 b3 b4 b5 b6 b7 => ?_
    exact fin h' tk x1 x2 _ false _ p1 p2 b1 b5 ⟨lsz lc, lsz ez, lsz e1, lsz e2⟩ ⟨_, b2⟩ b3 b4 b5 b7
  · have ty : s.TypeIs (.ref z) "zip" := ⟨_, hz, rfl⟩
    unfold pyNext
    refine wpAny_bind (wpAny_attempt (wpAny_callSpecial?_slot (name := Str.ofString "__next__") ty F.slot_zip_next
      (wpAny_call_entry F.slot_zip_next ty F.entry_zip_next (zip_held_next S D1 D2 hz hT G.ti G.s1 G.s2 l1 l2 fun x1 x2 h' tk p1 p2 b1 b3 b4 b5 b7 => wpAny_pure ?_) (F.args_zip_next_1 _))))
    have kO : h'.get? TO = some oO := b7 _ _ S.TOz S.Ti1 S.Ti2 eO
    exact fin h' tk x1 x2 T true oT p1 p2 b1 (b7 _ _ n2 n3 n4 hT) ⟨n1, n2, n3, n4⟩ ⟨_, kO⟩ b3 b4 b5 fun c o c1 _ c3 c4 e => b7 c o c1 c3 c4 e
theorem zg_stop {i : Nat} {acc : Array Value} {Ts : List Addr} {Q : Option Value → Shared → Prop} (hh : A.handled = none) (Z : Zc old z TI TO i1 i2 L fp1 fp2) (D1 : Draws prog w A.in1 i1 fp1 xs.size (fun i v => xs[i]? = some v) St1) (D2 : Draws prog w A.in1 i2 fp2 ys.size (fun i v => ys[i]? = some v) St2)
    (G : Zg s.heap old z TI TO i1 i2 L St1 St2 xs ys i acc Ts) (l1 : i ≤ xs.size) (l2 : i ≤ ys.size) (hend : i = xs.size ∨ i = ys.size)
    (h : ∀ h' tk, (∀ c o, c ≠ z → c ≠ TO → c ≠ i1 → c ≠ i2 → s.heap.get? c = some o → h'.get? c = some o) → Q none { s with heap := h', toks := tk }) :
    wpAny (model prog w) A (pyNext (.ref z)) Q E s := by
  rcases G.st with ⟨hz, a, b, hTO⟩ | ⟨T, f, oT, hz, hT, n1, n2, n3, n4⟩
  · exact wpAny_pyNext_zipD2_end Z.sep D1 D2 hz G.ti hTO G.s1 G.s2 l1 l2 hend h
  · have ty : s.TypeIs (.ref z) "zip" := ⟨_, hz, rfl⟩
    unfold pyNext
    refine wpAny_bind (wpAny_attempt (wpAny_callSpecial?_slot (name := Str.ofString "__next__") ty F.slot_zip_next
      (wpAny_call_entry F.slot_zip_next ty F.entry_zip_next (zip_held_stop Z.sep D1 D2 hz hT G.ti G.s1 G.s2 l1 l2 hend fun h' tk e hk he => ?_) (F.args_zip_next_1 _))))
    obtain ⟨o, ho, hc⟩ := he
    refine wpAny_bind (wpAny_isInstance (T := "StopIteration") (b := true) ⟨o, ho, hc⟩ isSubtype_stop ?_)
    exact wpAny_pure (h _ _ fun c o c1 _ c3 c4 e => hk c o c1 c3 c4 e)
/-- what the gathering leaves -/
def ZEnd (old : Heap) (L : Addr) (xs ys : Array Value) (h : Heap) : Prop := ∃ (acc : Array Value) (c : Nat) (Ts : List Addr), h.get? L = some { cls := .type "list", dict := none, data := .seq acc c, slots := #[] } ∧ acc.toList = Ts.map Value.ref ∧ Ts.length = min xs.size ys.size ∧ Ts.Nodup ∧ (∀ T ∈ Ts, old.get? T = none ∧ T ≠ L) ∧
  (∀ (j : Nat) (T : Addr), Ts[j]? = some T → ∃ x y, xs[j]? = some x ∧ ys[j]? = some y ∧ IsTupOf2 h T x y) ∧ ∀ b o, old.get? b = some o → h.get? b = some o
theorem zip_gather (hh : A.handled = none) (Z : Zc old z TI TO i1 i2 L fp1 fp2) (D1 : Draws prog w A.in1.in1 i1 fp1 xs.size (fun i v => xs[i]? = some v) St1) (D2 : Draws prog w A.in1.in1 i2 fp2 ys.size (fun i v => ys[i]? = some v) St2) (res : Value) (hsz : min xs.size ys.size ≤ sizeLine) :
    ∀ (k i : Nat) (s : Shared) (acc : Array Value) (Ts : List Addr), min xs.size ys.size - i = k → i ≤ min xs.size ys.size → Zg s.heap old z TI TO i1 i2 L St1 St2 xs ys i acc Ts →
      (∀ h' tk, ZEnd old L xs ys h' → R (.ok (.ret res)) { s with heap := h', toks := tk }) → codeAny (model prog w) A (.builtin "list.extend.loop" ⟨[.ref L, .ref z, res], []⟩) R s := by
  intro k
  induction k with
  | zero =>
    intro i s acc Ts hk hi G hR
    refine codeAny_builtin F.entry_extend_loop ?_
    rw [Around.under_plainId F.plain_extend_loop _]
    show wpAny _ A.in1 (pyNext (.ref z) >>= _) _ _ s
    refine wpAny_bind (zg_stop (A := A.in1) hh Z D1 D2 G (by omega) (by omega) (by omega) fun h' tk keep => wpAny_pure (hR h' tk ?_))
    obtain ⟨c, lc⟩ := G.ls
    have hL := Z.hL
    refine ⟨acc, c, Ts, keep _ _ hL.1 hL.2.2.1 hL.2.2.2.1 hL.2.2.2.2 lc, G.ac, by rw [G.ln]; omega, G.nd, fun T hT => ⟨G.nw T hT, ?_⟩, fun j T hj => ?_, fun b o e => ?_⟩
    · obtain ⟨j, hj, ej⟩ := List.getElem_of_mem hT
      obtain ⟨⟨_, _, _, _, a5⟩, _⟩ := G.tu j T (by rw [List.getElem?_eq_getElem hj, ej])
      exact a5
    · obtain ⟨⟨a1, a2, a3, a4, _⟩, x, y, hx, hy, t⟩ := G.tu j T hj
      exact ⟨x, y, hx, hy, keep _ _ a1 a2 a3 a4 t⟩
    · obtain ⟨a1, a2, a3, a4, _⟩ := Z.ol b o e
      exact keep _ _ a1 a2 a3 a4 (G.ol b o e)
  | succ k ih =>
    intro i s acc Ts hk hi G hR
    refine codeAny_builtin F.entry_extend_loop ?_
    rw [Around.under_plainId F.plain_extend_loop _]
    show wpAny _ A.in1 (pyNext (.ref z) >>= _) _ _ s
    refine wpAny_bind (zg_next (A := A.in1) Z D1 D2 G (by omega) (by omega) fun T h' tk c G' lk => ?_)
    show wpAny _ A.in1 (updateSeq L (·.push (.ref T)) >>= _) _ _ _
    have la : acc.size = i := by rw [← Array.length_toList, G.ac, List.length_map, G.ln]
    refine wpAny_bind (wpAny_updateSeq lk rfl (wpAny_pure ⟨plainId_quiet F.plain_extend_loop _, ih (i + 1) _ _ _ (by omega) (by omega) G' hR⟩) (by first | (show (acc.push (Value.ref T)).size ≤ sizeLine + 1; rw [Array.size_push, la]; omega) | (rw [la]; omega)))
theorem list_init_zip (hh : A.handled = none) (Z : Zc old z TI TO i1 i2 L fp1 fp2) (D1 : Draws prog w A.in1.in1 i1 fp1 xs.size (fun i v => xs[i]? = some v) St1) (D2 : Draws prog w A.in1.in1 i2 fp2 ys.size (fun i v => ys[i]? = some v) St2) (hsz : min xs.size ys.size ≤ sizeLine)
    (hL : s.heap.get? L = some { cls := .type "list", data := .seq #[] }) (hz : IsZip s.heap z TI TO .none) (hTO : ∃ a b, IsTupOf2 s.heap TO a b) (hTI : IsTupOf2 s.heap TI (.ref i1) (.ref i2)) (st1 : St1 0 s.heap) (st2 : St2 0 s.heap) (ho : ∀ b o, old.get? b = some o → s.heap.get? b = some o)
    (hR : ∀ h' tk, ZEnd old L xs ys h' → R (.ok (.ret .none)) { s with heap := h', toks := tk }) :
    wpAny (model prog w) A.in1 (Builtin.«list.__init__» ⟨[.ref L, .ref z], []⟩) (fun fin s' => match fin with | .done f => R (.ok f) s' | .again c' => c'.quiet = true ∧ codeAny (model prog w) A c' R s') (fun e s' => R (.error e) s') s := by
  have nLz := Z.hL
  show wpAny _ A.in1 (do let old ← Builtin.List.listItems (.ref L); Builtin.List.listUpdate (.ref L) (fun _ => #[]); letGo old.toList.reverse; Builtin.List.listExtendWith (.ref L) (.ref z) .none) _ _ s
  refine wpAny_bind ?_
  unfold Builtin.List.listItems
  refine wpAny_bind (wpAny_seqItems hL rfl (wpAny_pure ?_))
  show wpAny _ A.in1 (updateSeq L (fun _ => #[]) >>= fun _ => letGo (#[] : Array Value).toList.reverse >>= fun _ => Builtin.List.listExtendWith (.ref L) (.ref z) .none) _ _ s
  refine wpAny_bind (wpAny_updateSeq hL rfl (wpAny_bind (wpAny_letGo ?_)))
  have g1 := Heap.get?_update_self (Obj.mapSeq (fun _ => (#[] : Array Value))) hL rfl
  have k1 : ∀ b o, b ≠ L → s.heap.get? b = some o → (s.heap.update L (Obj.mapSeq (fun _ => (#[] : Array Value)))).get? b = some o := fun b o hb e => (Heap.get?_update_other _ _ (Ne.symm hb)).trans e
  generalize (s.heap.update L (Obj.mapSeq (fun _ => (#[] : Array Value)))) = h1 at g1 k1 ⊢
  have z1 : IsZip h1 z TI TO .none := k1 _ _ nLz.1.symm hz
  have ty : ∀ (h : Heap), IsZip h z TI TO .none → ({ s with heap := h } : Shared).TypeIs (.ref z) "zip" := fun h q => ⟨_, q, rfl⟩
  unfold Builtin.List.listExtendWith
  refine wpAny_bind (wpAny_typeOf (ty _ z1) ?_)
  have q1 : Builtin.List.listSameRef (.ref L) (.ref z) = false := by simp [Builtin.List.listSameRef, nLz.1]
  have q2 : (Value.type "zip" == Value.type "list") = false := by decide
  have q3 : (Value.type "zip" == Value.type "tuple") = false := by decide
  simp only [q1, q2, q3, Bool.or_false, Bool.false_eq_true, if_false]
  refine wpAny_bind (wpAny_pyIter_zip (s := { s with heap := h1 }) z1 ?_)
  refine wpAny_bind (wpAny_holding ?_)
  unfold Builtin.List.listLengthHint
  refine wpAny_bind (wpAny_specialOf (ty _ z1) zip_no_len ?_)
  show wpAny _ A.in1 (specialOf (Value.ref z) (Str.ofString "__length_hint__") >>= _) _ _ _
  refine wpAny_bind (wpAny_specialOf (ty _ z1) zip_no_hint (wpAny_pure ?_))
  show wpAny _ A.in1 (rule "list.extend.makes-room" >>= fun _ => Builtin.List.listTouch (.ref L) >>= fun _ => again (.builtin "list.extend.loop" ⟨[.ref L, .ref z, .none], []⟩)) _ _ _
  refine wpAny_bind (wpAny_rule (wpAny_bind ?_))
  show wpAny _ A.in1 (updateSeq L (·.push .none) >>= fun _ => updateSeq L (·.pop)) _ _ _
  refine wpAny_bind (wpAny_updateSeq g1 rfl ?_)
  have g2 := Heap.get?_update_self (Obj.mapSeq (·.push Value.none)) g1 rfl
  refine wpAny_updateSeq (hz := by seq_fits) g2 rfl ?_
  have g3 := Heap.get?_update_self (Obj.mapSeq (·.pop)) g2 rfl
  have oth : ∀ b o, b ≠ L → s.heap.get? b = some o → ((h1.update L (Obj.mapSeq (·.push Value.none))).update L (Obj.mapSeq (·.pop))).get? b = some o :=
    fun b o hb e => (Heap.get?_update_other _ _ (Ne.symm hb)).trans ((Heap.get?_update_other _ _ (Ne.symm hb)).trans (k1 b o hb e))
  obtain ⟨a, b, hTO⟩ := hTO
  refine wpAny_pure ⟨plainId_quiet F.plain_extend_loop _, zip_gather hh Z D1 D2 .none hsz _ 0 _ #[] [] rfl (Nat.zero_le _) ⟨.inl ⟨oth _ _ nLz.1.symm hz, a, b, oth _ _ nLz.2.2.1.symm hTO⟩, ⟨_, oth _ _ nLz.2.2.1.symm hTO⟩, oth _ _ nLz.2.1.symm hTI,
    D1.frame _ _ _ st1 fun b hb o e => oth b o (fun q => Z.f1 (q ▸ hb)) e, D2.frame _ _ _ st2 fun b hb o e => oth b o (fun q => Z.f2 (q ▸ hb)) e, ⟨_, g3⟩, rfl, rfl, fun j T hj => by simp at hj, fun b o e => oth b o (Z.ol b o e).2.2.2.2 (ho b o e), List.nodup_nil, fun T hT => by simp at hT⟩ hR⟩
theorem call_list_zip {old : Heap} {Q : Value → Shared → Prop} (hh : A.handled = none) (S : ZipSep2 z TI TO i1 i2 fp1 fp2) (D1 : ∀ A' : Around, A'.handled = none → Draws prog w A' i1 fp1 xs.size (fun i v => xs[i]? = some v) St1) (D2 : ∀ A' : Around, A'.handled = none → Draws prog w A' i2 fp2 ys.size (fun i v => ys[i]? = some v) St2) (hsz : min xs.size ys.size ≤ sizeLine)
    (b1 : ∀ b ∈ fp1, b < s.heap.objs.size) (b2 : ∀ b ∈ fp2, b < s.heap.objs.size) (hz : IsZip s.heap z TI TO .none) (hTO : ∃ a b, IsTupOf2 s.heap TO a b) (hTI : IsTupOf2 s.heap TI (.ref i1) (.ref i2)) (st1 : St1 0 s.heap) (st2 : St2 0 s.heap)
    (ho : ∀ b o, old.get? b = some o → s.heap.get? b = some o ∧ b ≠ z ∧ b ≠ TO ∧ b ≠ i1 ∧ b ≠ i2)
    (hQ : ∀ h' tk, ZEnd old s.heap.objs.size xs ys h' → Q (.ref s.heap.objs.size) { s with heap := h', toks := tk }) :
    wpAny (model prog w) A (call (.type "list") [.ref z]) Q E s := by
  have ge : ∀ {b : Addr} {o : Obj}, s.heap.get? b = some o → s.heap.objs.size ≠ b := fun e q => by rw [← q] at e; exact absurd (Heap.lt_size e) (Nat.lt_irrefl _)
  have Z : Zc old z TI TO i1 i2 s.heap.objs.size fp1 fp2 := by
    obtain ⟨a, b, hTO⟩ := hTO
    obtain ⟨o1, e1⟩ := (D1 A hh).live _ _ st1
    obtain ⟨o2, e2⟩ := (D2 A hh).live _ _ st2
    exact ⟨S, ⟨ge hz, ge hTI, ge hTO, ge e1, ge e2⟩, fun m => Nat.lt_irrefl _ (b1 _ m), fun m => Nat.lt_irrefl _ (b2 _ m), fun b o e => let ⟨h0, h1, h2, h3, h4⟩ := ho b o e; ⟨h1, h2, h3, h4, fun q => ge h0 q.symm⟩⟩
  refine callType_codes (Q₁ := fun obj s₁ => obj = .ref s.heap.objs.size ∧ s₁ = { s with heap := s.heap.push { cls := .type "list", data := .seq #[] } }) F.called_list (F.typeCall_list_1 _) F.entry_list_init (code_list_new _ ⟨rfl, rfl⟩) fun obj s₁ h₁ => ?_
  obtain ⟨rfl, rfl⟩ := h₁
  have hS : (s.heap.push { cls := .type "list", data := .seq #[] }).get? s.heap.objs.size = some { cls := .type "list", data := .seq #[] } := Heap.get?_push_size _ rfl
  have up : ∀ b o, s.heap.get? b = some o → (s.heap.push { cls := .type "list", data := .seq #[] }).get? b = some o := fun b o e => Heap.get?_push_of_some _ e
  obtain ⟨a, b, hTO⟩ := hTO
  have dn : ∀ A' : Around, A'.handled = none → A'.in1.handled = none := fun A' h => h
  exact ⟨⟨_, hS, rfl⟩, F.args_list_init_2 _ _, list_init_zip (s := { s with heap := s.heap.push { cls := .type "list", data := .seq #[] } }) (by first | exact hh | simp [hh]) Z (D1 _ (by first | exact hh | simp [hh])) (D2 _ (by first | exact hh | simp [hh])) hsz hS (up _ _ hz) ⟨a, b, up _ _ hTO⟩ (up _ _ hTI)
    ((D1 A hh).frame _ _ _ st1 fun b _ o e => up b o e) ((D2 A hh).frame _ _ _ st2 fun b _ o e => up b o e) (fun b o e => up b o (ho b o e).1) fun h' tk z => ⟨rfl, hQ h' tk z⟩⟩
end

/-! ### the rule -/
/-- v is a list or tuple of these -/
def IsSeq (h : Heap) (l : Addr) (xs : Array Value) : Prop := h.IsList l xs ∨ h.IsTuple l xs
theorem seq_src {prog : Program} {w : World} {h : Heap} {l : Addr} {xs : Array Value} (q : IsSeq h l xs) : ∃ (o : Obj) (H : Heap → Prop) (St : Addr → Nat → Heap → Prop), Begins (.ref l) o H ∧ H h ∧ (∀ it, it ≠ l → ∀ A' : Around, A'.handled = none → Draws prog w A' it [it, l] xs.size (fun i v => xs[i]? = some v) (St it)) ∧
    ∀ it h', h'.get? it = some o → (∀ b o', h.get? b = some o' → h'.get? b = some o') → St it 0 h' := by
  rcases q with q | q
  · exact ⟨_, _, _, begins_list l xs, q, fun it n A' hh => Draws.list hh it l (Ne.symm n) xs, fun it h' e k => ⟨⟨_, e, rfl, rfl⟩, q.at fun o e => k l o e⟩⟩
  · exact ⟨_, _, _, begins_tuple l xs, q, fun it n A' hh => Draws.tuple hh it l (Ne.symm n) xs, fun it h' e k => ⟨⟨_, e, rfl, rfl⟩, q.at fun o e => k l o e⟩⟩
theorem call_list_of_zip {prog : Program} {w : World} {A : Around} {E : Value → Shared → Prop} {s : Shared} {la lb : Addr} {xs ys : Array Value} {Q : Value → Shared → Prop} (hh : A.handled = none) (h1 : IsSeq s.heap la xs) (h2 : IsSeq s.heap lb ys) (hsz : min xs.size ys.size ≤ sizeLine)
    (hQ : ∀ h' tk L, s.heap.get? L = none → ZEnd s.heap L xs ys h' → Q (.ref L) { s with heap := h', toks := tk }) :
    wpAny (model prog w) A (call (.type "zip") [.ref la, .ref lb]) (fun z s₁ => wpAny (model prog w) A (call (.type "list") [z]) Q E s₁) E s := by
  obtain ⟨o1, H1, St1, B1, g1, D1, t1⟩ := seq_src (prog := prog) (w := w) h1
  obtain ⟨o2, H2, St2, B2, g2, D2, t2⟩ := seq_src (prog := prog) (w := w) h2
  have la0 : la < s.heap.objs.size := by
    rcases h1 with ⟨o, e, _⟩ | ⟨o, e, _⟩
    · exact Heap.lt_size e
    · exact Heap.lt_size e
  have lb0 : lb < s.heap.objs.size := by
    rcases h2 with ⟨o, e, _⟩ | ⟨o, e, _⟩
    · exact Heap.lt_size e
    · exact Heap.lt_size e
  refine zip_begins2 B1 B2 g1 g2 fun h' hz hTI hTO e1 e2 hsz' k => ?_
  have nn : ∀ (a N j : Nat), a < N → N + j ≠ a := fun a N j h e => by omega
  have S : ZipSep2 (s.heap.objs.size + 4) (s.heap.objs.size + 2) (s.heap.objs.size + 3) s.heap.objs.size (s.heap.objs.size + 1) [s.heap.objs.size, la] [s.heap.objs.size + 1, lb] :=
    zip_sep2 (fun b hb => by rw [List.mem_singleton.mp hb]; exact la0) (fun b hb => by rw [List.mem_singleton.mp hb]; exact lb0)
  refine call_list_zip (s := { s with heap := h' }) (old := s.heap) hh S (fun A' ha => D1 _ (nn la _ 0 la0) A' ha) (fun A' ha => D2 _ (nn lb _ 1 lb0) A' ha) hsz ?_ ?_ hz ⟨_, _, hTO⟩ hTI (t1 _ _ e1 k) (t2 _ _ e2 k) (fun b o e => ?_) fun h2 tk ze => hQ h2 tk _ ?_ ze
  · intro b hb
    show b < h'.objs.size
    rw [hsz']
    simp only [List.mem_cons, List.not_mem_nil, or_false] at hb
    rcases hb with q | q
    · rw [q]; exact (by omega : ∀ N : Nat, N < N + 5) _
    · rw [q]; exact (by omega : ∀ a N : Nat, a < N → a < N + 5) _ _ la0
  · intro b hb
    show b < h'.objs.size
    rw [hsz']
    simp only [List.mem_cons, List.not_mem_nil, or_false] at hb
    rcases hb with q | q
    · rw [q]; exact (by omega : ∀ N : Nat, N + 1 < N + 5) _
    · rw [q]; exact (by omega : ∀ a N : Nat, a < N → a < N + 5) _ _ lb0
  · have q := Heap.lt_size e
    exact ⟨k b o e, (nn b _ 4 q).symm, (nn b _ 3 q).symm, (nn b _ 0 q).symm, (nn b _ 1 q).symm⟩
  · show s.heap.get? h'.objs.size = none
    rw [hsz']
    cases q : s.heap.get? (s.heap.objs.size + 5) with
    | none => rfl
    | some o => exact absurd (Heap.lt_size q) ((by omega : ∀ N : Nat, ¬ N + 5 < N) _)
/-- what is new in an abstract heap -/
theorem Inv.news {X : Cx} {pins : List (Addr × Obj)} {σ : L2.St} {H H' : Hp} {s : Shared} {h' : Heap} {t' : Nat} (I : L2.Inv X pins σ H s) (k : ∀ b u, s.heap.get? b = some u → h'.get? b = some u) (e : ∀ b o, H b = some o → H' b = some o)
    (n : ∀ b o, s.heap.get? b = some o → H b = none → H' b = none) (new : ∀ b o, H b = none → H' b = some o → ObjOk X.prog X.w H' h' b o) : L2.Inv X pins σ H' { s with heap := h', toks := t' } := by
  refine I.un ⟨fun b u q _ _ _ => k b u q, fun b u q _ _ _ => ⟨u.slots, k b u q⟩, fun b u q z _ => n b u q z, fun b u q _ => ⟨u, k b u q⟩, fun b xs q => e _ _ q, fun b u xs q => e _ _ q, fun b ps q => ⟨#[], by rw [e _ _ q]; simp⟩⟩ fun b o q => ?_
  cases h : H b with
  | none => exact new b o h q
  | some o' =>
    obtain rfl : o' = o := by have := e _ _ h; rw [q] at this; exact (Option.some.inj this).symm
    exact (I.hok b _ h).stay (fun c v _ z => k c v z) (fun c z => e _ _ z) fun c xs z => e _ _ z
theorem ob_live {P : Program} {w : World} {H : Hp} {h : Heap} {a : Addr} {o : HO} (x : ObjOk P w H h a o) : ∃ u, h.get? a = some u := by
  cases o with
  | lst xs => obtain ⟨_, _, _, _, e⟩ := x; exact ⟨_, e⟩
  | tup xs => obtain ⟨_, _, _, _, e, _⟩ := x; exact ⟨_, e⟩
  | dK kvs => obtain ⟨_, _, _, _, _, _, _, e, _⟩ := x; exact ⟨_, e⟩
  | dT kvs => obtain ⟨_, _, _, _, _, _, _, e, _⟩ := x; exact ⟨_, e⟩
  | set S n => obtain ⟨_, _, _, _, e, _⟩ := x; exact ⟨_, e⟩
  | ins C dx fs => obtain ⟨_, _, _, e, _⟩ := x; exact ⟨_, e⟩
  | own y => obtain ⟨_, e⟩ := x; exact ⟨_, e⟩
  | xd fs => obtain ⟨_, ⟨_, _, _, e, _⟩, _⟩ := x; exact ⟨_, e⟩
  | rng lo hi => obtain ⟨_, _, _, e⟩ := x; exact ⟨_, e⟩
  | frz ob u => obtain ⟨e, _⟩ := x; exact ⟨_, e⟩
  | tbl ps => exact ⟨_, (show h.get? a = some _ from x)⟩
  | met f y => exact ⟨_, (show h.get? a = some _ from x)⟩
  | ext φ => obtain ⟨_, e, _⟩ := x; exact e
theorem vals_refs : ∀ Ts : List Addr, Vals (Ts.map V.ref) (Ts.map Value.ref)
  | [] => .nil
  | _ :: Ts => .cons rfl (vals_refs Ts)
/-- the new pairs, the new list -/
def zipH (H : Hp) (L : Addr) (Ts : List Addr) (xs ys : List V) : Hp := fun b => if b = L then some (.lst (Ts.map V.ref)) else if b ∈ Ts then (match xs[Ts.idxOf b]?, ys[Ts.idxOf b]? with
  | some x, some y => some (.tup [x, y])
  | _, _ => none) else H b
def rLZ (K : PySem.W.Frag) : List V → Hp → VK → Prop := fun vs H Q => ∃ (a b : Addr) (xs ys : List V), vs = [.ref a, .ref b] ∧ (SqL K H a xs ∨ SqT K H a xs) ∧ (SqL K H b ys ∨ SqT K H b ys) ∧
  ∀ (H' : Hp) (L : Addr) (Ts : List Addr), H L = none → (∀ b o, H b = some o → H' b = some o) → H' L = some (.lst (Ts.map V.ref)) → Ts.length = min xs.length ys.length → (∀ T ∈ Ts, H T = none ∧ T ≠ L) → (∀ (j : Nat) (T : Addr), Ts[j]? = some T → ∃ x y, xs[j]? = some x ∧ ys[j]? = some y ∧ H' T = some (.tup [x, y])) → Q (.ref L) H'
section
variable {X : Cx} {e1 e2 : Expr} {t : TA} {p p2 pos q : Pos}
theorem seq_isq {pins : List (Addr × Obj)} {σ : L2.St} {H : Hp} {s : Shared} {a : Addr} {xs : List V} (I : L2.Inv X pins σ H s) (h : SqL X.K H a xs ∨ SqT X.K H a xs) : ∃ its : List Value, Vals xs its ∧ IsSeq s.heap a its.toArray ∧ xs.length ≤ sizeLine := by
  rcases h with h | h
  · obtain ⟨its, rv, pl, hz⟩ := I.list h
    exact ⟨its, rv, .inl pl.isList, hz⟩
  · obtain ⟨its, rv, pl, hz⟩ := I.tuple h
    exact ⟨its, rv, .inr pl, hz⟩
theorem pe_lz (hc : X.calm = true) (hm1 : X.mg "list" = none) (hm2 : X.mg "zip" = none) (ha : PA X [e1, e2] t) (hg1 : Gl X "list" := by rfl) (hg2 : Gl X "zip" := by rfl)
    (hs : starEach [e1, e2] X.env = (false, eval e1 X.env) :: starEach [e2] X.env := by rfl) (hpl : (backTo q (starEach [e2] X.env)).any (·.1) = false := by rfl)
    (hs2 : starEach [.Call (.Name "zip" p2) [e1, e2] [] q] X.env = (false, eval (.Call (.Name "zip" p2) [e1, e2] [] q) X.env) :: starEach [] X.env := by rfl) :
    PE X (.Call (.Name "list" p) [.Call (.Name "zip" p2) [e1, e2] [] q] [] pos) (fun σ H Q => t σ H fun vs H1 => rLZ X.K vs H1 Q) := by
  refine ⟨fun pins s σ H Q I h => ?_⟩
  refine Call_ (ld_blt I hg1 hm1 (by rfl) ?_)
  refine PyProof.Rows.callWith_type1 (PyProof.Rows.args_cons ?_ hs2) hs2 rfl
  refine Call_ (ld_blt I hg2 hm2 PyProof.Rows.boot_zip ?_)
  refine PyProof.Rows.callWith_type1 (thn (ha.run q pins s σ H _ I h) fun us s1 ⟨vs, H1, I1, r1, q1⟩ => ?_) hs hpl
  obtain ⟨a, b, xs, ys, rfl, hx, hy, q1⟩ := q1
  obtain ⟨u1, u2, rfl, ra, rb⟩ := vals2 r1
  cases ra
  cases rb
  obtain ⟨its, rv, i1, z1⟩ := seq_isq I1 hx
  obtain ⟨jts, rw', i2, z2⟩ := seq_isq I1 hy
  have l1 := rv.length
  have l2 := rw'.length
  have old0 : ∀ b, s1.heap.get? b = none → H1 b = none := fun b e => by
    cases z : H1 b with
    | none => rfl
    | some o =>
      obtain ⟨u, hu⟩ := ob_live (I1.hok b o z)
      rw [e] at hu
      cases hu
  refine thn (call_list_of_zip (I1.ok.hd hc) i1 i2 (by simp only [List.size_toArray]; omega) fun h' tk L hL ze => ?_) fun z s2 hq => PyProof.Rows.args_nil hq
  obtain ⟨acc, c, Ts, hls, hac, hln, hnd, hnw, htu, hol⟩ := ze
  have ln : Ts.length = min xs.length ys.length := by rw [hln, List.size_toArray, List.size_toArray, l1, l2]
  have nT : ∀ T ∈ Ts, H1 T = none ∧ T ≠ L := fun T hT => ⟨old0 T (hnw T hT).1, (hnw T hT).2⟩
  have at_ : ∀ (j : Nat) (T : Addr), Ts[j]? = some T → ∃ x y, xs[j]? = some x ∧ ys[j]? = some y ∧ zipH H1 L Ts xs ys T = some (.tup [x, y]) := fun j T hj => by
    obtain ⟨hlt, ej⟩ := List.getElem?_eq_some_iff.mp hj
    have m : T ∈ Ts := by rw [← ej]; exact List.getElem_mem hlt
    have ix : Ts.idxOf T = j := by rw [← ej]; exact hnd.idxOf_getElem j hlt
    have hx : xs[j]? = some xs[j] := List.getElem?_eq_getElem (by omega)
    have hy : ys[j]? = some ys[j] := List.getElem?_eq_getElem (by omega)
    refine ⟨_, _, hx, hy, ?_⟩
    unfold zipH
    rw [if_neg (nT T m).2, if_pos m, ix, hx, hy]
  have hL1 : H1 L = none := old0 L hL
  have ext : ∀ b o, H1 b = some o → zipH H1 L Ts xs ys b = some o := fun b o e => by
    unfold zipH
    rw [if_neg (fun z => by rw [z, hL1] at e; cases e), if_neg (fun z => by rw [(nT b z).1] at e; cases e)]
    exact e
  have gL : zipH H1 L Ts xs ys L = some (.lst (Ts.map V.ref)) := by unfold zipH; rw [if_pos rfl]
  refine ⟨.ref L, zipH H1 L Ts xs ys, Inv.news (t' := tk) I1 hol ext (fun b o e n => ?_) (fun b o n e => ?_), rfl, q1 _ L Ts hL1 ext gL ln nT at_⟩
  · unfold zipH
    rw [if_neg (fun z => by rw [z, hL] at e; cases e), if_neg (fun z => by rw [(hnw b z).1] at e; cases e)]
    exact n
  · by_cases hb : b = L
    · subst hb
      rw [gL] at e
      cases e
      refine ⟨by rw [List.length_map, ln]; omega, acc.toList, c, ?_, by simpa using hls⟩
      rw [hac]
      exact vals_refs Ts
    · by_cases hm : b ∈ Ts
      · obtain ⟨j, hj, ej⟩ := List.getElem_of_mem hm
        have hj' : Ts[j]? = some b := by rw [List.getElem?_eq_getElem hj, ej]
        obtain ⟨x, y, hx, hy, e'⟩ := at_ j b hj'
        rw [e'] at e
        cases e
        obtain ⟨u, v, hu, hv, ht⟩ := htu j b hj'
        obtain ⟨u', hu', ru⟩ := rv.get hx
        obtain ⟨v', hv', rw2⟩ := rw'.get hy
        have eu : u = u' := by have : its[j]? = some u := by simpa using hu
                               rw [hu'] at this; exact (Option.some.inj this).symm
        have ev : v = v' := by have : jts[j]? = some v := by simpa using hv
                               rw [hv'] at this; exact (Option.some.inj this).symm
        subst eu ev
        exact ⟨by show 2 ≤ sizeLine; decide, [u, v], .cons ru (.cons rw2 .nil), ⟨_, ht, rfl, _, rfl⟩⟩
      · unfold zipH at e
        rw [if_neg hb, if_neg hm, n] at e
        cases e
variable {C : Cn} {W : WX}
def seqD : D → Option (List D)
  | .lst ds => some ds
  | .tup ds => some ds
  | _ => none
theorem seqD_rp {K : PySem.W.Frag} {fa : Str → Option Addr} {M : Addr → Prop} {H : Hp} {v : V} {d : D} {ds : List D} (h : seqD d = some ds) (r : Rp K fa (mask M H) v d) : ∃ a xs, v = .ref a ∧ (SqL K H a xs ∨ SqT K H a xs) ∧ RpL K fa (mask M H) xs ds := by
  cases d with
  | lst es => cases h; obtain ⟨a, xs, rfl, ha, rr⟩ := rp_lst r; exact ⟨a, xs, rfl, .inl (.inl (.inl (mask_some.mp ha).2)), rr⟩
  | tup es => cases h; obtain ⟨a, xs, rfl, ha, rr⟩ := rp_tup r; exact ⟨a, xs, rfl, .inr (.inl (.inl (mask_some.mp ha).2)), rr⟩
  | _ => cases h
def zipD : List D → R
  | [a, b] => (match seqD a, seqD b with
    | some xs, some ys => .ok (.lst ((xs.zip ys).map fun p => .tup [p.1, p.2]))
    | _, _ => .bad)
  | _ => .bad
def eLZ (fs : Gm → Rg (List D)) : Gm → R := fun Γ => (fs Γ).bind zipD
theorem rp_pairs {K : PySem.W.Frag} {fa : Str → Option Addr} {HM : Hp} : ∀ {Ts : List Addr} {xs ys : List V} {ds es : List D}, Ts.length = min xs.length ys.length → RpL K fa HM xs ds → RpL K fa HM ys es → (∀ (j : Nat) (T : Addr), Ts[j]? = some T → ∃ x y, xs[j]? = some x ∧ ys[j]? = some y ∧ HM T = some (.tup [x, y])) →
    RpL K fa HM (Ts.map V.ref) ((ds.zip es).map fun p => .tup [p.1, p.2])
  | [], xs, ys, ds, es, hl, r1, r2, h => by
    have e : (ds.zip es) = [] := by
      apply List.eq_nil_of_length_eq_zero
      rw [List.length_zip, ← r1.length, ← r2.length, ← hl]
      rfl
    rw [e]
    exact .nil
  | T :: Ts, xs, ys, ds, es, hl, r1, r2, h => by
    cases r1 with
    | nil => simp at hl
    | cons p1 q1 =>
      cases r2 with
      | nil => simp at hl
      | cons p2 q2 =>
        obtain ⟨x, y, hx, hy, ht⟩ := h 0 T rfl
        simp at hx hy
        subst hx hy
        rw [List.zip_cons_cons, List.map_cons, List.map_cons]
        refine .cons (.tup ht (.cons p1 (.cons p2 .nil))) (rp_pairs (by simp only [List.length_cons] at hl; omega) q1 q2 fun j T' hj => ?_)
        obtain ⟨x', y', hx', hy', ht'⟩ := h (j + 1) T' (by simpa using hj)
        exact ⟨x', y', by simpa using hx', by simpa using hy', ht'⟩
theorem df_lz {fs : Gm → Rg (List D)} (hc : X.calm = true) (hm1 : X.mg "list" = none) (hm2 : X.mg "zip" = none) (ha : DA X C W [e1, e2] fs) (hg1 : Gl X "list" := by rfl) (hg2 : Gl X "zip" := by rfl)
    (hs : starEach [e1, e2] X.env = (false, eval e1 X.env) :: starEach [e2] X.env := by rfl) (hpl : (backTo q (starEach [e2] X.env)).any (·.1) = false := by rfl)
    (hs2 : starEach [.Call (.Name "zip" p2) [e1, e2] [] q] X.env = (false, eval (.Call (.Name "zip" p2) [e1, e2] [] q) X.env) :: starEach [] X.env := by rfl) :
    DF X C W (.Call (.Name "list" p) [.Call (.Name "zip" p2) [e1, e2] [] q] [] pos) (eLZ fs) := PE.to (pe_lz hc hm1 hm2 ha hg1 hg2 hs hpl hs2) fun σ H Q ⟨Γ, P0, H0, E, g⟩ => by
  refine ⟨Γ, P0, H0, E, Got.bind repF_mono g fun ds vs H1 _ x1 t1 r1 g1 => ?_⟩
  unfold zipD at g1
  split at g1
  · rename_i a b
    split at g1
    · rename_i ds es h1 h2
      obtain ⟨u, vs', rfl, p1, r'⟩ := rpL_cons r1
      obtain ⟨v, vs2, rfl, p2, r3⟩ := rpL_cons r'
      obtain rfl := rpL_nil r3
      obtain ⟨a, xs, rfl, hx, rx⟩ := seqD_rp h1 p1
      obtain ⟨b, ys, rfl, hy, ry⟩ := seqD_rp h2 p2
      refine ⟨a, b, xs, ys, rfl, hx, hy, fun H' L Ts hL ext gL ln nT at_ => ?_⟩
      have x2 : ExtN H1 H' := fun b o e _ => ext b o e
      have t2 : Tabs C.T H' := fun p hp => let ⟨ps, e, tr, k⟩ := t1 p hp; ⟨ps, ext _ _ e, tr, fun pos cv hcv => let ⟨c, q, z⟩ := k pos cv hcv; ⟨c, q, ext _ _ z⟩⟩
      have mm : MutM (Msk P0 Γ σ) H1 := E.e.mut.ext x1
      refine g1 _ H' x2 t2 ⟨L, rfl, not_solid hL, _, gL, rp_pairs ln ?_ ?_ fun j T hj => ?_⟩
      · exact RpL.ext (mask_ext x2 fun c m s => m.elim id fun z => absurd (z ▸ s) (not_solid hL)) _ _ rx
      · exact RpL.ext (mask_ext x2 fun c m s => m.elim id fun z => absurd (z ▸ s) (not_solid hL)) _ _ ry
      · obtain ⟨x, y, hx', hy', ht⟩ := at_ j T hj
        have mT := List.mem_of_getElem? hj
        exact ⟨x, y, hx', hy', mask_some.mpr ⟨fun m => m.elim (fun m => not_solid (nT T mT).1 (mm.solid T m)) (nT T mT).2, ht⟩⟩
    · exact g1.elim
  · exact g1.elim
end
end DL

set_option Elab.async false
set_option linter.all false
set_option maxRecDepth 100000
set_option maxHeartbeats 4000000
namespace DL
open PySem PySem.Spec PyProof.Rows L2 LamX

/-! ### words for the printed proofs -/
theorem r65 {k : Nat} {A : Around} (r : Room k A) : A.units + 65 < cLine := by have := r.un; omega
theorem r1 {k : Nat} {A : Around} (r : Room k A) : A.units + 1 < cLine := by have := r.un; omega
section
variable {X : Cx} {C : Cn} {W : WX} {a b c e : Expr} {fa fb fc f : Gm → R} {fs : Gm → Rg (List D)} {es : List Expr} {p p2 q pos : Pos} {k : Nat}
theorem o_add (ha : DE X C W a fa) (hb : DE X C W b fb) : DF X C W (.BinOp a .Add b pos) (e2 addD fa fb) := df_op (op_add.or (op_cat.or (op_catA.or op_add_str))) vop_add ha hb
theorem o_sub (ha : DE X C W a fa) (hb : DE X C W b fb) : DE X C W (.BinOp a .Sub b pos) (e2 subD fa fb) := de_op op_sub vop_sub ha hb
theorem o_mul (ha : DE X C W a fa) (hb : DE X C W b fb) : DF X C W (.BinOp a .Mult b pos) (e2 mulD fa fb) := df_op (op_mulAny.or (op_rep.or (op_repT.or op_rep1))) vop_mul ha hb
theorem o_fdiv (ha : DE X C W a fa) (hb : DE X C W b fb) : DE X C W (.BinOp a .FloorDiv b pos) (e2 fdivD fa fb) := de_op op_fdivW vop_fdiv ha hb
theorem o_mod (ha : DE X C W a fa) (hb : DE X C W b fb) : DE X C W (.BinOp a .Mod b pos) (e2 modD fa fb) := de_op op_mod vop_mod ha hb
theorem o_pow (ha : DE X C W a fa) (hb : DE X C W b fb) : DE X C W (.BinOp a .Pow b pos) (e2 powD fa fb) := de_op op_pow vop_pow ha hb
/-- a comparison by its sign -/
structure Cmp (X : Cx) (C : Cn) (op : CmpOp) (g : D → D → R) : Prop where
  ex : ∃ r, OpR X (compareOp op) r ∧ VOp X.K C r g
theorem q_eq (hr : Room k X.A) : Cmp X C .Eq eqD := ⟨_, op_eqD hr.units, vop_eq⟩
theorem q_ne (hr : Room k X.A) : Cmp X C .NotEq neD := ⟨_, op_neD hr.units, vop_ne⟩
theorem q_in (hr : Room k X.A) : Cmp X C .In inD := ⟨_, (op_inD (r65 hr)).or (op_inT (r65 hr)), vop_in⟩
theorem q_nin (hr : Room k X.A) : Cmp X C .NotIn ninD := ⟨_, (op_notInD (r65 hr)).or (op_notInT (r65 hr)), vop_nin⟩
theorem q_lt (hr : Room k X.A) : Cmp X C .Lt ltD := ⟨_, op_lt.or (op_ltT hr.units0), vop_lt⟩
theorem q_le (hr : Room k X.A) : Cmp X C .LtE leD := ⟨_, op_le.or (op_leT hr.units0), vop_le⟩
theorem q_gt : Cmp X C .Gt gtD := ⟨_, op_gt, vop_gt⟩
theorem q_ge : Cmp X C .GtE geD := ⟨_, op_ge, vop_ge⟩
theorem q_is : Cmp X C .Is isD := ⟨_, op_isN.or op_isBl, vop_is⟩
theorem q_isnt : Cmp X C .IsNot isntD := ⟨_, op_notN.or op_notBl, vop_isnt⟩
theorem c_e {op : CmpOp} {g : D → D → R} (Q : Cmp X C op g) (ha : DE X C W a fa) (hb : DE X C W b fb) (hm : behindInMarks op b = false := by rfl) : DE X C W (.Compare a [op] [b] pos) (e2 g fa fb) := by
  obtain ⟨r, h1, h2⟩ := Q.ex
  exact de_cmp h1 h2 ha hb hm
theorem c_t {op : CmpOp} {g : D → D → R} (Q : Cmp X C op g) (ha : DE X C W a fa) (hb : DE X C W b fb) (hm : behindInMarks op b = false := by rfl) : DT X C W (.Compare a [op] [b] pos) (e2 g fa fb) := by
  obtain ⟨r, h1, h2⟩ := Q.ex
  exact dt_cmp h1 h2 ha hb hm
/-! built-ins -/
theorem b_len (hm : X.mg "len" = none) (ha : DA X C W (e :: es) fs) (hg : Gl X "len" := by rfl) (he : starEach (e :: es) X.env = (false, eval e X.env) :: starEach es X.env := by rfl) (hpl : (backTo pos (starEach es X.env)).any (·.1) = false := by rfl) :
    DE X C W (.Call (.Name "len" p) (e :: es) [] pos) (eB lenD fs) := de_callB call_len vc_len hm ha (by rfl) hg (by decide) (by decide) he hpl
theorem b_abs (hm : X.mg "abs" = none) (ha : DA X C W (e :: es) fs) (hg : Gl X "abs" := by rfl) (he : starEach (e :: es) X.env = (false, eval e X.env) :: starEach es X.env := by rfl) (hpl : (backTo pos (starEach es X.env)).any (·.1) = false := by rfl) :
    DE X C W (.Call (.Name "abs" p) (e :: es) [] pos) (eB absD fs) := de_callB call_abs vc_abs hm ha (by rfl) hg (by decide) (by decide) he hpl
theorem b_int (hm : X.mg "int" = none) (ha : DA X C W (e :: es) fs) (hg : Gl X "int" := by rfl) (he : starEach (e :: es) X.env = (false, eval e X.env) :: starEach es X.env := by rfl) (hpl : (backTo pos (starEach es X.env)).any (·.1) = false := by rfl) :
    DE X C W (.Call (.Name "int" p) (e :: es) [] pos) (eB intD fs) := de_callT call_int1 vc_int hm ha (by rfl) hg (by decide) (by decide) he hpl
theorem b_max2 (hc : X.calm = true) (hm : X.mg "max" = none) (ha : DA X C W (e :: es) fs) (hg : Gl X "max" := by rfl) (he : starEach (e :: es) X.env = (false, eval e X.env) :: starEach es X.env := by rfl) (hpl : (backTo pos (starEach es X.env)).any (·.1) = false := by rfl) :
    DE X C W (.Call (.Name "max" p) (e :: es) [] pos) (eB max2D fs) := de_callB (call_max2 hc) vc_max2 hm ha (by rfl) hg (by decide) (by decide) he hpl
theorem b_min2 (hc : X.calm = true) (hm : X.mg "min" = none) (ha : DA X C W (e :: es) fs) (hg : Gl X "min" := by rfl) (he : starEach (e :: es) X.env = (false, eval e X.env) :: starEach es X.env := by rfl) (hpl : (backTo pos (starEach es X.env)).any (·.1) = false := by rfl) :
    DE X C W (.Call (.Name "min" p) (e :: es) [] pos) (eB min2D fs) := de_callB (call_min2 hc) vc_min2 hm ha (by rfl) hg (by decide) (by decide) he hpl
theorem b_max1 (hc : X.calm = true) (hm : X.mg "max" = none) (ha : DA X C W (e :: es) fs) (hg : Gl X "max" := by rfl) (he : starEach (e :: es) X.env = (false, eval e X.env) :: starEach es X.env := by rfl) (hpl : (backTo pos (starEach es X.env)).any (·.1) = false := by rfl) :
    DE X C W (.Call (.Name "max" p) (e :: es) [] pos) (eB (mm1D maxL) fs) := de_callB (cr_max1 hc) vc_max1 hm ha (by rfl) hg (by decide) (by decide) he hpl
theorem b_min1 (hc : X.calm = true) (hm : X.mg "min" = none) (ha : DA X C W (e :: es) fs) (hg : Gl X "min" := by rfl) (he : starEach (e :: es) X.env = (false, eval e X.env) :: starEach es X.env := by rfl) (hpl : (backTo pos (starEach es X.env)).any (·.1) = false := by rfl) :
    DE X C W (.Call (.Name "min" p) (e :: es) [] pos) (eB (mm1D minL) fs) := de_callB (cr_min1 hc) vc_min1 hm ha (by rfl) hg (by decide) (by decide) he hpl
theorem b_sum (hc : X.calm = true) (hm : X.mg "sum" = none) (ha : DA X C W (e :: es) fs) (hg : Gl X "sum" := by rfl) (he : starEach (e :: es) X.env = (false, eval e X.env) :: starEach es X.env := by rfl) (hpl : (backTo pos (starEach es X.env)).any (·.1) = false := by rfl) :
    DE X C W (.Call (.Name "sum" p) (e :: es) [] pos) (eB sumD fs) := de_callB (cr_sum hc) vc_sum hm ha (by rfl) hg (by decide) (by decide) he hpl
theorem b_all (hc : X.calm = true) (hm : X.mg "all" = none) (ha : DA X C W (e :: es) fs) (hg : Gl X "all" := by rfl) (he : starEach (e :: es) X.env = (false, eval e X.env) :: starEach es X.env := by rfl) (hpl : (backTo pos (starEach es X.env)).any (·.1) = false := by rfl) :
    DE X C W (.Call (.Name "all" p) (e :: es) [] pos) (eB allD fs) := de_callB (cr_all hc) vc_all hm ha (by rfl) hg (by decide) (by decide) he hpl
theorem b_any (hc : X.calm = true) (hm : X.mg "any" = none) (ha : DA X C W (e :: es) fs) (hg : Gl X "any" := by rfl) (he : starEach (e :: es) X.env = (false, eval e X.env) :: starEach es X.env := by rfl) (hpl : (backTo pos (starEach es X.env)).any (·.1) = false := by rfl) :
    DE X C W (.Call (.Name "any" p) (e :: es) [] pos) (eB anyD fs) := de_callB (cr_any hc) vc_any hm ha (by rfl) hg (by decide) (by decide) he hpl
theorem b_list (hm : X.mg "list" = none) (ha : DA X C W (e :: es) fs) (hg : Gl X "list" := by rfl) (he : starEach (e :: es) X.env = (false, eval e X.env) :: starEach es X.env := by rfl) (hpl : (backTo pos (starEach es X.env)).any (·.1) = false := by rfl) :
    DF X C W (.Call (.Name "list" p) (e :: es) [] pos) (eB listD fs) := df_callT call_list_of vc_list hm ha (by rfl) hg (by decide) (by decide) he hpl
theorem b_tuple (hm : X.mg "tuple" = none) (ha : DA X C W (e :: es) fs) (hg : Gl X "tuple" := by rfl) (he : starEach (e :: es) X.env = (false, eval e X.env) :: starEach es X.env := by rfl) (hpl : (backTo pos (starEach es X.env)).any (·.1) = false := by rfl) :
    DE X C W (.Call (.Name "tuple" p) (e :: es) [] pos) (eB tupleD fs) := de_callT call_tuple_of vc_tuple hm ha (by rfl) hg (by decide) (by decide) he hpl
theorem q_ch {op op' : CmpOp} {g g' : D → D → R} (Q : Cmp X C op g) (Q' : Cmp X C op' g') (ha : DE X C W a fa) (hb : DE X C W b fb) (hc : DE X C W c fc) (h1 : lastMarks [op, op'] [b, c] = false := by with_unfolding_all rfl) :
    DE X C W (.Compare a [op, op'] [b, c] pos) (eChain g g' fa fb fc) := by
  obtain ⟨r, x1, x2⟩ := Q.ex
  obtain ⟨r', y1, y2⟩ := Q'.ex
  exact de_chain x1 y1 x2 y2 ha hb hc h1
theorem q_cht {op op' : CmpOp} {g g' : D → D → R} (Q : Cmp X C op g) (Q' : Cmp X C op' g') (ha : DE X C W a fa) (hb : DE X C W b fb) (hc : DE X C W c fc) (h1 : lastMarks [op, op'] [b, c] = false := by with_unfolding_all rfl) :
    DT X C W (.Compare a [op, op'] [b, c] pos) (eChain g g' fa fb fc) := by
  obtain ⟨r, x1, x2⟩ := Q.ex
  obtain ⟨r', y1, y2⟩ := Q'.ex
  exact dt_chain x1 y1 x2 y2 ha hb hc h1
/-- one argument that is new -/
theorem a1 (ha : DE X C W e f) (hs : starEach [e] X.env = (false, eval e X.env) :: starEach [] X.env := by rfl) : DA X C W [e] (aCons f aNil) := da_cons ha da_nil hs
/-- l.index(x) -/
theorem m_index {o x : Expr} {apos cpos : Pos} (hr : Room k X.A) (ho : DE X C W o f) (ha : DA X C W [x] fs) (hbase : attributeBase o "index" X.env (eval o X.env) = eval o X.env := by rfl)
    (hfew : ((backTo cpos (starEach [x] X.env)).all (fun x => !x.1) && (backToKw cpos (keywordEach [] X.env)).all (fun x => x.1.isSome) && decide (([x] : List Expr).length + ([] : List Keyword).length + (if ([] : List Keyword).isEmpty then 0 else 1) < 30)) = true := by rfl)
    (hline : (apos.endLine == cpos.line) = true := by rfl) (hs : starEach [x] X.env = (false, eval x X.env) :: starEach [] X.env := by rfl) (hplain : (backTo cpos (starEach [] X.env)).any (·.1) = false := by rfl) :
    DE X C W (.Call (.Attribute o "index" apos) [x] [] cpos) (eMt "list" indexD f fs) :=
  de_mt (mt_indexD (r65 hr)) vm_index (fun h1 h2 => pe_bm F.plainAttrs_list F.slot_list_index F.type_list_index (mt_indexD (r65 hr)) h1 h2 hbase hfew hline hs hplain) ho ha
/-- l.append(x), l.extend(x) -/
theorem k_app (i : Nat) {x : Str} {h : Gm → Rg (D × Gm)} {apos cpos : Pos} (hx : PE X (.Name x p) (tVar i)) (he : DV X C W e h)
    (hbase : attributeBase (.Name x p) "append" X.env (eval (.Name x p) X.env) = eval (.Name x p) X.env := by rfl)
    (hfew : ((backTo cpos (starEach [e] X.env)).all (fun x => !x.1) && (backToKw cpos (keywordEach [] X.env)).all (fun x => x.1.isSome) && decide (([e] : List Expr).length + ([] : List Keyword).length + (if ([] : List Keyword).isEmpty then 0 else 1) < 30)) = true := by rfl)
    (hline : (apos.endLine == cpos.line) = true := by rfl) (hs : starEach [e] X.env = (false, eval e X.env) :: starEach [] X.env := by rfl) (hplain : (backTo cpos (starEach [] X.env)).any (·.1) = false := by rfl)
    (hsw : swapsWith (.Call (.Attribute (.Name x p) "append" apos) [e] [] cpos) none pos.line X.env = pure false := by rfl) :
    DS X C W (.Expr (.Call (.Attribute (.Name x p) "append" apos) [e] [] cpos) pos) (sApp i h) :=
  ds_app i he (fun h1 => pe_bm F.plainAttrs_list F.slot_list_append F.type_list_append mt_append hx (pa_cons h1 pa_nil hs) hbase hfew hline hs hplain) hsw
theorem k_ext (i : Nat) {x : Str} {h : Gm → Rg (D × Gm)} {apos cpos : Pos} (hx : PE X (.Name x p) (tVar i)) (he : DV X C W e h)
    (hbase : attributeBase (.Name x p) "extend" X.env (eval (.Name x p) X.env) = eval (.Name x p) X.env := by rfl)
    (hfew : ((backTo cpos (starEach [e] X.env)).all (fun x => !x.1) && (backToKw cpos (keywordEach [] X.env)).all (fun x => x.1.isSome) && decide (([e] : List Expr).length + ([] : List Keyword).length + (if ([] : List Keyword).isEmpty then 0 else 1) < 30)) = true := by rfl)
    (hline : (apos.endLine == cpos.line) = true := by rfl) (hs : starEach [e] X.env = (false, eval e X.env) :: starEach [] X.env := by rfl) (hplain : (backTo cpos (starEach [] X.env)).any (·.1) = false := by rfl)
    (hsw : swapsWith (.Call (.Attribute (.Name x p) "extend" apos) [e] [] cpos) none pos.line X.env = pure false := by rfl) :
    DS X C W (.Expr (.Call (.Attribute (.Name x p) "extend" apos) [e] [] cpos) pos) (sExt i h) :=
  ds_ext i he (fun h1 => pe_bm F.plainAttrs_list F.slot_list_extend F.type_list_extend mt_extend hx (pa_cons h1 pa_nil hs) hbase hfew hline hs hplain) hsw
/-- the module's numbers, texts -/
theorem de_gi {x : Str} {i : Int} (h : ∃ t, X.mg x = some (.int i t)) (hg : Gl X x := by rfl) (hd : (x == ("__debug__" : Str)) = false := by decide) : DE X C W (.Name x pos) (eC (.int i)) := by
  obtain ⟨t, h⟩ := h
  exact de_glob (v := .int i) h ⟨t, rfl⟩ (fun _ => .int i) hg hd
theorem de_gs {x : Str} {i : Str} (h : ∃ t, X.mg x = some (.str i t)) (hg : Gl X x := by rfl) (hd : (x == ("__debug__" : Str)) = false := by decide) : DE X C W (.Name x pos) (eC (.str i)) := by
  obtain ⟨t, h⟩ := h
  exact de_glob (v := .str i) h ⟨t, rfl⟩ (fun _ => .str i) hg hd
end
end DL

set_option Elab.async false
set_option linter.all false
set_option maxRecDepth 100000
set_option maxHeartbeats 4000000
namespace DL
open PySem PySem.Spec PyProof.Rows L2 LamX HotX

/-! ### lists walked while an exception is handled -/
section
variable {prog : Program} {w : World} {A : Around} {E : Value → Shared → Prop} {s : Shared}
theorem list_end_hot {it l x1 : Addr} {i : Nat} {items : Array Value} {Q : Option Value → Shared → Prop} (hot : HotAt A x1 s.heap) (hx1 : x1 ≠ it)
    (hit : s.heap.IsListIter it l i) (hl : s.heap.IsList l items) (hx : items[i]? = none)
    (hQ : ∀ h', Heap.ExtBut it s.heap h' → Q none { s with heap := h' }) : wpAny (model prog w) A (pyNext (.ref it)) Q E s := by
  obtain ⟨o, ho, hc, hd⟩ := id hit
  obtain ⟨ol, hol, _, nl, hdl⟩ := hl
  obtain ⟨hh, o1, vs1, h1, d1, c1⟩ := hot
  unfold pyNext
  refine wpAny_bind (wpAny_attempt (wpAny_callSpecial?_slot (name := Str.ofString "__next__") hit.typeIs slot_listiter_next
    (wpAny_call_entry slot_listiter_next hit.typeIs entry_listiter_next ?_ (args_listiter_next _))))
  show wpAny _ _ (field (.ref it) 0 >>= _) _ _ s
  refine wpAny_bind (wpAny_field ho hd (x := .ref l) rfl ?_)
  show wpAny _ _ (if (Value.ref l == Value.none) = true then _ else _) _ _ s
  rw [if_neg (show ¬ ((Value.ref l == Value.none) = true) from Bool.false_ne_true)]
  show wpAny _ _ (field (.ref it) 1 >>= _) _ _ s
  refine wpAny_bind (wpAny_field ho hd (x := .int i 0) rfl ?_)
  show wpAny _ _ (seqItems? (.ref l) >>= _) _ _ s
  refine wpAny_bind (wpAny_seqItems hol hdl ?_)
  simp only [Int.toNat_natCast, hx]
  refine wpAny_bind (wpAny_rule (wpAny_bind (wpAny_setField ho hd (by simp) ?_)))
  have up : (s.heap.update it (Obj.mapFields (·.setIfInBounds 0 Value.none))).get? x1 = some o1 := (Heap.get?_update_other _ _ (Ne.symm hx1)).trans h1
  generalize hu : (s.heap.update it (Obj.mapFields (·.setIfInBounds 0 Value.none))) = hp at up
  have kept : Heap.ExtBut it s.heap hp := by rw [← hu]; exact (Heap.SameBut.update ..).extBut
  show wpAny _ _ (newExc (.type "StopIteration") [] >>= _) _ _ _
  refine wpAny_bind ?_
  simp only [newExc, newTuple]
  refine wpAny_bind (wpAny_newObj_type ?_ (by size_fits))
  refine wpAny_bind (m := firstArgMember _ _) (wpAny_of_eq (a := Value.none) (by first | rfl | (simp only [firstArgMember]; rfl)) ?_)
  refine wpAny_newObj_type ?_ (by size_fits)
  refine raiseNew_hot ⟨hh, o1, vs1, Heap.get?_push_of_some _ (Heap.get?_push_of_some _ up), d1, c1⟩ (Nat.ne_of_lt (Heap.lt_size (Heap.get?_push_of_some _ up))) (Heap.get?_push_size _ rfl) rfl (by first | (simp; done) | (simp; omega) | (simp only [Array.size_append]; simp; omega)) ?_
  refine wpAny_bind (wpAny_isInstance (T := "StopIteration") (b := true) ⟨_, Heap.get?_update_self _ (Heap.get?_push_size _ rfl) rfl, rfl⟩ isSubtype_stop ?_)
  refine wpAny_pure (hQ _ fun b o hb e => ?_)
  have e' := kept b o hb e
  rw [Heap.get?_update_other _ _ (Nat.ne_of_gt (Heap.lt_size (Heap.get?_push_of_some _ e')))]
  exact Heap.get?_push_of_some _ (Heap.get?_push_of_some _ e')
/-- a list's iterator, walked there -/
theorem walks_hot {x1 : Addr} {I ax : Addr} (hne : ax ≠ I) (hx : x1 ≠ I) (items : Array Value) :
    Walks prog w A I [I, ax, x1] [I] items.size (fun i v => items[i]? = some v) (fun i h => h.IsListIter I ax i ∧ h.IsList ax items ∧ HotAt A x1 h) where
  sub := fun b hb => by simp at hb; simp [hb]
  frame := fun _ _ _ st hk => ⟨st.1.at fun o e => hk I (by simp) o e, st.2.1.at fun o e => hk ax (by simp) o e, let ⟨a, o, vs, e, r⟩ := st.2.2; ⟨a, o, vs, hk x1 (by simp) o e, r⟩⟩
  item := fun i s Q E hi st hQ => by
    refine wpAny_pyNext_list_item st.1 st.2.1 (x := items[i]) (by simp [hi]) fun h' hit' hs' => ?_
    obtain ⟨a, o, vs, e, r⟩ := st.2.2
    exact hQ _ h' s.toks (by simp [hi]) ⟨hit', st.2.1.extBut hs'.extBut hne, a, o, vs, hs'.extBut _ _ hx e, r⟩ fun b o hb e => hs'.extBut b o (fun h => hb (by simp [h])) e
  done := fun s Q E st hQ => list_end_hot st.2.2 hx st.1 st.2.1 (by simp) fun h' he' => hQ h' s.toks fun b o hb e => he' b o (fun h => hb (by simp [h])) e
  self := fun _ _ _ _ st hQ => wpAny_pyIter_listiter st.1 hQ
end
/-! ### an iterator there: Turn, with the handled exception at hand -/
structure TurnW (P : Program) (w : World) (K : PySem.W.Frag) (tg : Expr) (J : It) (fp : List Addr) (it : Addr) (tn : Nat → Heap → Prop) : Prop where
  mem : it ∈ fp
  obj : ∀ i h, tn i h → ∀ b ∈ fp, ∃ o, h.get? b = some o ∧ ∀ v, o.data ≠ .cell v
  keep : ∀ i h h', tn i h → (∀ b ∈ fp, ∀ o, h.get? b = some o → h'.get? b = some o) → tn i h'
  item : ∀ (X : Cx), X.prog = P → X.w = w → X.K = K → ∀ (i : Nat) (pins : List (Addr × Obj)) (s : Shared) (σ : L2.St) (H : Hp) (E : Value → Shared → Prop), L2.Inv X pins σ H s → (∀ b ∈ fp, FpOk X pins H b) → tn i s.heap → J.go i H →
    wpAny (model P w) X.A (pyNext (.ref it)) (fun r s1 => ∃ u, r = some u ∧
      wpAny (model P w) X.A (letOwnedTupleGo tg (.ref it) u) (fun _ s2 => ∃ x H', L2.Inv X pins σ H' s2 ∧ RelV x u ∧ J.yld i H x H' ∧ tn (i + 1) s2.heap ∧ ∀ b ∈ fp, H' b = none) E s1) E s
  done : ∀ (X : Cx), X.prog = P → X.w = w → X.K = K → ∀ (i : Nat) (pins : List (Addr × Obj)) (s : Shared) (σ : L2.St) (H : Hp) (E : Value → Shared → Prop) (x1 : Addr), HotAt X.A x1 s.heap → x1 ∉ fp → L2.Inv X pins σ H s → (∀ b ∈ fp, FpOk X pins H b) → tn i s.heap → J.stop i H →
    wpAny (model P w) X.A (pyNext (.ref it)) (fun r s1 => r = none ∧ L2.Inv X pins σ H s1) E s
  self : ∀ (A : Around) (i : Nat) (s : Shared) (Q : Value → Shared → Prop) (E : Value → Shared → Prop), tn i s.heap → Q (.ref it) s → wpAny (model P w) A (pyIter (.ref it)) Q E s
theorem turnW_list {P : Program} {w : World} {K : PySem.W.Frag} {tg : Expr} (a it : Addr) : TurnW P w K tg (Itl K a) [it] it (fun i h => h.IsListIter it a i) where
  mem := by simp
  obj := fun i h st b hb => by
    obtain rfl : b = it := by simpa using hb
    obtain ⟨o, e, c, d⟩ := st
    exact ⟨o, e, fun v z => by rw [d] at z; cases z⟩
  keep := fun i h h' st k => st.at fun o e => k it (by simp) o e
  item := by
    intro X hP hw hK i pins s σ H E I hf st ⟨xs, x, hq, hx⟩
    subst hP hw hK
    obtain ⟨its, rv, p, hz⟩ := I.list hq
    obtain ⟨u, hu, ru⟩ := rv.get hx
    obtain ⟨f0, f1, f2, f3, f4, f5⟩ := hf it (by simp)
    refine wpAny_pyNext_list_item st p.isList (x := u) (by simpa using hu) fun h' st' sb => ?_
    have I1 : L2.Inv X pins σ H { s with heap := h' } := I.turned (t' := s.toks) (fun b o hb e => (sb.2 b hb).trans e) f0 f1 f3 f4 f5
    obtain ⟨o, e, c, d⟩ := id st'
    exact ⟨u, rfl, go_of (s := { s with heap := h' }) e c d (by decide) ⟨x, H, I1, ru, ⟨rfl, fun ys hy => by rw [I.list_inj hy hq]; exact hx⟩, st', fun b hb => (hf b hb).1⟩⟩
  done := by
    intro X hP hw hK i pins s σ H E x1 hot nx I hf st ⟨xs, hq, hx⟩
    subst hP hw hK
    obtain ⟨its, rv, p, hz⟩ := I.list hq
    obtain ⟨f0, f1, f2, f3, f4, f5⟩ := hf it (by simp)
    have hl := rv.length
    exact list_end_hot hot (fun z => nx (by rw [z]; simp)) st p.isList (by simp; omega) fun h' eb => ⟨rfl, I.turned (t' := s.toks) (fun b o hb e => eb b o hb e) f0 f1 f3 f4 f5⟩
  self := fun _ _ _ _ _ st h => wpAny_pyIter_listiter st h
def PIEW (X : Cx) (pins : List (Addr × Obj)) (σ : L2.St) (tg : Expr) (R : It → Hp → Prop) (itv : Value) (s2 : Shared) : Prop :=
  ∃ (it : Addr) (fp : List Addr) (tn : Nat → Heap → Prop) (J : It) (H' : Hp), itv = .ref it ∧ L2.Inv X pins σ H' s2 ∧ TurnW X.prog X.w X.K tg J fp it tn ∧ tn 0 s2.heap ∧ (∀ b ∈ fp, FpOk X pins H' b) ∧ R J H'
structure PIW (X : Cx) (tg iter : Expr) (wi : TI) : Prop where
  run : ∀ (pins : List (Addr × Obj)) (s : Shared) (σ : L2.St) (H : Hp) (R : It → Hp → Prop), L2.Inv X pins σ H s → wi σ H R →
    wpAny (model X.prog X.w) X.A (eval iter X.env) (fun v s1 => wpAny (model X.prog X.w) X.A (pyIter v) (PIEW X pins σ tg R) X.xe s1) X.xe s
section
variable {X : Cx} {tg : Expr}
theorem piw_list {l : Expr} {tl : TE} (hl : PE X l tl) : PIW X tg l (iList X.K tl) := by
  refine ⟨fun pins s σ H R I h => thn (hl.run pins s σ H _ I h) fun v s1 ⟨x, H1, I1, r1, a, e, ⟨xs, hq⟩, q⟩ => ?_⟩
  subst e
  cases r1
  obtain ⟨its, rv, p, hz⟩ := I1.list hq
  refine wpAny_pyIter_list p.isList ⟨s1.heap.objs.size, [s1.heap.objs.size], _, _, H1, rfl, I1.kept (t' := s1.toks) fun b o e => Heap.get?_push_of_some _ e, turnW_list a _, ⟨_, Heap.get?_push_size _ rfl, rfl, rfl⟩, fun b hb => ?_, q⟩
  obtain rfl : b = s1.heap.objs.size := by simpa using hb
  exact I1.fpOk (Nat.le_refl _) (I1.hok.fresh (Nat.le_refl _))
theorem lc_hot {pins : List (Addr × Obj)} {s : Shared} {σ : L2.St} {H : Hp} {Q : VK} {elt tg iter : Expr} {ifs : List Expr} {scope : Scope} {own : List (Str × Nat)} {pos pos' : Pos} {wi : TI} {g : TG} {tt : TT} {te : TE} {use : Option (Value → Sem Unit)} {Qf : Value → Shared → Prop}
    (hc : L2H.HotC X) (hN : X.N.Nodup) (I : L2.Inv X pins σ H s) (hi : PIW X tg iter wi) (ok : BlkOk X.N X.env.scope scope own)
    (hg : ∀ (s : Shared) (H : Hp) (C : Addr) (cl : List (Str × Addr)) (fp : List Addr), PG (X.blk s H scope (compEnvC scope cl C X.env) fp) tg g) (ht : ∀ (s : Shared) (H : Hp) (C : Addr) (cl : List (Str × Addr)) (fp : List Addr), PTs (X.blk s H scope (compEnvC scope cl C X.env) fp) ifs tt)
    (he : ∀ (s : Shared) (H : Hp) (C : Addr) (cl : List (Str × Addr)) (fp : List Addr), PE (X.blk s H scope (compEnvC scope cl C X.env) fp) elt te) (hs : ∀ x, foldedSetIterable iter X.env x = pure x)
    (h : tLc wi g tt te (own.map (·.2)) σ H Q)
    (hRR : ∀ D C s' m H', L2.Inv X pins σ H' s' → Q (.ref D) H' → s'.heap.Ns C m → FpOk X pins H' C → compPost (model X.prog X.w) X.A X.xe use Qf (.ref D) C (.ok .next) s') :
    wpAny (model X.prog X.w) X.A (comprehension (.ListComp elt [⟨tg, iter, ifs, 0⟩] scope pos) scope X.env pos' (newList []) false (eval iter X.env) use) Qf X.xe s := by
  have hfree : ∀ y ∈ scope.names, y.2 = .free → ∃ c, X.env.cells.lookup y.1 = some c := fun y hy e => by
    rcases ok.free y hy e with k | k
    · exact I.ok.has _ (.inl k)
    · exact I.ok.has _ (.inr k)
  refine wpAny_comprehension_free (use := use) rfl hs (closure_ok hfree) ok.kind (fun y hy e => by rw [ok.uniq y hy, e])
    (thn (hi.run pins s σ H _ I h) fun xv s1 hx => thn hx fun itv s2 h2 => ?_)
  obtain ⟨it, fp, tn, J, H2, e, I2, T, st2, f2, q⟩ := h2
  subst e
  refine wpAny_newObj_type (newEnv_comp ?_) (by show 0 ≤ sizeLine; decide)
  generalize hD : s2.heap.objs.size = D
  have hDn : H2 D = none := I2.hok.fresh (Nat.le_of_eq hD)
  obtain ⟨W, ⟨m0, w0⟩, turn⟩ := q D hDn
  -- the new list
  generalize hs3 : ({ s2 with heap := s2.heap.push { cls := .type "list", data := .seq ([] : List Value).toArray } } : Shared) = s3
  have I3 : L2.Inv X pins σ (upd H2 D (.lst [])) s3 := by
    rw [← hs3]
    refine I2.laid (t' := s2.toks) (fun b o e => Heap.get?_push_of_some _ e) (Nat.le_of_eq hD) ⟨Nat.zero_le _, [], 0, .nil, ?_⟩
    rw [← hD]
    exact Heap.get?_push_size _ rfl
  have h3 : s3.heap = s2.heap.push { cls := .type "list", data := .seq ([] : List Value).toArray } := by rw [← hs3]
  have sz : ∀ b ∈ fp, b < s2.heap.objs.size := fun b hb => by
    obtain ⟨o, e, _⟩ := T.obj _ _ st2 b hb
    exact Heap.lt_size e
  have f3 : ∀ b ∈ fp, FpOk X pins (upd H2 D (.lst [])) b ∧ b < s3.heap.objs.size := fun b hb => by
    have hlt := sz b hb
    refine ⟨⟨?_, (f2 b hb).2⟩, by rw [h3, Heap.size_push]; exact Nat.lt_succ_of_lt hlt⟩
    rw [upd_ne (by rw [← hD]; exact Nat.ne_of_lt hlt)]
    exact (f2 b hb).1
  have st3 : tn 0 s3.heap := T.keep _ _ _ st2 fun b _ o e => by rw [h3]; exact Heap.get?_push_of_some _ e
  have I4 := block_start I3 ok hN f3
  have pg := hg s3 (upd H2 D (.lst [])) s3.heap.objs.size (cellsFrom (s3.heap.objs.size + 1) scope.names (cloFrom X.env.cells scope.names [])) fp
  have pt := ht s3 (upd H2 D (.lst [])) s3.heap.objs.size (cellsFrom (s3.heap.objs.size + 1) scope.names (cloFrom X.env.cells scope.names [])) fp
  have pe := he s3 (upd H2 D (.lst [])) s3.heap.objs.size (cellsFrom (s3.heap.objs.size + 1) scope.names (cloFrom X.env.cells scope.names [])) fp
  show codeAny _ _ (.compStart (.ListComp elt [⟨tg, iter, ifs, 0⟩] scope pos) 0 (.ref it) (.ref D) (compEnvC scope (cellsFrom (s3.heap.objs.size + 1) scope.names (cloFrom X.env.cells scope.names [])) s3.heap.objs.size X.env)) (compPost (model X.prog X.w) X.A X.xe use Qf (.ref D) s3.heap.objs.size) { s3 with heap := pushCells (s3.heap.push { cls := .type "dict", data := .dict #[] }) scope.names }
  have nfp : ∀ b ∈ fp, (upd H2 D (.lst [])) b = none := fun b hb => (f3 b hb).1.1
  generalize hce : compEnvC scope (cellsFrom (s3.heap.objs.size + 1) scope.names (cloFrom X.env.cells scope.names [])) s3.heap.objs.size X.env = ce at I4 pg pt pe ⊢
  have cL : ce.locals = s3.heap.objs.size := by subst hce; rfl
  generalize hH3 : upd H2 D (.lst []) = H3 at I3 I4 pg pt pe w0 nfp f3
  generalize hs4 : ({ s3 with heap := pushCells (s3.heap.push { cls := .type "dict", data := .dict #[] }) scope.names } : Shared) = s4 at I4 ⊢
  have st4 : tn 0 s4.heap := T.keep _ _ _ st3 fun b _ o e => by rw [← hs4]; exact pushCells_keeps _ _ _ _ (Heap.get?_push_of_some _ e)
  have stat : ∀ {σ' : L2.St} {H' : Hp} {s' : Shared}, L2.Inv (X.blk s3 H3 scope ce fp) [] σ' H' s' → (∀ b ∈ fp, H' b = none) → ∀ b ∈ fp, FpOk (X.blk s3 H3 scope ce fp) [] H' b := fun {σ' H' s'} I' hn b hb =>
    ⟨hn b hb, (I'.ok.exf b hb).1, I'.ok.exfs b hb, .inl hb, fun x c e => (I'.ok.exf b hb).2 x c e, fun p hp => absurd (show p ∈ ([] : List (Addr × Obj)) ++ [] from hp) (by simp)⟩
  -- the handled exception, seen from the block
  have hotK : ∃ x1, x1 ∉ fp ∧ ∀ {σ' : L2.St} {H' : Hp} {s' : Shared}, L2.Inv (X.blk s3 H3 scope ce fp) [] σ' H' s' → HotAt X.A x1 s'.heap := by
    obtain ⟨p, ⟨hh, v1, e1, c1⟩, hp⟩ := hc
    have P1 := I3.pin p (List.mem_append_left _ hp)
    have nf : p.1 ∉ fp := fun m => (f3 p.1 m).1.2.2.2.2.2 p (List.mem_append_left _ hp) rfl
    exact ⟨p.1, nf, fun {σ' H' s'} J => ⟨hh, p.2, v1, J.base.keep p.1 p.2 P1.1 P1.2.1 (fun m => (List.mem_cons.mp (I3.stkSub p.1 m)).elim P1.2.2.1 P1.2.2.2.1) nf, e1, c1⟩⟩
  have loop : codeAny (model X.prog X.w) X.A (.compLoop (.ListComp elt [⟨tg, iter, ifs, 0⟩] scope pos) 0 (.ref it) (.ref D) ce) (compPost (model X.prog X.w) X.A X.xe use Qf (.ref D) s3.heap.objs.size) s4 := by
    refine compLoop_any (fun n s' => ∃ i H', L2.Inv (X.blk s3 H3 scope ce fp) [] (wipe σ (own.map (·.2))) H' s' ∧ tn i s'.heap ∧ (∀ b ∈ fp, H' b = none) ∧ W i n H') ?_ m0 ⟨0, H3, I4, st4, nfp, w0⟩
    rintro n s5 ⟨i, H5, I5, st5, n5, w5⟩
    rcases turn i n H5 w5 with ⟨stop, qq⟩ | ⟨go, Nx, hNx, step⟩
    · obtain ⟨x1, hx1, hot1⟩ := hotK
      have td := T.done (X.blk s3 H3 scope ce fp) rfl rfl rfl i [] s5 _ H5 (fun _ _ => False) x1 (hot1 I5) hx1 I5 (stat I5 n5) st5 stop
      refine thnF td fun r s6 ⟨hr, I6⟩ => ?_
      subst hr
      -- back in the def's context
      have I7 : L2.Inv X pins σ H5 s6 := I3.call' (ch := fp) I6.os I6.base I6.hok I6.bare fun b hb => ⟨(f3 b hb).1.2.2.2.1, (f3 b hb).1.2.1, (f3 b hb).1.2.2.2.2.1, (f3 b hb).1.2.2.2.2.2⟩
      have nC : H5 s3.heap.objs.size = none := by
        have z : H5 ce.locals = none := I6.free
        rw [cL] at z
        exact z
      obtain ⟨m, hn, _⟩ := I6.loc
      have hn : s6.heap.Ns ce.locals m := hn
      rw [cL] at hn
      exact hRR D s3.heap.objs.size s6 m H5 I7 qq hn (I3.fpOk (Nat.le_refl _) nC)
    · have ti := T.item (X.blk s3 H3 scope ce fp) rfl rfl rfl i [] s5 _ H5 (fun _ _ => False) I5 (stat I5 n5) st5 go
      refine thnF ti fun r s6 ⟨u, hr, h6⟩ => ?_
      subst hr
      refine thnF h6 fun _ s7 ⟨x, H7, I7, r7, y7, st7, n7⟩ => ?_
      have I7' := I7.pinned (stat I7 n7) (T.obj _ _ st7)
      refine thnF (pg.run _ s7 _ H7 x u _ I7' r7 (step x H7 y7)) fun _ s8 ⟨σ8, H8, I8, hw8, q8⟩ => ?_
      refine thnF (pt.run _ s8 σ8 H8 _ I8 q8) fun b s9 ⟨H9, I9, q9⟩ => ?_
      -- the turn's end
      have fin : ∀ {s' : Shared} {H' : Hp}, L2.Inv (X.blk s3 H3 scope ce fp) ([] ++ pinsAt fp s7.heap) σ8 H' s' → Nx H' → ∃ m, m < n ∧ ∃ i H', L2.Inv (X.blk s3 H3 scope ce fp) [] (wipe σ (own.map (·.2))) H' s' ∧ tn i s'.heap ∧ (∀ b ∈ fp, H' b = none) ∧ W i m H' := fun {s' H'} I' nx => by
        obtain ⟨m', hm, w'⟩ := hNx H' nx
        have pin' : ∀ b ∈ fp, ∀ o, s7.heap.get? b = some o → s'.heap.get? b = some o ∧ H' b = none := fun b hb o e =>
          let z := I'.pin (b, o) (List.mem_append_right _ (List.mem_append_right _ (mem_pinsAt hb e)))
          ⟨z.1, z.2.1⟩
        have hl : (wipe σ (own.map (·.2))).length = σ8.length := by rw [← hw8, wipe_length]
        refine ⟨m', hm, i + 1, H', (I'.unpinned (pins := [])).weak hl (fun j v e => ?_), T.keep _ _ _ st7 fun b hb o e => (pin' b hb o e).1, fun b hb => ?_, w'⟩
        · rw [← hw8] at e
          exact (wipe_some e).1
        · obtain ⟨o, e, _⟩ := T.obj _ _ st7 b hb
          exact (pin' b hb o e).2
      cases b with
      | false =>
        simp only [Bool.false_eq_true, if_false] at q9 ⊢
        exact fin I9 q9
      | true =>
        simp only [if_true] at q9 ⊢
        refine thnF (pe.run _ s9 σ8 H9 _ I9 q9) fun z s10 ⟨yv, H10, I10, r10, acc, hD10, hz10, nx⟩ => ?_
        exact app_ok (X := X.blk s3 H3 scope ce fp) I10 hD10 hz10 r10 fun s11 I11 => fin I11 nx
  exact codeAny_compStart_list loop (T.self X.A 0 _ _ _ st4 loop)

end
end DL

set_option Elab.async false
set_option linter.all false
set_option maxRecDepth 100000
set_option maxHeartbeats 4000000
namespace DL
open PySem PySem.Spec PyProof.Rows L2 LamX HotX

/-! ### sum there -/
theorem sum_hot {prog : Program} {w : World} {A : Around} {E : Value → Shared → Prop} {s : Shared} {Q : Value → Shared → Prop} {l x1 : Addr} {xs : Array (Int × Tok)} (hot : HotAt A x1 s.heap) (hl : s.heap.IsList l (intItems xs))
    (h : ∀ h' tk t', (∀ b o, s.heap.get? b = some o → h'.get? b = some o) → Q (.int (preSum (numAt xs) xs.size) t') { s with heap := h', toks := tk }) :
    wpAny (model prog w) A (call (.builtin "sum") [.ref l]) Q E s := by
  refine call_sum_walkG (iter_intList hl fun s₂ e st hfp hlI => ?_)
  subst e
  obtain ⟨hh, o1, vs1, h1, d1, c1⟩ := hot
  have hx : x1 ≠ s.heap.objs.size := Nat.ne_of_lt (Heap.lt_size h1)
  refine ⟨_, _, _, _, _, _, numAt xs, rfl, walks_hot (A := A.in1) (x1 := x1) hlI hx (intItems xs), ⟨st.1, st.2, hh, o1, vs1, Heap.get?_push_of_some _ h1, d1, c1⟩, fun b hb => ?_, (fun _ _ => intItems_at), fun h' tk t' hk => ?_⟩
  · simp only [List.mem_cons, List.not_mem_nil, or_false] at hb
    rcases hb with e | e | e
    · exact hfp b (by simp [e])
    · exact hfp b (by simp [e])
    · rw [e]
      show x1 < (s.heap.push _).objs.size
      rw [Heap.size_push]
      exact Nat.lt_succ_of_lt (Heap.lt_size h1)
  · have := h h' tk t' (old_kept hk)
    simpa [intItems] using this
section
variable {X : Cx} {C : Cn} {W : WX}
theorem cr_sumW (hc : L2H.HotC X) : CallR X (.builtin "sum") (rSum X.K) := by
  intro pins s σ H vs us Q I r h
  obtain ⟨a, ns, rfl, hs, q⟩ := h
  obtain ⟨its, rv, hl, _⟩ := I.list hs
  rw [Vals.ref1 r]
  obtain ⟨x1, hot⟩ := hc.at I
  have hi := rv.ints
  obtain ⟨xs, e⟩ := hi.allInts.items
  have hn : numsOf (intItems xs).toList = ns := by rw [← e]; exact hi.numsOf
  rw [nums_intItems] at hn
  have hl' := hl.isList
  rw [e] at hl'
  refine sum_hot hot hl' fun h' tk t' hk => ⟨.int _, H, I.kept hk, ⟨_, rfl⟩, ?_⟩
  rw [preSum_eq, List.take_of_length_le (by simp), hn]
  exact q
theorem b_sumW {e : Expr} {es : List Expr} {fs : Gm → Rg (List D)} {p pos : Pos} (hc : L2H.HotC X) (hm : X.mg "sum" = none) (ha : DA X C W (e :: es) fs) (hg : Gl X "sum" := by rfl) (he : starEach (e :: es) X.env = (false, eval e X.env) :: starEach es X.env := by rfl) (hpl : (backTo pos (starEach es X.env)).any (·.1) = false := by rfl) :
    DE X C W (.Call (.Name "sum" p) (e :: es) [] pos) (eB sumD fs) := de_callB (cr_sumW hc) vc_sum hm ha (by rfl) hg (by decide) (by decide) he hpl
/-! ### a comprehension over a list there -/
def itL : D → Rg (List D)
  | .lst ds => .ok ds
  | _ => .bad
def iSeqL (f : Gm → R) : Gm → Rg (List D) := fun Γ => (f Γ).bind itL
theorem PIW.to {tg e : Expr} {t t' : TI} (h : PIW X tg e t) (k : ∀ σ H R, t' σ H R → t σ H R) : PIW X tg e t' := ⟨fun pins s σ H R I r => h.run pins s σ H R I (k σ H R r)⟩
theorem diw_list {tg e : Expr} {f : Gm → R} (h : DE X C W e f) : PIW X tg e (rdI X.K C W (iSeqL f)) := PIW.to (piw_list h) fun σ H R ⟨Γ, P0, H0, E, g⟩ => by
  refine ⟨Γ, P0, H0, E, Got.bind repI_mono g fun d x H1 _ e1 t1 r1 g1 => ?_⟩
  cases d with
  | lst ds =>
    obtain ⟨a, xs, rfl, hx, rr⟩ := rp_lst r1
    exact ⟨a, rfl, ⟨xs, .inl (.inl (mask_some.mp hx).2)⟩, g1 _ H1 (ExtN.refl H1) t1 (wk_list hx rr)⟩
  | _ => exact g1.elim
theorem pe_lcW {elt tg iter : Expr} {ifs : List Expr} {scope : Scope} {own : List (Str × Nat)} {pos : Pos} {wi : TI} {g : TG} {tt : TT} {te : TE} (hc : L2H.HotC X) (hN : X.N.Nodup) (hi : PIW X tg iter wi) (ok : BlkOk X.N X.env.scope scope own)
    (hg : ∀ (s : Shared) (H : Hp) (C : Addr) (cl : List (Str × Addr)) (fp : List Addr), PG (X.blk s H scope (compEnvC scope cl C X.env) fp) tg g) (ht : ∀ (s : Shared) (H : Hp) (C : Addr) (cl : List (Str × Addr)) (fp : List Addr), PTs (X.blk s H scope (compEnvC scope cl C X.env) fp) ifs tt)
    (he : ∀ (s : Shared) (H : Hp) (C : Addr) (cl : List (Str × Addr)) (fp : List Addr), PE (X.blk s H scope (compEnvC scope cl C X.env) fp) elt te) (hs : ∀ x, foldedSetIterable iter X.env x = pure x := by intro _; rfl) :
    PE X (.ListComp elt [⟨tg, iter, ifs, 0⟩] scope pos) (tLc wi g tt te (own.map (·.2))) := by
  refine ⟨fun pins s σ H Q I h => ?_⟩
  rw [eval_ListComp]
  refine lc_hot hc hN I hi ok hg ht he hs h fun D C s' m H' I' q hn f => ⟨m, hn, fun h'' sb => ?_⟩
  obtain ⟨f0, f1, f2, f3, f4, f5⟩ := f
  exact ⟨.ref D, H', I'.turned (t' := s'.toks) (fun b o hb e => (sb.2 b hb).trans e) f0 f1 f3 f4 f5, rfl, q⟩
theorem df_lcW {elt tg iter : Expr} {ifs : List Expr} {scope : Scope} {own : List (Str × Nat)} {pos : Pos} {fi : Gm → Rg (List D)} {t : Tg} {js : List Nat} {ft fe : Gm → R} (hc : L2H.HotC X) (hN : X.N.Nodup) (hi : PIW X tg iter (rdI X.K C W fi)) (ok : BlkOk X.N X.env.scope scope own)
    (hg : ∀ (s : Shared) (H : Hp) (c : Addr) (cl : List (Str × Addr)) (fp : List Addr), DG (X.blk s H scope (compEnvC scope cl c X.env) fp) C tg t js)
    (ht : ∀ (s : Shared) (H : Hp) (c : Addr) (cl : List (Str × Addr)) (fp : List Addr), DTs (X.blk s H scope (compEnvC scope cl c X.env) fp) C W0 ifs ft)
    (he : ∀ (s : Shared) (H : Hp) (c : Addr) (cl : List (Str × Addr)) (fp : List Addr), DE (X.blk s H scope (compEnvC scope cl c X.env) fp) C W0 elt fe)
    (hj : ∀ j ∈ js, j ∈ own.map (·.2)) (hs : ∀ x, foldedSetIterable iter X.env x = pure x := by intro _; rfl) :
    DF X C W (.ListComp elt [⟨tg, iter, ifs, 0⟩] scope pos) (eLc (own.map (·.2)) fi t ft fe) :=
  PE.to (pe_lcW hc hN hi ok hg ht he hs) fun σ H Q h => rd_lc hj h
/-! ### isinstance of the handled exception -/
theorem call_isP {a D : Addr} {oe : Obj} (hp : (a, oe) ∈ X.pn) (C : ExcC X.K D) (hz : L2.Zc (.ref D) none oe) (hf : ∃ vs, oe.data = .fields vs) : CallR X (.builtin "isinstance") (rIsE X.K D a) := by
  intro pins s σ H xs us Q I r h
  obtain ⟨c, cv, b, rfl, hcv, e, q⟩ := h
  obtain ⟨u1, u2, rfl, rx, rt⟩ := vals2 r
  cases rx
  obtain rfl := hcv _ rt
  have hget := (I.pin (a, oe) (List.mem_append_left _ hp)).1
  obtain ⟨vs, hv⟩ := hf
  have J : PySem.W.InstAt s.heap a oe D none := by
    obtain ⟨oc, od, oda, osl⟩ := oe
    obtain ⟨h1, h2⟩ := hz
    dsimp only at h1 h2 hv
    subst h1 h2 hv
    exact ⟨hget, rfl, rfl, trivial⟩
  exact PySem.W.kia_one (PySem.W.handS_kitx_exc C.hg C.hk C.hs C.hd C.ha C.hn C.ht C.hm) I.kIn J e (fun z => nomatch z) fun tk => ⟨.bl b, H, I.kept (t' := tk) fun _ _ z => z, rfl, q⟩
def isED (b : Bool) : D → R
  | .fn _ => .ok (.bl b)
  | _ => .bad
def eIsE (b : Bool) (f : Gm → R) : Gm → R := fun Γ => (f Γ).bind (isED b)
/-- a class as a value -/
structure ClsN (X : Cx) (D : Addr) (x : Str) (b : Bool) : Prop where
  ex : ∃ (c : V) (cv : Value), (∀ pos, PE X (.Name x pos) (tC c)) ∧ (∀ u, RelV c u → u = cv) ∧ PySem.W.kitOne X.K (.ref D) cv = some b
theorem clsN_own {D Ci : Addr} {x : Str} {b : Bool} (hm : X.mg x = some (.ref Ci)) (hk : PySem.W.kitOne X.K (.ref D) (.ref Ci) = some b) (hg : Gl X x := by rfl) (hd : (x == ("__debug__" : Str)) = false := by decide) : ClsN X D x b :=
  ⟨.ref Ci, .ref Ci, fun pos => pe_glob hg hm rfl hd, fun u h => h, hk⟩
theorem clsN_bltn {D : Addr} {x : Str} {T : String} {b : Bool} (hm : X.mg x = none) (hv : bootBuiltins x = some (.type T)) (hk : PySem.W.kitOne X.K (.ref D) (.type T) = some b) (hg : Gl X x := by rfl) (hn : x ≠ "__name__" := by decide) (hd : (x == ("__debug__" : Str)) = false := by decide) : ClsN X D x b :=
  ⟨.ty T, .type T, fun pos => pe_bltn hg hm hv rfl hn hd, fun u h => h, hk⟩
theorem de_isE {a D : Addr} {oe : Obj} {e : Expr} {x : Str} {b : Bool} {f : Gm → R} {p p2 pos : Pos} (hp : (a, oe) ∈ X.pn) (EC : ExcC X.K D) (hz : L2.Zc (.ref D) none oe) (hf : ∃ vs, oe.data = .fields vs) (hfa : ∀ x a', C.fa x = some a' → a' = a) (hc : ClsN X D x b) (hm1 : X.mg "isinstance" = none) (ha : DE X C W e f) (hg1 : Gl X "isinstance" := by rfl)
    (he : starEach [e, .Name x p2] X.env = (false, eval e X.env) :: starEach [.Name x p2] X.env := by rfl) (he2 : starEach [.Name x p2] X.env = (false, eval (.Name x p2) X.env) :: starEach [] X.env := by rfl)
    (hpl : (backTo pos (starEach [.Name x p2] X.env)).any (·.1) = false := by rfl) : DE X C W (.Call (.Name "isinstance" p) [e, .Name x p2] [] pos) (eIsE b f) := by
  obtain ⟨c, cv, hpe, h1, h2⟩ := hc.ex
  refine PE.to (pe_callB (call_isP hp EC hz hf) hg1 hm1 PyProof.Rows.boot_isinstance (pa_cons ha (pa_cons (hpe p2) pa_nil he2) he) (by decide) (by decide) he hpl) fun σ H Q ⟨Γ, P0, H0, E, g⟩ => ?_
  refine ⟨Γ, P0, H0, E, Got.bind repD_mono g fun d v H1 _ e1 t1 r1 g1 => ?_⟩
  cases d with
  | fn z =>
    obtain ⟨a', rfl, h3⟩ := rp_fn r1
    obtain rfl := hfa _ _ h3
    exact ⟨c, cv, b, rfl, h1, h2, g1.ok1 t1 (.bl _)⟩
  | _ => exact g1.elim
end
end DL

set_option Elab.async false
set_option linter.all false
set_option maxRecDepth 100000
set_option maxHeartbeats 4000000
namespace DL
open PySem PySem.Spec PyProof.Rows L2 LamX

/-! ### enumerate(tuple) -/
theorem meets_enumerate_new1 {v : Value} {o : Obj} {H : Heap → Prop} (B : Begins v o H) :
    Meets (Builtin.«enumerate.__new__» ⟨[.type "enumerate", v], []⟩) (fun _ R s => H s.heap ∧
      R (.ok (.ret (.ref (s.heap.push o).objs.size))) { s with heap := (s.heap.push o).push { cls := .type "enumerate", data := .fields #[.none, .bool false, .ref s.heap.objs.size, rawInt 0, .none, .none] } }) :=
  .of_wp fun prog w A R s h => by
    obtain ⟨hp, g, d, tk, os⟩ := s; obtain ⟨h1, h⟩ := h
    have hsub := sub_enumerate
    have q1 : ∀ {A' : Around} {E : Value → Shared → Prop} {Q : Value → Shared → Prop}, Q (.ref hp.objs.size) ⟨(hp.push o), g, d, tk, os⟩ → wpAny (model prog w) A' (pyIter v) Q E ⟨hp, g, d, tk, os⟩ :=
      fun q => B.iter prog w _ _ ⟨hp, g, d, tk, os⟩ _ h1 q
    wp_walk using q1
    refine wpAny_stack_any fun st => wpAny_pure ?_
    split
    · rename_i c _ _ _ _ _
      cases (c == Value.type "enumerate")
      · wp_walk using q1
        exact ⟨_, rfl, h⟩
      · wp_walk using q1
        exact ⟨_, rfl, h⟩
    · wp_walk using q1
      exact ⟨_, rfl, h⟩
section
variable {prog : Program} {w : World} {A : Around} {E : Value → Shared → Prop} {s : Shared}
theorem call_enum1 {v : Value} {o : Obj} {H : Heap → Prop} {Q : Value → Shared → Prop} (B : Begins v o H) (h1 : H s.heap)
    (h : ∀ h', IsEnum h' (s.heap.objs.size + 1) s.heap.objs.size 0 .none → h'.get? s.heap.objs.size = some o → h'.objs.size = s.heap.objs.size + 2 →
      (∀ b o, s.heap.get? b = some o → h'.get? b = some o) → Q (.ref (s.heap.objs.size + 1)) { s with heap := h' }) :
    wpAny (model prog w) A (call (.type "enumerate") [v]) Q E s := by
  refine callType_new F.called_enumerate (by decide) (F.typeCall_enumerate_1 _) (F.newCall_enumerate_1 _) (fun obj => F.args_object_init_2 obj _) F.entry_enumerate_new
    (meets_enumerate_new1 B) ⟨h1, ?_⟩
  have hz : (s.heap.push o).objs.size = s.heap.objs.size + 1 := Heap.size_push ..
  show _ ∧ _
  rw [hz]
  have he : IsEnum ((s.heap.push o).push { cls := .type "enumerate", data := .fields #[.none, .bool false, .ref s.heap.objs.size, rawInt 0, .none, .none] }) (s.heap.objs.size + 1) s.heap.objs.size 0 .none := by
    have := Heap.get?_push_size (s.heap.push o) (o := { cls := .type "enumerate", data := .fields #[.none, .bool false, .ref s.heap.objs.size, rawInt 0, .none, .none] }) rfl
    rw [hz] at this; exact this
  refine ⟨⟨_, he, rfl⟩, h _ he (Heap.get?_push_of_some _ (Heap.get?_push_size _ B.free)) (by rw [Heap.size_push, hz]) fun b o x => Heap.get?_push_of_some _ (Heap.get?_push_of_some _ x)⟩
theorem pyNext_enumT_end {e it l : Addr} {i : Nat} {items : Array Value} {old : Value} {Q : Option Value → Shared → Prop} (hh : A.handled = none)
    (he : IsEnum s.heap e it i old) (hit : s.heap.IsTupleIter it l i) (hl : s.heap.IsTuple l items) (hx : items[i]? = none)
    (hQ : ∀ h', Heap.ExtBut it s.heap h' → Q none { s with heap := h' }) : wpAny (model prog w) A (pyNext (.ref e)) Q E s := by
  have hT : s.TypeIs (.ref e) "enumerate" := ⟨_, he, rfl⟩
  unfold pyNext
  refine wpAny_bind (wpAny_attempt (wpAny_callSpecial?_slot (name := Str.ofString "__next__") hT F.slot_enumerate_next
    (wpAny_call_entry F.slot_enumerate_next hT F.entry_enumerate_next ?_ (F.args_enumerate_next_1 _))))
  show wpAny _ _ (field (.ref e) 2 >>= _) _ _ _
  refine wpAny_bind (wpAny_field he rfl (x := .ref it) rfl ?_)
  refine wpAny_bind (RZ.nextOf_tuple_end hh hit hl hx fun h' x he' hx' => ?_)
  obtain ⟨o, ho, hc⟩ := hx'
  refine wpAny_bind (wpAny_isInstance (T := "StopIteration") (b := true) ⟨o, ho, hc⟩ isSubtype_stop ?_)
  exact wpAny_pure (hQ _ he')
end
def IteT (K : PySem.W.Frag) (a : Addr) : It :=
  ⟨fun i H => ∃ (xs : List V) (x : V), SqT K H a xs ∧ xs[i]? = some x, fun i H v H' => ∃ T x, v = .ref T ∧ H T = none ∧ H' = upd H T (.tup [.int (i : Nat), x]) ∧ ∀ xs, SqT K H a xs → xs[i]? = some x, fun i H => ∃ xs : List V, SqT K H a xs ∧ xs.length ≤ i⟩
theorem turn_enumT {P : Program} {w : World} {K : PySem.W.Frag} {elts : List Expr} {kk : Nat} {tpos : Pos} (a e it : Addr) :
    Turn P w K (.Tuple elts kk tpos) (IteT K a) [e, it] e (fun i h => (∃ old, IsEnum h e it ((i : Nat) : Int) old) ∧ h.IsTupleIter it a i ∧ e ≠ it) where
  mem := by simp
  obj := fun i h st b hb => by
    obtain ⟨⟨old, he⟩, ⟨o, ho, hc, hd⟩, _⟩ := st
    have e' : b = e ∨ b = it := by simpa using hb
    rcases e' with z | z
    · rw [z]; exact ⟨_, he, fun v q => nomatch q⟩
    · rw [z]; exact ⟨o, ho, fun v q => by rw [hd] at q; cases q⟩
  keep := fun i h h' st k => let ⟨⟨old, he⟩, hi, hne⟩ := st; ⟨⟨old, k e (by simp) _ he⟩, hi.at fun o q => k it (by simp) o q, hne⟩
  item := by
    intro X hP hw hK hc i pins s σ H E I hf st hg
    subst hP hw hK
    obtain ⟨⟨old, he⟩, hit, hne⟩ := st
    obtain ⟨xs, x, hq, hx⟩ := hg
    obtain ⟨its, rv, p, hz⟩ := I.tuple hq
    obtain ⟨u, hu, ru⟩ := rv.get hx
    have hp : s.heap.IsTuple a its.toArray := p
    have hel : e < s.heap.objs.size := Heap.lt_size he
    have hil : it < s.heap.objs.size := by obtain ⟨_, q, _⟩ := hit; exact Heap.lt_size q
    have hai : a ≠ it := fun z => by
      obtain ⟨o1, q1, c1, _⟩ := hit
      obtain ⟨o2, q2, c2, _⟩ := hp
      rw [z, q1] at q2
      cases q2
      rw [c1] at c2
      injection c2 with c2
      exact absurd c2 (by decide)
    have hae : e ≠ a := fun z => by
      obtain ⟨o2, q2, c2, _⟩ := hp
      have he' := he
      unfold IsEnum at he'
      rw [z, q2] at he'
      cases he'
      injection c2 with c2
      exact absurd c2 (by decide)
    have hlt : i < its.toArray.size := by
      obtain ⟨h1, _⟩ := List.getElem?_eq_some_iff.mp hu
      simpa using h1
    refine wpAny_pyNext_enum_itemC (D := Draws.tuple (A := X.A.in1) (I.ok.hd hc) it a hai its.toArray) he ⟨hit, hp⟩ hlt hne (by simp [hne, hae]) fun u' h' tk hu' ho hst' hT hsz hk => ?_
    have hit' := hst'.1
    have euu : u' = u := by
      have h2 : its.toArray[i]? = some u := by simpa using hu
      rw [h2] at hu'
      exact (Option.some.inj hu').symm
    subst euu
    refine ⟨_, rfl, wpAny_letOwnedTupleGo_enum (s := { s with heap := h', toks := tk + 1 }) ho fun h'' he' sb => ?_⟩
    have hT2 : h''.get? s.heap.objs.size = some { cls := .type "tuple", data := .seq #[.int i tk, u'] } := (sb.2 _ (Nat.ne_of_gt hel)).trans hT
    have new : ObjOk X.prog X.w (upd H s.heap.objs.size (.tup [.int (i : Nat), x])) h'' s.heap.objs.size (.tup [.int (i : Nat), x]) :=
      ⟨by show 2 ≤ sizeLine; decide, [.int i tk, u'], .cons ⟨_, rfl⟩ (.cons ru .nil), ⟨_, hT2, rfl, _, rfl⟩⟩
    have I1 : Inv X pins σ (upd H s.heap.objs.size (.tup [.int (i : Nat), x])) { s with heap := h'', toks := tk + 1 } :=
      I.turnedNew (ch := [e, it]) (fun b ob hb q => (sb.2 b (fun z => hb (by simp [z]))).trans (hk b ob (fun z => hb (by simp [z])) (fun z => hb (by simp [z])) q)) hf (Nat.le_refl _) new
    refine ⟨.ref s.heap.objs.size, _, I1, rfl, ⟨_, x, rfl, I.hok.fresh (Nat.le_refl _), rfl, fun ys hy => by rw [I.tuple_inj hy hq]; exact hx⟩, ⟨⟨u', ?_⟩, hit'.at fun o q => (sb.2 it (Ne.symm hne)).trans q, hne⟩, fun b hb => ?_⟩
    · have e1 : ((i + 1 : Nat) : Int) = (i : Int) + 1 := by omega
      rw [e1]; exact he'
    · have hb' : b < s.heap.objs.size := by
        have e' : b = e ∨ b = it := by simpa using hb
        rcases e' with z | z
        · rw [z]; exact hel
        · rw [z]; exact hil
      rw [upd_ne (Nat.ne_of_lt hb')]
      exact (hf b hb).1
  done := by
    intro X hP hw hK hc i pins s σ H E I hf st hg
    subst hP hw hK
    obtain ⟨⟨old, he⟩, hit, hne⟩ := st
    obtain ⟨xs, hq, hx⟩ := hg
    obtain ⟨its, rv, p, hz⟩ := I.tuple hq
    obtain ⟨f0, f1, f2, f3, f4, f5⟩ := hf it (by simp)
    have hl := rv.length
    exact pyNext_enumT_end (I.ok.hd hc) he hit (show s.heap.IsTuple a its.toArray from p) (by simp; omega) fun h' eb => ⟨rfl, I.turned (t' := s.toks) (fun b o hb q => eb b o hb q) f0 f1 f3 f4 f5⟩
  self := fun A i s Q E st h => let ⟨⟨_, he⟩, _⟩ := st; wpAny_pyIter_enum he h
def iEnumT (K : PySem.W.Frag) (ta : TA) : TI := fun σ H R => ta σ H fun vs H1 => ∃ a xs, vs = [.ref a] ∧ SqT K H1 a xs ∧ R (IteT K a) H1
theorem pi_enumT {X : Cx} {e : Expr} {ta : TA} {p pos tpos : Pos} {elts : List Expr} {kk : Nat} (hg : Gl X "enumerate") (hm : X.mg "enumerate" = none) (ha : PA X [e] ta) (hs : starEach [e] X.env = [(false, eval e X.env)] := by rfl) :
    PI X (.Tuple elts kk tpos) (.Call (.Name "enumerate" p) [e] [] pos) (iEnumT X.K ta) := by
  refine ⟨fun pins s σ H R I h => ?_⟩
  refine Call_ (ld_blt I hg hm boot_enumerate (PyProof.Rows.callWith_type1 (thn (ha.run pos pins s σ H _ I h) fun us s1 ⟨vs, H1, I1, r1, q1⟩ => ?_) hs rfl))
  obtain ⟨a, xs, ex, hq, q⟩ := q1
  subst ex
  cases r1 with
  | cons r rr =>
    cases rr
    cases r
    obtain ⟨its, rv, p', hz⟩ := I1.tuple hq
    refine call_enum1 (begins_tuple a its.toArray) p' fun h' he hit hsz hk => wpAny_pyIter_enum he ?_
    have I2 : Inv X pins σ H1 { s1 with heap := h' } := I1.kept (t' := s1.toks) hk
    refine ⟨s1.heap.objs.size + 1, [s1.heap.objs.size + 1, s1.heap.objs.size], _, _, H1, rfl, I2, turn_enumT a (s1.heap.objs.size + 1) s1.heap.objs.size, ⟨⟨.none, he⟩, ⟨_, hit, rfl, rfl⟩, Nat.succ_ne_self _⟩, fun b hb => ?_, q⟩
    have e' : b = s1.heap.objs.size + 1 ∨ b = s1.heap.objs.size := by simpa using hb
    have hle : s1.heap.objs.size ≤ b := by
      rcases e' with z | z
      · rw [z]; exact Nat.le_add_right _ _
      · rw [z]; exact Nat.le_refl _
    exact I1.fpOk hle (I1.hok.fresh hle)
end DL

set_option Elab.async false
set_option linter.all false
set_option maxRecDepth 100000
set_option maxHeartbeats 4000000
namespace DL
open PySem PySem.Spec PyProof.Rows L2 LamX
/-! ### zip of a tuple with a list, walked -/
def ItzM (K : PySem.W.Frag) (a b : Addr) : It :=
  ⟨fun i H => ∃ (xs ys : List V) (x y : V), SqT K H a xs ∧ SqL K H b ys ∧ xs[i]? = some x ∧ ys[i]? = some y,
   fun i H v H' => ∃ T x y, v = .ref T ∧ H T = none ∧ H' = upd H T (.tup [x, y]) ∧ (∀ xs, SqT K H a xs → xs[i]? = some x) ∧ ∀ ys, SqL K H b ys → ys[i]? = some y,
   fun i H => ∃ xs ys : List V, SqT K H a xs ∧ SqL K H b ys ∧ i ≤ xs.length ∧ i ≤ ys.length ∧ (i = xs.length ∨ i = ys.length)⟩
theorem turn_zipM {P : Program} {w : World} {K : PySem.W.Frag} {elts : List Expr} {kk : Nat} {tpos : Pos} {a b z TI TO i1 i2 : Addr} (S : ZipSep2 z TI TO i1 i2 [i1, a] [i2, b]) :
    Turn P w K (.Tuple elts kk tpos) (ItzM K a b) [z, TI, TO, i1, i2] z (fun i h => IsZip h z TI TO .none ∧ IsPair h TI (.ref i1) (.ref i2) ∧ (∃ x y, IsPair h TO x y) ∧ h.IsTupleIter i1 a i ∧ h.IsListIter i2 b i) := by
  have ai : a ≠ i1 → b ≠ i2 → True := fun _ _ => trivial
  have five : ∀ {c : Addr}, c ∈ [z, TI, TO, i1, i2] → c = z ∨ c = TI ∨ c = TO ∨ c = i1 ∨ c = i2 := fun {c} h => by simpa using h
  have live : ∀ {i : Nat} {h : Heap}, (IsZip h z TI TO .none ∧ IsPair h TI (.ref i1) (.ref i2) ∧ (∃ x y, IsPair h TO x y) ∧ h.IsTupleIter i1 a i ∧ h.IsListIter i2 b i) → ∀ c ∈ [z, TI, TO, i1, i2], ∃ o, h.get? c = some o ∧ ∀ v, o.data ≠ .cell v := fun {i h} st c hc => by
    obtain ⟨q1, q2, ⟨x, y, q3⟩, ⟨o1, e1, _, d1⟩, o2, e2, _, d2⟩ := st
    rcases five hc with rfl | rfl | rfl | rfl | rfl
    · exact ⟨_, q1, fun v e => nomatch e⟩
    · exact ⟨_, q2, fun v e => nomatch e⟩
    · exact ⟨_, q3, fun v e => nomatch e⟩
    · exact ⟨o1, e1, fun v e => by rw [d1] at e; cases e⟩
    · exact ⟨o2, e2, fun v e => by rw [d2] at e; cases e⟩
  have nz : i1 ≠ z ∧ i2 ≠ z ∧ TI ≠ TO ∧ TI ≠ i1 ∧ TI ≠ i2 ∧ TI ≠ z ∧ TO ≠ z := ⟨Ne.symm S.zi1, Ne.symm S.zi2, S.TITO, S.TIi1, S.TIi2, S.TIz, S.TOz⟩
  refine ⟨by simp, fun i h st => live st, fun i h h' st k => ?_, ?_, ?_, fun A i s Q E st q => wpAny_pyIter_zip st.1 q⟩
  · obtain ⟨q1, q2, ⟨x, y, q3⟩, q4, q5⟩ := st
    exact ⟨k z (by simp) _ q1, k TI (by simp) _ q2, ⟨x, y, k TO (by simp) _ q3⟩, q4.at fun o e => k i1 (by simp) o e, q5.at fun o e => k i2 (by simp) o e⟩
  · intro X hP hW hK hc i pins s σ H E I hf st hg
    subst hP hW hK
    have lv := live st
    obtain ⟨q1, q2, ⟨x0, y0, q3⟩, q4, q5⟩ := st
    obtain ⟨xs, ys, x, y, hqx, hqy, hx, hy⟩ := hg
    obtain ⟨its, rv, p, _⟩ := I.tuple hqx
    obtain ⟨its2, rv2, p2, _⟩ := I.list hqy
    obtain ⟨u, hu, ru⟩ := rv.get hx
    obtain ⟨u2, hu2, ru2⟩ := rv2.get hy
    have hh := I.ok.hd hc
    have li : i < its.length := (List.getElem?_eq_some_iff.mp hu).1
    have li2 : i < its2.length := (List.getElem?_eq_some_iff.mp hu2).1
    have na : a ≠ i1 := fun e => by
      obtain ⟨o1, e1, c1, _⟩ := q4
      obtain ⟨o2, e2, c2, _⟩ := p
      rw [e, e1] at e2; cases e2
      rw [c1] at c2
      injection c2 with c2
      exact absurd c2 (by decide)
    have nb : b ≠ i2 := fun e => by
      obtain ⟨o1, e1, c1, _⟩ := q5
      obtain ⟨o2, e2, c2, _⟩ := p2.isList
      rw [e, e1] at e2; cases e2
      rw [c1] at c2
      injection c2 with c2
      exact absurd c2 (by decide)
    have hzl : z < s.heap.objs.size := Heap.lt_size q1
    refine wpAny_pyNext_zipD2_item (i := i) S (Draws.tuple (show X.A.in1.handled = none from hh) i1 a na its.toArray) (Draws.list (show X.A.in1.handled = none from hh) i2 b nb its2.toArray) q1 q2 q3 ⟨q4, p⟩ ⟨q5, p2.isList⟩ (by simpa using li) (by simpa using li2) fun v1 v2 h' tk hv1 hv2 z' TO' st1 st2 hT hsz hk => ?_
    have ev1 : v1 = u := by
      have e : its[i]? = some v1 := by simpa using hv1
      rw [hu] at e; exact (Option.some.inj e).symm
    have ev2 : v2 = u2 := by
      have e : its2[i]? = some v2 := by simpa using hv2
      rw [hu2] at e; exact (Option.some.inj e).symm
    subst ev1 ev2
    refine ⟨_, rfl, wpAny_letOwnedTupleGo_zip (s := { s with heap := h', toks := tk }) z' fun h2 z2 sb => ?_⟩
    have hT2 : h2.get? s.heap.objs.size = some { cls := .type "tuple", data := .seq #[v1, v2] } := (sb.2 _ (Nat.ne_of_gt hzl)).trans hT
    have new : ObjOk X.prog X.w (upd H s.heap.objs.size (.tup [x, y])) h2 s.heap.objs.size (.tup [x, y]) := ⟨by show 2 ≤ sizeLine; decide, [v1, v2], .cons ru (.cons ru2 .nil), ⟨_, hT2, rfl, _, rfl⟩⟩
    have out : ∀ {c : Addr}, c ∉ [z, TI, TO, i1, i2] → c ≠ z ∧ c ≠ TO ∧ c ≠ i1 ∧ c ≠ i2 := fun {c} hb => ⟨fun e => hb (by simp [e]), fun e => hb (by simp [e]), fun e => hb (by simp [e]), fun e => hb (by simp [e])⟩
    have J : Inv X pins σ (upd H s.heap.objs.size (.tup [x, y])) { s with heap := h2, toks := tk } :=
      I.turnedNew (t' := tk) (ch := [z, TI, TO, i1, i2]) (fun c o hb e => let ⟨n1, n2, n3, n4⟩ := out hb; (sb.2 c n1).trans (hk c o n1 n2 n3 n4 e)) hf (Nat.le_refl _) new
    refine ⟨.ref s.heap.objs.size, _, J, rfl, ⟨_, x, y, rfl, I.hok.fresh (Nat.le_refl _), rfl, fun l hl => by rw [I.tuple_inj hl hqx]; exact hx, fun l hl => by rw [I.list_inj hl hqy]; exact hy⟩, ⟨z2, (sb.2 _ nz.2.2.2.2.2.1).trans (hk _ _ nz.2.2.2.2.2.1 nz.2.2.1 nz.2.2.2.1 nz.2.2.2.2.1 q2), ⟨v1, v2, (sb.2 _ nz.2.2.2.2.2.2).trans TO'⟩, st1.1.at fun o e => (sb.2 _ nz.1).trans e, st2.1.at fun o e => (sb.2 _ nz.2.1).trans e⟩, fun c hcm => ?_⟩
    obtain ⟨o, e, _⟩ := lv c hcm
    rw [upd_ne (Nat.ne_of_lt (Heap.lt_size e))]
    exact (hf c hcm).1
  · intro X hP hW hK hc i pins s σ H E I hf st hg
    subst hP hW hK
    obtain ⟨q1, q2, ⟨x0, y0, q3⟩, q4, q5⟩ := st
    obtain ⟨xs, ys, hqx, hqy, le1, le2, hend⟩ := hg
    obtain ⟨its, rv, p, _⟩ := I.tuple hqx
    obtain ⟨its2, rv2, p2, _⟩ := I.list hqy
    have hh := I.ok.hd hc
    have na : a ≠ i1 := fun e => by
      obtain ⟨o1, e1, c1, _⟩ := q4
      obtain ⟨o2, e2, c2, _⟩ := p
      rw [e, e1] at e2; cases e2
      rw [c1] at c2
      injection c2 with c2
      exact absurd c2 (by decide)
    have nb : b ≠ i2 := fun e => by
      obtain ⟨o1, e1, c1, _⟩ := q5
      obtain ⟨o2, e2, c2, _⟩ := p2.isList
      rw [e, e1] at e2; cases e2
      rw [c1] at c2
      injection c2 with c2
      exact absurd c2 (by decide)
    have l1 := rv.length
    have l2 := rv2.length
    have fin : ∀ (h' : Heap) (tk : Nat), (∀ c o, c ≠ z → c ≠ TO → c ≠ i1 → c ≠ i2 → s.heap.get? c = some o → h'.get? c = some o) → L2.Inv X pins σ H { s with heap := h', toks := tk } := fun h' tk hk => I.turnedL (t' := tk) (ch := [z, TI, TO, i1, i2]) (fun c o hb e => hk c o (fun q => hb (by simp [q])) (fun q => hb (by simp [q])) (fun q => hb (by simp [q])) (fun q => hb (by simp [q])) e) hf
    exact wpAny_pyNext_zipD2_end (i := i) S (Draws.tuple (show X.A.in1.handled = none from hh) i1 a na its.toArray) (Draws.list (show X.A.in1.handled = none from hh) i2 b nb its2.toArray) q1 q2 q3 ⟨q4, p⟩ ⟨q5, p2.isList⟩ (by simp; omega) (by simp; omega) (by simp; omega) fun h' tk hk => ⟨rfl, fin h' tk hk⟩
def iZipM (K : PySem.W.Frag) (ta : TA) : TI := fun σ H R => ta σ H fun vs H1 => ∃ a b xs ys, vs = [.ref a, .ref b] ∧ SqT K H1 a xs ∧ SqL K H1 b ys ∧ R (ItzM K a b) H1
theorem pi_zipM {X : Cx} {e e2 : Expr} {ta : TA} {p pos tpos : Pos} {elts : List Expr} {kk : Nat} (hg : Gl X "zip") (hm : X.mg "zip" = none) (ha : PA X [e, e2] ta)
    (hs : starEach [e, e2] X.env = (false, eval e X.env) :: starEach [e2] X.env := by rfl) (hpl : (backTo pos (starEach [e2] X.env)).any (·.1) = false := by rfl) : PI X (.Tuple elts kk tpos) (.Call (.Name "zip" p) [e, e2] [] pos) (iZipM X.K ta) := by
  constructor
  intro pins s σ H R I h
  refine Call_ (ld_blt I hg hm PyProof.Rows.boot_zip (PyProof.Rows.callWith_type1 (thn (ha.run pos pins s σ H _ I h) fun us s1 ⟨vs, H1, I1, r1, a, b, xs, ys, ex, hqx, hqy, q⟩ => ?_) hs hpl))
  subst ex
  obtain ⟨u1, u2, rfl, ra, rb⟩ := vals2 r1
  cases ra
  cases rb
  obtain ⟨its, rv, p1, _⟩ := I1.tuple hqx
  obtain ⟨its2, rv2, p2, _⟩ := I1.list hqy
  have la : a < s1.heap.objs.size := by obtain ⟨o, e, _⟩ := p1; exact Heap.lt_size e
  have lb : b < s1.heap.objs.size := by obtain ⟨o, e, _⟩ := p2.isList; exact Heap.lt_size e
  refine zip_begins2 (begins_tuple a its.toArray) (begins_list b its2.toArray) p1 p2.isList fun h' hz hTI hTO e1 e2 hsz k => wpAny_pyIter_zip hz ?_
  have S : ZipSep2 (s1.heap.objs.size + 4) (s1.heap.objs.size + 2) (s1.heap.objs.size + 3) s1.heap.objs.size (s1.heap.objs.size + 1) [s1.heap.objs.size, a] [s1.heap.objs.size + 1, b] :=
    zip_sep2 (fun c hc => by rw [List.mem_singleton.mp hc]; exact la) (fun c hc => by rw [List.mem_singleton.mp hc]; exact lb)
  refine ⟨s1.heap.objs.size + 4, [s1.heap.objs.size + 4, s1.heap.objs.size + 2, s1.heap.objs.size + 3, s1.heap.objs.size, s1.heap.objs.size + 1], _, _, H1, rfl, I1.kept (t' := s1.toks) k, turn_zipM S, ⟨hz, hTI, ⟨_, _, hTO⟩, ⟨_, e1, rfl, rfl⟩, ⟨_, e2, rfl, rfl⟩⟩, fun c hcm => ?_, q⟩
  have hle : s1.heap.objs.size ≤ c := by
    simp only [List.mem_cons, List.not_mem_nil, or_false] at hcm
    rcases hcm with q | q | q | q | q <;> rw [q] <;> first | exact Nat.le_refl _ | exact Nat.le_add_right _ _
  exact I1.fpOk hle (I1.hok.fresh hle)
theorem walk_zipM {K : PySem.W.Frag} {a b : Addr} {xs ys : List V} {n : Nat} (hn : n = min xs.length ys.length) : Walk (ItzM K a b) n (fun H => SqT K H a xs ∧ SqL K H b ys) (YPair (fun i => xs[i]?) (fun i => ys[i]?)) := by
  subst hn
  refine ⟨fun i H hi hG => ?_, fun H hG => ⟨xs, ys, hG.1, hG.2, by omega, by omega, by omega⟩, fun i H v H' hi hG y => ?_⟩
  · exact ⟨xs, ys, xs[i]'(by omega), ys[i]'(by omega), hG.1, hG.2, List.getElem?_eq_getElem (by omega), List.getElem?_eq_getElem (by omega)⟩
  · obtain ⟨T, x, y, rfl, hT, rfl, f1, f2⟩ := y
    exact ⟨T, x, y, rfl, hT, rfl, f1 xs hG.1, f2 ys hG.2⟩
end DL

set_option Elab.async false
set_option linter.all false
set_option maxRecDepth 100000
set_option maxHeartbeats 4000000
namespace DL
open PySem PySem.Spec PyProof.Rows L2 LamX
/-- pairs with their places -/
def enumL : Nat → List D → List D
  | _, [] => []
  | i, d :: r => .tup [.int (i : Nat), d] :: enumL (i + 1) r
theorem enumL_len : ∀ (ds : List D) (i : Nat), (enumL i ds).length = ds.length
  | [], _ => rfl
  | _ :: r, i => by unfold enumL; simp only [List.length_cons, enumL_len r]
theorem enumL_get : ∀ (ds : List D) (k i : Nat) (d : D), (enumL k ds)[i]? = some d → ∃ d', ds[i]? = some d' ∧ d = .tup [.int ((k + i : Nat) : Int), d']
  | [], k, i, d, h => by unfold enumL at h; simp at h
  | x :: r, k, 0, d, h => by
    unfold enumL at h
    simp only [List.getElem?_cons_zero, Option.some.injEq] at h
    exact ⟨x, rfl, h.symm⟩
  | x :: r, k, i + 1, d, h => by
    unfold enumL at h
    simp only [List.getElem?_cons_succ] at h
    obtain ⟨d', h1, h2⟩ := enumL_get r (k + 1) i d h
    exact ⟨d', by simpa using h1, by rw [h2, show k + 1 + i = k + (i + 1) by omega]⟩
def zipL : List D → List D → List D
  | x :: r, y :: q => .tup [x, y] :: zipL r q
  | _, _ => []
theorem zipL_len : ∀ (xs ys : List D), (zipL xs ys).length = min xs.length ys.length
  | [], ys => by unfold zipL; simp
  | x :: r, [] => by unfold zipL; simp
  | x :: r, y :: q => by unfold zipL; simp only [List.length_cons, zipL_len r q]; omega
theorem zipL_get : ∀ (xs ys : List D) (i : Nat) (d : D), (zipL xs ys)[i]? = some d → ∃ x y, xs[i]? = some x ∧ ys[i]? = some y ∧ d = .tup [x, y]
  | [], ys, i, d, h => by unfold zipL at h; simp at h
  | x :: r, [], i, d, h => by unfold zipL at h; simp at h
  | x :: r, y :: q, 0, d, h => by
    unfold zipL at h
    simp only [List.getElem?_cons_zero, Option.some.injEq] at h
    exact ⟨x, y, rfl, rfl, h.symm⟩
  | x :: r, y :: q, i + 1, d, h => by
    unfold zipL at h
    simp only [List.getElem?_cons_succ] at h
    obtain ⟨a, b, h1, h2, h3⟩ := zipL_get r q i d h
    exact ⟨a, b, by simpa using h1, by simpa using h2, h3⟩
section
variable {K : PySem.W.Frag} {C : Cn}
theorem pair_rp {M : Addr → Prop} {fa : Str → Option Addr} {H2 H3 : Hp} {T : Addr} {x y : V} {dx dy : D} (hT : H2 T = none) (e : H3 = upd H2 T (.tup [x, y])) (mm : MutM M H2) (rx : Rp K fa (mask M H2) x dx) (ry : Rp K fa (mask M H2) y dy) : Rp K fa (mask M H3) (.ref T) (.tup [dx, dy]) := by
  subst e
  exact Rp.tup (mask_some.mpr ⟨fun m => not_solid hT (mm.solid T m), upd_same⟩) (RpL.ext (mask_same (ext_new hT)) _ _ (.cons rx (.cons ry .nil)))
theorem wk_enumG {B : Hp} {J : It} {G : Hp → Prop} {xs : List V} {ds : List D} (w : Walk J xs.length G (YPair (fun i => some (.int (i : Nat))) (fun i => xs[i]?))) (hG : ∀ H2, ExtN B H2 → G H2) (r : RpL K C.fa B xs ds) : Wk K C B J (enumL 0 ds) := by
  have hl : (enumL 0 ds).length = xs.length := by rw [enumL_len, r.length]
  refine ⟨G, _, by rw [hl]; exact w, hG, fun i d H2 x H3 hd e y => ?_⟩
  obtain ⟨T, a, b, rfl, hT, hH, ha, hb⟩ := y
  dsimp only at ha hb
  refine ⟨by rw [hH]; exact ext_new hT, fun t => by rw [hH]; exact tabs_new t hT, fun M' e' mm => ?_⟩
  obtain ⟨d', h1, rfl⟩ := enumL_get _ _ _ _ hd
  obtain ⟨v, hv, rv⟩ := r.get h1
  rw [hb] at hv
  cases hv
  cases ha
  rw [Nat.zero_add]
  exact pair_rp hT hH mm (.int _) (rv.ext e' _ _)
theorem wk_zipG {B : Hp} {J : It} {G : Hp → Prop} {xs ys : List V} {ds es : List D} (w : Walk J (min xs.length ys.length) G (YPair (fun i => xs[i]?) (fun i => ys[i]?))) (hG : ∀ H2, ExtN B H2 → G H2) (r : RpL K C.fa B xs ds) (q : RpL K C.fa B ys es) : Wk K C B J (zipL ds es) := by
  have hl : (zipL ds es).length = min xs.length ys.length := by rw [zipL_len, r.length, q.length]
  refine ⟨G, _, by rw [hl]; exact w, hG, fun i d H2 x H3 hd e y => ?_⟩
  obtain ⟨T, a, b, rfl, hT, hH, ha, hb⟩ := y
  dsimp only at ha hb
  refine ⟨by rw [hH]; exact ext_new hT, fun t => by rw [hH]; exact tabs_new t hT, fun M' e' mm => ?_⟩
  obtain ⟨d1, d2, h1, h2, rfl⟩ := zipL_get _ _ _ _ hd
  obtain ⟨v, hv, rv⟩ := r.get h1
  obtain ⟨v2, hv2, rv2⟩ := q.get h2
  rw [ha] at hv
  rw [hb] at hv2
  cases hv
  cases hv2
  exact pair_rp hT hH mm (rv.ext e' _ _) (rv2.ext e' _ _)
theorem walk_enumT {a : Addr} {xs : List V} : Walk (IteT K a) xs.length (fun H => SqT K H a xs) (YPair (fun i => some (.int (i : Nat))) (fun i => xs[i]?)) := by
  refine ⟨fun i _ hi q => ⟨xs, xs[i], q, by simp [hi]⟩, fun _ q => ⟨xs, q, Nat.le_refl _⟩, fun i H v H' _ q y => ?_⟩
  obtain ⟨T, x, h1, h2, h3, h4⟩ := y
  exact ⟨T, .int (i : Nat), x, h1, h2, h3, rfl, h4 xs q⟩
theorem walk_zipT {a b : Addr} {xs ys : List V} {n : Nat} (hn : n = min xs.length ys.length) : Walk (RZ.ItzT K a b) n (fun H => SqT K H a xs ∧ SqT K H b ys) (YPair (fun i => xs[i]?) (fun i => ys[i]?)) := by
  subst hn
  refine ⟨fun i _ hi q => ?_, fun _ q => ⟨xs, ys, q.1, q.2, by omega⟩, fun i H v H' _ q y => ?_⟩
  · have h1 : i < xs.length := by omega
    have h2 : i < ys.length := by omega
    exact ⟨xs, ys, xs[i], ys[i], q.1, q.2, by simp [h1], by simp [h2]⟩
  · obtain ⟨T, x, z, h1, h2, h3, h4, h5⟩ := y
    exact ⟨T, x, z, h1, h2, h3, h4 xs q.1, h5 ys q.2⟩
end
/-- enumerate of a list or a tuple -/
def enA : List D → Rg (List D)
  | [.lst ds] => .ok (enumL 0 ds)
  | [.tup ds] => .ok (enumL 0 ds)
  | _ => .bad
def iEn (fs : Gm → Rg (List D)) : Gm → Rg (List D) := fun Γ => (fs Γ).bind enA
/-- zip of two lists or tuples -/
def zpA : List D → Rg (List D)
  | [.lst ds, .lst es] => .ok (zipL ds es)
  | [.tup ds, .tup es] => .ok (zipL ds es)
  | [.tup ds, .lst es] => .ok (zipL ds es)
  | _ => .bad
def iZp (fs : Gm → Rg (List D)) : Gm → Rg (List D) := fun Γ => (fs Γ).bind zpA
section
variable {X : Cx} {C : Cn} {W : WX} {a b : Expr} {fa fb : Gm → R} {pos p tpos : Pos} {elts : List Expr} {kk : Nat}
theorem di_enum (hm : X.mg "enumerate" = none) (ha : DE X C W a fa) (hg : Gl X "enumerate" := by rfl) (hs : starEach [a] X.env = [(false, eval a X.env)] := by rfl) : DI X C W (.Tuple elts kk tpos) (.Call (.Name "enumerate" p) [a] [] pos) (iEn (aCons fa aNil)) :=
  PI.to (PI.or (pi_enum hg hm (da_cons ha da_nil hs) hs) (pi_enumT hg hm (da_cons ha da_nil hs) hs)) fun σ H R ⟨Γ, P0, H0, E, g⟩ => by
  unfold iEn at g
  cases hq : aCons fa aNil Γ with
  | ok ds =>
    rw [hq] at g
    have g0 := g
    unfold Rg.bind enA at g
    dsimp only at g
    split at g
    · refine .inl ⟨Γ, P0, H0, E, ?_⟩
      rw [hq]
      intro v H1 e1 t1 r1
      obtain ⟨x, xs', rfl, rx, r2⟩ := rpL_cons r1
      cases rpL_nil r2
      obtain ⟨a1, xs, rfl, hx, rr⟩ := rp_lst rx
      refine ⟨a1, xs, rfl, .inl (.inl (mask_some.mp hx).2), g _ H1 e1 t1 (wk_enumG walk_enum (fun H2 e => .inl (.inl (e _ _ hx (fun _ z => by cases z)))) rr)⟩
    · refine .inr ⟨Γ, P0, H0, E, ?_⟩
      rw [hq]
      intro v H1 e1 t1 r1
      obtain ⟨x, xs', rfl, rx, r2⟩ := rpL_cons r1
      cases rpL_nil r2
      obtain ⟨a1, xs, rfl, hx, rr⟩ := rp_tup rx
      exact ⟨a1, xs, rfl, .inl (.inl (mask_some.mp hx).2), g _ H1 e1 t1 (wk_enumG walk_enumT (fun H2 e => .inl (.inl (e _ _ hx (fun _ z => by cases z)))) rr)⟩
    · exact g.elim
  | exc c =>
    rw [hq] at g
    refine .inl ⟨Γ, P0, H0, E, ?_⟩
    rw [hq]
    exact g
  | bad => rw [hq] at g; exact g.elim
theorem di_zip (hm : X.mg "zip" = none) (ha : DE X C W a fa) (hb : DE X C W b fb) (hg : Gl X "zip" := by rfl) (hs : starEach [a, b] X.env = (false, eval a X.env) :: starEach [b] X.env := by rfl) (hs2 : starEach [b] X.env = [(false, eval b X.env)] := by rfl)
    (hpl : (backTo pos (starEach [b] X.env)).any (·.1) = false := by rfl) : DI X C W (.Tuple elts kk tpos) (.Call (.Name "zip" p) [a, b] [] pos) (iZp (aCons fa (aCons fb aNil))) :=
  PI.to (PI.or (RZ.pi_zipA hg hm (da_cons ha (da_cons hb da_nil hs2) hs) hs hpl) (pi_zipM hg hm (da_cons ha (da_cons hb da_nil hs2) hs) hs hpl)) fun σ H R ⟨Γ, P0, H0, E, g⟩ => by
  by_cases hmix : ∃ a b, (aCons fa (aCons fb aNil)) Γ = .ok [.tup a, .lst b]
  · refine .inr ⟨Γ, P0, H0, E, Got.bind repI_mono g fun ds xs H1 hds e1 t1 r1 g1 => ?_⟩
    obtain ⟨da, db, hab⟩ := hmix
    rw [hds] at hab
    cases hab
    obtain ⟨x, xs', rfl, rx, r2⟩ := rpL_cons r1
    obtain ⟨y, ys', rfl, ry, r3⟩ := rpL_cons r2
    cases rpL_nil r3
    obtain ⟨a1, xs, rfl, hx, rr⟩ := rp_tup rx
    obtain ⟨a2, ys, rfl, hy, rr2⟩ := rp_lst ry
    exact ⟨a1, a2, xs, ys, rfl, .inl (.inl (mask_some.mp hx).2), .inl (.inl (mask_some.mp hy).2), g1 _ H1 (ExtN.refl _) t1 (wk_zipG (walk_zipM rfl) (fun H2 e => ⟨.inl (.inl (e _ _ hx (fun _ z => by cases z))), .inl (.inl (e _ _ hy (fun _ z => by cases z)))⟩) rr rr2)⟩
  refine .inl ⟨Γ, P0, H0, E, Got.bind repI_mono g fun ds xs H1 hds e1 t1 r1 g1 => ?_⟩
  unfold zpA at g1
  split at g1
  · obtain ⟨x, xs', rfl, rx, r2⟩ := rpL_cons r1
    obtain ⟨y, ys', rfl, ry, r3⟩ := rpL_cons r2
    cases rpL_nil r3
    obtain ⟨a1, xs, rfl, hx, rr⟩ := rp_lst rx
    obtain ⟨a2, ys, rfl, hy, rr2⟩ := rp_lst ry
    exact ⟨a1, a2, xs, ys, rfl, .inl ⟨.inl (.inl (mask_some.mp hx).2), .inl (.inl (mask_some.mp hy).2), g1 _ H1 (ExtN.refl _) t1 (wk_zipG (walk_zip rfl) (fun H2 e => ⟨.inl (.inl (e _ _ hx (fun _ z => by cases z))), .inl (.inl (e _ _ hy (fun _ z => by cases z)))⟩) rr rr2)⟩⟩
  · obtain ⟨x, xs', rfl, rx, r2⟩ := rpL_cons r1
    obtain ⟨y, ys', rfl, ry, r3⟩ := rpL_cons r2
    cases rpL_nil r3
    obtain ⟨a1, xs, rfl, hx, rr⟩ := rp_tup rx
    obtain ⟨a2, ys, rfl, hy, rr2⟩ := rp_tup ry
    exact ⟨a1, a2, xs, ys, rfl, .inr ⟨.inl (.inl (mask_some.mp hx).2), .inl (.inl (mask_some.mp hy).2), g1 _ H1 (ExtN.refl _) t1 (wk_zipG (walk_zipT rfl) (fun H2 e => ⟨.inl (.inl (e _ _ hx (fun _ z => by cases z))), .inl (.inl (e _ _ hy (fun _ z => by cases z)))⟩) rr rr2)⟩⟩
  · exact absurd ⟨_, _, hds⟩ hmix
  · exact g1.elim
end
end DL

set_option Elab.async false
set_option linter.all false
set_option maxRecDepth 100000
set_option maxHeartbeats 4000000
namespace DL
open PySem PySem.Spec PyProof.Rows L2 LamX
/-! ### sorted of data, any length -/
abbrev encB : V × D → PyData := fun b => b.2.toPy
def rSortedB (K : PySem.W.Frag) : List V → Hp → VK → Prop := fun vs H Q => ∃ (a : Addr) (bs : List (V × D)), vs = [V.ref a] ∧ SqL K H a (bs.map Prod.fst) ∧ (∀ b ∈ bs, Dp K H b.1 (encB b)) ∧ PySem.W.AllAlike (bs.map encB) ∧ PySem.W.Sortable (bs.map encB) ∧ (∀ b ∈ bs, (encB b).depth ≤ 60) ∧
  ∀ p, H p = none → Q (.ref p) (upd H p (.lst ((bs.mergeSort (PySem.W.dataLe false encB)).map Prod.fst)))
theorem each_vals : ∀ {bs : List (V × D)} {us : List Value}, Vals (bs.map Prod.fst) us → PySem.W.EachIs (fun (v : Value) (b : V × D) => RelV b.1 v) us bs
  | [], us, h => by
    have h' : Vals [] us := h
    cases h'
    exact .nil
  | b :: bs, us, h => by
    have h' : Vals (b.1 :: bs.map Prod.fst) us := h
    cases h' with
    | cons h1 h2 => exact .cons h1 (each_vals h2)
theorem vals_each : ∀ {bs : List (V × D)} {us : List Value}, PySem.W.EachIs (fun (v : Value) (b : V × D) => RelV b.1 v) us bs → Vals (bs.map Prod.fst) us
  | _, _, .nil => .nil
  | _, _, .cons h t => .cons h (vals_each t)
theorem each_reads {X : Cx} {pins : List (Addr × Obj)} {σ : L2.St} {H : Hp} {s : Shared} (I : Inv X pins σ H s) : ∀ {bs : List (V × D)} {us : List Value}, (∀ b ∈ bs, Dp X.K H b.1 (encB b)) → PySem.W.EachIs (fun (v : Value) (b : V × D) => RelV b.1 v) us bs → PySem.W.EachIs (fun v b => ∃ as, Reads s.heap v (encB b) as) us bs
  | _, _, _, .nil => .nil
  | b :: bs, u :: us, hd, .cons h t => .cons (Dp.reads I _ _ _ (hd b (by simp)) h) (each_reads I (fun b hb => hd b (List.mem_cons_of_mem _ hb)) t)
section
variable {X : Cx}
theorem cr_sortedB (hu : X.A.units + 64 < cLine) : CallR X (.builtin "sorted") (rSortedB X.K) := by
  intro pins s σ H vs us Q I r h
  obtain ⟨a, bs, rfl, hs, hd, hal, hk, hdp, q⟩ := h
  obtain ⟨its, rv, hl, hz⟩ := I.list hs
  rw [Vals.ref1 r]
  have e := each_vals rv
  have hz' : bs.length ≤ sizeLine := by rw [List.length_map] at hz; exact hz
  refine PySem.W.sorted_data (enc := encB) hl.isList e (each_reads I hd e) hal hk hz' (fun b hb => by have := hdp b hb; omega) fun out hlen hout => ?_
  obtain ⟨ep, he'⟩ := PyProof.Rows.sortedAll_at s.heap its out.toArray
  have hlen2 : ((bs.mergeSort (PySem.W.dataLe false encB)).map Prod.fst).length ≤ sizeLine := by rw [List.length_map, List.length_mergeSort]; exact hz'
  exact ⟨.ref _, upd H (s.heap.objs.size + 1) (.lst ((bs.mergeSort (PySem.W.dataLe false encB)).map Prod.fst)), I.laid (t' := s.toks) (fun _ _ => PyProof.Rows.sortedAll_old) (Nat.le_succ _) ⟨hlen2, out, ep, vals_each hout, he'⟩, rfl, q _ (I.hok.fresh (Nat.le_succ _))⟩
end
/-- what sorted takes here -/
def sortOk (ds : List D) : Bool := (ds.all fun d => ds.all fun e => PySem.W.alike d.toPy e.toPy) && ((ds.all fun d => match d.toPy with | .tuple (_ :: _) => true | _ => false) || (ds.all fun d => match d.toPy with | .none => false | .tuple _ => false | _ => true)) && (ds.all fun d => d.toPy.canLay0 && decide (d.toPy.depth ≤ 60))
def sortD : List D → R
  | [.lst ds] => if sortOk ds = true then .ok (.lst (ds.mergeSort (PySem.W.dataLe false D.toPy))) else .bad
  | _ => .bad
theorem sortOk_alike {ds : List D} (h : sortOk ds = true) : PySem.W.AllAlike (ds.map D.toPy) := by
  unfold sortOk at h
  simp only [Bool.and_eq_true, List.all_eq_true] at h
  intro d hd d' hd'
  obtain ⟨x, hx, rfl⟩ := List.mem_map.mp hd
  obtain ⟨y, hy, rfl⟩ := List.mem_map.mp hd'
  exact h.1.1 x hx y hy
theorem sortOk_sortable {ds : List D} (h : sortOk ds = true) : PySem.W.Sortable (ds.map D.toPy) := by
  unfold sortOk at h
  simp only [Bool.and_eq_true, Bool.or_eq_true, List.all_eq_true] at h
  rcases h.1.2 with h | h
  · refine .inl fun d hd => ?_
    obtain ⟨x, hx, rfl⟩ := List.mem_map.mp hd
    have := h x hx
    split at this
    · rename_i y r e
      exact ⟨y, r, e⟩
    · cases this
  · refine .inr fun d hd => ?_
    obtain ⟨x, hx, rfl⟩ := List.mem_map.mp hd
    have := h x hx
    split at this
    · cases this
    · cases this
    · rename_i h1 h2
      exact ⟨h1, fun xs e => h2 _ e⟩
theorem sortOk_lay {ds : List D} (h : sortOk ds = true) : ∀ d ∈ ds, d.toPy.canLay0 = true ∧ d.toPy.depth ≤ 60 := by
  unfold sortOk at h
  simp only [Bool.and_eq_true, List.all_eq_true, decide_eq_true_eq] at h
  exact h.2
section
variable {K : PySem.W.Frag} {C : Cn}
theorem zip_maps : ∀ {xs : List V} {ds : List D}, xs.length = ds.length → (xs.zip ds).map Prod.fst = xs ∧ (xs.zip ds).map Prod.snd = ds
  | [], [], _ => ⟨rfl, rfl⟩
  | x :: xs, d :: ds, h => by
    obtain ⟨h1, h2⟩ := zip_maps (xs := xs) (ds := ds) (by simpa using h)
    simp only [List.zip_cons_cons, List.map_cons, h1, h2, and_self]
theorem zip_rp {fa : Str → Option Addr} {H : Hp} : ∀ {xs : List V} {ds : List D}, RpL K fa H xs ds → ∀ b ∈ xs.zip ds, Rp K fa H b.1 b.2
  | _, _, .nil, b, hb => by simp at hb
  | _, _, .cons h t, b, hb => by
    rw [List.zip_cons_cons] at hb
    rcases List.mem_cons.mp hb with rfl | hb
    · exact h
    · exact zip_rp t b hb
theorem rpL_maps {fa : Str → Option Addr} {H : Hp} : ∀ {bs : List (V × D)}, (∀ b ∈ bs, Rp K fa H b.1 b.2) → RpL K fa H (bs.map Prod.fst) (bs.map Prod.snd)
  | [], _ => .nil
  | b :: bs, h => .cons (h b (by simp)) (rpL_maps fun c hc => h c (List.mem_cons_of_mem _ hc))
theorem vc_sorted : VCallF K C (rSortedB K) sortD := by
  intro W M σ H xs ds Q mm t r g
  unfold sortD at g
  split at g
  · rename_i ds
    split at g
    · rename_i ok
      obtain ⟨x, rfl, rx⟩ := rpL_one r
      obtain ⟨p, ys, rfl, hp, rr⟩ := rp_lst rx
      obtain ⟨z1, z2⟩ := zip_maps rr.length
      have zz := zip_rp rr
      have em : (ys.zip ds).map encB = ds.map D.toPy := by
        conv => rhs; rw [← z2, List.map_map]
        rfl
      have dm : ∀ b ∈ ys.zip ds, b.2 ∈ ds := fun b hb => by rw [← z2]; exact List.mem_map_of_mem hb
      refine ⟨p, ys.zip ds, rfl, by rw [z1]; exact .inl (.inl (mask_some.mp hp).2), fun b hb => Rp.dp _ _ (sortOk_lay ok _ (dm b hb)).1 (zz b hb), by rw [em]; exact sortOk_alike ok, by rw [em]; exact sortOk_sortable ok, fun b hb => (sortOk_lay ok _ (dm b hb)).2, ?_⟩
      refine Got.newL (g := g) t ?_
      have e2 : ds.mergeSort (PySem.W.dataLe false D.toPy) = ((ys.zip ds).mergeSort (PySem.W.dataLe false encB)).map Prod.snd := by
        conv => lhs; rw [← z2]
        exact (List.map_mergeSort (f := Prod.snd) (fun a _ b _ => rfl)).symm
      rw [e2]
      exact rpL_maps fun b hb => zz b ((List.mergeSort_perm _ _).mem_iff.mp hb)
    · exact g.elim
  · exact g.elim
end
section
variable {X : Cx} {C : Cn} {W : WX} {e : Expr} {es : List Expr} {fs : Gm → Rg (List D)} {p pos : Pos} {k : Nat}
theorem b_sorted (hr : Room k X.A) (hm : X.mg "sorted" = none) (ha : DA X C W (e :: es) fs) (hg : Gl X "sorted" := by rfl) (he : starEach (e :: es) X.env = (false, eval e X.env) :: starEach es X.env := by rfl) (hpl : (backTo pos (starEach es X.env)).any (·.1) = false := by rfl) :
    DF X C W (.Call (.Name "sorted" p) (e :: es) [] pos) (eB sortD fs) := df_callB (cr_sortedB hr.units) vc_sorted hm ha (by rfl) hg (by decide) (by decide) he hpl
end
end DL

set_option Elab.async false
set_option linter.all false
set_option maxRecDepth 100000
set_option maxHeartbeats 4000000
namespace DL
open PySem PySem.Spec PyProof.Rows L2 LamX
/-! ### a lambda whose exceptions have no context -/
/-- the lambda's own context, with that wish -/
def lamN (X : Cx) (A : Around) (outer : List Env) (s : Shared) (H : Hp) (E : XK) (scope : Scope) (f c' : Addr) : Cx :=
  (lamCx X A outer s H E scope f c').tr [] fun e s' => wpAny (model X.prog X.w) (A.deeper (lamEnv X scope s.heap.objs.size f c')) (leaving (lamEnv X scope s.heap.objs.size f c') e) (fun _ s'' => L2N.CX X.prog X.w outer H s E e s'') (fun e' s'' => L2N.CX X.prog X.w outer H s E e' s'') s'
theorem lamN_takes {X : Cx} {A : Around} {outer : List Env} {s : Shared} {H : Hp} {E : XK} {scope : Scope} {f c' : Addr} : L2N.Takes (lamN X A outer s H E scope f c') (fun c d _ H' => E c d H') := L2N.takes_of rfl rfl rfl rfl
section
variable {X : Cx} {pins : List (Addr × Obj)} {σ : L2.St} {H HZ : Hp} {s s1 : Shared}
theorem pe_actN {CXg : CXT} {Eg : XK} {Ng : List Str} {qg : Str} {sg : Scope} {g f c' : Addr} {cdg pm ctv : Value} {params : Arguments} {body : Expr} {scope : Scope} {k i : Nat} {a : Str} {pn : List (Addr × Obj)} {xe : Value → Shared → Prop} {W : WX} {E : XK} {tb : TE} {p1 p2 : Pos}
    (I : Inv X pins σ H s) (L : LamS X.env.scope scope) (hf : s.heap.get? f = some (PySem.W.kla_obj "<lambda>" (X.env.qual ++ "<lambda>") params body scope (cloFrom X.env.cells scope.names []) pm c' ctv)) (hfn : H f = none) (hfr : f ∉ frs X.stack)
    (hbind : bindArgs (PySem.W.kla_fn "<lambda>" (X.env.qual ++ "<lambda>") params body scope (cloFrom X.env.cells scope.names []) pm (.ref c') ctv) ⟨[], []⟩ = pure [])
    (tk : L2N.Takes ((cxOf CXg X.prog X.w X.K X.mg X.base Ng qg sg g cdg X.A X.stack s H Eg).tr pn xe) W) (hW : ∀ cls d σ' H', σ'.length = Ng.length → E cls d H' → W cls d σ' H') (hr : Room (k + 1) (X.A.deeper (envOfC qg sg s.heap.objs.size g cdg)))
    (hbody : ∀ (A : Around) (outer : List Env) (s : Shared) (H : Hp), Room k (A.deeper (lamEnv X scope s.heap.objs.size f c')) → PE (lamN X A outer s H E scope f c') body tb)
    (hN : Ng[i]? = some a) (hv : Vis sg a) (hd : (a == ("__debug__" : Str)) = false := by decide) (hcd : (a == ("__classdict__" : Str)) = false := by decide) :
    PE ((cxOf CXg X.prog X.w X.K X.mg X.base Ng qg sg g cdg X.A X.stack s H Eg).tr pn xe) (.Call (.Name a p1) [] [] p2)
      (fun σZ HZ Q => σZ[i]? = some (some (.ref f)) ∧ HZ c' = some (CodeO c' (X.env.qual ++ "<lambda>")) ∧ tb σ HZ Q) := by
  constructor
  rintro pinsZ sZ σZ HZ Q IZ ⟨hs, hc, ht⟩
  apply wpAny_Call_Name_kw
  apply thn ((pe_var (pos := p1) (i := i) hN hv hd hcd).run pinsZ sZ σZ HZ (fun v H1 => v = .ref f ∧ H1 = HZ) IZ ⟨.ref f, hs, rfl, rfl⟩)
  rintro u s1 ⟨v, H1, I1, r1, rfl, rfl⟩
  obtain rfl : u = Value.ref f := r1
  have hf1 := I1.base.keep f _ hf hfn hfr (fun z => nomatch (show f ∈ ([] : List Addr) from z))
  have un : Un (frs X.stack) [] H H1 s.heap s1.heap := I1.base
  obtain ⟨⟨oc, vs, t, hoc, hdc, hvc⟩, -, -⟩ := I1.hok c' _ hc
  have pass : PassesAt (L2N.CX X.prog X.w) ((cxOf CXg X.prog X.w X.K X.mg X.base Ng qg sg g cdg X.A X.stack s H Eg).tr pn xe) σZ E := fun _ _ _ e s' I c => tk e s' (L2N.XE.of_call I (fun cls d H' h => hW cls d σZ H' I.len h) c)
  have run : codeAny (model X.prog X.w) (X.A.deeper (envOfC qg sg s.heap.objs.size g cdg)) (.call (.ref f) ⟨[], []⟩) (CR (L2N.CX X.prog X.w) (envOfC qg sg s.heap.objs.size g cdg :: X.stack) X.prog X.w H1 s1 Q E) s1 := by
    apply PySem.W.kla_callFunE hr.depth hf1 rfl L.co L.gen rfl ⟨c', oc, vs, t, rfl, hoc, hdc, hvc⟩
    rw [hbind]
    refine wpAny_pure (wpAny_newFunctionEnv (fun y hy => (L.own y hy).2) (fun y hy => absurd hy (by simp)) (fun h₁ hns hsb => ⟨I1.nolimit.fresh _ hsb, ?_⟩) L.kind)
    have J0 := lam_start2 (c' := c') (f := f) (tk := s1.toks + 0) (E := E) I L I1.env0 hr.hd un hns fun b o e => hsb.extBut b o (Nat.ne_of_lt (Heap.lt_size e)) (Heap.get?_push_of_some _ e)
    have J : Inv (lamN X (X.A.deeper (envOfC qg sg s.heap.objs.size g cdg)) (envOfC qg sg s.heap.objs.size g cdg :: X.stack) s1 H1 E scope f c') [] σ H1 { s1 with heap := h₁, toks := s1.toks + 0 } := J0.toTry _
    refine PySem.W.kla_codeExpr (wpAny_mono ((hbody _ _ s1 H1 (hr.deeper _)).run [] _ _ H1 Q J ht) ?_ fun e s' hq => hq)
    rintro v s' ⟨w', H', J', rv, q⟩
    exact ⟨w', H', J'.os, J'.bare, J'.base, J'.hok, rv, q⟩
  refine PySem.W.callWith_F0 ⟨_, _, _, _, hf1⟩ (wpAny_call (codeAny_mono run fun r s' hq => ?_))
  match r with
  | .error e => exact pass pinsZ H1 s1 e s' I1 hq
  | .ok (.ret u) => exact I1.after hq
  | .ok .next => exact hq.elim
  | .ok .brk => exact hq.elim
  | .ok .cont => exact hq.elim
end
/-- what the def g, that calls what it got by the name a, makes of a lambda's reading -/
def GivesN (X : Cx) (Ng : List Str) (x : Str) (sg : Scope) (g : Addr) (cdg : Value) (bg : List Stmt) (a : Str) (q : Str) (TT : (XK → Hp → VK → Prop) → Hp → VK → Prop) : Prop :=
  ∀ (f c' : Addr) (s : Shared) (H : Hp) (Q : VK) (tl : XK → Hp → VK → Prop),
    (∀ (W : WX) (pn : List (Addr × Obj)) (xe : Value → Shared → Prop) (E : XK) (p1 p2 : Pos), L2N.Takes ((cxOf C8.CX0 X.prog X.w X.K X.mg X.base Ng x sg g cdg X.A X.stack s H C8.E0).tr pn xe) W → (∀ cls d σ' H', σ'.length = Ng.length → E cls d H' → W cls d σ' H') →
      PE ((cxOf C8.CX0 X.prog X.w X.K X.mg X.base Ng x sg g cdg X.A X.stack s H C8.E0).tr pn xe) (.Call (.Name a p1) [] [] p2) (fun σZ HZ Q => σZ[0]? = some (some (.ref f)) ∧ HZ c' = some (CodeO c' q) ∧ tl E HZ Q)) →
    H c' = some (CodeO c' q) → TT tl H Q →
    ∃ t, PSs (cxOf C8.CX0 X.prog X.w X.K X.mg X.base Ng x sg g cdg X.A X.stack s H C8.E0).nox bg t ∧ t { nx := fun _ H' => Q .non H', rt := Q } (L2.start Ng [.ref f]) H
section
variable {X : Cx}
theorem pe_lamN {T : List (Addr × Str)} {TT : (XK → Hp → VK → Prop) → Hp → VK → Prop} {x a : Str} {g c P : Addr} {k : Nat} {pg : Arguments} {bg : List Stmt} {sg : Scope} {dV kV doc pm cdv ct oc : Value} {an od : Option Addr} {osl : Array (Option Value)} {Ng : List Str}
    {params : Arguments} {body : Expr} {scope : Scope} {t : XK → TE} {p lpos pos : Pos} (hg : Gl X x) (hm : X.mg x = some (.ref g)) (hk : PySem.W.keepIn X.K (.ref g) = true)
    (lk : X.K.lookup g = some ⟨oc, od, .func (PySem.W.fnOf x x pg bg sg dV kV doc pm an cdv ct), osl⟩) (hcg : PySem.W.codeIn X.K cdv x = true) (hb : L2.Binds X.K (PySem.W.fnOf x x pg bg sg dV kV doc pm an cdv ct) [a] []) (Sg : FnScope Ng [a] sg) (hNg : Ng[0]? = some a) (hva : Vis sg a)
    (hG : GivesN X Ng x sg g cdv bg a (X.env.qual ++ "<lambda>") TT)
    (TB : TabB X.base X.mg c P) (hcode : X.env.code = .ref c) (hmT : (P, X.env.qual ++ "<lambda>") ∈ T) (hu : ∀ p ∈ T, p.1 = P → p.2 = X.env.qual ++ "<lambda>") (hr : Room (k + 2) X.A) (L : LamS X.env.scope scope) (hdef : defaultsOf params X.env = ([], []))
    (hbind : ∀ (q : Str) (cl : List (Str × Addr)) (pm cv ctv : Value), bindArgs (PySem.W.kla_fn "<lambda>" q params body scope cl pm cv ctv) ⟨[], []⟩ = pure [])
    (hbody : ∀ (A : Around) (outer : List Env) (s : Shared) (H : Hp) (E : XK) (f c' : Addr), Room k (A.deeper (lamEnv X scope s.heap.objs.size f c')) → PE (lamN X A outer s H E scope f c') body (t E))
    (hdb : (x == ("__debug__" : Str)) = false := by decide) (hd : (a == ("__debug__" : Str)) = false := by decide) (hcd : (a == ("__classdict__" : Str)) = false := by decide) :
    PE X (.Call (.Name x p) [.Lambda params body scope lpos] [] pos) (tLam T TT t) := by
  constructor
  rintro pins s σ H Q I ⟨hT, h⟩
  refine wpAny_Call_Name_kw (ld_glob I hg hm ?_ hdb)
  refine PySem.W.callWith_K (h₀ := X.base) I.ok.mod.kin hk ?_ (by rfl) (by rfl)
  show wpAny _ _ (spliced ((false, eval (.Lambda params body scope lpos) X.env) :: backTo pos (starEach [] X.env))) _ _ s
  refine Calls.spliced_cons (lam_make2 I TB hcode hmT hu hT hdef (L.has I.ok) fun f c' pm' ctv H1 s' I1 eN T1 hf hfn hfr hco => ?_)
  have run : codeAny (model X.prog X.w) X.A (.call (.ref g) ⟨[.ref f], []⟩) (CR C8.CX0 X.stack X.prog X.w H1 s' Q C8.E0) s' :=
    run_ofS (N := Ng) (ps := [a]) (us := [.ref f]) (vs := [.ref f]) lk hcg Sg hr I1.env0 (hb s' [.ref f] I1.kIn rfl) (.cons rfl .nil) rfl fun hr' => by
      obtain ⟨t', ht', hq'⟩ := hG f c' s' H1 Q (fun E H' Q' => t E σ H' Q') (fun W pn xe E p1 p2 tk hW => pe_actN (i := 0) I1 L hf hfn hfr (hbind _ _ _ _ _) tk hW hr' (fun A outer s H hr2 => hbody A outer s H E f c' hr2) hNg hva hd hcd) hco (h H1 eN T1)
      exact ⟨t', ht'.nox, hq'⟩
  refine Calls.spliced_nil ⟨I1.kIn, wpAny_call (codeAny_mono run fun r s2 hq => ?_)⟩
  match r with
  | .error e => exact (show False from hq).elim
  | .ok (.ret u) => exact I1.after hq
  | .ok .next => exact hq.elim
  | .ok .brk => exact hq.elim
  | .ok .cont => exact hq.elim
end
end DL

set_option Elab.async false
set_option linter.all false
set_option maxRecDepth 100000
set_option maxHeartbeats 4000000
namespace DL
open PySem PySem.Spec PyProof.Rows L2 LamX HotX L2H
/-! ### a def called while one given exception is handled -/
/-- what the def promises where p is that exception -/
structure FnP (P : Program) (w : World) (K : PySem.W.Frag) (mg : Str → Option Value) (base : Heap) (CX : CXT) (k : Nat) (f : Addr) (fd : FuncData) (ps : List Str) (p : Addr × Obj) (sp : Sp) : Prop where
  len : ∀ vs H Q E, sp vs H Q E → vs.length = ps.length
  run : ∀ (A : Around) (outer : List Env) (s : Shared) (H : Hp) (args : Args) (us : List Value) (vs : List V) (Q : VK) (E : XK), RoomH k A → Hot1 A p → PinOk outer H s p → Env0 P w K mg base A outer s H → BindsTo s fd args (ps.zip us) → Vals vs us → sp vs H Q E →
    codeAny (model P w) A (.call (.ref f) args) (CR CX outer P w H s Q E) s
theorem fn_ofP {CX : CXT} {P : Program} {w : World} {K : PySem.W.Frag} {mg : Str → Option Value} {base : Heap} {k : Nat} {x : Str} {st : Stmt} {f : Addr} {fd : FuncData} {N ps : List Str} {sp : Sp} {p : Addr × Obj} (F : Fun K x x st f fd) (S : FnScope N ps (defScope st))
    (len : ∀ vs H Q E, sp vs H Q E → vs.length = ps.length)
    (hbody : ∀ (cdv : Value) (A : Around) (outer : List Env) (s : Shared) (H : Hp) (vs : List V) (Q : VK) (E : XK), Hot1 A p → RoomH k (A.deeper (envOfC x (defScope st) s.heap.objs.size f cdv)) → sp vs H Q E →
      ∃ t, PSs (cxH CX P w K mg base N x (defScope st) f cdv A outer s H E p) (defBody st) t ∧ t { nx := fun _ H' => Q .non H', rt := Q } (L2.start N vs) H) :
    FnP P w K mg base CX (k + 1) f fd ps p sp := by
  obtain ⟨oc, od, kV, doc, pm, an, cdv, ct, osl, rfl, lk, hcd⟩ := F.ex
  refine ⟨len, fun A outer s H args us vs Q E hr hot hpin e0 hb r hsp => ?_⟩
  have hl := len _ _ _ _ hsp
  have keep : ∀ b o, base.get? b = some o → s.heap.get? b = some o := fun b o e => (e0.bs b o e).1
  refine codeAny_call_function hr.depth (e0.mod.kin.keeps keep _ _ lk) rfl S.co S.gen rfl (PySem.W.codeRec_of (e0.mod.kin.keeps keep) hcd) (hb _ _ _ _ ?_)
  refine wpAny_newFunctionEnv_cells S.kind (fun y hy => ?_) fun env he s1 made => ?_
  · obtain ⟨n, v⟩ := y
    exact (S.par n (List.of_mem_zip hy).1).imp id fun q => ⟨q, PySem.W.cellsFrom_some _ _ _ (.inl q)⟩
  subst he
  refine ⟨(e0.mod.nolimit.keeps keep).keeps made.toInCall.keep, codeAny_func ?_⟩
  obtain ⟨t, ht, hq⟩ := hbody cdv A outer s H vs Q E hot (hr.deeper _) hsp
  refine wpAny_mono (ht.run [] s1 (L2.start N vs) H _ (inv_startH S hpin e0 hl r made) hq) (fun fl s' hs => ?_) fun e s' hs => hs
  match fl, hs with
  | .ret u, ⟨v, σ', H', J, rv, q⟩ => exact ⟨v, H', J.os, J.bare, J.base, J.hok, rv, q⟩
  | .next, ⟨σ', H', J, q⟩ => exact ⟨V.non, H', J.os, J.bare, J.base, J.hok, rfl, q⟩
  | .brk, ⟨_, _, _, q⟩ => exact q.elim
  | .cont, ⟨_, _, _, q⟩ => exact q.elim
section
variable {X : Cx} {CX : CXT} {k : Nat} {f : Addr} {fd : FuncData} {ps : List Str} {sp : Sp} {p : Addr × Obj} {E : L2.St → XK} {x : Str} {q pos : Pos} {e : Expr} {es : List Expr} {t : TA}
theorem pe_callP (F : FnP X.prog X.w X.K X.mg X.base CX k f fd ps p sp) (hr : RoomH k X.A) (hot : Hot1 X.A p) (hp : p ∈ X.pn) (hg : Gl X x) (hm : X.mg x = some (.ref f)) (hk : PySem.W.keepIn X.K (.ref f) = true) (hb : Binds X.K fd ps []) (hx : ∀ σ, PassesAt CX X σ (E σ))
    (ha : PA X (e :: es) t) (hdb : (x == ("__debug__" : Str)) = false := by decide) (he : starEach (e :: es) X.env = (false, eval e X.env) :: starEach es X.env := by rfl) (hpl : (backTo pos (starEach es X.env)).any (·.1) = false := by rfl) :
    PE X (.Call (.Name x q) (e :: es) [] pos) (tCallS sp E t) := by
  constructor
  intro pins s σ H Q I h
  refine wpAny_Call_Name_kw (ld_glob I hg hm ?_ hdb)
  refine PySem.W.callWith_K (h₀ := X.base) I.ok.mod.kin hk (thn (ha.run pos pins s σ H _ I h) fun us s1 ⟨vs, H1, I1, r, hsp⟩ => ⟨I1.kIn, ?_⟩) he hpl
  have hl : us.length = ps.length := r.length.symm.trans (F.len _ _ _ _ hsp)
  have b := hb s1 us I1.kIn (by rw [List.append_nil]; exact hl)
  rw [List.append_nil] at b
  have P1 := I1.pin p (List.mem_append_left _ hp)
  have hpin : PinOk X.stack H1 s1 p := ⟨P1.1, P1.2.1, fun hm => (List.mem_cons.mp (I1.stkSub p.1 hm)).elim P1.2.2.1 P1.2.2.2.1, P1.2.2.2.2⟩
  refine wpAny_call (codeAny_mono (F.run X.A X.stack s1 H1 ⟨us, []⟩ us vs Q (E σ) hr hot hpin I1.env0 b r hsp) fun r s' hq => ?_)
  match r with
  | .error e => exact hx σ pins H1 s1 e s' I1 hq
  | .ok (.ret u) => exact I1.after hq
  | .ok .next => exact hq.elim
  | .ok .brk => exact hq.elim
  | .ok .cont => exact hq.elim
end
/-! ### rules that ask for nothing but units -/
theorem RoomH.un0 {k : Nat} {A : Around} (r : RoomH k A) : A.units + 200 < cLine := by have := r.un; omega
section
variable {X : Cx} {C : Cn} {W : WX} {fs : Gm → Rg (List D)} {f : Gm → R}
theorem q_neU (hu : X.A.units + 200 < cLine) : Cmp X C .NotEq neD := ⟨_, op_neD (by omega), vop_ne⟩
theorem q_eqU (hu : X.A.units + 200 < cLine) : Cmp X C .Eq eqD := ⟨_, op_eqD (by omega), vop_eq⟩
theorem m_indexU {o x : Expr} {apos cpos : Pos} (hu : X.A.units + 200 < cLine) (ho : DE X C W o f) (ha : DA X C W [x] fs) (hbase : attributeBase o "index" X.env (eval o X.env) = eval o X.env := by rfl)
    (hfew : ((backTo cpos (starEach [x] X.env)).all (fun x => !x.1) && (backToKw cpos (keywordEach [] X.env)).all (fun x => x.1.isSome) && decide (([x] : List Expr).length + ([] : List Keyword).length + (if ([] : List Keyword).isEmpty then 0 else 1) < 30)) = true := by rfl)
    (hline : (apos.endLine == cpos.line) = true := by rfl) (hs : starEach [x] X.env = (false, eval x X.env) :: starEach [] X.env := by rfl) (hplain : (backTo cpos (starEach [] X.env)).any (·.1) = false := by rfl) :
    DE X C W (.Call (.Attribute o "index" apos) [x] [] cpos) (eMt "list" indexD f fs) :=
  de_mt (mt_indexD (by omega)) vm_index (fun h1 h2 => pe_bm F.plainAttrs_list F.slot_list_index F.type_list_index (mt_indexD (by omega)) h1 h2 hbase hfew hline hs hplain) ho ha
end
end DL

set_option Elab.async false
set_option linter.all false
set_option maxRecDepth 100000
set_option maxHeartbeats 4000000
namespace DL
open PySem PySem.Spec PyProof.Rows L2 LamX HotX L2H
/-! ### a def in the data layer, called while one given exception is handled -/
section
variable {P : Program} {w : World} {K : PySem.W.Frag} {mg : Str → Option Value} {base : Heap} {C : Cn}
theorem fn_defP {x : Str} {st : Stmt} {N ps : List Str} {k : Nat} {F : Gm → O} {f : Addr} {fd : FuncData} {p : Addr × Obj} (Fu : Fun K x x st f fd) (S : FnScope N ps (defScope st)) (hN : ps.length ≤ N.length)
    (hbody : ∀ (f : Addr) (cdv : Value) (A : Around) (outer : List Env) (s : Shared) (H : Hp) (E : XK), Hot1 A p → RoomH k (A.deeper (envOfC x (defScope st) s.heap.objs.size f cdv)) →
      DSs (cxH (L2N.CX P w) P w K mg base N x (defScope st) f cdv A outer s H E p) C (fun c d _ H' => E c d H') (defBody st) F) : FnP P w K mg base (L2N.CX P w) (k + 1) f fd ps p (dSp K C ps.length (runDef N.length F)) := by
  refine fn_ofP Fu S (fun vs H Q E h => h.1) (fun cdv A outer s H vs Q E hot hr h => ⟨_, hbody f cdv A outer s H E hot hr, ?_⟩)
  obtain ⟨hl, M, ds, m, t, r, g⟩ := h
  refine ⟨gam0 N.length ds, M, nt H, here_start m t r (by rw [hl]; exact hN), ?_⟩
  unfold runDef at g
  cases e : F (gam0 N.length ds) with
  | nx Γ =>
    rw [e] at g
    exact fun σ H' E' => g .non H' (ext_nt E'.e.base) E'.e.tab .non
  | rt d =>
    rw [e] at g
    exact fun v H' b t' q => g v H' (ext_nt b) t' q
  | exc c Γ =>
    rw [e] at g
    exact fun c' σ H' x E' => g c' H' x (ext_nt E'.e.base) E'.e.tab
  | bk Γ => rw [e] at g; exact g.elim
  | ct Γ => rw [e] at g; exact g.elim
  | bad => rw [e] at g; exact g.elim
theorem FnP.mono {CX : CXT} {k : Nat} {f : Addr} {fd : FuncData} {ps : List Str} {p : Addr × Obj} {sp sp' : Sp} (F : FnP P w K mg base CX k f fd ps p sp) (h : ∀ vs H Q E, sp' vs H Q E → sp vs H Q E) : FnP P w K mg base CX k f fd ps p sp' :=
  ⟨fun vs H Q E z => F.len vs H Q E (h _ _ _ _ z), fun A outer s H args us vs Q E hr hot hp e0 hb r z => F.run A outer s H args us vs Q E hr hot hp e0 hb r (h _ _ _ _ z)⟩
/-- what the word of an exception of the class at D asks -/
structure WordAt (P : Program) (w : World) (K : PySem.W.Frag) (mg : Str → Option Value) (base : Heap) (T : List (Addr × Str)) (k : Nat) (fw : Addr) (fdw : FuncData) (pe : Str) (CS D : Addr) (x : Str) : Prop where
  cat : PySem.W.exmOne K (.ref D) (.ref CS) = some true
  run : ∀ (a : Addr) (oe : Obj), L2N.Zn (.ref D) none oe → (∃ vs, oe.data = .fields vs) → FnP P w K mg base (L2N.CX P w) k fw fdw [pe] (a, oe) (fun vs H Q E => vs = [.ref a] ∧ Tabs T H ∧ ∀ H', ExtN H H' → Tabs T H' → Q (.str x) H')
theorem word_run {k : Nat} {fw : Addr} {fdw : FuncData} {pe x : Str} {a : Addr} {oe : Obj} {m : List D → R} (hm : m [.fn "e"] = .ok (.str x)) (F : FnP P w K mg base (L2N.CX P w) k fw fdw [pe] (a, oe) (dSp K { C with fa := fun _ => some a } 1 m)) :
    FnP P w K mg base (L2N.CX P w) k fw fdw [pe] (a, oe) (fun vs H Q E => vs = [.ref a] ∧ Tabs C.T H ∧ ∀ H', ExtN H H' → Tabs C.T H' → Q (.str x) H') := F.mono fun vs H Q E ⟨h1, h2, h3⟩ => by
  subst h1
  refine ⟨rfl, fun _ => False, [.fn "e"], fun _ z => z.elim, h2, .cons (.fn rfl) .nil, ?_⟩
  rw [hm]
  exact fun b H' e t r => by cases r; exact h3 H' e t
end

/-! ### told(lambda: ..) -/
/-- what told makes of the lambda's reading -/
def TTw (C : Cn) (ws : List Str) : (XK → Hp → VK → Prop) → Hp → VK → Prop := fun tl H Q =>
  tl (fun cls d H' => ∃ (D : Addr) (x : Str), C.xa x = some D ∧ x ∈ ws ∧ cls = .ref D ∧ d = none ∧ Tabs C.T H' ∧ ∀ H'', ExtN H' H'' → Tabs C.T H'' → Q (.str x) H'') H Q
theorem word_call {X : Cx} {T : List (Addr × Str)} {a fw : Addr} {oe : Obj} {fdw : FuncData} {k : Nat} {pe y n x : Str} {p5 p6 p7 p8 : Pos}
    (F : FnP X.prog X.w X.K X.mg X.base (L2N.CX X.prog X.w) k fw fdw [pe] (a, oe) (fun vs H Q E => vs = [.ref a] ∧ Tabs T H ∧ ∀ H', ExtN H H' → Tabs T H' → Q (.str x) H')) (hr : RoomH k X.A) (hot : Hot1 X.A (a, oe)) (hp : (a, oe) ∈ X.pn)
    (hg : X.env.scope.names.lookup y = some .globalImplicit) (hm : X.mg y = some (.ref fw)) (hk : PySem.W.keepIn X.K (.ref fw) = true) (hb : Binds X.K fdw [pe] []) (hi : X.N[1]? = some n) (hln : X.env.scope.names.lookup n = some .local) (hdn : (n == ("__debug__" : Str)) = false) (hcn : (n == ("__classdict__" : Str)) = false) (hdy : (y == ("__debug__" : Str)) = false) :
    PSs X [.Return (some (.Call (.Name y p5) [.Name n p6] [] p7)) p8] (fun D σ H => σ[1]? = some (some (.ref a)) ∧ Tabs T H ∧ ∀ H', ExtN H H' → Tabs T H' → D.rt (.str x) H') := by
  have hx : ∀ σ, PassesAt (L2N.CX X.prog X.w) X σ (WE (fun _ _ _ _ => False) σ) := fun σ => L2N.passAt takes0N σ
  have hpe := pe_callP (X := X) (q := p5) (pos := p7) F hr hot hp hg hm hk hb hx (pa_cons (pe_var (pos := p6) hi (Or.inl hln) hdn hcn) pa_nil) hdy
  exact PSs.to (pss_one (ps_ret (pos := p8) hpe)) fun D σ H ⟨h1, h2, h3⟩ => ⟨.ref a, h1, rfl, h2, h3⟩
theorem told_givesN {X : Cx} {C : Cn} {ws : List Str} {Ng : List Str} {x0 a n e y q pe : Str} {sg : Scope} {g CS fw : Addr} {fdw : FuncData} {cdg : Value} {k : Nat} {p1 p2 p3 p4 p5 p6 p7 p8 p9 p10 : Pos}
    (hge : sg.names.lookup e = some .globalImplicit) (hme : X.mg e = some (.ref CS)) (hde : (e == ("__debug__" : Str)) = false)
    (hgy : sg.names.lookup y = some .globalImplicit) (hmy : X.mg y = some (.ref fw)) (hdy : (y == ("__debug__" : Str)) = false) (hky : PySem.W.keepIn X.K (.ref fw) = true) (hby : Binds X.K fdw [pe] [])
    (hN : Ng.Nodup) (hi : Ng[1]? = some n) (hln : sg.names.lookup n = some .local) (hdn : (n == ("__debug__" : Str)) = false) (hcn : (n == ("__classdict__" : Str)) = false) (h0 : ∀ f : Addr, (L2.start Ng [V.ref f])[0]? = some (some (V.ref f)))
    (hw : ∀ x D, C.xa x = some D → x ∈ ws → WordAt X.prog X.w X.K X.mg X.base C.T k fw fdw pe CS D x) (hr : Room (k + 1) X.A) :
    GivesN X Ng x0 sg g cdg [.Try [.Return (some (.Call (.Name a p1) [] [] p2)) p3] [.ExceptHandler (some (.Name e p4)) (some n) [.Return (some (.Call (.Name y p5) [.Name n p6] [] p7)) p8] p9] [] [] p10] a q (TTw C ws) := by
  intro f c' s H Q tl act hc h
  have hlen : 1 < Ng.length := (List.getElem?_eq_some_iff.mp hi).1
  have hgl : Gl (cxOf C8.CX0 X.prog X.w X.K X.mg X.base Ng x0 sg g cdg X.A X.stack s H C8.E0).nox e := hge
  refine ⟨_, pss_one (L2N.ps_try_as (X := (cxOf C8.CX0 X.prog X.w X.K X.mg X.base Ng x0 sg g cdg X.A X.stack s H C8.E0).nox) (c := .ref CS) (i := 1) (n := n)
      (tb := fun W D σ H => ∃ Ech : XK, (∀ cls d σ' H', σ'.length = Ng.length → Ech cls d H' → W cls d σ' H') ∧ σ[0]? = some (some (.ref f)) ∧ H c' = some (CodeO c' q) ∧ tl Ech H D.rt)
      (ts := fun a cls d D σ H => σ[1]? = some (some (.ref a)) ∧ ∃ (D0 : Addr) (x : Str), C.xa x = some D0 ∧ x ∈ ws ∧ cls = .ref D0 ∧ d = none ∧ Tabs C.T H ∧ ∀ H'', ExtN H H'' → Tabs C.T H'' → D.rt (.str x) H'')
      (Wout := fun _ _ _ _ => False) rfl rfl hN hi hln ⟨hgl, hde, .inl hme⟩ takes0N (fun W pn xe tk _ => ?_) (fun a oe cls d pn hz hf => ?_)), ?_⟩
  · constructor
    rintro pins s' σ H' D I ⟨Ech, hW, h1, h2, h3⟩
    have hp := act W pn xe Ech p1 p2 tk hW
    exact (pss_one (ps_ret (pos := p3) hp)).run pins s' σ H' D I ⟨h1, h2, h3⟩
  · constructor
    rintro pins s' σ H' D I ⟨h1, D0, x, hx, hws, rfl, rfl, ht, hq⟩
    have F := (hw x D0 hx hws).run a oe hz hf
    have hr' := roomH_of (hr.deeper (envOfC x0 sg s.heap.objs.size g cdg))
    exact (word_call (X := ((cxOf C8.CX0 X.prog X.w X.K X.mg X.base Ng x0 sg g cdg X.A X.stack s H C8.E0).nox).suite a ((a, oe) :: pn)) F ⟨hr'.dp, hr'.un⟩ ⟨rfl, let ⟨vs, e⟩ := hf; ⟨vs, e, hz.2.2 vs e⟩⟩ List.mem_cons_self hgy hmy hky hby hi hln hdn hcn hdy).run pins s' σ H' D I ⟨h1, ht, hq⟩
  · refine ⟨_, fun cls d σ' H' hl' ⟨D0, x, hx, hws, hc1, hd1, ht, hq⟩ => ?_, h0 f, hc, h⟩
    subst hc1 hd1
    refine ⟨true, (hw x D0 hx hws).cat, fun _ a _ => ⟨?_, D0, x, hx, hws, rfl, rfl, ht, hq⟩, fun z => by cases z⟩
    rw [List.getElem?_set_self (by rw [hl']; exact hlen)]
/-- told stands, and does so -/
structure ToldOk (P : Program) (w : World) (K : PySem.W.Frag) (mg : Str → Option Value) (base : Heap) (C : Cn) (k : Nat) (xt : Str) (ws : List Str) : Prop where
  ex : ∃ (g : Addr) (pg : Arguments) (bg : List Stmt) (sg : Scope) (dV kV doc pm cdv ct oc : Value) (an od : Option Addr) (osl : Array (Option Value)) (Ng : List Str) (a : Str),
    mg xt = some (.ref g) ∧ PySem.W.keepIn K (.ref g) = true ∧ K.lookup g = some ⟨oc, od, .func (PySem.W.fnOf xt xt pg bg sg dV kV doc pm an cdv ct), osl⟩ ∧ PySem.W.codeIn K cdv xt = true ∧ L2.Binds K (PySem.W.fnOf xt xt pg bg sg dV kV doc pm an cdv ct) [a] [] ∧
    FnScope Ng [a] sg ∧ Ng[0]? = some a ∧ Vis sg a ∧ (a == ("__debug__" : Str)) = false ∧ (a == ("__classdict__" : Str)) = false ∧
    ∀ (X : Cx) (q : Str), X.prog = P → X.w = w → X.K = K → X.mg = mg → X.base = base → Room (k + 1) X.A → GivesN X Ng xt sg g cdv bg a q (TTw C ws)
/-- .. from the text -/
theorem told_ok {P : Program} {w : World} {K : PySem.W.Frag} {mg : Str → Option Value} {base : Heap} {C : Cn} {k : Nat} {xt a n e y pe : Str} {st stw : Stmt} {Ng ws : List Str} {CS : Addr} {p1 p2 p3 p4 p5 p6 p7 p8 p9 p10 : Pos}
    (Tt : DefAt K mg xt st [a]) (Tw : DefAt K mg y stw [pe]) (Sg : FnScope Ng [a] (defScope st))
    (hb : defBody st = [.Try [.Return (some (.Call (.Name a p1) [] [] p2)) p3] [.ExceptHandler (some (.Name e p4)) (some n) [.Return (some (.Call (.Name y p5) [.Name n p6] [] p7)) p8] p9] [] [] p10])
    (hge : (defScope st).names.lookup e = some .globalImplicit) (hme : mg e = some (.ref CS)) (hde : (e == ("__debug__" : Str)) = false)
    (hgy : (defScope st).names.lookup y = some .globalImplicit) (hdy : (y == ("__debug__" : Str)) = false)
    (hi : Ng[1]? = some n) (hln : (defScope st).names.lookup n = some .local) (hdn : (n == ("__debug__" : Str)) = false) (hcn : (n == ("__classdict__" : Str)) = false) (hia : Ng[0]? = some a) (hva : Vis (defScope st) a) (hda : (a == ("__debug__" : Str)) = false) (hca : (a == ("__classdict__" : Str)) = false)
    (hw : ∀ (fw : Addr) (fdw : FuncData), Fun K y y stw fw fdw → ∀ x D, C.xa x = some D → x ∈ ws → WordAt P w K mg base C.T k fw fdw pe CS D x) : ToldOk P w K mg base C k xt ws := by
  obtain ⟨g, fd, Fu, hm, hbd, hba⟩ := Tt.ex
  obtain ⟨fw, fdw, Fw, hmw, hbw, _⟩ := Tw.ex
  have hk := Fu.kp
  obtain ⟨oc, od, kV, doc, pm, an, cdv, ct, osl, rfl, lk, hcd⟩ := Fu.ex
  refine ⟨g, _, _, _, _, _, _, _, _, _, _, _, _, _, Ng, a, hm, hk, lk, hcd, hbd, Sg, hia, hva, hda, hca, fun X q hP hW hK hM hB hr => ?_⟩
  subst hP hW hK hM hB
  rw [hb]
  refine told_givesN hge hme hde hgy hmw hdy Fw.kp hbw Sg.nd hi hln hdn hcn (fun f => ?_) (hw fw fdw Fw) hr
  unfold L2.start
  simp
/-- a def's own code object and its table -/
structure DefAtC (K : PySem.W.Frag) (mg : Str → Option Value) (x : Str) (st : Stmt) (ps : List Str) (c : Addr) : Prop where
  ex : ∃ (f : Addr) (fd : FuncData), Fun K x x st f fd ∧ mg x = some (.ref f) ∧ Binds K fd ps [] ∧ (∀ us : List Value, us.length = ps.length → bindArgs fd ⟨us, []⟩ = pure (ps.zip us)) ∧ fd.code = .ref c
def eTold (ws : List Str) (f : Gm → R) : Gm → R := fun Γ => match f Γ with
  | .ok d => .ok d
  | .exc c => if c ∈ ws then .ok (.str c) else .bad
  | .bad => .bad
section
variable {X : Cx} {C : Cn} {W : WX} {f : Gm → R}
theorem de_told {k kb : Nat} {xt : Str} {ws : List Str} {c Pt : Addr} {params : Arguments} {body : Expr} {scope : Scope} {p lpos pos : Pos} (To : ToldOk X.prog X.w X.K X.mg X.base C k xt ws) (TB : TabB X.base X.mg c Pt) (hmT : (Pt, X.env.qual ++ "<lambda>") ∈ C.T) (hu : ∀ p ∈ C.T, p.1 = Pt → p.2 = X.env.qual ++ "<lambda>")
    (hr : Room (kb + 2) X.A) (hkb : k ≤ kb + 1) (L : LamS X.env.scope scope)
    (hbody : ∀ (A : Around) (outer : List Env) (s : Shared) (H : Hp) (E : XK) (f' c' : Addr), Room kb (lamN X A outer s H E scope f' c').A → L2N.Takes (lamN X A outer s H E scope f' c') (fun c d _ H' => E c d H') → DE (lamN X A outer s H E scope f' c') C (fun c d _ H' => E c d H') body f)
    (hcode : X.env.code = .ref c := by rfl) (hg : Gl X xt := by rfl) (hdef : defaultsOf params X.env = ([], []) := by rfl)
    (hbind : ∀ (q : Str) (cl : List (Str × Addr)) (pm cv ctv : Value), bindArgs (PySem.W.kla_fn "<lambda>" q params body scope cl pm cv ctv) ⟨[], []⟩ = pure [] := by intro _ _ _ _ _; rfl)
    (hdb : (xt == ("__debug__" : Str)) = false := by decide) : DE X C W (.Call (.Name xt p) [.Lambda params body scope lpos] [] pos) (eTold ws f) := by
  obtain ⟨g, pg, bg, sg, dV, kV, doc, pm, cdv, ct, oc, an, od, osl, Ng, a, hm, hk, lk, hcd, hbd, Sg, hia, hva, hda, hca, hG⟩ := To.ex
  refine PE.to (pe_lamN (t := fun E => rdE X.K C (fun c d _ H' => E c d H') f) hg hm hk lk hcd hbd Sg hia hva (hG X (X.env.qual ++ "<lambda>") rfl rfl rfl rfl rfl (hr.mono (by omega))) TB hcode hmT hu hr L hdef hbind (fun A outer s H E f' c' hr' => hbody A outer s H E f' c' hr' lamN_takes) hdb hda hca) ?_
  intro σ H Q ⟨Γ, P0, H0, E, g⟩
  refine ⟨E.e.tab, fun H1 e1 t1 => ⟨Γ, P0, H0, E.ext e1 t1, ?_⟩⟩
  unfold eTold at g
  cases hq : f Γ with
  | ok d =>
    rw [hq] at g
    exact fun b H' e' t' r => g b H' (e1.trans e') t' r
  | exc c0 =>
    rw [hq] at g
    dsimp only at g
    split at g
    · rename_i hws
      exact fun c' H' hx e' t' => ⟨c', c0, hx, hws, rfl, rfl, t', fun H'' e'' t'' => g (.str c0) H'' (e1.trans (e'.trans e'')) t'' (.str c0)⟩
    · exact g.elim
  | bad => rw [hq] at g; exact g.elim
end
/-! ### a def whose code object is known -/
section
variable {P : Program} {w : World} {K : PySem.W.Frag} {mg : Str → Option Value} {base : Heap} {C : Cn}
theorem fn_defC {x : Str} {st : Stmt} {N ps : List Str} {k : Nat} {F : Gm → O} {f : Addr} {fd : FuncData} {c : Addr} (Fu : Fun K x x st f fd) (hcode : fd.code = .ref c) (S : FnScope N ps (defScope st)) (hN : ps.length ≤ N.length)
    (hbody : ∀ (f : Addr) (A : Around) (outer : List Env) (s : Shared) (H : Hp) (E : XK), Room k (A.deeper (envOfC x (defScope st) s.heap.objs.size f (.ref c))) →
      DSs (cxOf (L2N.CX P w) P w K mg base N x (defScope st) f (.ref c) A outer s H E) C (fun c d _ H' => E c d H') (defBody st) F) : FnOk P w K mg base (L2N.CX P w) (k + 1) f fd ps (dSp K C ps.length (runDef N.length F)) := by
  obtain ⟨oc, od, kV, doc, pm, an, cdv, ct, osl, rfl, lk, hcd⟩ := Fu.ex
  obtain rfl : cdv = .ref c := hcode
  refine fn_of lk hcd S (fun vs H Q E h => h.1) fun A outer s H vs Q E hr h => ⟨_, hbody f A outer s H E hr, ?_⟩
  obtain ⟨hl, M, ds, m, t, r, g⟩ := h
  refine ⟨gam0 N.length ds, M, nt H, here_start m t r (by rw [hl]; exact hN), ?_⟩
  unfold runDef at g
  cases e : F (gam0 N.length ds) with
  | nx Γ =>
    rw [e] at g
    exact fun σ H' E' => g .non H' (ext_nt E'.e.base) E'.e.tab .non
  | rt d =>
    rw [e] at g
    exact fun v H' b t' q => g v H' (ext_nt b) t' q
  | exc c Γ =>
    rw [e] at g
    exact fun c' σ H' x E' => g c' H' x (ext_nt E'.e.base) E'.e.tab
  | bk Γ => rw [e] at g; exact g.elim
  | ct Γ => rw [e] at g; exact g.elim
  | bad => rw [e] at g; exact g.elim
theorem cal_defC {x : Str} {st : Stmt} {N ps : List Str} {k : Nat} {F : Gm → O} {c : Addr} (T : DefAtC K mg x st ps c) (S : FnScope N ps (defScope st)) (hN : ps.length ≤ N.length)
    (hbody : ∀ (f : Addr) (A : Around) (outer : List Env) (s : Shared) (H : Hp) (E : XK), Room k (A.deeper (envOfC x (defScope st) s.heap.objs.size f (.ref c))) →
      DSs (cxOf (L2N.CX P w) P w K mg base N x (defScope st) f (.ref c) A outer s H E) C (fun c d _ H' => E c d H') (defBody st) F) : Cal P w K mg base C (k + 1) x ps (runDef N.length F) := by
  obtain ⟨f, fd, Fu, hm, hb, _, hc⟩ := T.ex
  exact ⟨f, fd, fn_defC Fu hc S hN hbody, hm, Fu.kp, hb⟩
theorem def_atC {x : Str} {st : Stmt} {ps : List Str} {f : Addr} {h : Heap} {oc : Value} {od an : Option Addr} {osl : Array (Option Value)} {kV doc pm ct : Value} {cc : Addr} (X : K.In h) (G : h.Ns mainGlobals mg)
    (a : PySem.W.nsIn K mainGlobals x = some (some (.ref f))) (l : K.lookup f = some ⟨oc, od, .func (PySem.W.fnOf x x (defArgs st) (defBody st) (defScope st) .none kV doc pm an (.ref cc) ct), osl⟩)
    (c : PySem.W.codeIn K (.ref cc) x = true) (k : PySem.W.keepIn K (.ref f) = true) (b : ∀ (kV doc pm : Value) (an : Option Addr) (cdv ct : Value) (us : List Value), us.length = ps.length → bindArgs (PySem.W.fnOf x x (defArgs st) (defBody st) (defScope st) .none kV doc pm an cdv ct) ⟨us, []⟩ = pure (ps.zip us)) :
    DefAtC K mg x st ps cc := ⟨f, _, fun_mk l c k, PySem.W.mg_of X G a, .all (b kV doc pm an (.ref cc) ct), b kV doc pm an (.ref cc) ct, rfl⟩
/-- the law, with the tables of its makers of lambdas -/
theorem law_atC {l : PySem.W.OpenLaw} {w : World} {K : PySem.W.Frag} {mg : Str → Option Value} {fa : Addr} {h : Heap} {k n : Nat} {C : Cn} {st : Stmt} {p : Str} {m : List D → R} {cs : List (Addr × Addr)}
    (hcs : ∀ q ∈ cs, h.get? q.2 = some { cls := .none, data := .fields #[] } ∧ K.lookup q.2 = none ∧ PySem.W.CodeHd h q.1 q.2) (hT : ∀ q ∈ C.T, ∃ c, (c, q.1) ∈ cs)
    (D : ∃ (f : Addr) (fd : FuncData), Fun K "law" "law" st f fd ∧ mg "law" = some (.ref f) ∧ (∀ us : List Value, us.length = [p].length → bindArgs fd ⟨us, []⟩ = pure ([p].zip us)) ∧ ∀ (base : Heap), (∀ q ∈ cs, TabB base mg q.1 q.2) → FnOk l.prog w K mg base (L2N.CX l.prog w) k f fd [p] (dSp K C 1 m)) (hfa : mg "law" = some (.ref fa))
    (hm : ∀ (d : DL.D) (ns : List Int), IsScr d ns → ns.length ≤ n → (∀ z ∈ ns, Builtin.Int.intBits z ≤ 1048576) → m [d] = .ok (.bl true)) : LawAtS l w K (L2N.CX l.prog w) k n p mg fa h := by
  obtain ⟨f, fd, Fu, hg, hb, hF⟩ := D
  rw [hfa] at hg
  injection hg with hg
  injection hg with hg
  subst hg
  refine ⟨fd, cs, dSp K C 1 m, fun q hq => (hcs q hq).1, fun q hq => (hcs q hq).2.1, fun q hq => (hcs q hq).2.2, fun s u => .of_eq (hb [u] rfl), fun H a ns hl hbits hTs hS => ?_, fun base _ _ TB => hF base TB⟩
  have tabs : Tabs C.T H := fun q hq => let ⟨c, hc⟩ := hT q hq; TabS.nil (hTs (c, q.1) hc)
  have fin : ∀ d : DL.D, IsScr d ns → Rp K C.fa (mask (fun _ => False) H) (.ref a) d → dSp K C 1 m [.ref a] H (fun v _ => v = .bl true) fun _ _ _ => False := fun d hd r => by
    refine ⟨rfl, fun _ => False, [d], fun a z => z.elim, tabs, .cons r .nil, ?_⟩
    rw [hm d ns hd hl hbits]
    exact fun b H' _ _ r' => rp_bl r'
  have me : ExtN H (mask (fun _ => False) H) := fun b o e _ => mask_some.mpr ⟨fun z => z, e⟩
  rcases hS with (hS | ⟨o, hS⟩) | hS
  · exact fin _ (.inr rfl) (.lst (me _ _ hS (fun _ z => by cases z)) (RpL.of_ints ns))
  · exact fin _ (.inl rfl) (.scr (.inl ⟨o, me _ _ hS (fun _ z => by cases z)⟩))
  · exact fin _ (.inl rfl) (.scr (.inr hS))
end
/-- what the class at D, by the name x, says of itself -/
structure WordCl (K : PySem.W.Frag) (mg : Str → Option Value) (CS D : Addr) (names : List Str) (x : Str) : Prop where
  ec : ExcC K D
  cat : PySem.W.exmOne K (.ref D) (.ref CS) = some true
  cls : ∀ n ∈ names, ∃ Ci : Addr, mg n = some (.ref Ci) ∧ PySem.W.kitOne K (.ref D) (.ref Ci) = some (n == x)
  val : PySem.W.kitOne K (.ref D) (.type "ValueError") = some true
theorem cls_of {X : Cx} {D : Addr} {x : Str} {b : Bool} (h : ∃ Ci : Addr, X.mg x = some (.ref Ci) ∧ PySem.W.kitOne X.K (.ref D) (.ref Ci) = some b) (hg : Gl X x := by rfl) (hd : (x == ("__debug__" : Str)) = false := by decide) : ClsN X D x b := by
  obtain ⟨Ci, h1, h2⟩ := h
  exact clsN_own h1 h2 hg hd
theorem words_of {K : PySem.W.Frag} {mg : Str → Option Value} {CS : Addr} {names : List Str} {xs : List (Str × Addr)} (h : ∀ p ∈ xs, WordCl K mg CS p.2 names p.1) {x : Str} {D : Addr} (e : List.lookup x xs = some D) : WordCl K mg CS D names x := h (x, D) (PySem.mem_of_lookup e)
end DL

set_option Elab.async false
set_option linter.all false
set_option maxRecDepth 100000
set_option maxHeartbeats 4000000
namespace DL
open PySem PySem.Spec PyProof.Rows L2 LamX HotX L2H
section
variable {X : Cx} {C : Cn} {W : WX} {f fa : Gm → R} {fs : Gm → Rg (List D)} {e a : Expr} {es : List Expr} {pos : Pos}
/-! ### tuple(range(..)) -/
def trngA : List D → R
  | [.int j] => if 0 ≤ j ∧ j ≤ 100000 then .ok (.tup (rngD 0 j.toNat)) else .bad
  | _ => .bad
def eTRng (f : Gm → R) : Gm → R := fun Γ => (f Γ).bind fun d => trngA [d]
theorem de_tupRng1 {p1 p2 q : Pos} (hc : X.calm = true) (hm : X.mg "tuple" = none) (hm2 : X.mg "range" = none) (ha : DE X C W a fa) (hg : Gl X "tuple" := by rfl) (hg2 : Gl X "range" := by rfl)
    (na : starEach [a] X.env = (false, eval a X.env) :: starEach [] X.env := by rfl) (na2 : starEach [Expr.Call (.Name "range" p2) [a] [] q] X.env = (false, eval (Expr.Call (.Name "range" p2) [a] [] q) X.env) :: starEach [] X.env := by rfl) :
    DE X C W (.Call (.Name "tuple" p1) [.Call (.Name "range" p2) [a] [] q] [] pos) (eTRng fa) := PE.to (pe_tupRg hc hg hm (prg_1 hg2 hm2 ha na) na2) fun σ H Q ⟨Γ, P0, H0, E, g⟩ => by
  refine ⟨Γ, P0, H0, E, Got.bind repD_mono g fun d x H1 _ e1 t1 r1 g1 => ?_⟩
  unfold trngA at g1
  split at g1
  · split at g1
    · rename_i j heq hj
      cases heq
      cases rp_int r1
      refine ⟨j, rfl, .of_le (by omega) (by omega) (by omega) (by omega), g1.newTD (E.e.mut.ext e1) t1 ?_⟩
      have := rgV_rp (K := X.K) (fa := C.fa) (H := mask (Msk P0 Γ σ) H1) (a := 0) (b := j)
      rw [Int.sub_zero] at this
      exact this
    · exact g1.elim
  · exact g1.elim
/-! ### defs as values -/
theorem Cal.mono {P : Program} {w : World} {K : PySem.W.Frag} {mg : Str → Option Value} {base : Heap} {C : Cn} {k k' : Nat} {x : Str} {ps : List Str} {m : List D → R} (c : Cal P w K mg base C k x ps m) (h : k ≤ k') : Cal P w K mg base C k' x ps m := by
  obtain ⟨f, fd, F, h1, h2, h3⟩ := c.ex
  exact ⟨f, fd, ⟨F.len, fun A outer s H args us vs Q E hr e0 hb r hsp => F.run A outer s H args us vs Q E (hr.mono h) e0 hb r hsp⟩, h1, h2, h3⟩
theorem de_fn {x : Str} (h : ∃ a : Addr, X.mg x = some (.ref a) ∧ C.fa x = some a) (hg : Gl X x := by rfl) (hd : (x == ("__debug__" : Str)) = false := by decide) : DE X C W (.Name x pos) (eC (.fn x)) := by
  obtain ⟨a, h1, h2⟩ := h
  exact de_glob h1 (show RelV (.ref a) (.ref a) from rfl) (fun _ => .fn h2) hg hd
def eCallF (i n : Nat) (tab : List (Str × (List D → R))) (fs : Gm → Rg (List D)) : Gm → R := fun Γ => match Γ[i]? with
  | some (.dat (.fn f)) => (match List.lookup f tab with
    | some m => (fs Γ).bind fun ds => if ds.length = n then m ds else .bad
    | none => .bad)
  | _ => .bad
theorem pe_callLS {CX : CXT} {k i : Nat} {f : Addr} {fd : FuncData} {ps : List Str} {sp : Sp} {x : Str} {p : Pos} {t : TA} {E : L2.St → XK} (F : FnOk X.prog X.w X.K X.mg X.base CX k f fd ps sp) (hr : Room k X.A) (hN : X.N[i]? = some x) (hv : Vis X.env.scope x) (hk : PySem.W.keepIn X.K (.ref f) = true) (hb : Binds X.K fd ps []) (hx : ∀ σ, PassesAt CX X σ (E σ)) (ha : PA X (e :: es) t)
    (hdb : (x == ("__debug__" : Str)) = false := by decide) (hcd : (x == ("__classdict__" : Str)) = false := by decide)
    (he : starEach (e :: es) X.env = (false, eval e X.env) :: starEach es X.env := by rfl) (hpl : (backTo pos (starEach es X.env)).any (·.1) = false := by rfl) : PE X (.Call (.Name x p) (e :: es) [] pos) (fun σ H Q => σ[i]? = some (some (.ref f)) ∧ tCallS sp E t σ H Q) := by
  refine ⟨fun pins s σ H Q I h => ?_⟩
  obtain ⟨hs, ht⟩ := h
  refine wpAny_Call_Name_kw (thn ((pe_var (pos := p) hN hv hdb hcd).run pins s σ H (fun v H1 => v = .ref f ∧ H1 = H) I ⟨.ref f, hs, rfl, rfl⟩) fun u s1 ⟨v, H1, I1, r1, q1⟩ => ?_)
  obtain ⟨rfl, rfl⟩ := q1
  cases r1
  refine PySem.W.callWith_K (h₀ := X.base) I.ok.mod.kin hk (thn (ha.run pos pins s1 σ _ _ I1 ht) fun us s2 ⟨vs, H2, I2, r, q⟩ => ⟨I2.kIn, ?_⟩) he hpl
  exact run_fnS F hr hb (hx σ) I2 r q
theorem de_callF (i : Nat) {k n : Nat} {x : Str} {tab : List (Str × (List D → R))} {p : Pos} (A : ∀ f m, List.lookup f tab = some m → ∃ ps : List Str, ps.length = n ∧ Cal X.prog X.w X.K X.mg X.base C k f ps m) (hfa : ∀ f a, C.fa f = some a → X.mg f = some (.ref a))
    (hr : Room k X.A) (tk : L2N.Takes X W) (ha : DA X C W (e :: es) fs) (hN : X.N[i]? = some x := by rfl) (hv : Vis X.env.scope x := by first | exact Or.inl rfl | exact Or.inr (Or.inl rfl) | exact Or.inr (Or.inr rfl))
    (hdb : (x == ("__debug__" : Str)) = false := by decide) (hcd : (x == ("__classdict__" : Str)) = false := by decide) (he : starEach (e :: es) X.env = (false, eval e X.env) :: starEach es X.env := by rfl) (hpl : (backTo pos (starEach es X.env)).any (·.1) = false := by rfl) :
    DE X C W (.Call (.Name x p) (e :: es) [] pos) (eCallF i n tab fs) := by
  refine ⟨fun pins s σ H Q I ⟨Γ, P0, H0, E, g⟩ => ?_⟩
  unfold eCallF at g
  split at g
  · rename_i f hΓ
    split at g
    · rename_i m hm
      obtain ⟨v, hσ, rv⟩ := E.e.dat i _ hΓ
      obtain ⟨a, rfl, h2⟩ := rp_fn rv
      obtain ⟨ps, hn, f0, fd, F, hm0, hk, hb⟩ := A f m hm
      have h3 := hfa f a h2
      rw [h3] at hm0
      injection hm0 with hm0
      injection hm0 with hm0
      subst hm0
      refine (pe_callLS F hr hN hv hk hb (E := WE W) (fun σ => L2N.passAt tk σ) ha hdb hcd he hpl).run pins s σ H Q I ⟨hσ, Γ, P0, H0, E, Got.bind repD_mono g fun ds xs H1 _ e1 t1 r1 g1 => ?_⟩
      split at g1
      · rename_i hl
        refine ⟨by rw [r1.length, hl, hn], _, ds, E.e.mut.ext e1, t1, r1, ?_⟩
        cases hq : m ds with
        | ok d => rw [hq] at g1; exact g1
        | exc c => rw [hq] at g1; exact g1
        | bad => rw [hq] at g1; exact g1
      · exact g1.elim
    · exact g.elim
  · exact g.elim
/-! ### -x -/
def negD : D → R
  | .int i => .ok (.int (-i))
  | _ => .bad
theorem o_neg (ha : DE X C W a fa) : DE X C W (.UnaryOp .USub a pos) (e1 negD fa) := PE.to (pe_un un_neg ha) fun σ H Q ⟨Γ, P0, H0, E, g⟩ => by
  refine ⟨Γ, P0, H0, E, Got.bind repD_mono g fun d x H1 _ e1 t1 r1 g1 => ?_⟩
  cases d with
  | int i => cases rp_int r1; exact ⟨i, rfl, g1.ok1 t1 (.int _)⟩
  | _ => exact g1.elim
end
end DL

set_option Elab.async false
set_option linter.all false
set_option maxRecDepth 100000
set_option maxHeartbeats 4000000
namespace DL
open PySem PySem.Spec PyProof.Rows L2 LamX

/-! ### combinators, applied -/
def B3 (d : D) (t e : R) : R := match d with
  | .bl true => t
  | .bl false => e
  | _ => .bad
@[simp] theorem B3_bl (x : Bool) (t e : R) : B3 (.bl x) t e = if x then t else e := by cases x <;> rfl
def ifB (r : R) (Γ : Gm) (a b : O) : O := match r with
  | .ok (.bl true) => a
  | .ok (.bl false) => b
  | .exc c => .exc c Γ
  | _ => .bad
@[simp] theorem ifB_bl (x : Bool) (Γ : Gm) (a b : O) : ifB (.ok (.bl x)) Γ a b = if x then a else b := by cases x <;> rfl
@[simp] theorem ifB_exc (c : Str) (Γ : Gm) (a b : O) : ifB (.exc c) Γ a b = .exc c Γ := id rfl
section
variable (Γ : Gm) (fa fb fc f : Gm → R) (fs : Gm → Rg (List D)) (g g' : D → D → R) (h : Gm → Rg (D × Gm)) (F1 F2 : Gm → O) (b : Bool) (i : Nat) (d : D)
def slR : Option Sl → R
  | some (.dat d) => .ok d
  | _ => .bad
@[simp] theorem slR_dat : slR (some (.dat d)) = .ok d := id rfl
@[simp] theorem ev_var : eVar i Γ = slR Γ[i]? := by unfold eVar slR; split <;> simp_all
@[simp] theorem ev_c : eC d Γ = .ok d := id rfl
@[simp] theorem ev_1 (g : D → R) : e1 g f Γ = (f Γ).bind g := id rfl
@[simp] theorem ev_2 : e2 g fa fb Γ = (fa Γ).bind fun d => (fb Γ).bind fun e => g d e := id rfl
@[simp] theorem ev_and : eAnd fa fb Γ = (fa Γ).bind fun d => B3 d (fb Γ) (.ok (.bl false)) := id rfl
@[simp] theorem ev_or : eOr fa fb Γ = (fa Γ).bind fun d => B3 d (.ok (.bl true)) (fb Γ) := id rfl
@[simp] theorem ev_not : eNot fa Γ = (fa Γ).bind fun d => B3 d (.ok (.bl false)) (.ok (.bl true)) := by
  unfold eNot
  congr 1
  funext d
  cases d with
  | bl x => cases x <;> rfl
  | _ => rfl
@[simp] theorem ev_if : eIf f fa fb Γ = (f Γ).bind fun d => B3 d (fa Γ) (fb Γ) := id rfl
@[simp] theorem ev_chain : eChain g g' fa fb fc Γ = (fa Γ).bind fun d => (fb Γ).bind fun e => (g d e).bind fun k => B3 k ((fc Γ).bind fun c => g' e c) (.ok (.bl false)) := id rfl
@[simp] theorem ev_nil : aNil Γ = .ok [] := id rfl
@[simp] theorem ev_cons : aCons f fs Γ = (f Γ).bind fun d => (fs Γ).bind fun ds => .ok (d :: ds) := id rfl
@[simp] theorem ev_tup : eTup fs Γ = (fs Γ).bind tupD := id rfl
@[simp] theorem ev_lst : eLst fs Γ = (fs Γ).bind lstD := id rfl
@[simp] theorem ev_call (n : Nat) (m : List D → R) : eCall n m fs Γ = (fs Γ).bind fun ds => if ds.length = n then m ds else .bad := id rfl
@[simp] theorem ev_B (g : List D → R) : eB g fs Γ = (fs Γ).bind g := id rfl
@[simp] theorem ev_isi (T : String) : eIsi T f Γ = (f Γ).bind (isiD T) := id rfl
@[simp] theorem ev_mt (T : String) (g : D → List D → R) : eMt T g f fs Γ = (f Γ).bind fun d => if isTy T d = true then (fs Γ).bind fun ds => g d ds else .bad := id rfl
@[simp] theorem ev_sortset : eSortSet f Γ = (f Γ).bind sortSetD := id rfl
@[simp] theorem ev_lenset : eLenSet f Γ = (f Γ).bind lenSetD := id rfl
@[simp] theorem ev_lz : eLZ fs Γ = (fs Γ).bind zipD := id rfl
@[simp] theorem ev_lrng : eLRng f Γ = (f Γ).bind fun d => lrngA [d] := id rfl
@[simp] theorem ev_seq : iSeq f Γ = (f Γ).bind itD := id rfl
@[simp] theorem ev_rng : iRng fs Γ = (fs Γ).bind rngA := id rfl
@[simp] theorem ev_vP : vP f Γ = (f Γ).bind fun d => .ok (d, Γ) := id rfl
@[simp] theorem ev_vB : vB f Γ = (f (unown Γ)).bind fun d => .ok (d, if d.flat then Γ else unown Γ) := id rfl
@[simp] theorem ev_vF : vF f Γ = (f (unown Γ)).bind fun d => .ok (d, if flatItems d then Γ else unown Γ) := id rfl
@[simp] theorem ev_aP : aP fs Γ = (fs Γ).bind fun ds => .ok (ds, Γ) := id rfl
def O.seq (o : O) (F : Gm → O) : O := match o with
  | .nx Γ => F Γ
  | o => o
@[simp] theorem O.seq_nx (F : Gm → O) : (O.nx Γ).seq F = F Γ := id rfl
@[simp] theorem O.seq_rt (F : Gm → O) : (O.rt d).seq F = .rt d := id rfl
@[simp] theorem O.seq_exc (c : Str) (F : Gm → O) : (O.exc c Γ).seq F = .exc c Γ := id rfl
@[simp] theorem O.seq_ite (c : Prop) [Decidable c] (o1 o2 : O) (F : Gm → O) : (if c then o1 else o2).seq F = if c then o1.seq F else o2.seq F := by split <;> rfl
@[simp] theorem st_seq : sSeq F1 F2 Γ = (F1 Γ).seq F2 := id rfl
@[simp] theorem st_pass : sPass Γ = .nx Γ := id rfl
@[simp] theorem st_set : sSet i h Γ = (h Γ).toS Γ fun p => .nx (p.2.set i (.dat p.1)) := id rfl
@[simp] theorem st_own : sOwn i h Γ = (h Γ).toS Γ fun p => .nx (p.2.set i (slotD p.1)) := id rfl
@[simp] theorem st_ret : sRet h Γ = (h Γ).toS Γ fun p => .rt p.1 := id rfl
@[simp] theorem st_drop : sDrop h Γ = (h Γ).toS Γ fun p => .nx p.2 := id rfl
@[simp] theorem st_if : sIf b f F1 F2 Γ = ifB (tst b f Γ) Γ (F1 Γ) (F2 Γ) := id rfl
@[simp] theorem tst_f : tst false f Γ = f Γ := id rfl
@[simp] theorem tst_t : tst true f Γ = f (unown Γ) := id rfl
@[simp] theorem st_raise (c : Str) : sRaise c Γ = .exc c Γ := id rfl
@[simp] theorem toR_nx : (O.nx Γ).toR = .ok .non := id rfl
@[simp] theorem toR_rt : (O.rt d).toR = .ok d := id rfl
@[simp] theorem toR_exc (c : Str) : (O.exc c Γ).toR = .exc c := id rfl
@[simp] theorem toR_ite (c : Prop) [Decidable c] (o1 o2 : O) : (if c then o1 else o2).toR = if c then o1.toR else o2.toR := by split <;> rfl
@[simp] theorem bind_ite {α β : Type} (c : Prop) [Decidable c] (r1 r2 : Rg α) (k : α → Rg β) : (if c then r1 else r2).bind k = if c then r1.bind k else r2.bind k := by split <;> rfl
@[simp] theorem toS_ite {α : Type} (c : Prop) [Decidable c] (r1 r2 : Rg α) (k : α → O) : (if c then r1 else r2).toS Γ k = if c then r1.toS Γ k else r2.toS Γ k := by split <;> rfl
@[simp] theorem ifB_ite (c : Prop) [Decidable c] (r1 r2 : R) (o1 o2 : O) : ifB (if c then r1 else r2) Γ o1 o2 = if c then ifB r1 Γ o1 o2 else ifB r2 Γ o1 o2 := by split <;> rfl
def optO : Option Gm → O
  | some Γ => .nx Γ
  | none => .bad
@[simp] theorem optO_some : optO (some Γ) = .nx Γ := id rfl
@[simp] theorem st_asg (t : Tg) : sAsg t h Γ = (h Γ).toS Γ fun p => optO (t p.1 p.2) := by
  unfold sAsg
  rfl
@[simp] theorem st_par2 (j : Nat) (h : Gm → Rg (List D × Gm)) (x y : D) (Γ' : Gm) (e : h Γ = .ok ([x, y], Γ')) : sPar2 i j h Γ = .nx ((Γ'.set i (.dat x)).set j (.dat y)) := by
  unfold sPar2
  rw [e]
  rfl
@[simp] theorem tg_n : tgN i d Γ = some (Γ.set i (.dat d)) := id rfl
@[simp] theorem tg_nil : tgNil [] Γ = some Γ := id rfl
@[simp] theorem tg_cons (t : Tg) (ts : Tgs) (ds : List D) : tgCons t ts (d :: ds) Γ = (t d Γ).bind fun Γ' => ts ds Γ' := id rfl
@[simp] theorem tg_t (n : Nat) (ts : Tgs) (ds : List D) : tgT n ts (.tup ds) Γ = if ds.length = n then ts ds Γ else none := id rfl
@[simp] theorem tg_l (n : Nat) (ts : Tgs) (ds : List D) : tgL n ts (.lst ds) Γ = if ds.length = n then ts ds Γ else none := id rfl
end

/-! ### loops -/
section
variable {ks : List Nat} {t : Tg} {F : Gm → O} {ft fe : Gm → R}
theorem lc_map {h : D → D} {Γ : Gm} : ∀ {ds : List D}, (∀ d ∈ ds, ∃ Γ1, t d Γ = some Γ1 ∧ ft Γ1 = .ok (.bl true) ∧ fe Γ1 = .ok (h d)) → lcL t ft fe ds Γ = .ok (ds.map h)
  | [], _ => rfl
  | d :: r, H => by
    obtain ⟨Γ1, h1, h2, h3⟩ := H d List.mem_cons_self
    unfold lcL
    rw [h1]
    simp only [h2, h3, lc_map (ds := r) fun x hx => H x (List.mem_cons_of_mem _ hx)]
    rfl
theorem lc_filter {p : D → Bool} {h : D → D} {Γ : Gm} : ∀ {ds : List D}, (∀ d ∈ ds, ∃ Γ1, t d Γ = some Γ1 ∧ ft Γ1 = .ok (.bl (p d)) ∧ (p d = true → fe Γ1 = .ok (h d))) → lcL t ft fe ds Γ = .ok ((ds.filter p).map h)
  | [], _ => rfl
  | d :: r, H => by
    obtain ⟨Γ1, h1, h2, h3⟩ := H d List.mem_cons_self
    unfold lcL
    rw [h1]
    have ih := lc_filter (p := p) (h := h) (ds := r) fun x hx => H x (List.mem_cons_of_mem _ hx)
    cases hp : p d with
    | true =>
      rw [hp] at h2
      simp only [h2, h3 hp, ih, List.filter_cons, hp, if_true]
      rfl
    | false =>
      rw [hp] at h2
      simp only [h2, ih, List.filter_cons, hp]
      rfl
theorem ev_lc {vs : List Nat} {fi : Gm → Rg (List D)} {Γ : Gm} {ds : List D} (e : fi Γ = .ok ds) (hz : ds.length ≤ sizeLine) {ys : List D} (h : lcL t ft fe ds (killAll vs (hideOwn Γ)) = .ok ys) : eLc vs fi t ft fe Γ = .ok (.lst ys) := by
  unfold eLc
  rw [e]
  simp only [Rg.bind_ok, if_pos hz, h]
/-- a loop whose turns keep P -/
theorem for_keep {P : Gm → Prop} : ∀ {ds : List D} {Γ : Gm}, P Γ → (∀ d ∈ ds, ∀ Γ, P Γ → ∃ Γ1 Γ2, t d Γ = some Γ1 ∧ F Γ1 = .nx Γ2 ∧ P (killAll ks Γ2)) → ∃ Γ', forL ks t F ds Γ = .nx Γ' ∧ P Γ'
  | [], Γ, h, _ => ⟨Γ, rfl, h⟩
  | d :: r, Γ, h, H => by
    obtain ⟨Γ1, Γ2, h1, h2, h3⟩ := H d List.mem_cons_self Γ h
    unfold forL
    rw [h1]
    simp only [h2]
    exact for_keep h3 fun x hx => H x (List.mem_cons_of_mem _ hx)
/-- a loop by the number of its turn -/
theorem for_steps {S : Nat → Gm} : ∀ {ds : List D} (i : Nat), (∀ j d, ds[j]? = some d → ∃ Γ1 Γ2, t d (S (i + j)) = some Γ1 ∧ F Γ1 = .nx Γ2 ∧ killAll ks Γ2 = S (i + j + 1)) → forL ks t F ds (S i) = .nx (S (i + ds.length))
  | [], i, _ => rfl
  | d :: r, i, H => by
    obtain ⟨Γ1, Γ2, h1, h2, h3⟩ := H 0 d rfl
    unfold forL
    rw [Nat.add_zero] at h1
    rw [h1]
    simp only [h2, h3]
    rw [Nat.add_zero, for_steps (ds := r) (i + 1) fun j x hj => ?_]
    · rw [List.length_cons, Nat.add_assoc, Nat.add_comm 1]
    · have := H (j + 1) x (by simpa using hj)
      rw [show i + (j + 1) = i + 1 + j by omega] at this
      exact this
theorem st_for {fi : Gm → Rg (List D)} {Γ : Gm} {ds : List D} (e : fi Γ = .ok ds) : sFor ks false fi t F Γ = forL ks t F ds (killAll ks Γ) := by
  unfold sFor
  simp only [Bool.false_eq_true, if_false, e, Rg.toS_ok]
end

/-! ### equality of data -/
structure Emb {α : Type} (f : α → D) (n : Nat) : Prop where
  eq : ∀ x y, PyData.eqv (f x).toPy (f y).toPy = true ↔ x = y
  lay : ∀ x, (f x).toPy.canLay0 = true
  dep : ∀ x, (f x).toPy.depth ≤ n
section
variable {α : Type} {f : α → D} {n : Nat}
theorem Emb.ok (E : Emb f n) (hn : n ≤ 64) (x : α) : eqOk (f x) = true := by
  unfold eqOk SeqAt.shaped
  rw [E.lay x, Bool.true_and]
  exact decide_eq_true (Nat.le_trans (E.dep x) hn)
theorem Emb.eqD [DecidableEq α] (E : Emb f n) (hn : n ≤ 64) (x y : α) : eqD (f x) (f y) = .ok (.bl (decide (x = y))) := by
  unfold DL.eqD
  rw [E.ok hn, E.ok hn]
  simp only [Bool.and_self, if_true]
  congr 2
  rw [Bool.eq_iff_iff, decide_eq_true_iff]
  exact E.eq x y
theorem Emb.neD [DecidableEq α] (E : Emb f n) (hn : n ≤ 64) (x y : α) : neD (f x) (f y) = .ok (.bl (!decide (x = y))) := by
  unfold DL.neD
  rw [E.ok hn, E.ok hn]
  simp only [Bool.and_self, if_true]
  congr 3
  rw [Bool.eq_iff_iff, decide_eq_true_iff]
  exact E.eq x y
theorem Emb.eqs (E : Emb f n) : ∀ xs ys : List α, PyData.eqvAll (D.toPys (xs.map f)) (D.toPys (ys.map f)) = true ↔ xs = ys
  | [], [] => by simp [D.toPys, PyData.eqvAll]
  | [], y :: ys => by simp [D.toPys, PyData.eqvAll]
  | x :: xs, [] => by simp [D.toPys, PyData.eqvAll]
  | x :: xs, y :: ys => by
    simp only [List.map_cons, D.toPys, PyData.eqvAll, Bool.and_eq_true, List.cons.injEq]
    rw [E.eq, Emb.eqs E xs ys]
theorem Emb.lays (E : Emb f n) : ∀ xs : List α, PyData.canLayAll0 (D.toPys (xs.map f)) = true
  | [] => by simp [D.toPys, PyData.canLayAll0]
  | x :: xs => by simp [D.toPys, PyData.canLayAll0, E.lay x, Emb.lays E xs]
theorem Emb.deps (E : Emb f n) : ∀ xs : List α, PyData.depthAll (D.toPys (xs.map f)) ≤ n
  | [] => by simp [D.toPys, PyData.depthAll]
  | x :: xs => by
    have := E.dep x
    have := Emb.deps E xs
    simp only [List.map_cons, D.toPys, PyData.depthAll]
    omega
theorem emb_int : Emb D.int 1 := ⟨fun x y => by simp [D.toPy, PyData.eqv], fun x => by simp [D.toPy, PyData.canLay0], fun x => by simp [D.toPy, PyData.depth]⟩
theorem emb_bl : Emb D.bl 1 := ⟨fun x y => by simp [D.toPy, PyData.eqv], fun x => by simp [D.toPy, PyData.canLay0], fun x => by simp [D.toPy, PyData.depth]⟩
theorem Emb.tup (E : Emb f n) : Emb (fun xs : List α => .tup (xs.map f)) (n + 1) := ⟨fun x y => by simp only [D.toPy, PyData.eqv]; exact E.eqs x y, fun x => by simp only [D.toPy, PyData.canLay0]; exact E.lays x, fun x => by
  have := E.deps x
  simp only [D.toPy, PyData.depth]
  omega⟩
theorem Emb.lst (E : Emb f n) : Emb (fun xs : List α => .lst (xs.map f)) (n + 1) := ⟨fun x y => by simp only [D.toPy, PyData.eqv]; exact E.eqs x y, fun x => by simp only [D.toPy, PyData.canLay0]; exact E.lays x, fun x => by
  have := E.deps x
  simp only [D.toPy, PyData.depth]
  omega⟩
end
end DL

set_option Elab.async false
set_option linter.all false
set_option maxRecDepth 100000
set_option maxHeartbeats 4000000
namespace DL
open PySem PySem.Spec PyProof.Rows L2 LamX

/-! ### orders as lists of numbers -/
def T (o : List Int) : D := .tup (o.map .int)
def v (o : List Int) (i : Nat) : Int := o.getD i 0
theorem emb_T : Emb T 2 := Emb.tup emb_int
theorem T_inj {a b : List Int} : T a = T b ↔ a = b := ⟨fun h => (emb_T.eq a b).mp (by rw [h]; exact (emb_T.eq b b).mpr rfl), fun h => by rw [h]⟩
theorem v_at {o : List Int} {i : Nat} (h : i < o.length) : v o i = o[i] := by
  unfold v
  rw [List.getD_eq_getElem?_getD, List.getElem?_eq_getElem h]
  rfl
theorem v_mem {o : List Int} {i : Nat} (h : i < o.length) : v o i ∈ o := by rw [v_at h]; exact List.getElem_mem h
theorem mem_v {o : List Int} {x : Int} (h : x ∈ o) : ∃ i, i < o.length ∧ v o i = x := by
  obtain ⟨i, hi, e⟩ := List.getElem_of_mem h
  exact ⟨i, hi, by rw [v_at hi]; exact e⟩
theorem v_map {α : Type} {f : α → Int} {l : List α} {i : Nat} (h : i < l.length) : v (l.map f) i = f l[i] := by
  rw [v_at (by rw [List.length_map]; exact h), List.getElem_map]
theorem v_ext {a b : List Int} (hl : a.length = b.length) (h : ∀ i, i < a.length → v a i = v b i) : a = b := by
  apply List.ext_getElem hl
  intro i h1 h2
  have := h i h1
  rw [v_at h1, v_at h2] at this
  exact this
def Dense (o : List Int) : Prop := ∀ x ∈ o, 0 ≤ x ∧ (0 < x → x - 1 ∈ o)
theorem dense_le {a b : List Int} (ha : Dense a) (hl : a.length = b.length) (hb : ∀ x ∈ b, 0 ≤ x) (h : ∀ i j, i < a.length → j < a.length → v a i < v a j → v b i < v b j) : ∀ (m : Nat) (i : Nat), i < a.length → v a i = m → v a i ≤ v b i
  | 0, i, hi, e => by
    rw [e]
    exact hb _ (v_mem (by omega))
  | m + 1, i, hi, e => by
    obtain ⟨_, h2⟩ := ha _ (v_mem hi)
    obtain ⟨j, hj, ej⟩ := mem_v (h2 (by omega))
    have h3 := h j i hj hi (by omega)
    have h4 := dense_le ha hl hb h m j hj (by omega)
    omega
theorem dense_unique {a b : List Int} (ha : Dense a) (hb : Dense b) (hl : a.length = b.length) (h : ∀ i j, i < a.length → j < a.length → (v a i < v a j ↔ v b i < v b j)) : a = b := by
  refine v_ext hl fun i hi => ?_
  have h1 := ha _ (v_mem hi)
  have h2 := hb _ (v_mem (o := b) (i := i) (by omega))
  have x1 := dense_le ha hl (fun x hx => (hb x hx).1) (fun i j hi hj q => (h i j hi hj).mp q) (v a i).toNat i hi (by omega)
  have x2 := dense_le hb hl.symm (fun x hx => (ha x hx).1) (fun i j hi hj q => (h i j (by omega) (by omega)).mpr q) (v b i).toNat i (by omega) (by omega)
  omega
theorem nodup_len {α : Type} [DecidableEq α] : ∀ {l m : List α}, l.Nodup → (∀ x ∈ l, x ∈ m) → l.length ≤ m.length
  | [], m, _, _ => Nat.zero_le _
  | x :: l, m, hn, h => by
    obtain ⟨n1, n2⟩ := List.nodup_cons.mp hn
    have hx := h x List.mem_cons_self
    have ih := nodup_len (l := l) (m := m.erase x) n2 fun y hy => by
      have hne : y ≠ x := fun e => n1 (e ▸ hy)
      exact (List.mem_erase_of_ne hne).mpr (h y (List.mem_cons_of_mem _ hy))
    rw [List.length_erase_of_mem hx] at ih
    have : 0 < m.length := List.length_pos_of_mem hx
    simp only [List.length_cons]
    omega
theorem dense_all {o : List Int} (h : Dense o) : ∀ (m : Nat) (x : Int), x ∈ o → x = m → ∀ k : Nat, k ≤ m → (k : Int) ∈ o
  | 0, x, hx, e, k, hk => by
    obtain rfl : k = 0 := by omega
    rw [e] at hx
    exact hx
  | m + 1, x, hx, e, k, hk => by
    by_cases c : k = m + 1
    · rw [c, ← e]; exact hx
    · exact dense_all h m (x - 1) ((h x hx).2 (by omega)) (by omega) k (by omega)
theorem dense_lt {o : List Int} (h : Dense o) {x : Int} (hx : x ∈ o) : x < o.length := by
  have h0 := (h x hx).1
  have hn : (((List.range (x.toNat + 1)).map fun k : Nat => (k : Int)) : List Int).Nodup := by
    rw [List.Nodup, List.pairwise_map]
    exact List.nodup_range.imp fun {a b} ne e => ne (by omega)
  have hl := nodup_len (m := o) hn fun y hy => by
    obtain ⟨k, hk, rfl⟩ := List.mem_map.mp hy
    exact dense_all h x.toNat x hx (by omega) k (by have := List.mem_range.mp hk; omega)
  rw [List.length_map, List.length_range] at hl
  omega
/-- an order of n items -/
structure Ord (n : Nat) (o : List Int) : Prop where
  len : o.length = n
  pos : 1 ≤ n
  le : n ≤ 6
  dn : Dense o
theorem Ord.lt {n : Nat} {o : List Int} (h : Ord n o) {x : Int} (hx : x ∈ o) : 0 ≤ x ∧ x < n := ⟨(h.dn x hx).1, by have := dense_lt h.dn hx; rw [h.len] at this; exact this⟩
theorem Ord.v {n : Nat} {o : List Int} (h : Ord n o) {i : Nat} (hi : i < n) : 0 ≤ v o i ∧ DL.v o i < n := h.lt (v_mem (by rw [h.len]; exact hi))
theorem Ord.unique {n : Nat} {a b : List Int} (ha : Ord n a) (hb : Ord n b) (h : ∀ i j, i < n → j < n → (DL.v a i < DL.v a j ↔ DL.v b i < DL.v b j)) : a = b :=
  dense_unique ha.dn hb.dn (ha.len.trans hb.len.symm) fun i j hi hj => h i j (by rw [← ha.len]; exact hi) (by rw [← ha.len]; exact hj)
theorem Ord.eq_iff {n : Nat} {a b : List Int} (ha : Ord n a) (hb : Ord n b) : a = b ↔ ∀ i j, i < n → j < n → (DL.v a i < DL.v a j ↔ DL.v b i < DL.v b j) := ⟨fun e => by subst e; intros; rfl, ha.unique hb⟩

/-! ### tidied -/
section
variable {α : Type} [BEq α] [LawfulBEq α] {lt : α → α → Bool}
def tidy (lt : α → α → Bool) (row : List α) : List Int := row.map fun x => ((nubS lt row).idxOf x : Int)
theorem idx_lt (L : Lin lt) {l : List α} (p : l.Pairwise fun a b => lt a b = true) {x y : α} (hx : x ∈ l) (hy : y ∈ l) : l.idxOf x < l.idxOf y ↔ lt x y = true := by
  have h1 := List.idxOf_lt_length_of_mem hx
  have h2 := List.idxOf_lt_length_of_mem hy
  have e1 : l[l.idxOf x] = x := List.getElem_idxOf h1
  have e2 : l[l.idxOf y] = y := List.getElem_idxOf h2
  have pw := List.pairwise_iff_getElem.mp p
  constructor
  · intro h
    have := pw _ _ h1 h2 h
    rw [e1, e2] at this
    exact this
  · intro h
    rcases Nat.lt_trichotomy (l.idxOf x) (l.idxOf y) with c | c | c
    · exact c
    · have : x = y := by rw [← e1, ← e2]; simp only [c]
      rw [this, L.irr] at h
      cases h
    · have := pw _ _ h2 h1 c
      rw [e1, e2] at this
      have := L.tr _ _ _ h this
      rw [L.irr] at this
      cases this
theorem tidy_len {row : List α} : (tidy lt row).length = row.length := List.length_map _
theorem tidy_v (row : List α) {i : Nat} (hi : i < row.length) : v (tidy lt row) i = ((nubS lt row).idxOf row[i] : Int) := v_map hi
theorem tidy_lt (L : Lin lt) {row : List α} {i j : Nat} (hi : i < row.length) (hj : j < row.length) : v (tidy lt row) i < v (tidy lt row) j ↔ lt row[i] row[j] = true := by
  rw [tidy_v row hi, tidy_v row hj, Int.ofNat_lt]
  exact idx_lt L (nubS_pw L row) ((mem_nubS L row).mpr (List.getElem_mem hi)) ((mem_nubS L row).mpr (List.getElem_mem hj))
theorem tidy_dense (L : Lin lt) (row : List α) : Dense (tidy lt row) := by
  intro x hx
  obtain ⟨y, hy, rfl⟩ := List.mem_map.mp hx
  refine ⟨Int.natCast_nonneg _, fun h => ?_⟩
  have hy' := (mem_nubS L row).mpr hy
  have hl := List.idxOf_lt_length_of_mem hy'
  have hk : (nubS lt row).idxOf y - 1 < (nubS lt row).length := by omega
  refine List.mem_map.mpr ⟨(nubS lt row)[(nubS lt row).idxOf y - 1], (mem_nubS L row).mp (List.getElem_mem hk), ?_⟩
  rw [(pw_nodup L (nubS_pw L row)).idxOf_getElem _ hk]
  omega
theorem tidy_ord (L : Lin lt) {row : List α} {n : Nat} (h : row.length = n) (h1 : 1 ≤ n) (h2 : n ≤ 6) : Ord n (tidy lt row) := ⟨tidy_len.trans h, h1, h2, tidy_dense L row⟩
end
/-- the place of the first equal one -/
theorem findD_map {α : Type} [BEq α] [LawfulBEq α] {f : α → D} {n : Nat} (E : Emb f n) {x : α} : ∀ {l : List α} {i : Nat}, x ∈ l → findD (f x) i (l.map f) = some (i + l.idxOf x)
  | [], i, h => by simp at h
  | y :: l, i, h => by
    unfold findD
    rw [List.map_cons]
    by_cases e : y = x
    · subst e
      simp only [(E.eq y y).mpr rfl, if_true, List.idxOf_cons_self, Nat.add_zero]
    · have ne : ¬ PyData.eqv (f y).toPy (f x).toPy = true := fun z => e ((E.eq y x).mp z)
      simp only [if_neg ne]
      rw [findD_map E (i := i + 1) ((List.mem_cons.mp h).resolve_left fun z => e z.symm), List.idxOf_cons, beq_false_of_ne e]
      simp only [cond_false]
      congr 1
      omega
theorem index_map {α : Type} [BEq α] [LawfulBEq α] {f : α → D} {n : Nat} (E : Emb f n) (hn : n + 1 ≤ 64) {x : α} {l : List α} (h : x ∈ l) : indexD (.lst (l.map f)) [f x] = .ok (.int (l.idxOf x : Nat)) := by
  unfold indexD
  have h1 : eqOk (.lst (l.map f)) = true := E.lst.ok hn l
  have h2 : eqOk (f x) = true := E.ok (by omega) x
  simp only [h1, h2, Bool.and_self, if_true, findD_map E h, Nat.zero_add]

/-! ### values -/
@[simp] theorem intsOf_T (o : List Int) : intsOf (o.map D.int) = some o := intsOf_ints o
theorem ixN_nat {n i : Nat} (h : i < n) : ixN n (i : Int) = some i := by
  unfold ixN
  simp
  omega
theorem atI_nat {α : Type} {l : List α} {i : Nat} (h : i < l.length) : atI l (i : Int) = some l[i] := by
  unfold atI
  rw [ixN_nat h]
  exact List.getElem?_eq_getElem h
theorem ix_tup {ds : List D} {i : Nat} (h : i < ds.length) : ixD (.tup ds) (.int (i : Int)) = .ok ds[i] := by
  show optR (atI ds (i : Int)) = _
  rw [atI_nat h]
  rfl
theorem ix_lst {ds : List D} {i : Nat} (h : i < ds.length) : ixD (.lst ds) (.int (i : Int)) = .ok ds[i] := by
  show optR (atI ds (i : Int)) = _
  rw [atI_nat h]
  rfl
theorem ix_T {o : List Int} {i : Nat} (h : i < o.length) : ixD (T o) (.int (i : Int)) = .ok (.int (v o i)) := by
  unfold T
  rw [ix_tup (by rw [List.length_map]; exact h), List.getElem_map, v_at h]
theorem ix_L {o : List Int} {i : Nat} (h : i < o.length) : ixD (.lst (o.map .int)) (.int (i : Int)) = .ok (.int (v o i)) := by
  rw [ix_lst (by rw [List.length_map]; exact h), List.getElem_map, v_at h]
theorem sort_ints {o : List Int} (h : o.length < 64) : sortSetD (.tup (o.map .int)) = .ok (.lst ((nubS ltI o).map .int)) := by
  have := nubS_len (lt := ltI) o
  simp only [sortSetD, intsOf_T, sortI]
  rw [if_pos ⟨by omega, by omega⟩]
theorem sort_lints {o : List Int} (h : o.length < 64) : sortSetD (.lst (o.map .int)) = .ok (.lst ((nubS ltI o).map .int)) := by
  have := nubS_len (lt := ltI) o
  simp only [sortSetD, intsOf_T, sortI]
  rw [if_pos ⟨by omega, by omega⟩]
theorem sort_lintsG {o : List Int} (h : o.length < 1000) (h2 : (nubS ltI o).length < 64) : sortSetD (.lst (o.map .int)) = .ok (.lst ((nubS ltI o).map .int)) := by
  simp only [sortSetD, intsOf_T, sortI, if_pos (And.intro h h2)]
/-- the ranks of an order, each once: 0 .. the last -/
theorem nub_dense {o : List Int} (h : Dense o) (hne : o ≠ []) : nubS ltI o = (List.range (maxL o + 1).toNat).map fun k : Nat => (k : Int) := by
  obtain ⟨m1, m2⟩ := maxL_mem hne
  have m0 := (h _ m1).1
  refine (nubS_of linI ?_ fun z => ?_).symm
  · rw [List.pairwise_map]
    refine List.pairwise_lt_range.imp fun {a b} q => ?_
    exact decide_eq_true (by omega)
  · constructor
    · intro hz
      obtain ⟨k, hk, rfl⟩ := List.mem_map.mp hz
      exact dense_all h (maxL o).toNat _ m1 (by omega) k (by have := List.mem_range.mp hk; omega)
    · intro hz
      have a1 := (h z hz).1
      have a2 := m2 z hz
      exact List.mem_map.mpr ⟨z.toNat, List.mem_range.mpr (by omega), by omega⟩
end DL

set_option Elab.async false
set_option linter.all false
set_option maxRecDepth 100000
set_option maxHeartbeats 4000000
namespace DL
open PySem PySem.Spec PyProof.Rows L2 LamX

theorem small {n : Nat} (h : n ≤ 1000) : n ≤ sizeLine := Nat.le_trans h (by decide)
section
variable {α : Type} {f : α → D} {vs : List Nat} {fi : Gm → Rg (List D)} {t : Tg} {ft fe : Gm → R} {Γ : Gm}
theorem lc_of {l : List α} {h : α → D} (e : fi Γ = .ok (l.map f)) (hz : l.length ≤ 1000) (H : ∀ x ∈ l, ∃ Γ1, t (f x) (killAll vs (hideOwn Γ)) = some Γ1 ∧ fe Γ1 = .ok (h x)) : eLc vs fi t (eC (.bl true)) fe Γ = .ok (.lst (l.map h)) := by
  refine ev_lc e (by rw [List.length_map]; exact small hz) ?_
  generalize killAll vs (hideOwn Γ) = Γ0 at H
  clear e hz
  induction l with
  | nil => rfl
  | cons x l ih =>
    obtain ⟨Γ1, h1, h2⟩ := H x List.mem_cons_self
    rw [List.map_cons]
    unfold lcL
    rw [h1]
    simp only [ev_c, h2, ih fun y hy => H y (List.mem_cons_of_mem _ hy)]
    rfl
theorem lc_ofF {l : List α} {p : α → Bool} {h : α → D} (e : fi Γ = .ok (l.map f)) (hz : l.length ≤ 1000) (H : ∀ x ∈ l, ∃ Γ1, t (f x) (killAll vs (hideOwn Γ)) = some Γ1 ∧ ft Γ1 = .ok (.bl (p x)) ∧ (p x = true → fe Γ1 = .ok (h x))) : eLc vs fi t ft fe Γ = .ok (.lst ((l.filter p).map h)) := by
  refine ev_lc e (by rw [List.length_map]; exact small hz) ?_
  generalize killAll vs (hideOwn Γ) = Γ0 at H
  clear e hz
  induction l with
  | nil => rfl
  | cons x l ih =>
    obtain ⟨Γ1, h1, h2, h3⟩ := H x List.mem_cons_self
    have ih := ih fun y hy => H y (List.mem_cons_of_mem _ hy)
    rw [List.map_cons]
    unfold lcL
    rw [h1]
    cases hp : p x with
    | true =>
      rw [hp] at h2
      simp only [h2, h3 hp, ih, List.filter_cons, hp, if_true]
      rfl
    | false =>
      rw [hp] at h2
      simp only [h2, ih, List.filter_cons, hp]
      rfl
theorem bls_map (l : List α) (p : α → Bool) : blsOf (l.map fun x => D.bl (p x)) = some (l.map p) := by
  induction l with
  | nil => rfl
  | cons x l ih => simp only [List.map_cons, blsOf, ih, Option.map_some]
theorem all_bl (l : List α) (p : α → Bool) : allD [.lst (l.map fun x => D.bl (p x))] = .ok (.bl (l.all p)) := by
  simp only [allD, bls_map, List.all_map]
  rfl
theorem any_bl (l : List α) (p : α → Bool) : anyD [.lst (l.map fun x => D.bl (p x))] = .ok (.bl (l.any p)) := by
  simp only [anyD, bls_map, List.any_map]
  rfl
end
@[simp] theorem tupD_two (a b : D) : tupD [a, b] = .ok (.tup [a, b]) := if_pos (small (by simp only [List.length_cons, List.length_nil]; omega))
@[simp] theorem tupD_one (a : D) : tupD [a] = .ok (.tup [a]) := if_pos (small (by simp only [List.length_cons, List.length_nil]; omega))
@[simp] theorem tupD_three (a b c : D) : tupD [a, b, c] = .ok (.tup [a, b, c]) := if_pos (small (by simp only [List.length_cons, List.length_nil]; omega))
@[simp] theorem lstD_nil : lstD [] = .ok (.lst []) := if_pos (small (by simp only [List.length_cons, List.length_nil]; omega))
@[simp] theorem lstD_three (a b c : D) : lstD [a, b, c] = .ok (.lst [a, b, c]) := if_pos (small (by simp only [List.length_cons, List.length_nil]; omega))
@[simp] theorem lstD_five (a b c d e : D) : lstD [a, b, c, d, e] = .ok (.lst [a, b, c, d, e]) := if_pos (small (by simp only [List.length_cons, List.length_nil]; omega))
theorem lstD_small {ds : List D} (h : ds.length ≤ 1000) : lstD ds = .ok (.lst ds) := if_pos (small h)
@[simp] theorem itD_lst (ds : List D) : itD (.lst ds) = .ok ds := id rfl
@[simp] theorem itD_tup (ds : List D) : itD (.tup ds) = .ok ds := id rfl
@[simp] theorem itD_T (o : List Int) : itD (T o) = .ok (o.map .int) := id rfl
@[simp] theorem lenD_T (o : List Int) : lenD [T o] = .ok (.int o.length) := by simp [lenD, T]
@[simp] theorem isi_int_int (i : Int) : isiD "int" (.int i) = .ok (.bl true) := id rfl
@[simp] theorem isi_bool_int (i : Int) : isiD "bool" (.int i) = .ok (.bl false) := id rfl
@[simp] theorem isi_tup_T (o : List Int) : isiD "tuple" (T o) = .ok (.bl true) := id rfl
@[simp] theorem add_int (i j : Int) : addD (.int i) (.int j) = .ok (.int (i + j)) := id rfl
@[simp] theorem sub_int (i j : Int) : subD (.int i) (.int j) = .ok (.int (i - j)) := id rfl
@[simp] theorem lt_int (i j : Int) : ltD (.int i) (.int j) = .ok (.bl (decide (i < j))) := id rfl
@[simp] theorem le_int (i j : Int) : leD (.int i) (.int j) = .ok (.bl (decide (i ≤ j))) := id rfl
@[simp] theorem gt_int (i j : Int) : gtD (.int i) (.int j) = .ok (.bl (decide (j < i))) := id rfl
@[simp] theorem ge_int (i j : Int) : geD (.int i) (.int j) = .ok (.bl (decide (j ≤ i))) := id rfl
@[simp] theorem eq_int (i j : Int) : eqD (.int i) (.int j) = .ok (.bl (decide (i = j))) := emb_int.eqD (by decide) i j
@[simp] theorem ne_int (i j : Int) : neD (.int i) (.int j) = .ok (.bl (!decide (i = j))) := emb_int.neD (by decide) i j
@[simp] theorem eq_bl (i j : Bool) : eqD (.bl i) (.bl j) = .ok (.bl (decide (i = j))) := emb_bl.eqD (by decide) i j
@[simp] theorem ne_bl (i j : Bool) : neD (.bl i) (.bl j) = .ok (.bl (!decide (i = j))) := emb_bl.neD (by decide) i j
@[simp] theorem eq_T (a b : List Int) : eqD (T a) (T b) = .ok (.bl (decide (a = b))) := emb_T.eqD (by decide) a b
@[simp] theorem ne_T (a b : List Int) : neD (T a) (T b) = .ok (.bl (!decide (a = b))) := emb_T.neD (by decide) a b
theorem eq_L (a b : List Int) : eqD (.lst (a.map .int)) (.lst (b.map .int)) = .ok (.bl (decide (a = b))) := emb_int.lst.eqD (by decide) a b
theorem ne_L (a b : List Int) : neD (.lst (a.map .int)) (.lst (b.map .int)) = .ok (.bl (!decide (a = b))) := emb_int.lst.neD (by decide) a b
@[simp] theorem eq_non_T (a : List Int) : eqD .non (T a) = .ok (.bl false) := by
  unfold eqD
  rw [emb_T.ok (by decide)]
  rfl
@[simp] theorem eq_T_non (a : List Int) : eqD (T a) .non = .ok (.bl false) := by
  unfold eqD
  rw [emb_T.ok (by decide)]
  rfl
@[simp] theorem ne_T_non (a : List Int) : neD (T a) .non = .ok (.bl true) := by
  unfold neD
  rw [emb_T.ok (by decide)]
  rfl
@[simp] theorem ne_non_T (a : List Int) : neD .non (T a) = .ok (.bl true) := by
  unfold neD
  rw [emb_T.ok (by decide)]
  rfl
@[simp] theorem ne_non : neD .non .non = .ok (.bl false) := id rfl
@[simp] theorem eq_non : eqD .non .non = .ok (.bl true) := id rfl
theorem lrng1 {j : Int} (h : 0 ≤ j ∧ j ≤ 100000) : lrngA [.int j] = .ok (.lst (rngD 0 j.toNat)) := if_pos h
theorem rng1 {j : Int} (h : 0 ≤ j ∧ j ≤ 100000) : rngA [.int j] = .ok (rngD 0 j.toNat) := if_pos ⟨by omega, by omega⟩
theorem rng2 {i j : Int} (h : 0 ≤ i ∧ i ≤ 100000 ∧ 0 ≤ j ∧ j ≤ 100000) : rngA [.int i, .int j] = .ok (rngD i (j - i).toNat) := if_pos ⟨by omega, by omega, by omega, by omega⟩
@[simp] theorem intD_int (i : Int) : intD [.int i] = .ok (.int i) := id rfl
@[simp] theorem intD_bl (b : Bool) : intD [.bl b] = .ok (.int (if b then 1 else 0)) := id rfl
@[simp] theorem max2_int (i j : Int) : max2D [.int i, .int j] = .ok (.int (if j > i then j else i)) := id rfl
@[simp] theorem min2_int (i j : Int) : min2D [.int i, .int j] = .ok (.int (if j < i then j else i)) := id rfl
@[simp] theorem listD_T (o : List Int) : listD [T o] = .ok (.lst (o.map .int)) := id rfl
@[simp] theorem tupleD_lst (ds : List D) : tupleD [.lst ds] = .ok (.tup ds) := id rfl
theorem mod_int {i j : Int} (h : 0 < j) : modD (.int i) (.int j) = .ok (.int (i % j)) := if_pos h
theorem fdiv_int {i j : Int} (h : 0 < j) (h2 : j.natAbs.log2 < 9000) : fdivD (.int i) (.int j) = .ok (.int (i / j)) := if_pos ⟨h, h2⟩
theorem mul_int {i j : Int} (h : mulOk i j = true) : mulD (.int i) (.int j) = .ok (.int (i * j)) := if_pos h
theorem mm1_T {g : List Int → Int} {o : List Int} (h : o ≠ []) : mm1D g [T o] = .ok (.int (g o)) := by
  unfold T
  simp only [mm1D, intsOf_T, if_neg h]
theorem log2_le {n k : Nat} (h : n < 2 ^ (k + 1)) : n.log2 ≤ k := by
  by_cases c : n = 0
  · subst c; simp
  · have := (Nat.log2_lt c).mpr h
    omega
theorem mulOk_of {i j : Int} {a b : Nat} (h1 : i.natAbs < 2 ^ (a + 1)) (h2 : j.natAbs < 2 ^ (b + 1)) (h : a + b < 100000000) : mulOk i j = true := by
  have := log2_le h1
  have := log2_le h2
  exact decide_eq_true (by omega)
/-! ### lists grown -/
theorem st_ext {i : Nat} {h : Gm → Rg (D × Gm)} {Γ Γ' : Gm} {ds0 ds es : List D} (h0 : Γ[i]? = some (.own (.lst ds0))) (e : h Γ = .ok (.lst es, Γ')) (h1 : Γ'[i]? = some (.own (.lst ds))) (hl : ds.length + es.length ≤ sizeLine) : sExt i h Γ = .nx (Γ'.set i (.own (.lst (ds ++ es)))) := by
  unfold sExt
  simp only [h0, e, Rg.toS_ok, h1, if_pos hl]
theorem st_app {i : Nat} {h : Gm → Rg (D × Gm)} {Γ Γ' : Gm} {ds0 ds : List D} {d : D} (h0 : Γ[i]? = some (.own (.lst ds0))) (e : h Γ = .ok (d, Γ')) (h1 : Γ'[i]? = some (.own (.lst ds))) (hl : ds.length < sizeLine) : sApp i h Γ = .nx (Γ'.set i (.own (.lst (ds ++ [d])))) := by
  unfold sApp
  simp only [h0, e, Rg.toS_ok, h1, if_pos hl]
/-! ### signs -/
def sg (x y : Int) : Int := (if y < x then 1 else 0) - (if x < y then 1 else 0)
theorem sg_cases (x y : Int) : (x < y ∧ sg x y = -1) ∨ (x = y ∧ sg x y = 0) ∨ (y < x ∧ sg x y = 1) := by
  unfold sg
  rcases Int.lt_trichotomy x y with c | c | c
  · refine .inl ⟨c, ?_⟩; rw [if_neg (by omega), if_pos c]; rfl
  · subst c; refine .inr (.inl ⟨rfl, ?_⟩); rw [if_neg (by omega)]; rfl
  · refine .inr (.inr ⟨c, ?_⟩); rw [if_pos c, if_neg (by omega)]; rfl
/-- the pairs of places, the lesser ahead -/
def prs (n : Nat) : List (Nat × Nat) := (List.range n).flatMap fun i => (List.range (n - (i + 1))).map fun k => (i, i + 1 + k)
theorem mem_prs {n i j : Nat} : (i, j) ∈ prs n ↔ i < j ∧ j < n := by
  unfold prs
  simp only [List.mem_flatMap, List.mem_range, List.mem_map, Prod.mk.injEq]
  constructor
  · rintro ⟨a, ha, k, hk, rfl, rfl⟩; omega
  · rintro ⟨h1, h2⟩; exact ⟨i, by omega, j - (i + 1), by omega, rfl, by omega⟩
def PR (p : Nat × Nat) : D := .tup [.int p.1, .int p.2]
def prsTo (n m : Nat) : List (Nat × Nat) := (List.range m).flatMap fun i => (List.range (n - (i + 1))).map fun k => (i, i + 1 + k)
theorem prsTo_len {n m : Nat} (h : n ≤ 6) (hm : m ≤ 6) : (prsTo n m).length ≤ 900 := by
  have : ∀ n, n ≤ 6 → ∀ m, m ≤ 6 → (prsTo n m).length ≤ 900 := by decide
  exact this n h m hm
theorem prsTo_succ (n m : Nat) : prsTo n (m + 1) = prsTo n m ++ (List.range (n - (m + 1))).map fun k => (m, m + 1 + k) := by
  unfold prsTo
  rw [List.range_succ, List.flatMap_append]
  simp
theorem prs_len {n : Nat} (h : n ≤ 6) : (prs n).length ≤ 1000 := by
  have : ∀ m, m ≤ 6 → (prs m).length ≤ 1000 := by decide
  exact this n h
theorem all_prs {n : Nat} {p : Nat × Nat → Bool} : (prs n).all p = true ↔ ∀ i j, i < j → j < n → p (i, j) = true := by
  rw [List.all_eq_true]
  exact ⟨fun h i j h1 h2 => h _ (mem_prs.mpr ⟨h1, h2⟩), fun h x hx => h x.1 x.2 (mem_prs.mp hx).1 (mem_prs.mp hx).2⟩
end DL

set_option Elab.async false
set_option linter.all false
set_option maxRecDepth 100000
set_option maxHeartbeats 2000000
namespace DL
open PySem PySem.Spec PyProof.Rows L2 LamX
/-! ### a statement that is never reached -/
def sBad : Gm → O := fun _ => .bad
theorem ds_bad {X : Cx} {C : Cn} {W : WX} {st : Stmt} : DS X C W st sBad := ⟨fun pins s σ H D I ⟨Γ, P0, H0, E, g⟩ => g.elim⟩
theorem dss_bad {X : Cx} {C : Cn} {W : WX} {sts : List Stmt} : DSs X C W sts sBad := ⟨fun pins s σ H D I ⟨Γ, P0, H0, E, g⟩ => g.elim⟩
/-! ### a module's constant: a tuple -/
def CstAt (K : PySem.W.Frag) (mg : Str → Option Value) (x : Str) (ds : List D) : Prop := ∃ (a : Addr) (xs : List V), mg x = some (.ref a) ∧ SqT K (fun _ => none) a xs ∧ ∀ fa H, RpL K fa H xs ds
theorem cst_at {K : PySem.W.Frag} {mg : Str → Option Value} {x : Str} {ds : List D} {a : Addr} {xs : List V} {od : Option Addr} {its : Array Value} {n : Nat} {sl : Array (Option Value)}
    (hm : mg x = some (.ref a)) (hk : K.lookup a = some ⟨.type "tuple", od, .seq its n, sl⟩) (hs : its.size ≤ sizeLine) (hv : Vals xs its.toList) (hr : ∀ fa H, RpL K fa H xs ds) : CstAt K mg x ds :=
  ⟨a, xs, hm, .inr ⟨_, its, n, hk, rfl, rfl, hs, hv⟩, hr⟩
theorem de_gc {X : Cx} {C : Cn} {W : WX} {x : Str} {pos : Pos} {ds : List D} (h : CstAt X.K X.mg x ds) (hg : Gl X x := by rfl) (hd : (x == ("__debug__" : Str)) = false := by decide) : DE X C W (.Name x pos) (eC (.cst ds)) :=
  let ⟨_, _, h1, h2, h3⟩ := h
  de_glob (v := .ref _) h1 rfl (fun H => .cst h2 (h3 _ _)) hg hd
/-! ### x[k] = e, x a list or dict of its own -/
section
variable {κ : Type} [DecidableEq κ]
def setV {α : Type} (q : κ) (d : α) : List κ → List α → List α
  | k :: ks, x :: xs => (if k = q then d else x) :: setV q d ks xs
  | _, _ => []
theorem setV_cons {α : Type} (q : κ) (d : α) (k : κ) (ks : List κ) (x : α) (xs : List α) : setV q d (k :: ks) (x :: xs) = (if k = q then d else x) :: setV q d ks xs := rfl
def hasK (ks : List κ) (q : κ) : Bool := ks.any fun k => decide (k = q)
theorem setV_len {α : Type} (q : κ) (d : α) : ∀ (ks : List κ) (xs : List α), ks.length = xs.length → (setV q d ks xs).length = xs.length
  | [], [], _ => rfl
  | [], _ :: _, h => by simp at h
  | _ :: _, [], h => by simp at h
  | k :: ks, x :: xs, h => by
    rw [setV_cons, List.length_cons, List.length_cons, setV_len q d ks xs (by simpa using h)]
theorem zip_any (q : κ) : ∀ (ks : List κ) (xs : List V), ks.length = xs.length → ((ks.zip xs).any fun kv => decide (kv.1 = q)) = hasK ks q
  | [], [], _ => rfl
  | [], _ :: _, h => by simp at h
  | _ :: _, [], h => by simp at h
  | k :: ks, x :: xs, h => by
    rw [List.zip_cons_cons, List.any_cons, zip_any q ks xs (by simpa using h)]
    rfl
theorem zip_set (q : κ) (v : V) : ∀ (ks : List κ) (xs : List V), (ks.zip xs).map (fun kv => if kv.1 = q then (kv.1, v) else kv) = ks.zip (setV q v ks xs)
  | [], _ => rfl
  | _ :: _, [] => rfl
  | k :: ks, x :: xs => by
    rw [List.zip_cons_cons, List.map_cons, zip_set q v ks xs, setV_cons, List.zip_cons_cons]
    by_cases c : k = q <;> simp [c]
theorem putK_zip (q : κ) (v : V) (ks : List κ) (xs : List V) (h : ks.length = xs.length) : putK (ks.zip xs) q v = if hasK ks q = true then ks.zip (setV q v ks xs) else (ks ++ [q]).zip (xs ++ [v]) := by
  unfold putK
  rw [zip_any q ks xs h, zip_set]
  cases c : hasK ks q
  · simp [List.zip_append h]
  · simp
theorem setV_rp {K : PySem.W.Frag} {fa : Str → Option Addr} {H : Hp} (q : κ) {v : V} {d : D} (r : Rp K fa H v d) : ∀ (ks : List κ) (xs : List V) (ds : List D), RpL K fa H xs ds → RpL K fa H (setV q v ks xs) (setV q d ks ds)
  | [], _, _, _ => .nil
  | _ :: _, _, _, .nil => .nil
  | k :: ks, _, _, .cons r1 r2 => by
    rw [setV_cons, setV_cons]
    refine .cons ?_ (setV_rp q r ks _ _ r2)
    by_cases c : k = q
    · rw [if_pos c, if_pos c]; exact r
    · rw [if_neg c, if_neg c]; exact r1
end
def dPut : D → D → D → Option D
  | .lst ds, .int k, d => (ixN ds.length k).map fun j => .lst (ds.set j d)
  | .dK ks ds, k, d => (match keyOf k with
    | some q => if ks.length < sizeLine then some (if hasK ks q = true then .dK ks (setV q d ks ds) else .dK (ks ++ [q]) (ds ++ [d])) else none
    | none => none)
  | .dT ks ds, .tup k, d => (match keysOf k with
    | some q => if ks.length < sizeLine then some (if hasK ks q = true then .dT ks (setV q d ks ds) else .dT (ks ++ [q]) (ds ++ [d])) else none
    | none => none)
  | _, _, _ => none
def rPut : V → V → V → Hp → (Hp → Prop) → Prop := fun o i v H Q => rSetL o i v H Q ∨ rSetD o i v H Q
theorem set_any {X : Cx} (hu : X.A.units + 1 < cLine) : PSet X rPut := by
  intro pins s σ H o i v ou iu u Q I r1 r2 r3 h
  rcases h with h | h
  · exact set_list pins s σ H o i v ou iu u Q I r1 r2 r3 h
  · exact set_dict hu pins s σ H o i v ou iu u Q I r1 r2 r3 h
/-- the heap behind the store, as data -/
theorem put_own {K : PySem.W.Frag} {C : Cn} {P0 : Addr → Prop} {H0 H : Hp} {Γ : Gm} {σ : L2.St} {i : Nat} {d0 d1 k d : D} {a : Addr} {kv v : V} {M : Addr → Prop} {Q : Hp → Prop} (E : Here K C P0 H0 Γ σ H) (hi : Γ[i]? = some (.own d0)) (hσ : σ[i]? = some (some (.ref a)))
    (rk : Rp K C.fa (mask M H) kv k) (rv : Rp K C.fa (mask (Msk P0 Γ σ) H) v d) (hp : dPut d0 k d = some d1) (q : ∀ H', Here K C P0 H0 (Γ.set i (.own d1)) σ H' → Q H') : rPut (.ref a) kv v H Q := by
  obtain ⟨a', hσ', _, _, o⟩ := E.e.own i _ hi
  rw [hσ] at hσ'
  cases hσ'
  unfold dPut at hp
  split at hp
  · rename_i ds z
    cases rp_int rk
    obtain ⟨xs, hx, r⟩ := o
    cases hj : ixN ds.length z with
    | none => rw [hj] at hp; cases hp
    | some j =>
      rw [hj] at hp
      cases hp
      exact .inl ⟨a, xs, z, j, rfl, rfl, hx, by rw [r.length]; exact hj, q _ ⟨E.e.mutO hi hσ ⟨xs.set j v, upd_same, RpL.set rv j r⟩, E.nt⟩⟩
  · rename_i ks ds
    obtain ⟨xs, hx, hl, r⟩ := o
    split at hp
    · rename_i y hy
      have ey := keyOf_rp rk hy
      subst ey
      split at hp
      · rename_i hz
        cases hp
        refine .inr ⟨a, _, rfl, DPut.k hx (by rw [List.length_zip]; omega), ?_⟩
        rw [putK_zip y v ks xs hl]
        by_cases c : hasK ks y = true
        · rw [if_pos c] at q ⊢
          exact q _ ⟨E.e.mutO hi hσ ⟨setV y v ks xs, upd_same, by rw [setV_len y v ks xs hl]; exact hl, setV_rp y rv ks xs ds r⟩, E.nt⟩
        · rw [if_neg c] at q ⊢
          exact q _ ⟨E.e.mutO hi hσ ⟨xs ++ [v], upd_same, by simp [hl], r.snoc rv⟩, E.nt⟩
      · cases hp
    · cases hp
  · rename_i ks ds k
    obtain ⟨xs, hx, hl, r⟩ := o
    split at hp
    · rename_i y hy
      obtain ⟨b, ys, rfl, hb, rb⟩ := rp_tup rk
      have ey := keysOf_rp rb hy
      subst ey
      split at hp
      · rename_i hz
        cases hp
        refine .inr ⟨a, _, rfl, DPut.t hx (mask_some.mp hb).2 (by rw [List.length_zip]; omega), ?_⟩
        rw [putK_zip y v ks xs hl]
        by_cases c : hasK ks y = true
        · rw [if_pos c] at q ⊢
          exact q _ ⟨E.e.mutO hi hσ ⟨setV y v ks xs, upd_same, by rw [setV_len y v ks xs hl]; exact hl, setV_rp y rv ks xs ds r⟩, E.nt⟩
        · rw [if_neg c] at q ⊢
          exact q _ ⟨E.e.mutO hi hσ ⟨xs ++ [v], upd_same, by simp [hl], r.snoc rv⟩, E.nt⟩
      · cases hp
    · cases hp
  · cases hp
def sPut (i : Nat) (h : Gm → Rg (D × Gm)) (b : Bool) (f : Gm → R) : Gm → O := fun Γ => (h Γ).toS Γ fun p => match p.2[i]? with
  | some (.own d0) => (match tst b f p.2 with
    | .ok k => (match dPut d0 k p.1 with
      | some d1 => .nx (p.2.set i (.own d1))
      | none => .bad)
    | .exc c => .exc c p.2
    | .bad => .bad)
  | _ => .bad
section
variable {X : Cx} {C : Cn} {W : WX} {e ix : Expr} {h : Gm → Rg (D × Gm)} {f : Gm → R} {pos : Pos}
theorem ds_put (i : Nat) (b : Bool) {x : Str} {p p' : Pos} (hu : X.A.units + 1 < cLine) (he : DV X C W e h) (hv : PE X (.Name x p) (tVar i)) (hi : DE X C W ix f)
    (ha : ∀ v, assign (.Subscript (.Name x p) ix p') X.env v = (do
      let ov ← holding [v] (eval (.Name x p) X.env)
      let iv ← holding [v, ov] (eval ix X.env)
      standAt p'
      holding [v, ov, iv] (setItem ov iv v)
      release [v, ov, iv] []) := by intro _; rfl)
    (hs : swapsWithSole [.Subscript (.Name x p) ix p'] e pos.line X.env = pure false := by rfl) (hw : swappedStores [.Subscript (.Name x p) ix p'] e X.env = pure none := by rfl)
    (h1 : (assignEach [.Subscript (.Name x p) ix p'] X.env).map (·.2) = [assign (.Subscript (.Name x p) ix p') X.env] := by rfl) :
    DS X C W (.Assign [.Subscript (.Name x p) ix p'] e pos) (sPut i h b f) := PS.to (ps_asg he (pg_sub hv hi (set_any hu) ha) hs hw h1) fun Z σ H ⟨Γ, P0, H0, E, g⟩ => by
  unfold sPut at g
  refine ⟨Γ, P0, H0, E, got_of g E fun p v H' _ e t ⟨E', r⟩ k => ?_⟩
  split at k
  · rename_i d0 hi'
    obtain ⟨a, hσ, _, _, _⟩ := E'.e.own i _ hi'
    refine ⟨.ref a, hσ, ?_⟩
    have E2 : Here X.K C P0 H0 (if b then unown p.2 else p.2) σ H' := by
      cases b with
      | true => exact E'.unown
      | false => exact E'
    refine ⟨_, P0, H0, E2, ?_⟩
    unfold tst at k
    cases hq : f (if b then unown p.2 else p.2) with
    | ok kd =>
      rw [hq] at k
      intro kv H'' e' t' rk
      simp only [] at k
      split at k
      · rename_i d1 hp
        exact put_own (E'.ext e' t') hi' hσ rk (Rp.ext (mask_same e') _ _ r) hp fun H4 E4 => k σ H4 E4
      · exact k.elim
    | exc c => rw [hq] at k; exact fun c' H'' x e' t' => k c' σ H'' x (E'.ext e' t')
    | bad => rw [hq] at k; exact k.elim
  · exact k.elim
end
end DL

set_option Elab.async false
set_option linter.all false
set_option maxRecDepth 100000
set_option maxHeartbeats 2000000
namespace DL
open PySem PySem.Spec PyProof.Rows L2 LamX
/-! ### dicts -/
section
variable {K : PySem.W.Frag} {C : Cn} {X : Cx} {W : WX} {pos : Pos}
theorem df_dnewK : DF X C W (.Dict [] [] pos) (eC (.dK [] [])) := PE.to pe_dnewK fun σ H Q ⟨Γ, P0, H0, E, g⟩ p hp =>
  g (.ref p) _ (ext_new hp) (tabs_new E.e.tab hp) ⟨p, rfl, not_solid hp, [], upd_same, rfl, .nil⟩
def dinD : D → D → R
  | k, .dK ks _ => (match keyOf k with
    | some q => .ok (.bl (hasK ks q))
    | none => .bad)
  | .tup k, .dT ks _ => (match keysOf k with
    | some q => .ok (.bl (hasK ks q))
    | none => .bad)
  | _, _ => .bad
def dninD (d e : D) : R := notB (dinD d e)
def rInDict : R2 := fun x y H Q => ∃ a o, y = .ref a ∧ DGet H a x o ∧ Q (.bl o.isSome) H
def rNinDict : R2 := fun x y H Q => ∃ a o, y = .ref a ∧ DGet H a x o ∧ Q (.bl (!o.isSome)) H
theorem op_inDict (hu : X.A.units + 1 < cLine) : OpR X (compareOp .In) rInDict := by
  intro pins s σ H x y v u Q I rx ry h
  obtain ⟨a, o, rfl, g, q⟩ := h
  obtain rfl : u = Value.ref a := ry
  exact d_in hu I g rx fun s3 I3 => ⟨.bl o.isSome, H, I3, rfl, q⟩
theorem op_ninDict (hu : X.A.units + 1 < cLine) : OpR X (compareOp .NotIn) rNinDict := by
  intro pins s σ H x y v u Q I rx ry h
  obtain ⟨a, o, rfl, g, q⟩ := h
  obtain rfl : u = Value.ref a := ry
  exact d_notIn hu I g rx fun s3 I3 => ⟨.bl (!o.isSome), H, I3, rfl, q⟩
theorem val_some {κ : Type} [DecidableEq κ] (q : κ) (ks : List κ) (xs : List V) (h : ks.length = xs.length) : (valV (ks.zip xs) q).isSome = hasK ks q := by
  rw [← valV_any, zip_any q ks xs h]
theorem dget_of {H : Hp} {M : Addr → Prop} {x y : V} {d e : D} {b : Bool} (rx : Rp K C.fa (mask M H) x d) (ry : Rp K C.fa (mask M H) y e) (h : dinD d e = .ok (.bl b)) : ∃ a o, y = .ref a ∧ DGet H a x o ∧ o.isSome = b := by
  unfold dinD at h
  split at h
  · rename_i ks ds
    split at h
    · rename_i q hq
      cases h
      obtain ⟨p, xs, rfl, hp, hl, r⟩ := rp_dK ry
      have ey := keyOf_rp rx hq
      subst ey
      exact ⟨p, _, rfl, DGet.k (mask_some.mp hp).2, val_some q ks xs hl⟩
    · cases h
  · rename_i k ks ds
    split at h
    · rename_i q hq
      cases h
      obtain ⟨p, xs, rfl, hp, hl, r⟩ := rp_dT ry
      obtain ⟨b, ys, rfl, hb, rb⟩ := rp_tup rx
      have ey := keysOf_rp rb hq
      subst ey
      exact ⟨p, _, rfl, DGet.t (mask_some.mp hp).2 (mask_some.mp hb).2, val_some q ks xs hl⟩
    · cases h
  · cases h
theorem din_bl {d e : D} : (∃ b, dinD d e = .ok (.bl b)) ∨ dinD d e = .bad := by
  unfold dinD
  split
  · split
    · exact .inl ⟨_, rfl⟩
    · exact .inr rfl
  · split
    · exact .inl ⟨_, rfl⟩
    · exact .inr rfl
  · exact .inr rfl
theorem vop_din : VOp K C rInDict dinD := by
  intro W M σ H x y d e Q mm t rx ry g
  rcases din_bl (d := d) (e := e) with ⟨b, h⟩ | h
  · rw [h] at g
    obtain ⟨a, o, h1, h2, h3⟩ := dget_of rx ry h
    exact ⟨a, o, h1, h2, by rw [h3]; exact Got.ok1 g t (.bl _)⟩
  · rw [h] at g; exact g.elim
theorem vop_dnin : VOp K C rNinDict dninD := by
  intro W M σ H x y d e Q mm t rx ry g
  unfold dninD at g
  rcases din_bl (d := d) (e := e) with ⟨b, h⟩ | h
  · rw [h] at g
    obtain ⟨a, o, h1, h2, h3⟩ := dget_of rx ry h
    exact ⟨a, o, h1, h2, by rw [h3]; exact Got.ok1 g t (.bl _)⟩
  · rw [h] at g; exact g.elim
theorem q_din {k : Nat} (hr : Room k X.A) (h1 : X.A.units + 1 < cLine) : Cmp X C .In dinD := ⟨_, op_inDict h1, vop_din⟩
theorem q_dnin {k : Nat} (hr : Room k X.A) (h1 : X.A.units + 1 < cLine) : Cmp X C .NotIn dninD := ⟨_, op_ninDict h1, vop_dnin⟩
/-! d.get(k, x) -/
def isDct : D → Bool
  | .dK _ _ => true
  | .dT _ _ => true
  | _ => false
def getD2 (d k z : D) : R := match d, k with
  | .dK ks ds, k => (match keyOf k with
    | some q => .ok ((lookD ks ds q).getD z)
    | none => .bad)
  | .dT ks ds, .tup k => (match keysOf k with
    | some q => .ok ((lookD ks ds q).getD z)
    | none => .bad)
  | _, _ => .bad
def eGet (fo fk fz : Gm → R) : Gm → R := fun Γ => (fo Γ).bind fun d => if isDct d then (fk Γ).bind fun k => (fz Γ).bind fun z => getD2 d k z else .bad
theorem look_val {H : Hp} {κ : Type} [DecidableEq κ] (q : κ) : ∀ {ks : List κ} {ds : List D} {xs : List V}, RpL K C.fa H xs ds → ks.length = xs.length → (∃ v d, valV (ks.zip xs) q = some v ∧ lookD ks ds q = some d ∧ Rp K C.fa H v d) ∨ (valV (ks.zip xs) q = none ∧ lookD ks ds q = none)
  | [], ds, xs, _, _ => .inr ⟨rfl, by unfold lookD; rfl⟩
  | k :: ks, _, _, .nil, h => by simp at h
  | k :: ks, d :: ds, x :: xs, .cons r1 r2, h => by
    by_cases c : k = q
    · refine .inl ⟨x, d, valV_pos c, ?_, r1⟩
      unfold lookD
      rw [if_pos c]
    · have e1 : valV ((k :: ks).zip (x :: xs)) q = valV (ks.zip xs) q := valV_neg c
      have e2 : lookD (k :: ks) (d :: ds) q = lookD ks ds q := by conv => lhs; unfold lookD; rw [if_neg c]
      rw [e1, e2]
      exact look_val q r2 (by simpa using h)
theorem m_get2 {o e f : Expr} {apos cpos : Pos} {fo fk fz : Gm → R} (hu : X.A.units + 1 < cLine) (ho : DE X C W o fo) (he : DE X C W e fk) (hf : DE X C W f fz) (m : M2 X o "get" apos e f cpos) : DE X C W (.Call (.Attribute o "get" apos) [e, f] [] cpos) (eGet fo fk fz) :=
  PE.to (pe_dget2 hu ho he hf m) fun σ H Q ⟨Γ, P0, H0, E, g⟩ => by
  refine ⟨Γ, P0, H0, E, Got.bind repD_mono g fun d x H1 _ e1 t1 r1 g1 => ?_⟩
  split at g1
  · rename_i hd
    have hx : ∃ a, x = .ref a ∧ IsD H1 a := by
      cases d with
      | dK ks ds => obtain ⟨p, xs, rfl, hp, _⟩ := rp_dK r1; exact ⟨p, rfl, .inl ⟨_, .inl (mask_some.mp hp).2⟩⟩
      | dT ks ds => obtain ⟨p, xs, rfl, hp, _⟩ := rp_dT r1; exact ⟨p, rfl, .inr ⟨_, .inl (mask_some.mp hp).2⟩⟩
      | _ => cases hd
    obtain ⟨a, rfl, ia⟩ := hx
    refine ⟨a, rfl, ia, Γ, P0, H0, E.ext e1 t1, Got.bind repD_mono g1 fun k y H2 _ e2 t2 r2 g2 => ?_⟩
    refine ⟨Γ, P0, H0, (E.ext e1 t1).ext e2 t2, Got.bind repD_mono g2 fun z w H3 _ e3 t3 r3 g3 => ?_⟩
    have r1' := Rp.ext (mask_same (e2.trans e3)) _ _ r1
    have r2' := Rp.ext (mask_same e3) _ _ r2
    unfold getD2 at g3
    split at g3
    · rename_i ks ds k
      split at g3
      · rename_i q hq
        obtain ⟨p, xs, hpe, hp, hl, r⟩ := rp_dK r1'
        cases hpe
        have ey := keyOf_rp r2' hq
        subst ey
        refine ⟨_, DGet.k (mask_some.mp hp).2, ?_⟩
        rcases look_val (C := C) q r hl with ⟨v, d, h1, h2, h3⟩ | ⟨h1, h2⟩
        · rw [h1]; rw [h2] at g3; exact Got.ok1 g3 t3 h3
        · rw [h1]; rw [h2] at g3; exact Got.ok1 g3 t3 r3
      · exact g3.elim
    · rename_i ks ds k
      split at g3
      · rename_i q hq
        obtain ⟨p, xs, hpe, hp, hl, r⟩ := rp_dT r1'
        cases hpe
        obtain ⟨b, ys, hbe, hb, rb⟩ := rp_tup r2'
        cases hbe
        have ey := keysOf_rp rb hq
        subst ey
        refine ⟨_, DGet.t (mask_some.mp hp).2 (mask_some.mp hb).2, ?_⟩
        rcases look_val (C := C) q r hl with ⟨v, d, h1, h2, h3⟩ | ⟨h1, h2⟩
        · rw [h1]; rw [h2] at g3; exact Got.ok1 g3 t3 h3
        · rw [h1]; rw [h2] at g3; exact Got.ok1 g3 t3 r3
      · exact g3.elim
    · exact g3.elim
  · exact g1.elim
/-! len(d) -/
def dlenD : List D → R
  | [.dK ks _] => .ok (.int ks.length)
  | _ => .bad
def rLenDict : List V → Hp → VK → Prop := fun xs H Q => ∃ a kvs, xs = [.ref a] ∧ Rd H a (.dK kvs) ∧ Q (.int kvs.length) H
theorem call_lenDict : CallR X (.builtin "len") rLenDict := by
  intro pins s σ H xs us Q I r h
  obtain ⟨a, kvs, rfl, e, q⟩ := h
  obtain ⟨u, rfl, rx⟩ := vals1 r
  obtain rfl : u = Value.ref a := rx
  exact d_len I e fun t s' I' => ⟨.int kvs.length, H, I', ⟨t, rfl⟩, q⟩
theorem vc_lenDict : VCall K C rLenDict dlenD := by
  intro W M σ H xs ds Q mm t r g
  unfold dlenD at g
  split at g
  · rename_i ks ds
    obtain ⟨x, rfl, rx⟩ := rpL_one r
    obtain ⟨p, ys, rfl, hp, hl, rr⟩ := rp_dK rx
    refine ⟨p, _, rfl, .inl (mask_some.mp hp).2, ?_⟩
    rw [List.length_zip, ← hl, Nat.min_self]
    exact Got.ok1 g t (.int _)
  · exact g.elim
theorem b_dlen {e : Expr} {es : List Expr} {p : Pos} {fs : Gm → Rg (List D)} (hm : X.mg "len" = none) (ha : DA X C W (e :: es) fs) (hg : Gl X "len" := by rfl) (he : starEach (e :: es) X.env = (false, eval e X.env) :: starEach es X.env := by rfl) (hpl : (backTo pos (starEach es X.env)).any (·.1) = false := by rfl) :
    DE X C W (.Call (.Name "len" p) (e :: es) [] pos) (eB dlenD fs) := de_callB call_lenDict vc_lenDict hm ha (by rfl) hg (by decide) (by decide) he hpl
/-! d == {} -/
def deqD : D → D → R
  | .dK ks _, .dK [] [] => .ok (.bl ks.isEmpty)
  | _, _ => .bad
def rEqDict : R2 := fun x y H Q => ∃ a b kvs, x = .ref a ∧ y = .ref b ∧ Rd H a (.dK kvs) ∧ Rd H b (.dK []) ∧ Q (.bl kvs.isEmpty) H
theorem op_eqDict (hu : X.A.units + 64 < cLine) : OpR X (compareOp .Eq) rEqDict := by
  intro pins s σ H x y v u Q I rx ry h
  obtain ⟨a, b, kvs, rfl, rfl, ea, eb, q⟩ := h
  obtain rfl : v = Value.ref a := rx
  obtain rfl : u = Value.ref b := ry
  obtain ⟨_, hd, vs, rel, dd⟩ := dk_rd I.hok ea
  obtain ⟨_, hd2, vs2, rel2, dd2⟩ := dk_rd I.hok eb
  cases rel2
  have e : (vs.length == ([] : List (Key × Value)).length && true) = kvs.isEmpty := by
    rw [← rel.length, Bool.and_true]
    cases kvs <;> rfl
  refine PySem.W.rcP_dicts hd hd2 dd dd2 (by omega) (r := true) (fun hl => ?_) _ _ ?_
  · cases vs with
    | nil => exact .nil
    | cons _ _ => cases hl
  · rw [e]
    exact ⟨.bl kvs.isEmpty, H, I, rfl, q⟩
theorem vop_deq : VOp K C rEqDict deqD := by
  intro W M σ H x y d e Q mm t rx ry g
  unfold deqD at g
  split at g
  · rename_i ks ds
    obtain ⟨p, xs, rfl, hp, hl, r⟩ := rp_dK rx
    obtain ⟨p2, xs2, rfl, hp2, hl2, r2⟩ := rp_dK ry
    have e : (ks.zip xs).isEmpty = ks.isEmpty := by
      cases ks with
      | nil => rfl
      | cons k ks => cases xs with
        | nil => cases hl
        | cons x xs => rfl
    exact ⟨p, p2, _, rfl, rfl, .inl (mask_some.mp hp).2, .inl (mask_some.mp hp2).2, by rw [e]; exact Got.ok1 g t (.bl _)⟩
  · exact g.elim
theorem q_deq {k : Nat} (hr : Room k X.A) : Cmp X C .Eq deqD := ⟨_, op_eqDict hr.units, vop_deq⟩
end
end DL

set_option Elab.async false
set_option linter.all false
set_option maxRecDepth 100000
set_option maxHeartbeats 2000000
namespace DL
open PySem PySem.Spec PyProof.Rows L2 LamX
/-! ### sorted(d), d a dict with keys ints -/
theorem vals_at : ∀ {ks : List Int} {l : List Value}, l.length = ks.length → (∀ (j : Nat) (v : Value), l[j]? = some v → ∃ (i : Int) (t : Tok), ks[j]? = some i ∧ v = .int i t) → Vals (ks.map V.int) l
  | [], [], _, _ => .nil
  | [], _ :: _, h, _ => by cases h
  | _ :: _, [], h, _ => by cases h
  | k :: ks, v :: l, h, H => by
    obtain ⟨i, t, h1, h2⟩ := H 0 v rfl
    cases h1
    refine .cons ⟨t, h2⟩ (vals_at (by simpa using h) fun j u hj => ?_)
    have := H (j + 1) u (by simpa using hj)
    simpa using this
theorem paired_right {α β : Type} {R : α → β → Prop} : ∀ {as : List α} {bs : List β} {j : Nat} {b : β}, Paired R as bs → bs[j]? = some b → ∃ a, as[j]? = some a ∧ R a b
  | _, _, _, _, .nil, e => by simp at e
  | _, _, 0, _, .cons r _, e => by simp at e; subst e; exact ⟨_, rfl, r⟩
  | _, _, j + 1, b, .cons _ t, e => by
    obtain ⟨a, h1, h2⟩ := paired_right (j := j) t (by simpa using e)
    exact ⟨a, by simpa using h1, h2⟩
def rSortDict : List V → Hp → VK → Prop := fun vs H Q => ∃ (a : Addr) (ks : List Int) (xs : List V), vs = [.ref a] ∧ H a = some (.dK ((ks.map Sum.inl).zip xs)) ∧ ks.length = xs.length ∧
  ∀ (ns' : List Int) (p : Addr), ns'.Perm ks → ns'.Pairwise (· ≤ ·) → H p = none → Q (.ref p) (upd H p (.lst (ns'.map V.int)))
theorem cr_sortedDict {X : Cx} (hc : X.calm = true) : CallR X (.builtin "sorted") rSortDict := by
  intro pins s σ H vs us Q I r h
  obtain ⟨a, ks, xs, rfl, ha, hl, q⟩ := h
  obtain ⟨u, rfl, rx⟩ := vals1 r
  obtain rfl : u = Value.ref a := rx
  obtain ⟨z, hd, vs, rel, dd⟩ := dk_rd I.hok (.inl ha)
  obtain ⟨ep, da⟩ := dd.dictAt
  have hh : X.A.handled = none := I.ok.hd hc
  have hln : vs.length = ks.length := by rw [← rel.length, List.length_zip, List.length_map, ← hl, Nat.min_self]
  have hz : vs.length ≤ sizeLine := by rw [← rel.length]; exact z
  refine Calls.call_function_entry kind_sorted plain_sorted entry_sorted (args_sorted1 _) ?_
  unfold Builtin.«sorted»
  refine wpAny_bind (m := checkCount "sorted" 1 1 _) (wpAny_pure ?_)
  refine wpAny_bind (PySem.W.kdu_collect (A := X.A.in1) (PySem.W.kdl_dict hd) hh da hz fun h' tk acc hk hacc => ?_)
  have hl2 : acc.toList.length = ks.length := by rw [Array.length_toList, ← hln]; exact hacc.1
  have rv : Vals (ks.map V.int) acc.toList := vals_at hl2 fun j v hj => by
    obtain ⟨k, x, h1, h2⟩ := hacc.2 j v (by rw [← Array.getElem?_toList]; exact hj)
    obtain ⟨p, hp1, hp2, _⟩ := paired_right rel h1
    obtain ⟨hk1, _⟩ := List.getElem?_zip_eq_some.mp hp1
    rw [List.getElem?_map] at hk1
    cases hkj : ks[j]? with
    | none => rw [hkj] at hk1; cases hk1
    | some i =>
      rw [hkj] at hk1
      simp at hk1
      rw [← hk1] at hp2
      simp at hp2
      subst hp2
      have h2 : keyIs (Sum.inl i) v = true := h2
      rcases keyIs_shape h2 with ⟨i', t, e1, e2⟩ | ⟨y, t, e1, e2⟩
      · cases e1; exact ⟨i, t, rfl, e2⟩
      · cases e1
  refine wpAny_bind (wpAny_newList ?_ (by rw [hl2, ← hln]; exact hz))
  have hob : (h'.push { cls := .type "list", data := .seq acc.toList.toArray }).get? h'.objs.size = some { cls := .type "list", data := .seq acc.toList.toArray } := Heap.get?_push_size _ rfl
  have hi := rv.ints
  refine wpAny_bind (wpAny_holding ?_)
  refine wpAny_call_entry PyProof.Rows.slot_list_sort ⟨_, hob, rfl⟩ PyProof.Rows.entry_list_sort
    (SrtO.list_sort_ord SrtO.swo_int hob (by rw [hl2, ← hln]; exact hz) (fun h2 => SrtO.ints_sortable hi h2) fun out h1 h2 => ⟨.none, rfl, ?_⟩) (PyProof.Rows.args_list_sort _)
  obtain ⟨k1, k2, k3⟩ := SrtO.ints_out hi h1 h2
  obtain ⟨ep, he'⟩ := PyProof.Rows.sortedHeap_at (vs := acc.toList) (out := out.toArray) hob
  have hlen : ((out.map SrtO.iv).map V.int).length ≤ sizeLine := by
    rw [List.length_map, k2.length_eq, ← hln]
    exact hz
  refine wpAny_pure ⟨_, rfl, ?_⟩
  have I1 : Inv X pins σ H { s with heap := h', toks := tk } := I.kept (t' := tk) fun b o e => hk b o e
  refine ⟨.ref h'.objs.size, upd H h'.objs.size (.lst ((out.map SrtO.iv).map V.int)), I1.laid (t' := tk) (fun b u hb => ?_) (Nat.le_refl _) ⟨hlen, out, ep, vals_of_ints k1, he'⟩, rfl, q _ _ k2 k3 (I1.hok.fresh (Nat.le_refl _))⟩
  have hn : b ≠ h'.objs.size := Nat.ne_of_lt (Heap.lt_size hb)
  have hp : (h'.push { cls := .type "list", data := .seq acc.toList.toArray }).get? b = some u := Heap.get?_push_of_some _ hb
  rw [PyProof.Rows.sortedHeap_old hn (Heap.lt_size hp)]
  exact hp
theorem srt_unique : ∀ {a b : List Int}, a.Perm b → a.Pairwise (· ≤ ·) → b.Pairwise (· ≤ ·) → a = b
  | [], b, h, _, _ => (List.Perm.nil_eq h)
  | x :: a, [], h, _, _ => by have := h.length_eq; simp at this
  | x :: a, y :: b, h, h1, h2 => by
    obtain ⟨p1, p2⟩ := List.pairwise_cons.mp h1
    obtain ⟨q1, q2⟩ := List.pairwise_cons.mp h2
    have e : x = y := by
      have a1 : x ∈ y :: b := h.mem_iff.mp List.mem_cons_self
      have a2 : y ∈ x :: a := h.mem_iff.mpr List.mem_cons_self
      rcases List.mem_cons.mp a1 with e | e
      · exact e
      · rcases List.mem_cons.mp a2 with e2 | e2
        · exact e2.symm
        · exact Int.le_antisymm (p1 _ e2) (q1 _ e)
    subst e
    rw [srt_unique (List.Perm.cons_inv h) p2 q2]
def intKeys : List Key → Option (List Int)
  | [] => some []
  | .inl i :: r => (intKeys r).map (i :: ·)
  | _ => none
theorem intKeys_map : ∀ {ks : List Key} {is : List Int}, intKeys ks = some is → ks = is.map Sum.inl
  | [], is, h => by cases h; rfl
  | .inl i :: r, is, h => by
    unfold intKeys at h
    cases hr : intKeys r with
    | none => rw [hr] at h; cases h
    | some js => rw [hr] at h; cases h; rw [intKeys_map hr]; rfl
  | .inr _ :: r, is, h => by cases h
def srtI (is : List Int) : List Int := is.mergeSort fun a b => decide (a ≤ b)
theorem srtI_perm (is : List Int) : (srtI is).Perm is := List.mergeSort_perm is _
theorem srtI_pw (is : List Int) : (srtI is).Pairwise (· ≤ ·) :=
  (List.pairwise_mergeSort (le := fun a b : Int => decide (a ≤ b)) (fun a b c h1 h2 => by simp at h1 h2 ⊢; omega) (fun a b => by simp; omega) is).imp fun h => of_decide_eq_true h
def sortDictD : List D → R
  | [.dK ks _] => (match intKeys ks with
    | some is => .ok (.lst ((srtI is).map .int))
    | none => .bad)
  | _ => .bad
section
variable {K : PySem.W.Frag} {C : Cn} {X : Cx} {W : WX} {pos : Pos}
theorem rpL_ints {H : Hp} : ∀ ns : List Int, RpL K C.fa H (ns.map V.int) (ns.map D.int)
  | [] => .nil
  | n :: ns => .cons (.int n) (rpL_ints ns)
theorem vc_sortDict : VCallF K C rSortDict sortDictD := by
  intro W M σ H xs ds Q mm t r g
  unfold sortDictD at g
  split at g
  · rename_i ks ds
    split at g
    · rename_i is hi
      obtain ⟨x, rfl, rx⟩ := rpL_one r
      obtain ⟨a, ys, rfl, hp, hl, rr⟩ := rp_dK rx
      have e := intKeys_map hi
      subst e
      refine ⟨a, is, ys, rfl, (mask_some.mp hp).2, by rw [← hl, List.length_map], fun ns' p pm pw hn => ?_⟩
      have e2 : ns' = srtI is := srt_unique (pm.trans (srtI_perm is).symm) pw (srtI_pw is)
      subst e2
      exact g _ _ (ext_new hn) (tabs_new t hn) (new_lst (ExtN.refl _) hn (rpL_ints _))
    · exact g.elim
  · exact g.elim
theorem b_sortDict {e : Expr} {es : List Expr} {p : Pos} {fs : Gm → Rg (List D)} (hc : X.calm = true) (hm : X.mg "sorted" = none) (ha : DA X C W (e :: es) fs) (hg : Gl X "sorted" := by rfl) (he : starEach (e :: es) X.env = (false, eval e X.env) :: starEach es X.env := by rfl) (hpl : (backTo pos (starEach es X.env)).any (·.1) = false := by rfl) :
    DF X C W (.Call (.Name "sorted" p) (e :: es) [] pos) (eB sortDictD fs) := df_callB (cr_sortedDict hc) vc_sortDict hm ha (by rfl) hg (by decide) (by decide) he hpl
/-! dict(xs), xs a list of pairs -/
def dMrg : List D → List Key → List D → Option (List Key × List D)
  | [], ks, ds => some (ks, ds)
  | .tup [k, v] :: r, ks, ds => (match keyOf k with
    | some q => if hasK ks q = true then dMrg r ks (setV q v ks ds) else dMrg r (ks ++ [q]) (ds ++ [v])
    | none => none)
  | _ :: _, _, _ => none
def dictD : List D → R
  | [.lst ps] => (match dMrg ps [] [] with
    | some (ks, ds) => .ok (.dK ks ds)
    | none => .bad)
  | _ => .bad
theorem mrg_rp {H : Hp} : ∀ {ps : List D} {vs : List V} {ks0 : List Key} {xs0 : List V} {ds0 : List D} {ks : List Key} {ds : List D}, RpL K C.fa H vs ps → ks0.length = xs0.length → RpL K C.fa H xs0 ds0 → dMrg ps ks0 ds0 = some (ks, ds) →
    ∃ (as : List Addr) (kvs : List (Key × V)) (xs : List V), vs = as.map V.ref ∧ Paired (fun p kv => SqT K H p [kV kv.1, kv.2]) as kvs ∧ mergeK (ks0.zip xs0) kvs = ks.zip xs ∧ ks.length = xs.length ∧ RpL K C.fa H xs ds
  | [], vs, ks0, xs0, ds0, ks, ds, r, hl, r0, h => by
    cases r
    cases h
    exact ⟨[], [], xs0, rfl, .nil, rfl, hl, r0⟩
  | p :: ps, vs, ks0, xs0, ds0, ks, ds, r, hl, r0, h => by
    obtain ⟨x, vs, rfl, r1, r2⟩ := rpL_cons r
    obtain ⟨k, v, q, rfl, hq, h⟩ : ∃ k v q, p = .tup [k, v] ∧ keyOf k = some q ∧ (if hasK ks0 q = true then dMrg ps ks0 (setV q v ks0 ds0) else dMrg ps (ks0 ++ [q]) (ds0 ++ [v])) = some (ks, ds) := by
      cases p with
      | tup es =>
        match es, h with
        | [k, v], h =>
          unfold dMrg at h
          cases hq : keyOf k with
          | none => simp only [hq] at h; cases h
          | some q => simp only [hq] at h; exact ⟨k, v, q, rfl, hq, h⟩
        | [], h => unfold dMrg at h; cases h
        | [_], h => unfold dMrg at h; cases h
        | _ :: _ :: _ :: _, h => unfold dMrg at h; cases h
      | _ => unfold dMrg at h; cases h
    obtain ⟨a, ys, rfl, ha, ra⟩ := rp_tup r1
    obtain ⟨y, z, rfl, ry, rz⟩ := rpL_two ra
    have ey := keyOf_rp ry hq
    subst ey
    have step : ∀ (kvs : List (Key × V)), mergeK (ks0.zip xs0) ((q, z) :: kvs) = mergeK (if hasK ks0 q = true then ks0.zip (setV q z ks0 xs0) else (ks0 ++ [q]).zip (xs0 ++ [z])) kvs := fun kvs => by
      rw [← putK_zip q z ks0 xs0 hl]
      rfl
    by_cases hk : hasK ks0 q = true
    · rw [if_pos hk] at h
      obtain ⟨as, kvs, xs, e1, e2, e3, e4, e5⟩ := mrg_rp r2 (by rw [setV_len q z ks0 xs0 hl]; exact hl) (setV_rp q rz ks0 xs0 ds0 r0) h
      refine ⟨a :: as, (q, z) :: kvs, xs, by rw [e1]; rfl, .cons (.inl (.inl ha)) e2, ?_, e4, e5⟩
      rw [step, if_pos hk]
      exact e3
    · rw [if_neg hk] at h
      obtain ⟨as, kvs, xs, e1, e2, e3, e4, e5⟩ := mrg_rp r2 (by simp [hl]) (r0.snoc rz) h
      refine ⟨a :: as, (q, z) :: kvs, xs, by rw [e1]; rfl, .cons (.inl (.inl ha)) e2, ?_, e4, e5⟩
      rw [step, if_neg hk]
      exact e3
theorem pairs_unmask {H : Hp} {M : Addr → Prop} : ∀ {as : List Addr} {kvs : List (Key × V)}, Paired (fun p kv => SqT K (mask M H) p [kV kv.1, kv.2]) as kvs → Paired (fun p kv => SqT K H p [kV kv.1, kv.2]) as kvs
  | _, _, .nil => .nil
  | _, _, .cons h t => .cons (by
    rcases h with (h | ⟨o, h⟩) | h
    · exact .inl (.inl (mask_some.mp h).2)
    · exact .inl (.inr ⟨o, (mask_some.mp h).2⟩)
    · exact .inr h) (pairs_unmask t)
def rDictP (K : PySem.W.Frag) : List V → Hp → VK → Prop := fun xs H Q => ∃ (a : Addr) (ps : List Addr) (kvs : List (Key × V)), xs = [.ref a] ∧ SqL K H a (ps.map V.ref) ∧ Paired (fun p kv => SqT K H p [kV kv.1, kv.2]) ps kvs ∧
    ∀ p, H p = none → Q (.ref p) (upd H p (.dK (mergeK [] kvs)))
theorem vc_dict : VCallF K C (rDictP K) dictD := by
  intro W M σ H xs ds Q mm t r g
  unfold dictD at g
  split at g
  · rename_i ps
    split at g
    · rename_i ks ds hm
      obtain ⟨x, rfl, rx⟩ := rpL_one r
      obtain ⟨a, ys, rfl, ha, ra⟩ := rp_lst rx
      obtain ⟨as, kvs, xs, rfl, e2, e3, e4, e5⟩ := mrg_rp (ks0 := []) (xs0 := []) ra rfl .nil hm
      refine ⟨a, as, kvs, rfl, .inl (.inl (mask_some.mp ha).2), ?_, fun p hp => ?_⟩
      · exact pairs_unmask e2
      · have e3 : mergeK [] kvs = ks.zip xs := e3
        rw [e3]
        refine g _ _ (ext_new hp) (tabs_new t hp) ⟨p, rfl, not_solid hp, xs, upd_same, e4, ?_⟩
        refine RpL.ext (mask_ext (ext_new hp) fun b m s => m.elim id fun z => ?_) _ _ e5
        exact absurd (z ▸ s) (not_solid hp)
    · exact g.elim
  · exact g.elim
theorem b_dict {e : Expr} {es : List Expr} {p : Pos} {fs : Gm → Rg (List D)} (hc : X.calm = true) (hm : X.mg "dict" = none) (ha : DA X C W (e :: es) fs) (hg : Gl X "dict" := by rfl) (he : starEach (e :: es) X.env = (false, eval e X.env) :: starEach es X.env := by rfl) (hpl : (backTo pos (starEach es X.env)).any (·.1) = false := by rfl) :
    DF X C W (.Call (.Name "dict" p) (e :: es) [] pos) (eB dictD fs) := df_callT (call_dictP hc) vc_dict hm ha (by rfl) hg (by decide) (by decide) he hpl
end
end DL

set_option Elab.async false
set_option linter.all false
set_option maxRecDepth 100000
set_option maxHeartbeats 2000000
namespace DL
open PySem PySem.Spec PyProof.Rows L2 LamX
/-! ### rows[k].append(i) for (i, k) of enumerate(..): a def that makes lists by numbers -/
def NoOwn (Γ : Gm) : Prop := ∀ (i : Nat) (d : D), Γ[i]? ≠ some (.own d)
theorem NoOwn.set {Γ : Gm} (h : NoOwn Γ) (i : Nat) (d : D) : NoOwn (Γ.set i (.dat d)) := fun j e q => by
  by_cases hj : i = j
  · subst hj
    by_cases hl : i < Γ.length
    · rw [List.getElem?_set_self hl] at q; cases q
    · rw [List.getElem?_set, if_pos rfl, if_neg hl] at q; cases q
  · rw [List.getElem?_set_ne hj] at q
    exact h j e q
theorem NoOwn.setNo {Γ : Gm} (h : NoOwn Γ) (i : Nat) : NoOwn (Γ.set i .no) := fun j e q => by
  by_cases hj : i = j
  · subst hj
    by_cases hl : i < Γ.length
    · rw [List.getElem?_set_self hl] at q; cases q
    · rw [List.getElem?_set, if_pos rfl, if_neg hl] at q; cases q
  · rw [List.getElem?_set_ne hj] at q
    exact h j e q
section
variable {K : PySem.W.Frag} {C : Cn} {P0 A : Addr → Prop} {H0 H H2 : Hp} {Γ : Gm} {σ : L2.St}
theorem NoOwn.msk (n : NoOwn Γ) {a : Addr} : Msk P0 Γ σ a ↔ P0 a := ⟨fun m => m.elim id fun ⟨i, d, q, _⟩ => absurd q (n i d), .inl⟩
theorem hideP (E : Here K C P0 H0 Γ σ H) (n : NoOwn Γ) (e : ExtN H H2) (t : Tabs C.T H2) (hA : ∀ a, A a → ¬ Solid H a ∧ ∃ o, H2 a = some o ∧ isM o) : Here K C (fun a => P0 a ∨ A a) (nt H) Γ σ H2 := by
  refine ⟨⟨nt_ext e, t, fun a m => ?_, fun i d hd => ?_, fun i d hd => absurd hd (n i d), fun i j d x a hd => absurd hd (n i d), E.e.len⟩, fun a ps z => (nt_some.mp z).2 ps rfl⟩
  · rcases m with m | m
    · obtain ⟨o, ho, io⟩ := E.e.p0 a m
      exact ⟨o, e _ _ ho (isM_tbl io), io⟩
    · exact (hA a m).2
  · obtain ⟨v, hv, r⟩ := E.e.dat i d hd
    refine ⟨v, hv, r.ext (mask_ext e fun a m s => ?_) _ _⟩
    rcases n.msk.mp m with m | m
    · exact .inl m
    · exact absurd s (hA a m).1
theorem baseP (E : Here K C P0 H0 Γ σ H) (n : NoOwn Γ) : Here K C P0 (nt (mask A H)) Γ σ H :=
  ⟨⟨fun b o h => (mask_some.mp (nt_some.mp h).1).2, E.e.tab, E.e.p0, E.e.dat, fun i d hd => absurd hd (n i d), fun i j d x a hd => absurd hd (n i d), E.e.len⟩, fun a ps z => (nt_some.mp z).2 ps rfl⟩
theorem updP {a : Addr} {xs ys : List V} (E : Here K C P0 H0 Γ σ H) (n : NoOwn Γ) (pa : P0 a) (h0 : H0 a = none) (ha : H a = some (.lst xs)) : Here K C P0 H0 Γ σ (upd H a (.lst ys)) := by
  refine ⟨⟨fun b o h => ?_, tabs_mut E.e.tab ha trivial, fun b m => ?_, fun i d hd => ?_, fun i d hd => absurd hd (n i d), fun i j d x a hd => absurd hd (n i d), E.e.len⟩, E.nt⟩
  · rw [upd_ne (fun z => by rw [z, h0] at h; cases h)]
    exact E.e.base b o h
  · by_cases z : b = a
    · subst z; exact ⟨_, upd_same, trivial⟩
    · rw [upd_ne z]; exact E.e.p0 b m
  · obtain ⟨v, hv, r⟩ := E.e.dat i d hd
    refine ⟨v, hv, r.ext (fun b o hb _ => ?_) _ _⟩
    obtain ⟨q1, q2⟩ := mask_some.mp hb
    refine mask_some.mpr ⟨q1, ?_⟩
    rw [upd_ne (fun z : b = a => q1 (n.msk.mpr (by rw [z]; exact pa)))]
    exact q2
theorem setNo {i : Nat} {ov : Option V} (E : Here K C P0 H0 Γ σ H) (n : NoOwn Γ) (h : ∀ d, Γ[i]? ≠ some (.dat d)) : Here K C P0 H0 Γ (σ.set i ov) H := by
  refine ⟨⟨E.e.base, E.e.tab, E.e.p0, fun j d hd => ?_, fun i d hd => absurd hd (n i d), fun i j d x a hd => absurd hd (n i d), by rw [List.length_set]; exact E.e.len⟩, E.nt⟩
  obtain ⟨v, hv, r⟩ := E.e.dat j d hd
  have hj : i ≠ j := fun z => by subst z; exact h d hd
  refine ⟨v, by rw [List.getElem?_set_ne hj]; exact hv, r.ext (mask_ext (ExtN.refl _) fun a m _ => n.msk.mpr (n.msk.mp m)) _ _⟩
end
/-- the places of r among the numbers -/
def rowN (r : Nat) (ns : List Int) : List Int := (ns.zipIdx.filter fun p => decide (p.1 = (r : Int))).map fun p => (p.2 : Int)
theorem rowN_snoc (r : Nat) (l : List Int) (k : Int) : rowN r (l ++ [k]) = if k = (r : Int) then rowN r l ++ [(l.length : Int)] else rowN r l := by
  unfold rowN
  rw [List.zipIdx_append, List.filter_append, List.map_append]
  by_cases c : k = (r : Int)
  · rw [if_pos c]; simp [c]
  · rw [if_neg c]; simp [c]
def rowsD (n : Nat) (ns : List Int) : D := .lst ((List.range n).map fun r => .lst ((rowN r ns).map .int))
def noOwnB (Γ : Gm) : Bool := Γ.all fun s => match s with
  | .own _ => false
  | _ => true
theorem noOwn_of {Γ : Gm} (h : noOwnB Γ = true) : NoOwn Γ := fun i d q => by
  have := List.all_eq_true.mp h _ (List.mem_of_getElem? q)
  cases this
def gRows (fi : Gm → Rg (List D)) : Gm → O := fun Γ => (fi Γ).toS Γ fun js => match (Γ[0]? : Option Sl) with
  | some (Sl.dat (D.tup ds)) => (match intsOf ds with
    | some ns => if noOwnB Γ = true ∧ Γ.length = 4 ∧ js.length ≤ sizeLine ∧ ns.length ≤ sizeLine ∧ ∀ k ∈ ns, 0 ≤ k ∧ k < js.length then .rt (rowsD js.length ns) else .bad
    | none => .bad)
  | _ => .bad
theorem rpL_get {K : PySem.W.Frag} {C : Cn} {H : Hp} : ∀ {vs : List V} {ds : List D}, vs.length = ds.length → (∀ (i : Nat) (v : V) (d : D), vs[i]? = some v → ds[i]? = some d → Rp K C.fa H v d) → RpL K C.fa H vs ds
  | [], [], _, _ => .nil
  | [], _ :: _, h, _ => by cases h
  | _ :: _, [], h, _ => by cases h
  | v :: vs, d :: ds, h, H => .cons (H 0 v d rfl rfl) (rpL_get (by simpa using h) fun i x y h1 h2 => H (i + 1) x y (by simpa using h1) (by simpa using h2))
theorem enum_ints : ∀ (ns : List Int) (j i : Nat), (enumL j (ns.map D.int))[i]? = (ns[i]?).map fun k => .tup [.int ((j + i : Nat) : Int), .int k]
  | [], j, i => by simp [enumL]
  | n :: ns, j, 0 => by simp [enumL]
  | n :: ns, j, i + 1 => by
    have := enum_ints ns (j + 1) i
    simp only [List.map_cons, enumL, List.getElem?_cons_succ]
    rw [this, show j + 1 + i = j + (i + 1) by omega]
theorem idx_ne {α : Type} {as : List α} {a : α} {i j : Nat} (nd : as.Nodup) (h1 : as[i]? = some a) (h2 : as[j]? = some a) : i = j := by
  obtain ⟨p, e1⟩ := List.getElem?_eq_some_iff.mp h1
  obtain ⟨q, e2⟩ := List.getElem?_eq_some_iff.mp h2
  rcases Nat.lt_trichotomy i j with h | h | h
  · exact absurd (e1.trans e2.symm) (List.pairwise_iff_getElem.mp nd i j p q h)
  · exact h
  · exact absurd (e2.trans e1.symm) (List.pairwise_iff_getElem.mp nd j i q p h)
section
variable {K : PySem.W.Frag} {C : Cn} {W : WX} {fi : Gm → Rg (List D)} {Z : Ends} {σ : L2.St} {H : Hp}
def tRows (K : PySem.W.Frag) (C : Cn) (W : WX) (fi : Gm → Rg (List D)) (js : List Nat) : TS :=
  tSeq (tAsg (tLc (rdI K C W fi) (gName 3) tYes (tLst tNil) [3]) (gName 1))
    (tSeq (tFor (rdI K C W (iEn (aCons (eVar 0) aNil))) (rdG K C (tgT 2 (tgCons (tgN 2) (tgCons (tgN 3) tgNil))) js) (tDrop (tBM K "list" rAppend (tOp (rIx K) (tVar 1) (tVar 3)) (tCons (tVar 2) tNil))))
      (tRet (tVar 1)))
theorem rd_rows {js : List Nat} (hjs : 1 ∉ js) (q : rdS K C W (gRows fi) Z σ H) : tRows K C W fi js Z σ H := by
  obtain ⟨Γ, P0, H0, E, g⟩ := q
  refine ⟨Γ, P0, H0, E, got_of (rep := repI K C (Msk P0 Γ σ)) g E fun rs J H1 _ e1 t1 hJ g1 => ?_⟩
  obtain ⟨G, Y, wk, hG, hY⟩ := hJ
  have g2 : ∃ (ds : List D) (ns : List Int), Γ[0]? = some (.dat (.tup ds)) ∧ intsOf ds = some ns ∧ noOwnB Γ = true ∧ Γ.length = 4 ∧ rs.length ≤ sizeLine ∧ ns.length ≤ sizeLine ∧ (∀ k ∈ ns, 0 ≤ k ∧ k < rs.length) ∧ GotS K C W P0 H0 (.rt (rowsD rs.length ns)) Z := by
    split at g1
    · rename_i ds h0
      split at g1
      · rename_i ns hn
        split at g1
        · rename_i hc
          exact ⟨ds, ns, h0, hn, hc.1, hc.2.1, hc.2.2.1, hc.2.2.2.1, hc.2.2.2.2, g1⟩
        · exact g1.elim
      · exact g1.elim
    · exact g1.elim
  obtain ⟨ds, ns, hΓ0, hns, hno, hΓl, hsz, hnsz, hks, gr⟩ := g2
  have no := noOwn_of hno
  have eds := intsOf_map hns
  subst eds
  have E1 := E.ext e1 t1
  intro L hL
  have nL : ¬ Solid H1 L := not_solid hL
  -- the empty rows
  refine lc_it wk (fun i Hx => ∃ as : List Addr, Hx L = some (.lst (as.map V.ref)) ∧ ExtN H1 Hx ∧ Tabs C.T Hx ∧ as.length = i ∧ as.Nodup ∧ ∀ a ∈ as, a ≠ L ∧ ¬ Solid H1 a ∧ Hx a = some (.lst []))
    ⟨[], upd_same, ext_new hL, tabs_new t1 hL, rfl, List.nodup_nil, fun a h => absurd h List.not_mem_nil⟩ (fun i Hx _ ⟨as, _, e2, _⟩ => hG Hx (fun b o hb n => e2 b o (mask_some.mp hb).2 n)) ?_ ?_
  · rintro i x Hx H3 hi ⟨as, hxL, e2, t2, hlen, nd, has⟩ hy
    obtain ⟨d, hd, _⟩ := drop_cons hi
    obtain ⟨e3, t3, _⟩ := hY i d Hx x H3 hd (fun b o hb n => e2 b o (mask_some.mp hb).2 n) hy
    refine ⟨wipe_same (by rw [List.length_set]) fun j n => List.getElem?_set_ne fun z => n (by rw [z]; simp), ?_⟩
    unfold tYes
    dsimp only
    rw [if_pos rfl]
    refine ⟨Nat.zero_le _, fun p hp => ?_⟩
    have h3L : H3 L = some (.lst (as.map V.ref)) := e3 _ _ hxL (fun _ z => by cases z)
    have pL : p ≠ L := fun z => by rw [z, h3L] at hp; cases hp
    have e13 := e2.trans e3
    have np : ¬ Solid H1 p := fun s => not_solid hp (s.ext e13)
    have h3 : ∀ a ∈ as, H3 a = some (.lst []) := fun a h => e3 _ _ (has a h).2.2 (fun _ z => by cases z)
    have hq : (upd H3 p (.lst [])) L = some (.lst (as.map V.ref)) := by rw [upd_ne pL.symm]; exact h3L
    refine ⟨as.map V.ref, hq, by rw [List.length_map]; omega, as ++ [p], by rw [List.map_append]; exact upd_same, fun b o hb n => ?_, tabs_mut (tabs_new (t3 t2) hp) hq trivial, by rw [List.length_append, hlen]; rfl, ?_, fun a ha => ?_⟩
    · have bL : b ≠ L := fun z => nL ⟨o, by rw [← z]; exact hb, n⟩
      have bp : b ≠ p := fun z => np ⟨o, by rw [← z]; exact hb, n⟩
      rw [upd_ne bL, upd_ne bp]
      exact e13 b o hb n
    · refine List.nodup_append.mpr ⟨nd, by simp, fun a ha b hb z => ?_⟩
      simp at hb
      subst hb z
      rw [h3 a ha] at hp
      cases hp
    · rcases List.mem_append.mp ha with h | h
      · have ap : a ≠ p := fun z => by rw [← z, h3 a h] at hp; cases hp
        refine ⟨(has a h).1, (has a h).2.1, ?_⟩
        rw [upd_ne (has a h).1, upd_ne ap]
        exact h3 a h
      · simp at h
        subst h
        refine ⟨pL, np, ?_⟩
        rw [upd_ne pL]
        exact upd_same
  · rintro Hx ⟨as, hxL, e2, t2, hlen, nd, has⟩
    -- the slots, the rows out of sight
    have Ek := E1.kill [1, 2, 3]
    have nk : NoOwn (killAll [1, 2, 3] Γ) := ((no.setNo 1).setNo 2).setNo 3
    have hd1 : ∀ d, (killAll [1, 2, 3] Γ)[1]? ≠ some (.dat d) := fun d z => (killAll_some (fun q => by cases q) z).2 (by simp)
    have hk0 : (killAll [1, 2, 3] Γ)[0]? = some (.dat (.tup (ns.map .int))) := by
      unfold killAll killAll killAll killAll
      rw [List.getElem?_set_ne (by decide), List.getElem?_set_ne (by decide), List.getElem?_set_ne (by decide)]
      exact hΓ0
    have hkl : (killAll [1, 2, 3] Γ).length = 4 := by rw [killAll_len]; exact hΓl
    generalize killAll [1, 2, 3] Γ = Γb at Ek nk hd1 hk0 hkl
    have Es : Here K C P0 H0 Γb (σ.set 1 (some (.ref L))) H1 := setNo Ek nk hd1
    have hsl : (σ.set 1 (some (.ref L)))[1]? = some (some (.ref L)) := by
      rw [List.getElem?_set_self]
      rw [← Ek.e.len]
      omega
    have Eh : Here K C (fun a => P0 a ∨ (a = L ∨ a ∈ as)) (nt H1) Γb (σ.set 1 (some (.ref L))) Hx := hideP (A := fun a => a = L ∨ a ∈ as) Es nk e2 t2 fun a h => by
      rcases h with rfl | h
      · exact ⟨nL, _, hxL, trivial⟩
      · exact ⟨(has a h).2.1, _, (has a h).2.2, trivial⟩
    refine ⟨Γb, _, _, Eh, ?_⟩
    have hen : iEn (aCons (eVar 0) aNil) Γb = .ok (enumL 0 (ns.map .int)) := by
      unfold iEn aCons eVar
      rw [hk0]
      rfl
    rw [hen]
    intro J2 H3 e3 t3 hJ2
    obtain ⟨G2, Y2, wk2, hG2, hY2⟩ := hJ2
    have E3 := Eh.ext e3 t3
    have h3L : H3 L = some (.lst (as.map V.ref)) := e3 _ _ hxL (fun _ z => by cases z)
    have h3a : ∀ a ∈ as, H3 a = some (.lst []) := fun a h => e3 _ _ (has a h).2.2 (fun _ z => by cases z)
    have Eb : Here K C (fun a => P0 a ∨ (a = L ∨ a ∈ as)) (nt (mask (fun a => a = L ∨ a ∈ as) H3)) Γb (σ.set 1 (some (.ref L))) H3 := baseP E3 nk
    have b0 : ∀ a, (a = L ∨ a ∈ as) → nt (mask (fun a => a = L ∨ a ∈ as) H3) a = none := fun a m => by
      cases z : nt (mask (fun a => a = L ∨ a ∈ as) H3) a with
      | none => rfl
      | some o => exact absurd m (mask_some.mp (nt_some.mp z).1).1
    generalize hb : nt (mask (fun a => a = L ∨ a ∈ as) H3) = B at Eb b0
    have bE : ∀ {H4 : Hp}, Same B H4 → ∀ (Γ2 : Gm) (σ4 : L2.St), NoOwn Γ2 → ExtN (mask (Msk (fun a => P0 a ∨ (a = L ∨ a ∈ as)) Γb (σ.set 1 (some (.ref L)))) H3) (mask (Msk (fun a => P0 a ∨ (a = L ∨ a ∈ as)) Γ2 σ4) H4) := fun {H4} s Γ2 σ4 n2 b o h n => by
      obtain ⟨q1, q2⟩ := mask_some.mp h
      have q3 : ¬ (P0 b ∨ (b = L ∨ b ∈ as)) := fun z => q1 (nk.msk.mpr z)
      refine mask_some.mpr ⟨fun z => q3 (n2.msk.mp z), s b o ?_⟩
      rw [← hb]
      exact nt_some.mpr ⟨mask_some.mpr ⟨fun z => q3 (.inr z), q2⟩, n⟩
    have hl2 : (enumL 0 (ns.map D.int)).length = ns.length := by rw [enumL_len, List.length_map]
    refine for_it wk2 (fun i σ4 H4 => ∃ Γ2, Here K C (fun a => P0 a ∨ (a = L ∨ a ∈ as)) B Γ2 σ4 H4 ∧ NoOwn Γ2 ∧ Γ2.length = 4 ∧ σ4[1]? = some (some (.ref L)) ∧ H4 L = some (.lst (as.map V.ref)) ∧
        ∀ (r : Nat) (a : Addr), as[r]? = some a → H4 a = some (.lst ((rowN r (ns.take i)).map V.int)))
      ⟨Γb, Eb, nk, hkl, hsl, h3L, fun r a h => h3a a (List.mem_of_getElem? h)⟩ (fun i σ4 H4 _ ⟨Γ2, E4, _⟩ => hG2 H4 fun b o h n => (mask_some.mp (bE E4.e.base Γb (σ.set 1 (some (.ref L))) nk b o h n)).2) ?_ ?_
    · rintro i x σ4 H4 H5 hi ⟨Γ2, E4, n2, l2, h41, h4L, h4a⟩ hy
      rw [hl2] at hi
      have hns : ns[i]? = some ns[i] := List.getElem?_eq_getElem hi
      obtain ⟨k, hk⟩ : ∃ k, ns[i]? = some k := ⟨_, hns⟩
      have hd : (enumL 0 (ns.map D.int))[i]? = some (.tup [.int (i : Int), .int k]) := by
        rw [enum_ints, hk]
        simp
      obtain ⟨e5, t5, r5⟩ := hY2 i _ H4 x H5 hd (fun b o h n => (mask_some.mp (bE E4.e.base Γb (σ.set 1 (some (.ref L))) nk b o h n)).2) hy
      have r5 := r5 _ (bE E4.e.base Γ2 σ4 n2) E4.e.mut
      have E5 := E4.ext e5 (t5 E4.e.tab)
      refine ⟨Γ2, _, _, _, (Γ2.set 2 (.dat (.int (i : Int)))).set 3 (.dat (.int k)), E5, r5, rfl, fun σ6 E6 k6 => ?_⟩
      have n6 : NoOwn ((Γ2.set 2 (.dat (.int (i : Int)))).set 3 (.dat (.int k))) := (n2.set 2 _).set 3 _
      have g2 : ((Γ2.set 2 (.dat (.int (i : Int)))).set 3 (.dat (.int k)))[2]? = some (.dat (.int (i : Int))) := by
        rw [List.getElem?_set_ne (by decide), List.getElem?_set_self (by omega)]
      have g3 : ((Γ2.set 2 (.dat (.int (i : Int)))).set 3 (.dat (.int k)))[3]? = some (.dat (.int k)) := by
        rw [List.getElem?_set_self (by rw [List.length_set]; omega)]
      have l6 : ((Γ2.set 2 (.dat (.int (i : Int)))).set 3 (.dat (.int k))).length = 4 := by rw [List.length_set, List.length_set]; exact l2
      generalize (Γ2.set 2 (.dat (.int (i : Int)))).set 3 (.dat (.int k)) = Γ6 at E6 n6 g2 g3 l6
      obtain ⟨v2, hv2, rv2⟩ := E6.e.dat 2 _ g2
      cases rp_int rv2
      obtain ⟨v3, hv3, rv3⟩ := E6.e.dat 3 _ g3
      cases rp_int rv3
      have h61 : σ6[1]? = some (some (.ref L)) := (k6.keep 1 hjs).trans h41
      have h5L : H5 L = some (.lst (as.map V.ref)) := e5 _ _ h4L (fun _ z => by cases z)
      obtain ⟨k0, k1⟩ := hks k (List.mem_of_getElem? hk)
      obtain ⟨r, hr⟩ : ∃ r : Nat, k = (r : Int) := ⟨k.toNat, by omega⟩
      have hrl : r < as.length := by omega
      obtain ⟨a, ha⟩ : ∃ a, as[r]? = some a := ⟨_, List.getElem?_eq_getElem hrl⟩
      have hm : a ∈ as := List.mem_of_getElem? ha
      have h5 : ∀ (r : Nat) (a : Addr), as[r]? = some a → H5 a = some (.lst ((rowN r (ns.take i)).map V.int)) := fun r a h => e5 _ _ (h4a r a h) (fun _ z => by cases z)
      have hat : atI (as.map V.ref) k = some (.ref a) := by
        rw [hr]
        exact L2.atI_nat (by rw [List.getElem?_map, ha]; rfl)
      have hrn : (rowN r (ns.take i)).length ≤ i := by
        unfold rowN
        rw [List.length_map]
        refine Nat.le_trans (List.length_filter_le _ _) ?_
        rw [List.length_zipIdx, List.length_take]
        omega
      refine ⟨.ref L, h61, .int k, hv3, .inl ⟨L, as.map V.ref, k, .ref a, rfl, rfl, .inl (.inl h5L), hat, ⟨.inl ⟨rfl, _, .inl (.inl (h5 r a ha))⟩, .int (i : Int), hv2, a, _, .int (i : Int), rfl, rfl, h5 r a ha, by rw [List.length_map]; omega, ?_⟩⟩⟩
      refine ⟨Γ6, updP E6 n6 (.inr (.inr hm)) (b0 a (.inr hm)) (h5 r a ha), n6, l6, h61, by rw [upd_ne (fun z => (has a hm).1 z.symm)]; exact h5L, fun r' a' h' => ?_⟩
      have htk : ns.take (i + 1) = ns.take i ++ [k] := by
        rw [List.take_succ, hk]
        rfl
      rw [htk, rowN_snoc]
      by_cases c : r' = r
      · subst c
        rw [ha] at h'
        cases h'
        rw [if_pos hr, List.map_append, upd_same, List.length_take, Nat.min_eq_left (by omega)]
        rfl
      · have ne : a' ≠ a := fun z => c (idx_ne nd h' (z ▸ ha))
        rw [if_neg (fun z => c (by omega)), upd_ne ne]
        exact h5 r' a' h'
    · rintro σ4 H4 ⟨Γ2, E4, n2, l2, h41, h4L, h4a⟩
      rw [hl2, List.take_length] at h4a
      refine ⟨.ref L, h41, gr _ _ (fun b o h => ?_) E4.e.tab ?_⟩
      · have h1 := E1.e.base b o h
        have nt' : ∀ ps, o ≠ .tbl ps := fun ps z => E1.nt b ps (by rw [h, z])
        have h3 := e3 b o (e2 b o h1 nt') nt'
        have hnA : ¬ (b = L ∨ b ∈ as) := fun z => z.elim (fun z => nL ⟨o, by rw [← z]; exact h1, nt'⟩) fun z => (has b z).2.1 ⟨o, h1, nt'⟩
        refine E4.e.base b o ?_
        rw [← hb]
        exact nt_some.mpr ⟨mask_some.mpr ⟨hnA, h3⟩, nt'⟩
      · have np : ∀ a, ¬ Solid H1 a → ¬ P0 a := fun a h m => h (let ⟨o, q, io⟩ := E1.e.p0 a m; ⟨o, q, isM_tbl io⟩)
        refine .lst (mask_some.mpr ⟨np L nL, h4L⟩) (rpL_get (by rw [List.length_map, List.length_map, List.length_range]; exact hlen) fun i v d hv hd => ?_)
        rw [List.getElem?_map] at hv hd
        cases ha : as[i]? with
        | none => rw [ha] at hv; cases hv
        | some a =>
          rw [ha] at hv
          cases hv
          have hi : i < rs.length := by rw [← hlen]; exact (List.getElem?_eq_some_iff.mp ha).1
          rw [List.getElem?_range hi] at hd
          cases hd
          have hm := List.mem_of_getElem? ha
          exact .lst (mask_some.mpr ⟨np a (has a hm).2.1, h4a i a ha⟩) (rpL_ints _)
end
section
variable {X : Cx} {C : Cn} {W : WX} {fi : Gm → Rg (List D)}
theorem dss_rows {x0 x1 x2 x3 : Str} {iter : Expr} {scope : Scope} {own : List (Str × Nat)} {py lp pr cpos spos pi pk tpos pe po epos pf pk2 sp apos pit cpos2 xpos fpos pret rpos : Pos} {kk : Nat}
    (hp : PassesOwn (model X.prog X.w) X.A X.env X.xe) (hN : X.N.Nodup) (hi : DI X C W (.Name x3 pr) iter fi) (ok : BlkOk X.N X.env.scope scope own) (ho : own.map (·.2) = [3])
    (hg : ∀ (s : Shared) (H : Hp) (c : Addr) (cl : List (Str × Addr)) (fp : List Addr), PG (X.blk s H scope (compEnvC scope cl c X.env) fp) (.Name x3 pr) (gName 3))
    (hi2 : DI X C W (.Tuple [.Name x2 pi, .Name x3 pk] kk tpos) (.Call (.Name "enumerate" pe) [.Name x0 po] [] epos) (iEn (aCons (eVar 0) aNil)))
    (hg2 : DG X C (.Tuple [.Name x2 pi, .Name x3 pk] kk tpos) (tgT 2 (tgCons (tgN 2) (tgCons (tgN 3) tgNil))) ([2] ++ ([3] ++ [])))
    (h1 : PE X (.Name x1 pf) (tVar 1)) (h3 : PE X (.Name x3 pk2) (tVar 3)) (h2 : PE X (.Name x2 pit) (tVar 2)) (hr : PE X (.Name x1 pret) (tVar 1))
    (hpl : PlainIx (.Name x3 pk2)) (hy : X.N[1]? = some x1 := by rfl) (hyl : X.env.scope.names.lookup x1 = some .local := by rfl)
    (hsw : swapsWith (.ListComp (.List [] lp) [⟨.Name x3 pr, iter, [], 0⟩] scope cpos) (some (.Name x1 py)) spos.line X.env = pure true := by exact sw_true rfl rfl rfl (by decide +kernel)) (hc : X.calm = true := by rfl) (hs : ∀ x, foldedSetIterable iter X.env x = pure x := by intro _; rfl)
    (hs2 : ∀ x, foldedSetIterable (.Call (.Name "enumerate" pe) [.Name x0 po] [] epos) X.env x = pure x := by intro _; rfl)
    (hbase : attributeBase (.Subscript (.Name x1 pf) (.Name x3 pk2) sp) "append" X.env (eval (.Subscript (.Name x1 pf) (.Name x3 pk2) sp) X.env) = eval (.Subscript (.Name x1 pf) (.Name x3 pk2) sp) X.env := by rfl)
    (hfew : ((backTo cpos2 (starEach [.Name x2 pit] X.env)).all (fun x => !x.1) && (backToKw cpos2 (keywordEach [] X.env)).all (fun x => x.1.isSome) && decide (([.Name x2 pit] : List Expr).length + ([] : List Keyword).length + (if ([] : List Keyword).isEmpty then 0 else 1) < 30)) = true := by rfl)
    (hline : (apos.endLine == cpos2.line) = true := by rfl) (hst : starEach [.Name x2 pit] X.env = (false, eval (.Name x2 pit) X.env) :: starEach [] X.env := by rfl) (hplain : (backTo cpos2 (starEach [] X.env)).any (·.1) = false := by rfl)
    (hsw2 : swapsWith (.Call (.Attribute (.Subscript (.Name x1 pf) (.Name x3 pk2) sp) "append" apos) [.Name x2 pit] [] cpos2) none xpos.line X.env = pure false := by rfl) :
    DSs X C W [.Assign [.Name x1 py] (.ListComp (.List [] lp) [⟨.Name x3 pr, iter, [], 0⟩] scope cpos) spos,
      .For (.Tuple [.Name x2 pi, .Name x3 pk] kk tpos) (.Call (.Name "enumerate" pe) [.Name x0 po] [] epos) [.Expr (.Call (.Attribute (.Subscript (.Name x1 pf) (.Name x3 pk2) sp) "append" apos) [.Name x2 pit] [] cpos2) xpos] [] fpos,
      .Return (some (.Name x1 pret)) rpos] (gRows fi) := by
  have b1 := ps_setLc (py := py) (spos := spos) (pos := cpos) hc hN hy hyl hsw hi ok hg (fun _ _ _ _ _ => pts_nil) (fun _ _ _ _ _ => pe_lst (pos := lp) pa_nil) hs
  rw [ho] at b1
  exact PSs.to (pss_cons b1 (pss_cons (ps_for hp hc hi2 hg2 (pss_one (ps_expr (pe_bm F.plainAttrs_list F.slot_list_append F.type_list_append mt_append (pe_ix ix_seq h1 h3 hpl) (pa_cons h2 pa_nil hst) hbase hfew hline hst hplain) hsw2)) hs2) (pss_one (ps_ret hr)))) fun Z σ H q => rd_rows (by decide) q
end
end DL

set_option Elab.async false
set_option linter.all false
set_option maxRecDepth 100000
set_option maxHeartbeats 2000000
namespace DL
open PySem PySem.Spec PyProof.Rows L2 LamX
/-! ### min of a list of alike data -/
mutual
def plainD : D → Bool
  | .non => true
  | .bl _ => true
  | .int _ => true
  | .str _ => true
  | .tup ds => plainDs ds
  | .lst ds => plainDs ds
  | _ => false
def plainDs : List D → Bool
  | [] => true
  | d :: r => plainD d && plainDs r
end
mutual
theorem toPy_inj : ∀ (d e : D), plainD d = true → plainD e = true → d.toPy = e.toPy → d = e
  | .non, e, _, he, h => by cases e <;> simp_all [D.toPy, plainD]
  | .bl a, e, _, he, h => by cases e <;> simp_all [D.toPy, plainD]
  | .int a, e, _, he, h => by cases e <;> simp_all [D.toPy, plainD]
  | .str a, e, _, he, h => by cases e <;> simp_all [D.toPy, plainD]
  | .tup ds, e, hd, he, h => by
    cases e with
    | tup es => rw [toPys_inj ds es (by simpa [plainD] using hd) (by simpa [plainD] using he) (by simpa [D.toPy] using h)]
    | _ => simp_all [D.toPy, plainD]
  | .lst ds, e, hd, he, h => by
    cases e with
    | lst es => rw [toPys_inj ds es (by simpa [plainD] using hd) (by simpa [plainD] using he) (by simpa [D.toPy] using h)]
    | _ => simp_all [D.toPy, plainD]
  | .dK _ _, _, hd, _, _ => by simp [plainD] at hd
  | .dT _ _, _, hd, _, _ => by simp [plainD] at hd
  | .scr _, _, hd, _, _ => by simp [plainD] at hd
  | .fn _, _, hd, _, _ => by simp [plainD] at hd
  | .cst _, _, hd, _, _ => by simp [plainD] at hd
theorem toPys_inj : ∀ (ds es : List D), plainDs ds = true → plainDs es = true → D.toPys ds = D.toPys es → ds = es
  | [], [], _, _, _ => rfl
  | [], _ :: _, _, _, h => by simp [D.toPys] at h
  | _ :: _, [], _, _, h => by simp [D.toPys] at h
  | d :: ds, e :: es, hd, he, h => by
    simp only [plainDs, Bool.and_eq_true] at hd he
    simp only [D.toPys, List.cons.injEq] at h
    rw [toPy_inj d e hd.1 he.1 h.1, toPys_inj ds es hd.2 he.2 h.2]
end
/-- min(xs): whichever item reads as the least -/
def rMinB (K : PySem.W.Frag) : List V → Hp → VK → Prop := fun vs H Q => ∃ (a : Addr) (b0 : V × D) (bs : List (V × D)), vs = [V.ref a] ∧ SqL K H a ((b0 :: bs).map Prod.fst) ∧ (∀ b ∈ b0 :: bs, Dp K H b.1 (encB b)) ∧ PySem.W.AlikeAll ((b0 :: bs).map encB) ∧ PyData.depthAll ((b0 :: bs).map encB) ≤ 60 ∧
  (∀ b ∈ b0 :: bs, (encB b).canLay0 = true) ∧ ∀ b ∈ b0 :: bs, encB b = PySem.W.minD (encB b0) (bs.map encB) → Q b.1 H
theorem each_readsAll {h : Heap} : ∀ {bs : List (V × D)} {us : List Value}, PySem.W.EachIs (fun v b => ∃ as, Reads h v (encB b) as) us bs → ∃ as, ReadsAll h us (bs.map encB) as
  | _, _, .nil => ⟨[], .nil⟩
  | _, _, .cons ⟨_, r⟩ t => let ⟨_, q⟩ := each_readsAll t; ⟨_, .cons r q⟩
theorem each_get {P : Value → V × D → Prop} : ∀ {bs : List (V × D)} {us : List Value} {i : Nat} {u : Value}, PySem.W.EachIs P us bs → us[i]? = some u → ∃ b, b ∈ bs ∧ P u b
  | _, _, _, _, .nil, e => by simp at e
  | _, _, 0, _, .cons r _, e => by simp at e; subst e; exact ⟨_, List.mem_cons_self, r⟩
  | _, _, i + 1, u, .cons _ t, e => by
    obtain ⟨b, h1, h2⟩ := each_get (i := i) t (by simpa using e)
    exact ⟨b, List.mem_cons_of_mem _ h1, h2⟩
theorem cr_minB {X : Cx} (hc : X.calm = true) (hu : X.A.units + 64 < cLine) : CallR X (.builtin "min") (rMinB X.K) := by
  intro pins s σ H vs us Q I r h
  obtain ⟨a, b0, bs, rfl, hs, hd, hal, hdp, hcl, q⟩ := h
  obtain ⟨its, rv, hl, hz⟩ := I.list hs
  rw [Vals.ref1 r]
  have e := each_vals rv
  have er := each_reads I hd e
  obtain ⟨as, ra⟩ := each_readsAll er
  refine PySem.W.min_list_data (x := encB b0) (xs := bs.map encB) (as := as) (I.ok.hd hc) hl.isList ra hal (by have := hdp; rw [List.map_cons] at this; omega) fun i v h' tk cs hv hr hk => ?_
  obtain ⟨b, hb, hrel⟩ := each_get e (by rw [Array.getElem?_toList]; exact hv)
  obtain ⟨ds, rd⟩ := Dp.reads I _ _ _ (hd b hb) hrel
  obtain ⟨e1, _⟩ := PyProof.Rows.reads_det (fun b o h _ => hk b o h) rd hr
  exact ⟨b.1, H, I.kept (t' := tk) fun b o h => hk b o h, hrel, q b hb e1.symm⟩
def minI (d : D) (ds : List D) : D := ds.foldl (fun a y => if PySem.W.dataLt y.toPy a.toPy = true then y else a) d
theorem minI_py : ∀ (ds : List D) (d : D), (minI d ds).toPy = PySem.W.minD d.toPy (ds.map D.toPy)
  | [], d => rfl
  | e :: ds, d => by
    show (minI (if PySem.W.dataLt e.toPy d.toPy = true then e else d) ds).toPy = _
    rw [minI_py ds]
    show _ = PySem.W.minD (if PySem.W.dataLt e.toPy d.toPy then e.toPy else d.toPy) (ds.map D.toPy)
    by_cases c : PySem.W.dataLt e.toPy d.toPy = true
    · rw [if_pos c, if_pos c]
    · rw [if_neg c, if_neg c]
theorem minI_mem : ∀ (ds : List D) (d : D), minI d ds ∈ d :: ds
  | [], d => List.mem_cons_self
  | e :: ds, d => by
    have h := minI_mem ds (if PySem.W.dataLt e.toPy d.toPy = true then e else d)
    show minI (if PySem.W.dataLt e.toPy d.toPy = true then e else d) ds ∈ _
    rcases List.mem_cons.mp h with h | h
    · rw [h]
      split
      · exact List.mem_cons_of_mem _ List.mem_cons_self
      · exact List.mem_cons_self
    · exact List.mem_cons_of_mem _ (List.mem_cons_of_mem _ h)
def isNonP : PyData → Bool
  | .none => true
  | _ => false
def minOk (ds : List D) : Bool := (ds.all fun d => ds.all fun e => PySem.W.alike d.toPy e.toPy) && (ds.all fun d => !isNonP d.toPy && plainD d && d.toPy.canLay0) && decide (PyData.depthAll (ds.map D.toPy) ≤ 60)
def minDD : List D → R
  | [.lst (d :: ds)] => if minOk (d :: ds) = true then .ok (minI d ds) else .bad
  | _ => .bad
theorem vc_minB {K : PySem.W.Frag} {C : Cn} : VCall K C (rMinB K) minDD := by
  intro W M σ H xs ds Q mm t r g
  unfold minDD at g
  split at g
  · rename_i d ds
    split at g
    · rename_i ok
      unfold minOk at ok
      simp only [Bool.and_eq_true, List.all_eq_true, decide_eq_true_eq, Bool.not_eq_true'] at ok
      obtain ⟨⟨o1, o2⟩, o3⟩ := ok
      obtain ⟨x, rfl, rx⟩ := rpL_one r
      obtain ⟨p, ys, rfl, hp, rr⟩ := rp_lst rx
      obtain ⟨v, vs, rfl, r1, r2⟩ := rpL_cons rr
      obtain ⟨z1, z2⟩ := zip_maps r2.length
      have zz := zip_rp (RpL.cons r1 r2)
      rw [List.zip_cons_cons] at zz
      have dm : ∀ b ∈ (v, d) :: vs.zip ds, b.2 ∈ d :: ds := fun b hb => by
        rcases List.mem_cons.mp hb with rfl | hb
        · exact List.mem_cons_self
        · exact List.mem_cons_of_mem _ (by rw [← z2]; exact List.mem_map_of_mem hb)
      have em : (vs.zip ds).map encB = ds.map D.toPy := by
        conv => rhs; rw [← z2, List.map_map]
        rfl
      refine ⟨p, (v, d), vs.zip ds, rfl, by rw [List.map_cons, z1]; exact .inl (.inl (mask_some.mp hp).2), fun b hb => Rp.dp _ _ (o2 _ (dm b hb)).2 (zz b hb), ⟨?_, ?_⟩, by rw [List.map_cons, em]; exact o3, fun b hb => (o2 _ (dm b hb)).2, fun b hb e => ?_⟩
      · intro a ha b hb
        rw [List.map_cons, em] at ha hb
        obtain ⟨x, hx, rfl⟩ := List.mem_map.mp (show a ∈ (d :: ds).map D.toPy from ha)
        obtain ⟨y, hy, rfl⟩ := List.mem_map.mp (show b ∈ (d :: ds).map D.toPy from hb)
        exact o1 x hx y hy
      · intro a ha z
        rw [List.map_cons, em] at ha
        obtain ⟨x, hx, e⟩ := List.mem_map.mp (show a ∈ (d :: ds).map D.toPy from ha)
        have := (o2 x hx).1.1
        rw [e, z] at this
        cases this
      · rw [em] at e
        have e2 : b.2 = minI d ds := toPy_inj _ _ (o2 _ (dm b hb)).1.2 (o2 _ (minI_mem ds d)).1.2 (e.trans (minI_py ds d).symm)
        exact Got.ok1 g t (e2 ▸ zz b hb)
    · exact g.elim
  · exact g.elim
theorem b_minB {X : Cx} {C : Cn} {W : WX} {e : Expr} {es : List Expr} {p pos : Pos} {fs : Gm → Rg (List D)} {k : Nat} (hr : Room k X.A) (hc : X.calm = true) (hm : X.mg "min" = none) (ha : DA X C W (e :: es) fs) (hg : Gl X "min" := by rfl) (he : starEach (e :: es) X.env = (false, eval e X.env) :: starEach es X.env := by rfl) (hpl : (backTo pos (starEach es X.env)).any (·.1) = false := by rfl) :
    DE X C W (.Call (.Name "min" p) (e :: es) [] pos) (eB minDD fs) := de_callB (cr_minB hc hr.units) vc_minB hm ha (by rfl) hg (by decide) (by decide) he hpl
end DL

set_option Elab.async false
set_option linter.all false
set_option maxRecDepth 100000
set_option maxHeartbeats 2000000
namespace DL
open PySem PySem.Spec PyProof.Rows L2 LamX
/-! ### a new list or dict hidden while other things are made, then put at a slot -/
section
variable {K : PySem.W.Frag} {C : Cn} {P0 : Addr → Prop} {H0 H H2 : Hp} {Γ : Gm} {σ : L2.St} {a : Addr}
theorem hide1 (E : Here K C P0 H0 Γ σ H) (e : ExtN H H2) (t : Tabs C.T H2) (ha : ¬ Solid H a) (hm : ∃ o, H2 a = some o ∧ isM o) : Here K C (fun b => P0 b ∨ b = a) H0 Γ σ H2 := by
  have mk : ExtN (mask (Msk P0 Γ σ) H) (mask (Msk (fun b => P0 b ∨ b = a) Γ σ) H2) := mask_ext e fun b m s => by
    rcases m with (m | m) | m
    · exact .inl m
    · exact absurd (m ▸ s) ha
    · exact .inr m
  have E' := E.ext e t
  refine ⟨⟨E'.e.base, t, fun b m => ?_, fun i d hd => ?_, fun i d hd => ?_, E.e.inj, E.e.len⟩, E.nt⟩
  · rcases m with m | m
    · exact E'.e.p0 b m
    · subst m; exact hm
  · obtain ⟨v, hv, r⟩ := E.e.dat i d hd
    exact ⟨v, hv, r.ext mk _ _⟩
  · obtain ⟨b, hv, n, p, o⟩ := E.e.own i d hd
    refine ⟨b, hv, n, fun z => z.elim p fun z => ?_, o.ext mk fun u hu iu => e _ _ hu (isM_tbl iu)⟩
    subst z
    exact ha (E.e.mut.solid _ (.inr ⟨i, d, hd, hv⟩))
theorem base_none (E : Here K C P0 H0 Γ σ H) (ha : ¬ Solid H a) : H0 a = none ∧ ¬ P0 a := by
  constructor
  · cases q : H0 a with
    | none => rfl
    | some u => exact absurd ⟨u, E.e.base a u q, fun ps z => E.nt a ps (by rw [q, z])⟩ ha
  · intro z
    obtain ⟨u, q, i⟩ := E.e.p0 a z
    exact ha ⟨u, q, isM_tbl i⟩
theorem msk_set {i : Nat} {d : D} {b : Addr} (l : Γ.length = σ.length) (h : Msk P0 (Γ.set i (.own d)) (σ.set i (some (.ref a))) b) : Msk (fun b => P0 b ∨ b = a) Γ σ b := by
  rcases h with h | ⟨j, x, e1, e2⟩
  · exact .inl (.inl h)
  · by_cases hj : i = j
    · subst hj
      by_cases hl : i < Γ.length
      · rw [List.getElem?_set_self (by rw [← l]; exact hl)] at e2
        injection e2 with e2
        injection e2 with e2
        injection e2 with e2
        exact .inl (.inr e2.symm)
      · rw [List.getElem?_set, if_pos rfl, if_neg hl] at e1; cases e1
    · rw [List.getElem?_set_ne hj] at e1 e2
      exact .inr ⟨j, x, e1, e2⟩
theorem unhide {i : Nat} {d : D} (E : Here K C (fun b => P0 b ∨ b = a) H0 Γ σ H) (h0 : H0 a = none) (np : ¬ P0 a) (o : OwnAt K C.fa (mask (Msk (fun b => P0 b ∨ b = a) Γ σ) H) H a d) : Here K C P0 H0 (Γ.set i (.own d)) (σ.set i (some (.ref a))) H := by
  have mk : ExtN (mask (Msk (fun b => P0 b ∨ b = a) Γ σ) H) (mask (Msk P0 (Γ.set i (.own d)) (σ.set i (some (.ref a)))) H) := mask_ext (ExtN.refl H) fun b m _ => msk_set E.e.len m
  have na : ∀ (j : Nat) (x : D) (b : Addr), Γ[j]? = some (.own x) → σ[j]? = some (some (.ref b)) → b ≠ a := fun j x b h1 h2 z => by
    obtain ⟨c, q, _, p, _⟩ := E.e.own j x h1
    rw [h2] at q
    injection q with q
    injection q with q
    injection q with q
    exact p (.inr (q.symm.trans z))
  refine ⟨⟨E.e.base, E.e.tab, fun b m => E.e.p0 b (.inl m), fun j x h => ?_, fun j x h => ?_, fun j l x y b h1 h2 h3 h4 => ?_, by rw [List.length_set, List.length_set]; exact E.e.len⟩, E.nt⟩
  · by_cases hj : i = j
    · subst hj
      by_cases hl : i < Γ.length
      · rw [List.getElem?_set_self hl] at h; cases h
      · rw [List.getElem?_set, if_pos rfl, if_neg hl] at h; cases h
    · rw [List.getElem?_set_ne hj] at h
      obtain ⟨v, q, r⟩ := E.e.dat j x h
      exact ⟨v, by rw [List.getElem?_set_ne hj]; exact q, r.ext mk _ _⟩
  · by_cases hj : i = j
    · subst hj
      by_cases hl : i < Γ.length
      · rw [List.getElem?_set_self hl] at h
        cases h
        exact ⟨a, by rw [List.getElem?_set_self (by rw [← E.e.len]; exact hl)], h0, np, o.ext mk fun _ e _ => e⟩
      · rw [List.getElem?_set, if_pos rfl, if_neg hl] at h; cases h
    · rw [List.getElem?_set_ne hj] at h
      obtain ⟨b, q, n, p, r⟩ := E.e.own j x h
      exact ⟨b, by rw [List.getElem?_set_ne hj]; exact q, n, fun z => p (.inl z), r.ext mk fun _ e _ => e⟩
  · have at_ : ∀ (k : Nat) (z : D) (b : Addr), (Γ.set i (.own d))[k]? = some (.own z) → (σ.set i (some (.ref a)))[k]? = some (some (.ref b)) → (i = k ∧ b = a) ∨ (i ≠ k ∧ Γ[k]? = some (.own z) ∧ σ[k]? = some (some (.ref b))) := fun k z b g1 g2 => by
      by_cases hk : i = k
      · subst hk
        by_cases hl : i < Γ.length
        · rw [List.getElem?_set_self (by rw [← E.e.len]; exact hl)] at g2
          injection g2 with g2
          injection g2 with g2
          injection g2 with g2
          exact .inl ⟨rfl, g2.symm⟩
        · rw [List.getElem?_set, if_pos rfl, if_neg hl] at g1; cases g1
      · rw [List.getElem?_set_ne hk] at g1 g2
        exact .inr ⟨hk, g1, g2⟩
    rcases at_ j x b h1 h3 with ⟨e1, e2⟩ | ⟨e1, e2, e3⟩ <;> rcases at_ l y b h2 h4 with ⟨f1, f2⟩ | ⟨f1, f2, f3⟩
    · exact e1.symm.trans f1
    · exact absurd e2 (na l y b f2 f3)
    · exact absurd f2 (na j x b e2 e3)
    · exact E.e.inj j l x y b e2 f2 e3 f3
end

/-! ### {k: v, ..} -/
inductive PPr (K : PySem.W.Frag) (fa : Str → Option Addr) (H : Hp) : List (V × V) → List D → Prop
  | nil : PPr K fa H [] []
  | cons {x y : V} {k v : D} {ps : List (V × V)} {ds : List D} : Rp K fa H x k → Rp K fa H y v → PPr K fa H ps ds → PPr K fa H ((x, y) :: ps) (.tup [k, v] :: ds)
theorem PPr.len {K : PySem.W.Frag} {fa : Str → Option Addr} {H : Hp} {ps : List (V × V)} {ds : List D} (h : PPr K fa H ps ds) : ps.length = ds.length := by
  induction h with
  | nil => rfl
  | cons _ _ _ ih => simp [ih]
def repPP (K : PySem.W.Frag) (C : Cn) (M : Addr → Prop) : Hp → Hp → List (V × V) → List D → Prop := fun _ H' ps ds => PPr K C.fa (mask M H') ps ds
theorem repPP_mono {K : PySem.W.Frag} {C : Cn} {M : Addr → Prop} : RepMono (repPP K C M) := fun _ _ _ _ _ _ _ h => h
def rdPP (K : PySem.W.Frag) (C : Cn) (W : WX) (fs : Gm → Rg (List D)) (σ : L2.St) (H : Hp) (Q : List (V × V) → Hp → Prop) : Prop := ∃ Γ P0 H0, Here K C P0 H0 Γ σ H ∧ Got W C (repPP K C (Msk P0 Γ σ)) σ H (fs Γ) Q
def DPP (X : Cx) (C : Cn) (W : WX) (pos : Pos) (ks : List (Option Expr)) (vs : List Expr) (fs : Gm → Rg (List D)) : Prop := ∃ trs : List (TE × TE), PPs X pos ks vs trs ∧ ∀ σ H Q, rdPP X.K C W fs σ H Q → tPairs trs σ H Q
def ppNil : Gm → Rg (List D) := fun _ => .ok []
def ppCons (fk fv : Gm → R) (fs : Gm → Rg (List D)) : Gm → Rg (List D) := fun Γ => (fk Γ).bind fun k => (fv Γ).bind fun v => (fs Γ).bind fun ds => .ok (.tup [k, v] :: ds)
section
variable {X : Cx} {C : Cn} {W : WX} {pos : Pos} {k v : Expr} {ks : List (Option Expr)} {vs : List Expr} {fk fv : Gm → R} {fs : Gm → Rg (List D)}
theorem dpp_nil : DPP X C W pos [] [] ppNil := ⟨[], pps_nil, fun σ H Q ⟨Γ, P0, H0, E, g⟩ => g [] H (ExtN.refl H) E.e.tab .nil⟩
theorem PPr.ext {K : PySem.W.Frag} {fa : Str → Option Addr} {H H' : Hp} (e : ExtN H H') {ps : List (V × V)} {ds : List D} (h : PPr K fa H ps ds) : PPr K fa H' ps ds := by
  induction h with
  | nil => exact .nil
  | cons a b _ ih => exact .cons (a.ext e _ _) (b.ext e _ _) ih
theorem dpp_cons (hk : DE X C W k fk) (hv : DE X C W v fv) (hr : DPP X C W pos ks vs fs) : DPP X C W pos (some k :: ks) (v :: vs) (ppCons fk fv fs) := by
  obtain ⟨trs, h1, h2⟩ := hr
  refine ⟨(rdE X.K C W fk, rdE X.K C W fv) :: trs, pps_cons hk hv h1, fun σ H Q ⟨Γ, P0, H0, E, g⟩ => ?_⟩
  refine ⟨Γ, P0, H0, E, Got.bind repPP_mono g fun d x H1 _ e1 t1 r1 g1 => ?_⟩
  refine ⟨Γ, P0, H0, E.ext e1 t1, Got.bind repPP_mono g1 fun dv y H2 _ e2 t2 r2 g2 => ?_⟩
  refine h2 σ H2 _ ⟨Γ, P0, H0, (E.ext e1 t1).ext e2 t2, Got.bind repPP_mono g2 fun ds ps H3 _ e3 t3 r3 g3 => ?_⟩
  exact g3 _ H3 (ExtN.refl H3) t3 (.cons (Rp.ext (mask_same (e2.trans e3)) _ _ r1) (Rp.ext (mask_same e3) _ _ r2) r3)
def dispD (ps : List D) : R := if ps.length ≤ 15 then (match dMrg ps [] [] with
  | some (ks, ds) => .ok (.dK ks ds)
  | none => .bad) else .bad
def eDisp (fs : Gm → Rg (List D)) : Gm → R := fun Γ => (fs Γ).bind dispD
theorem mrg_pp {K : PySem.W.Frag} {H : Hp} : ∀ {ps : List D} {vs : List (V × V)} {ks0 : List Key} {xs0 : List V} {ds0 : List D} {ks : List Key} {ds : List D}, PPr K C.fa H vs ps → ks0.length = xs0.length → RpL K C.fa H xs0 ds0 → dMrg ps ks0 ds0 = some (ks, ds) →
    ∃ (kvs : List (Key × V)) (xs : List V), vs = kvs.map (fun kv => (kV kv.1, kv.2)) ∧ mergeK (ks0.zip xs0) kvs = ks.zip xs ∧ ks.length = xs.length ∧ RpL K C.fa H xs ds
  | [], vs, ks0, xs0, ds0, ks, ds, r, hl, r0, h => by
    cases r
    cases h
    exact ⟨[], xs0, rfl, rfl, hl, r0⟩
  | p :: ps, vs, ks0, xs0, ds0, ks, ds, r, hl, r0, h => by
    cases r with
    | cons rk rv r2 =>
      rename_i x z k vd vs
      unfold dMrg at h
      cases hq : keyOf k with
      | none => simp only [hq] at h; cases h
      | some q =>
        simp only [hq] at h
        have ey := keyOf_rp rk hq
        subst ey
        have step : ∀ (kvs : List (Key × V)), mergeK (ks0.zip xs0) ((q, z) :: kvs) = mergeK (if hasK ks0 q = true then ks0.zip (setV q z ks0 xs0) else (ks0 ++ [q]).zip (xs0 ++ [z])) kvs := fun kvs => by
          rw [← putK_zip q z ks0 xs0 hl]
          rfl
        by_cases hk : hasK ks0 q = true
        · rw [if_pos hk] at h
          obtain ⟨kvs, xs, e1, e3, e4, e5⟩ := mrg_pp r2 (by rw [setV_len q z ks0 xs0 hl]; exact hl) (setV_rp q rv ks0 xs0 ds0 r0) h
          refine ⟨(q, z) :: kvs, xs, by rw [e1]; rfl, ?_, e4, e5⟩
          rw [step, if_pos hk]
          exact e3
        · rw [if_neg hk] at h
          obtain ⟨kvs, xs, e1, e3, e4, e5⟩ := mrg_pp r2 (by simp [hl]) (r0.snoc rv) h
          refine ⟨(q, z) :: kvs, xs, by rw [e1]; rfl, ?_, e4, e5⟩
          rw [step, if_neg hk]
          exact e3
theorem df_disp (h : DPP X C W pos ks vs fs) (hall : ks.all (·.isSome) = true := by rfl) (hl : ks.length = vs.length := by rfl) (h0 : ks ≠ [] := by exact fun z => by cases z) (h15 : ks.length ≤ 15 := by decide) : DF X C W (.Dict ks vs pos) (eDisp fs) := by
  obtain ⟨trs, hp, ht⟩ := h
  refine PE.to (pe_disp hp hall hl h0 h15) fun σ H Q ⟨Γ, P0, H0, E, g⟩ p hp => ?_
  have ns : ¬ Solid H p := not_solid hp
  have x1 : ExtN H (upd H p (.dK [])) := ext_new hp
  have t1 : Tabs C.T (upd H p (.dK [])) := tabs_new E.e.tab hp
  have E1 := hide1 E x1 t1 ns ⟨_, upd_same, trivial⟩
  refine ht σ _ _ ⟨Γ, _, H0, E1, ?_⟩
  have gg : Got W C (repF X.K C (Msk P0 Γ σ)) σ (upd H p (.dK [])) ((fs Γ).bind dispD) Q := Got.at repF_mono x1 g
  cases hf : fs Γ with
  | bad =>
    have g' : Got W C (repF X.K C (Msk P0 Γ σ)) σ H ((fs Γ).bind dispD) Q := g
    rw [hf] at g'
    exact g'.elim
  | exc c =>
    rw [hf] at gg
    exact gg
  | ok ds =>
    have g' : Got W C (repF X.K C (Msk P0 Γ σ)) σ H ((fs Γ).bind dispD) Q := g
    rw [hf, Rg.bind_ok] at g'
    intro ps H2 e2 t2 r
    unfold dispD at g'
    split at g'
    · rename_i h15
      split at g'
      · rename_i ks' ds' hm
        have hp2 : H2 p = some (.dK []) := e2 _ _ upd_same (fun _ z => by cases z)
        obtain ⟨kvs, xs, q1, q2, q3, q4⟩ := mrg_pp (ks0 := []) (xs0 := []) (ds0 := []) r rfl .nil hm
        refine ⟨hp2, kvs, q1, by rw [← List.length_map (f := fun kv : Key × V => (kV kv.1, kv.2)), ← q1, r.len]; exact h15, ?_⟩
        have q2' : mergeK [] kvs = ks'.zip xs := by simpa using q2
        rw [q2']
        refine g' _ _ (fun b o hb n => ?_) (tabs_mut t2 hp2 trivial) ⟨p, rfl, ns, xs, upd_same, q3, q4.ext (fun b o hb n => ?_) _ _⟩
        · rw [upd_ne (ne_of_none hb hp)]
          exact e2 _ _ (x1 _ _ hb n) n
        · obtain ⟨m1, m2⟩ := mask_some.mp hb
          refine mask_some.mpr ⟨fun m => m1 ?_, ?_⟩
          · rcases m with (m | m) | m
            · exact .inl (.inl m)
            · exact .inr m
            · exact .inl (.inr m)
          · rw [upd_ne (fun z : b = p => m1 (.inl (.inr z)))]
            exact m2
      · exact g'.elim
    · exact g'.elim
end

/-! ### a, b = x, y with new lists of the def's own -/
def kS : Bool → D → Sl
  | true, d => slotD d
  | false, d => .dat d
def Kp (h : Gm → Rg (D × Gm)) : Prop := ∀ Γ p, h Γ = .ok p → p.2 = Γ ∨ p.2 = unown Γ
theorem bind_is {α β : Type} {r : Rg α} {f : α → Rg β} {b : β} (h : r.bind f = .ok b) : ∃ a, r = .ok a ∧ f a = .ok b := by
  cases r with
  | ok a => exact ⟨a, rfl, h⟩
  | exc c => cases h
  | bad => cases h
theorem kp_P {f : Gm → R} : Kp (vP f) := fun Γ p h => by
  obtain ⟨a, _, e⟩ := bind_is h
  cases e
  exact .inl rfl
theorem kp_B {f : Gm → R} : Kp (vB f) := fun Γ p h => by
  obtain ⟨a, _, e⟩ := bind_is h
  cases e
  show (if a.flat = true then Γ else unown Γ) = Γ ∨ _
  split
  · exact .inl rfl
  · exact .inr rfl
theorem kp_F {f : Gm → R} : Kp (vF f) := fun Γ p h => by
  obtain ⟨a, _, e⟩ := bind_is h
  cases e
  show (if flatItems a = true then Γ else unown Γ) = Γ ∨ _
  split
  · exact .inl rfl
  · exact .inr rfl
section
variable {K : PySem.W.Frag} {C : Cn} {P P1 P2 : Addr → Prop} {H0 H H1 H2 : Hp} {Γ Γ1 Γ2 : Gm} {σ : L2.St}
/-- what was made: let stand, or hidden -/
inductive Item (K : PySem.W.Frag) (C : Cn) (H0 H : Hp) (P P1 : Addr → Prop) (M : Addr → Prop) : Sl → V → Prop
  | dat {d : D} {v : V} : P1 = P → Rp K C.fa (mask M H) v d → Item K C H0 H P P1 M (.dat d) v
  | own {d : D} {a : Addr} : P1 = (fun b => P b ∨ b = a) → H0 a = none → ¬ P a → OwnAt K C.fa (mask M H) H a d → Item K C H0 H P P1 M (.own d) (.ref a)
theorem item_ext {M M' : Addr → Prop} {s : Sl} {v : V} (e : ExtN H H1) (m : ∀ a, M' a → Solid H a → M a) (i : Item K C H0 H P P1 M s v) : Item K C H0 H1 P P1 M' s v := by
  cases i with
  | dat h r => exact .dat h (r.ext (mask_ext e m) _ _)
  | own h n p o => exact .own h n p (o.ext (mask_ext e m) fun u hu iu => e _ _ hu (isM_tbl iu))
theorem item_put {i : Nat} {s : Sl} {v : V} (E : Here K C P1 H0 Γ σ H) (it : Item K C H0 H P P1 (Msk P1 Γ σ) s v) : Here K C P H0 (Γ.set i s) (σ.set i (some v)) H ∧ ∀ a, Msk P (Γ.set i s) (σ.set i (some v)) a → Msk P1 Γ σ a := by
  cases it with
  | dat h r =>
    subst h
    exact ⟨⟨E.e.setD r, E.nt⟩, fun a m => m.elim .inl fun z => .inr (ownP_set (fun _ q => by cases q) z)⟩
  | own h n p o =>
    subst h
    exact ⟨unhide E n p o, fun b m => msk_set E.e.len m⟩
theorem item_of_O {d : D} {v : V} (E : Here K C P H0 Γ σ H) (e : ExtN H H1) (t : Tabs C.T H1) (r : FrV K C.fa (Msk P Γ σ) H H1 v d) : ∃ P1, Here K C P1 H0 Γ σ H1 ∧ Item K C H0 H1 P P1 (Msk P1 Γ σ) (slotD d) v ∧ ∀ a, P1 a → Solid H a → P a := by
  have own : ∀ {a : Addr} {d : D}, ¬ Solid H a → OwnAt K C.fa (mask (fun b => Msk P Γ σ b ∨ b = a) H1) H1 a d → ∃ P1, Here K C P1 H0 Γ σ H1 ∧ Item K C H0 H1 P P1 (Msk P1 Γ σ) (.own d) (.ref a) ∧ ∀ a, P1 a → Solid H a → P a := fun {a d} n o => by
    obtain ⟨n0, np⟩ := base_none E n
    refine ⟨fun b => P b ∨ b = a, hide1 E e t n o.mut, .own rfl n0 np (o.ext (mask_ext (ExtN.refl _) fun b m _ => ?_) fun _ q _ => q), fun b m s => m.elim id fun z => absurd (z ▸ s) n⟩
    rcases m with (m | m) | m
    · exact .inl (.inl m)
    · exact .inr m
    · exact .inl (.inr m)
  cases d with
  | lst ds => obtain ⟨a, rfl, n, o⟩ := r; exact own n o
  | dK ks ds => obtain ⟨a, rfl, n, o⟩ := r; exact own n o
  | dT ks ds => obtain ⟨a, rfl, n, o⟩ := r; exact own n o
  | _ => exact ⟨P, E.ext e t, .dat rfl r, fun _ m _ => m⟩
theorem unown_msk (h : Γ2 = Γ1 ∨ Γ2 = unown Γ1) {a : Addr} (m : Msk P Γ2 σ a) : Msk P Γ1 σ a := by
  rcases h with h | h
  · subst h; exact m
  · subst h
    exact m.elim .inl fun z => absurd z not_ownP_unown
end
/-- one of the two: k = true: a new list or dict, to be changed -/
def DK (X : Cx) (C : Cn) (W : WX) (k : Bool) (e : Expr) (h : Gm → Rg (D × Gm)) : Prop := match k with
  | true => DO X C W e h
  | false => DV X C W e h
def rdK (K : PySem.W.Frag) (C : Cn) (W : WX) (k : Bool) (h : Gm → Rg (D × Gm)) : TE := match k with
  | true => rdO K C W h
  | false => rdV K C W h
theorem here_less {K : PySem.W.Frag} {C : Cn} {P P1 : Addr → Prop} {H0 H : Hp} {Γ : Gm} {σ : L2.St} (E : Here K C P1 H0 Γ σ H) (h : ∀ a, P a → P1 a) : Here K C P H0 Γ σ H := by
  have mk : ExtN (mask (Msk P1 Γ σ) H) (mask (Msk P Γ σ) H) := mask_ext (ExtN.refl H) fun a m _ => m.elim (fun z => .inl (h a z)) .inr
  refine ⟨⟨E.e.base, E.e.tab, fun a m => E.e.p0 a (h a m), fun i d hd => ?_, fun i d hd => ?_, E.e.inj, E.e.len⟩, E.nt⟩
  · obtain ⟨v, hv, r⟩ := E.e.dat i d hd
    exact ⟨v, hv, r.ext mk _ _⟩
  · obtain ⟨a, hv, n, p, o⟩ := E.e.own i d hd
    exact ⟨a, hv, n, fun z => p (h a z), o.ext mk fun _ e _ => e⟩
/-- what the reading of an item asks, in one form: P is the def's own, P1 what is hidden now -/
theorem rdK_of {K : PySem.W.Frag} {C : Cn} {W : WX} {k : Bool} {h : Gm → Rg (D × Gm)} {σ : L2.St} {H : Hp} {Γ : Gm} {P P1 : Addr → Prop} {H0 : Hp} {Z : Ends} {kk : D × Gm → O} {Q : V → Hp → Prop} (E : Here K C P1 H0 Γ σ H) (sub : ∀ a, P a → P1 a) (g : GotS K C W P H0 ((h Γ).toS Γ kk) Z)
    (q : ∀ (p : D × Gm) (v : V) (H1 : Hp) (P2 : Addr → Prop), h Γ = .ok p → ExtN H H1 → Tabs C.T H1 → Here K C P2 H0 p.2 σ H1 → Item K C H0 H1 P1 P2 (Msk P2 p.2 σ) (kS k p.1) v → (∀ a, P2 a → Solid H a → P1 a) → (∀ a, P1 a → P2 a) → GotS K C W P H0 (kk p) Z → Q v H1) : rdK K C W k h σ H Q := by
  have go : ∀ {rep : Hp → Hp → V → D × Gm → Prop}, (∀ (p : D × Gm) (v : V) (H1 : Hp), h Γ = .ok p → ExtN H H1 → Tabs C.T H1 → rep H H1 v p → GotS K C W P H0 (kk p) Z → Q v H1) → Got W C rep σ H (h Γ) Q := fun {rep} f => by
    cases hh : h Γ with
    | ok p =>
      rw [hh] at g
      exact fun v H1 e t r => f p v H1 hh e t r g
    | exc c =>
      rw [hh] at g
      exact fun c' H' x e t => g c' σ H' x (here_less (E.ext e t) sub)
    | bad =>
      rw [hh] at g
      exact g
  cases k with
  | true =>
    refine ⟨Γ, P1, H0, E, go fun p v H1 hp e t ⟨E', r⟩ kq => ?_⟩
    obtain ⟨P2, a1, a2, a3⟩ := item_of_O E' e t r
    refine q p v H1 P2 hp e t a1 a2 a3 (fun a m => ?_) kq
    generalize hs : slotD p.1 = s at a2
    cases a2 with
    | dat h _ => subst h; exact m
    | own h _ _ _ => subst h; exact .inl m
  | false =>
    refine ⟨Γ, P1, H0, E, go fun p v H1 hp e t ⟨E', r⟩ kq => ?_⟩
    exact q p v H1 P1 hp e t E' (.dat rfl r) (fun _ m _ => m) (fun _ m => m) kq
def sPO (i j : Nat) (k1 k2 : Bool) (h1 h2 : Gm → Rg (D × Gm)) : Gm → O := fun Γ => (h1 Γ).toS Γ fun p => (h2 p.2).toS p.2 fun q => .nx ((q.2.set i (kS k1 p.1)).set j (kS k2 q.1))
def sPO3 (i j l : Nat) (k1 k2 k3 : Bool) (h1 h2 h3 : Gm → Rg (D × Gm)) : Gm → O := fun Γ => (h1 Γ).toS Γ fun p => (h2 p.2).toS p.2 fun q => (h3 q.2).toS q.2 fun r => .nx (((r.2.set i (kS k1 p.1)).set j (kS k2 q.1)).set l (kS k3 r.1))
section
variable {X : Cx} {C : Cn} {W : WX} {pos : Pos} {a b c : Expr} {h1 h2 h3 : Gm → Rg (D × Gm)} {k1 k2 k3 : Bool}
theorem dk_pe {k : Bool} {e : Expr} {h : Gm → Rg (D × Gm)} (d : DK X C W k e h) : PE X e (rdK X.K C W k h) := by
  cases k with
  | true => exact d
  | false => exact d
theorem ds_parO (i j : Nat) {x y : Str} {px py pt : Pos} {kt k2' : Nat} {pt2 : Pos} (hN : X.N.Nodup) (ha : DK X C W k1 a h1) (hb : DK X C W k2 b h2) (kp : Kp h2) (hc : X.calm = true := by rfl) (hi : X.N[i]? = some x := by rfl) (hj : X.N[j]? = some y := by rfl) (hij : i ≠ j := by decide)
    (hx : X.env.scope.names.lookup x = some .local := by rfl) (hy : X.env.scope.names.lookup y = some .local := by rfl)
    (hs1 : starEach [a, b] X.env = (false, eval a X.env) :: starEach [b] X.env := by rfl) (hs2 : starEach [b] X.env = (false, eval b X.env) :: starEach [] X.env := by rfl)
    (hw : swappedStores [.Tuple [.Name x px, .Name y py] kt pt] (.Tuple [a, b] k2' pt2) X.env = pure (some [x, y]) := by rfl)
    (hs : swapsWithSole [.Tuple [.Name x px, .Name y py] kt pt] (.Tuple [a, b] k2' pt2) pos.line X.env = pure false := by rfl) :
    DS X C W (.Assign [.Tuple [.Name x px, .Name y py] kt pt] (.Tuple [a, b] k2' pt2) pos) (sPO i j k1 k2 h1 h2) := PS.to (ps_par hc hN hi hj hij hx hy (pa_cons (dk_pe ha) (pa_cons (dk_pe hb) pa_nil hs2) hs1) hw hs) fun Z σ H ⟨Γ, P0, H0, E, g⟩ => by
  refine rdK_of E (fun _ m => m) g fun p v H1 P1 hp e1 t1 E1 i1 n1 s1 g1 => ?_
  refine rdK_of E1 s1 g1 fun q u H2 P2 hq e2 t2 E2 i2 n2 s2 g2 => ?_
  have i1' := item_ext (M' := Msk P2 q.2 σ) e2 (fun a m s => (unown_msk (kp _ _ hq) m).elim (fun z => .inl (n2 a z s)) .inr) i1
  obtain ⟨F1, m1⟩ := item_put (i := j) E2 i2
  obtain ⟨F2, _⟩ := item_put (i := i) F1 (item_ext (ExtN.refl _) (fun a m _ => m1 a m) i1')
  refine ⟨v, u, rfl, g2 _ _ ?_⟩
  rw [List.set_comm _ _ hij, List.set_comm _ _ hij]
  exact F2
theorem ds_parO3 (i j l : Nat) {x y z : Str} {px py pz pt : Pos} {kt k2' : Nat} {pt2 : Pos} (hN : X.N.Nodup) (ha : DK X C W k1 a h1) (hb : DK X C W k2 b h2) (hd : DK X C W k3 c h3) (kp2 : Kp h2) (kp3 : Kp h3) (hc : X.calm = true := by rfl) (hi : X.N[i]? = some x := by rfl) (hj : X.N[j]? = some y := by rfl) (hl : X.N[l]? = some z := by rfl)
    (hij : i ≠ j := by decide) (hil : i ≠ l := by decide) (hjl : j ≠ l := by decide)
    (hx : X.env.scope.names.lookup x = some .local := by rfl) (hy : X.env.scope.names.lookup y = some .local := by rfl) (hz : X.env.scope.names.lookup z = some .local := by rfl)
    (hs1 : starEach [a, b, c] X.env = (false, eval a X.env) :: starEach [b, c] X.env := by rfl) (hs2 : starEach [b, c] X.env = (false, eval b X.env) :: starEach [c] X.env := by rfl) (hs3 : starEach [c] X.env = (false, eval c X.env) :: starEach [] X.env := by rfl)
    (hw : swappedStores [.Tuple [.Name x px, .Name y py, .Name z pz] kt pt] (.Tuple [a, b, c] k2' pt2) X.env = pure (some [x, y, z]) := by rfl)
    (hs : swapsWithSole [.Tuple [.Name x px, .Name y py, .Name z pz] kt pt] (.Tuple [a, b, c] k2' pt2) pos.line X.env = pure false := by rfl) :
    DS X C W (.Assign [.Tuple [.Name x px, .Name y py, .Name z pz] kt pt] (.Tuple [a, b, c] k2' pt2) pos) (sPO3 i j l k1 k2 k3 h1 h2 h3) := PS.to (ps_par3 hc hN hi hj hl hij hil hjl hx hy hz (pa_cons (dk_pe ha) (pa_cons (dk_pe hb) (pa_cons (dk_pe hd) pa_nil hs3) hs2) hs1) hw hs) fun Z σ H ⟨Γ, P0, H0, E, g⟩ => by
  refine rdK_of E (fun _ m => m) g fun p v H1 P1 hp e1 t1 E1 i1 n1 s1 g1 => ?_
  refine rdK_of E1 s1 g1 fun q u H2 P2 hq e2 t2 E2 i2 n2 s2 g2 => ?_
  refine rdK_of E2 (fun a m => s2 a (s1 a m)) g2 fun r w H3 P3 hr e3 t3 E3 i3 n3 s3 g3 => ?_
  have i2' := item_ext (M' := Msk P3 r.2 σ) e3 (fun a m s => (unown_msk (kp3 _ _ hr) m).elim (fun z => .inl (n3 a z s)) .inr) i2
  have i1' := item_ext (M' := Msk P2 q.2 σ) e2 (fun a m s => (unown_msk (kp2 _ _ hq) m).elim (fun z => .inl (n2 a z s)) .inr) i1
  have i1'' := item_ext (M' := Msk P3 r.2 σ) e3 (fun a m s => (unown_msk (kp3 _ _ hr) m).elim (fun z => .inl (n3 a z s)) .inr) i1'
  obtain ⟨F1, m1⟩ := item_put (i := l) E3 i3
  obtain ⟨F2, m2⟩ := item_put (i := j) F1 (item_ext (ExtN.refl _) (fun a m _ => m1 a m) i2')
  obtain ⟨F3, _⟩ := item_put (i := i) F2 (item_ext (ExtN.refl _) (fun a m _ => m1 a (m2 a m)) i1'')
  refine ⟨v, u, w, rfl, g3 _ _ ?_⟩
  have cm : ∀ {α : Type} (L : List α) (x y z : α), ((L.set i x).set j y).set l z = ((L.set l z).set j y).set i x := fun L x y z => by
    rw [List.set_comm _ _ hij, List.set_comm _ _ hil, List.set_comm _ _ hjl]
  rw [cm, cm]
  exact F3
end

/-! the same where a name is a cell: the tuple is made, then unpacked -/
section
variable {X : Cx} {C : Cn} {W : WX} {pos : Pos} {a b : Expr} {h1 h2 : Gm → Rg (D × Gm)} {k1 k2 : Bool}
theorem ds_parC (i j : Nat) {x y : Str} {px py pt : Pos} {kt k2' : Nat} {pt2 : Pos} (hN : X.N.Nodup) (ha : DK X C W k1 a h1) (hb : DK X C W k2 b h2) (kp : Kp h2) (hc : X.calm = true := by rfl) (hi : X.N[i]? = some x := by rfl) (hj : X.N[j]? = some y := by rfl) (hij : i ≠ j := by decide)
    (hx : Loc X.env.scope x := by first | exact Or.inl rfl | exact Or.inr rfl) (hy : Loc X.env.scope y := by first | exact Or.inl rfl | exact Or.inr rfl)
    (hfx : X.fn x = true ∨ X.env.scope.names.lookup x = some .local := by first | exact .inl rfl | exact .inr rfl | assumption) (hfy : X.fn y = true ∨ X.env.scope.names.lookup y = some .local := by first | exact .inl rfl | exact .inr rfl | assumption)
    (hs1 : starEach [a, b] X.env = (false, eval a X.env) :: starEach [b] X.env := by rfl) (hs2 : starEach [b] X.env = (false, eval b X.env) :: starEach [] X.env := by rfl)
    (hn : (assignEach [.Name x px, .Name y py] X.env).length = 2 := by rfl) (hst : (assignEach [.Name x px, .Name y py] X.env).findIdx? (·.1) = none := by rfl)
    (hg1 : (assignEach [.Name x px, .Name y py] X.env).map (·.2) = assign (.Name x px) X.env :: (assignEach [.Name y py] X.env).map (·.2) := by rfl) (hg2 : (assignEach [.Name y py] X.env).map (·.2) = assign (.Name y py) X.env :: (assignEach [] X.env).map (·.2) := by rfl)
    (hw : swappedStores [.Tuple [.Name x px, .Name y py] kt pt] (.Tuple [a, b] k2' pt2) X.env = pure none := by rfl)
    (hs : swapsWithSole [.Tuple [.Name x px, .Name y py] kt pt] (.Tuple [a, b] k2' pt2) pos.line X.env = pure false := by rfl)
    (hm : (assignEach [.Tuple [.Name x px, .Name y py] kt pt] X.env).map (·.2) = [assign (.Tuple [.Name x px, .Name y py] kt pt) X.env] := by rfl) :
    DS X C W (.Assign [.Tuple [.Name x px, .Name y py] kt pt] (.Tuple [a, b] k2' pt2) pos) (sPO i j k1 k2 h1 h2) :=
  PS.to (ps_asg (pe_tup (pa_cons (dk_pe ha) (pa_cons (dk_pe hb) pa_nil hs2) hs1)) (pg_tup (n := 2) hc (pgs_cons (pg_name hN hi hx hfx) (pgs_cons (pg_name hN hj hy hfy) pgs_nil hg2) hg1) hn hst) hs hw hm) fun Z σ H ⟨Γ, P0, H0, E, g⟩ => by
  refine rdK_of E (fun _ m => m) g fun p v H1 P1 hp e1 t1 E1 i1 n1 s1 g1 => ?_
  refine rdK_of E1 s1 g1 fun q u H2 P2 hq e2 t2 E2 i2 n2 s2 g2 => ?_
  refine ⟨by rw [sizeLine_eq]; simp, fun T hT => ?_⟩
  have e3 : ExtN H2 (upd H2 T (.tup [v, u])) := ext_new hT
  have t3 : Tabs C.T (upd H2 T (.tup [v, u])) := tabs_new t2 hT
  have E3 := E2.ext e3 t3
  have i2'' := item_ext (M' := Msk P2 q.2 σ) e3 (fun a m _ => m) i2
  have i1' := item_ext (M' := Msk P2 q.2 σ) (e2.trans e3) (fun a m s => (unown_msk (kp _ _ hq) m).elim (fun z => .inl (n2 a z s)) .inr) i1
  obtain ⟨F1, m1⟩ := item_put (i := j) E3 i2''
  obtain ⟨F2, _⟩ := item_put (i := i) F1 (item_ext (ExtN.refl _) (fun a m _ => m1 a m) i1')
  refine ⟨T, [v, u], rfl, .inl (.inl upd_same), rfl, v, [u], rfl, u, [], rfl, rfl, g2 _ _ ?_⟩
  rw [List.set_comm _ _ hij, List.set_comm _ _ hij]
  exact F2
end

/-! ### list.count of ints -/
def countD (d : D) (ds : List D) : R := match d, ds with
  | .lst es, [.int i] => (match intsOf es with
    | some ns => .ok (.int (ns.count i : Nat))
    | none => .bad)
  | _, _ => .bad
section
variable {X : Cx} {C : Cn} {W : WX} {k : Nat} {f : Gm → R} {fs : Gm → Rg (List D)}
theorem vm_count {K : PySem.W.Frag} : VMt K C (rCntI K) countD := by
  intro W M σ H x xs d ds Q mm t rx rs g
  unfold countD at g
  split at g
  · rename_i es i
    split at g
    · rename_i ns hn
      obtain ⟨y, rfl, r1⟩ := rpL_one rs
      obtain rfl := rp_int r1
      obtain ⟨a, rfl, ha⟩ := rp_lstI rx hn
      exact ⟨a, ns, i, rfl, rfl, ha, g.ok1 t (.int _)⟩
    · exact g.elim
  · exact g.elim
theorem m_count {o x : Expr} {apos cpos : Pos} (ho : DE X C W o f) (ha : DA X C W [x] fs) (hbase : attributeBase o "count" X.env (eval o X.env) = eval o X.env := by rfl)
    (hfew : ((backTo cpos (starEach [x] X.env)).all (fun x => !x.1) && (backToKw cpos (keywordEach [] X.env)).all (fun x => x.1.isSome) && decide (([x] : List Expr).length + ([] : List Keyword).length + (if ([] : List Keyword).isEmpty then 0 else 1) < 30)) = true := by rfl)
    (hline : (apos.endLine == cpos.line) = true := by rfl) (hs : starEach [x] X.env = (false, eval x X.env) :: starEach [] X.env := by rfl) (hplain : (backTo cpos (starEach [] X.env)).any (·.1) = false := by rfl) :
    DE X C W (.Call (.Attribute o "count" apos) [x] [] cpos) (eMt "list" countD f fs) :=
  de_mt mt_lcount vm_count (fun h1 h2 => pe_bm F.plainAttrs_list F.slot_list_count F.type_list_count mt_lcount h1 h2 hbase hfew hline hs hplain) ho ha
end
end DL

set_option Elab.async false
set_option linter.all false
set_option maxRecDepth 100000
set_option maxHeartbeats 2000000
namespace DL
open PySem PySem.Spec PyProof.Rows L2 LamX
/-! ### <, >, <=, >= of alike data -/
def isNoneP : PyData → Bool
  | .none => true
  | _ => false
def cmpOk (d e : D) : Bool := PySem.W.alike d.toPy e.toPy && !isNoneP d.toPy && d.toPy.canLay0 && e.toPy.canLay0 && decide (d.toPy.depth ≤ 60)
def ltDD (d e : D) : R := if cmpOk d e then .ok (.bl (PySem.W.dataLt d.toPy e.toPy)) else .bad
def geDD (d e : D) : R := if cmpOk d e then .ok (.bl (!PySem.W.dataLt d.toPy e.toPy)) else .bad
def rDat (K : PySem.W.Frag) (g : PyData → PyData → Bool) : R2 := fun x y H Q => ∃ da db, Dp K H x da ∧ Dp K H y db ∧ PySem.W.alike da db = true ∧ da ≠ .none ∧ da.depth ≤ 60 ∧ Q (.bl (g da db)) H
section
variable {X : Cx} {C : Cn}
theorem op_ltB (hu : X.A.units + 64 < cLine) : OpR X (compareOp .Lt) (rDat X.K PySem.W.dataLt) := by
  intro pins s σ H x y v u Q I rx ry ⟨da, db, h1, h2, ha, hn, hd, q⟩
  obtain ⟨as, ra⟩ := Dp.reads I da x v h1 rx
  obtain ⟨bs, rb⟩ := Dp.reads I db y u h2 ry
  exact PySem.W.lt_data ra rb ha hn (by omega) ⟨.bl _, H, I, rfl, q⟩
theorem op_geB (hu : X.A.units + 64 < cLine) : OpR X (compareOp .GtE) (rDat X.K fun a b => !PySem.W.dataLt a b) := by
  intro pins s σ H x y v u Q I rx ry ⟨da, db, h1, h2, ha, hn, hd, q⟩
  obtain ⟨as, ra⟩ := Dp.reads I da x v h1 rx
  obtain ⟨bs, rb⟩ := Dp.reads I db y u h2 ry
  exact PySem.W.ge_data ra rb ha hn (by omega) ⟨.bl _, H, I, rfl, q⟩
theorem cmp_ok {K : PySem.W.Frag} {M : Addr → Prop} {H : Hp} {x y : V} {d e : D} (h : cmpOk d e = true) (rx : Rp K C.fa (mask M H) x d) (ry : Rp K C.fa (mask M H) y e) :
    Dp K H x d.toPy ∧ Dp K H y e.toPy ∧ PySem.W.alike d.toPy e.toPy = true ∧ d.toPy ≠ .none ∧ d.toPy.depth ≤ 60 := by
  unfold cmpOk at h
  simp only [Bool.and_eq_true, decide_eq_true_eq, Bool.not_eq_true'] at h
  obtain ⟨⟨⟨⟨h1, h2⟩, h3⟩, h4⟩, h5⟩ := h
  refine ⟨Rp.dp d x h3 rx, Rp.dp e y h4 ry, h1, fun z => ?_, h5⟩
  rw [z] at h2
  cases h2
theorem vop_ltB {K : PySem.W.Frag} : VOp K C (rDat K PySem.W.dataLt) ltDD := by
  intro W M σ H x y d e Q mm t rx ry g
  unfold ltDD at g
  split at g
  · rename_i h
    obtain ⟨h1, h2, h3, h4, h5⟩ := cmp_ok h rx ry
    exact ⟨_, _, h1, h2, h3, h4, h5, g.ok1 t (.bl _)⟩
  · exact g.elim
theorem vop_geB {K : PySem.W.Frag} : VOp K C (rDat K fun a b => !PySem.W.dataLt a b) geDD := by
  intro W M σ H x y d e Q mm t rx ry g
  unfold geDD at g
  split at g
  · rename_i h
    obtain ⟨h1, h2, h3, h4, h5⟩ := cmp_ok h rx ry
    exact ⟨_, _, h1, h2, h3, h4, h5, g.ok1 t (.bl _)⟩
  · exact g.elim
theorem q_ltD {k : Nat} (hr : Room k X.A) : Cmp X C .Lt ltDD := ⟨_, op_ltB hr.units, vop_ltB⟩
theorem q_geD {k : Nat} (hr : Room k X.A) : Cmp X C .GtE geDD := ⟨_, op_geB hr.units, vop_geB⟩
end
end DL

set_option Elab.async false
set_option linter.all false
set_option maxRecDepth 100000
set_option maxHeartbeats 2000000
namespace DL
open PySem PySem.Spec PyProof.Rows L2 LamX
/-! ### d.get(k, x) where k may be None -/
section
variable {X : Cx} {pins : List (Addr × Obj)} {σ : L2.St} {H : Hp} {s : Shared} {a : Addr} {kvs : List (Key × V)} {d : V} {r : Value} {A : Around} {E : Value → Shared → Prop}
theorem get_none {Q : Value → Shared → Prop} (I : Inv X pins σ H s) (e : Rd H a (.dK kvs)) (rd : RelV d r) (h : ∀ u z, Inv X pins σ H z → RelV d u → Q u z) : wpAny (model X.prog X.w) A (call (.builtin "dict.get") [.ref a, .none, r]) Q E s := by
  obtain ⟨_, hd, vs, _, dd⟩ := dk_rd I.hok e
  obtain ⟨f, hm, hf⟩ := none_map dd
  refine call_meetsIn F.slot_dict_get dd.typeIs F.entry_dict_get (F.args_dict_get_3 _ _ _) (meets_dict_get_default (noneKind X.prog X.w) a (show (noneKind X.prog X.w).is none .none = true from rfl) hd r) ⟨_, hm, h _ _ (I.tok _) ?_⟩
  rw [hf]
  exact rd
end
def tGetN (td ty tx : TE) : TE := fun σ H Q => td σ H fun x H1 => ∃ a, x = .ref a ∧ IsD H1 a ∧ ty σ H1 fun y H2 => tx σ H2 fun z H3 => (∃ o, DGet H3 a y o ∧ Q (o.getD z) H3) ∨ (y = .non ∧ (∃ kvs, Rd H3 a (.dK kvs)) ∧ Q z H3)
section
variable {X : Cx} {C : Cn} {W : WX} {o e f : Expr} {apos cpos : Pos} {td ty tx : TE}
theorem pe_getN (hu : X.A.units + 1 < cLine) (ho : PE X o td) (he : PE X e ty) (hf : PE X f tx) (m : M2 X o "get" apos e f cpos) : PE X (.Call (.Attribute o "get" apos) [e, f] [] cpos) (tGetN td ty tx) := by
  refine ⟨fun pins s σ H Q I h => ?_⟩
  refine wpAny_Call_method m.base m.few m.line F.plainAttrs_dict F.slot_dict_get F.type_dict_get (thn (ho.run pins s σ H _ I h) fun u s1 ⟨x, H1, I1, rx, a, ex, d, q1⟩ => ?_)
  subst ex
  obtain rfl : u = Value.ref a := rx
  obtain ⟨t1, t2, _⟩ := isD_at I1 d
  refine ⟨t1, t2, ?_⟩
  rw [m.trees]
  refine Calls.callWith_builtin rfl (Calls.evalArgs_plain (Calls.spliced_cons (thn (he.run pins s1 σ H1 _ I1 q1) fun iv s2 ⟨y, H2, I2, ry, q2⟩ =>
    Calls.spliced_cons (thn (hf.run pins s2 σ H2 _ I2 q2) fun fv s3 ⟨z, H3, I3, rz, q3⟩ => Calls.spliced_nil ?_))))
  rcases q3 with ⟨ov, g, q3⟩ | ⟨rfl, ⟨kvs, hk⟩, q3⟩
  · exact d_get2 hu I3 g ry rz fun w' s4 I4 rw' => ⟨_, H3, I4, rw', q3⟩
  · cases ry
    exact get_none I3 hk rz fun w' s4 I4 rw' => ⟨_, H3, I4, rw', q3⟩
def getN (d k z : D) : R := match k with
  | .non => (match d with
    | .dK _ _ => .ok z
    | _ => .bad)
  | k => getD2 d k z
def eGetN (fo fk fz : Gm → R) : Gm → R := fun Γ => (fo Γ).bind fun d => if isDct d then (fk Γ).bind fun k => (fz Γ).bind fun z => getN d k z else .bad
theorem getN_some {d k z : D} (h : k ≠ .non) : getN d k z = getD2 d k z := by
  cases k <;> first | rfl | exact absurd rfl h
theorem m_getN {fo fk fz : Gm → R} (hu : X.A.units + 1 < cLine) (ho : DE X C W o fo) (he : DE X C W e fk) (hf : DE X C W f fz) (m : M2 X o "get" apos e f cpos) : DE X C W (.Call (.Attribute o "get" apos) [e, f] [] cpos) (eGetN fo fk fz) :=
  PE.to (pe_getN hu ho he hf m) fun σ H Q ⟨Γ, P0, H0, E, g⟩ => by
  refine ⟨Γ, P0, H0, E, Got.bind repD_mono g fun d x H1 _ e1 t1 r1 g1 => ?_⟩
  split at g1
  · rename_i hd
    have hx : ∃ a, x = .ref a ∧ IsD H1 a := by
      cases d with
      | dK ks ds => obtain ⟨p, xs, rfl, hp, _⟩ := rp_dK r1; exact ⟨p, rfl, .inl ⟨_, .inl (mask_some.mp hp).2⟩⟩
      | dT ks ds => obtain ⟨p, xs, rfl, hp, _⟩ := rp_dT r1; exact ⟨p, rfl, .inr ⟨_, .inl (mask_some.mp hp).2⟩⟩
      | _ => cases hd
    obtain ⟨a, rfl, ia⟩ := hx
    refine ⟨a, rfl, ia, Γ, P0, H0, E.ext e1 t1, Got.bind repD_mono g1 fun k y H2 _ e2 t2 r2 g2 => ?_⟩
    refine ⟨Γ, P0, H0, (E.ext e1 t1).ext e2 t2, Got.bind repD_mono g2 fun z w H3 _ e3 t3 r3 g3 => ?_⟩
    have r1' := Rp.ext (mask_same (e2.trans e3)) _ _ r1
    have r2' := Rp.ext (mask_same e3) _ _ r2
    by_cases hk : k = .non
    · subst hk
      obtain rfl := rp_non r2'
      unfold getN at g3
      simp only [] at g3
      split at g3
      · rename_i ks ds
        obtain ⟨p, xs, hpe, hp, hl, r⟩ := rp_dK r1'
        cases hpe
        exact .inr ⟨rfl, ⟨_, .inl (mask_some.mp hp).2⟩, Got.ok1 g3 t3 r3⟩
      · exact g3.elim
    · rw [getN_some hk] at g3
      refine .inl ?_
      unfold getD2 at g3
      split at g3
      · rename_i ks ds k
        split at g3
        · rename_i q hq
          obtain ⟨p, xs, hpe, hp, hl, r⟩ := rp_dK r1'
          cases hpe
          have ey := keyOf_rp r2' hq
          subst ey
          refine ⟨_, DGet.k (mask_some.mp hp).2, ?_⟩
          rcases look_val (C := C) q r hl with ⟨v, d, h1, h2, h3⟩ | ⟨h1, h2⟩
          · rw [h1]; rw [h2] at g3; exact Got.ok1 g3 t3 h3
          · rw [h1]; rw [h2] at g3; exact Got.ok1 g3 t3 r3
        · exact g3.elim
      · rename_i ks ds k
        split at g3
        · rename_i q hq
          obtain ⟨p, xs, hpe, hp, hl, r⟩ := rp_dT r1'
          cases hpe
          obtain ⟨b, ys, hbe, hb, rb⟩ := rp_tup r2'
          cases hbe
          have ey := keysOf_rp rb hq
          subst ey
          refine ⟨_, DGet.t (mask_some.mp hp).2 (mask_some.mp hb).2, ?_⟩
          rcases look_val (C := C) q r hl with ⟨v, d, h1, h2, h3⟩ | ⟨h1, h2⟩
          · rw [h1]; rw [h2] at g3; exact Got.ok1 g3 t3 h3
          · rw [h1]; rw [h2] at g3; exact Got.ok1 g3 t3 r3
        · exact g3.elim
      · exact g3.elim
  · exact g1.elim
end
end DL

set_option Elab.async false
set_option linter.all false
set_option maxRecDepth 100000
set_option maxHeartbeats 2000000
namespace DL
open PySem PySem.Spec PyProof.Rows L2 LamX
/-! ### t[::-1] of a tuple -/
section
variable {prog : Program} {w : World} {A : Around} {E : Value → Shared → Prop} {s : Shared}
theorem places_back (n : Nat) : Builtin.Slice.slicePlaces ((n : Int) - 1) (-1) (-1) = n := by
  unfold Builtin.Slice.slicePlaces
  rw [if_neg (by decide), show (- -1 : Int) = 1 by decide, Int.ediv_one]
  by_cases h : (n : Int) - 1 > -1
  · rw [if_pos h]; omega
  · rw [if_neg h]; omega
theorem applied_back {sl : Addr} {vs : Value} {n : Nat} {Q : Int × Int × Nat → Shared → Prop} (hs : s.heap.IsSliceOf sl .none .none vs) (ps : IsPart vs (some (-1)))
    (h : Q (((n : Int) - 1), -1, n) s) : wpAny (model prog w) A (Builtin.Slice.sliceApplied (.ref sl) (pure (n : Int))) Q E s := by
  obtain ⟨os, hos, hcs, hds⟩ := id hs
  unfold Builtin.Slice.sliceApplied Builtin.Slice.sliceFields
  refine wpAny_bind (wpAny_bind (wpAny_field hos hds (x := .none) rfl (wpAny_bind (wpAny_field hos hds (x := .none) rfl (wpAny_bind (wpAny_field hos hds (x := vs) rfl (wpAny_pure ?_)))))))
  refine wpAny_bind (HT.slicePart_ ps ?_)
  show wpAny _ _ (if ((-1 : Int) == 0) = true then _ else _) _ _ s
  rw [if_neg (by decide)]
  refine wpAny_bind (HT.slicePart_ .none (wpAny_bind (HT.slicePart_ .none (wpAny_bind (wpAny_pure ?_)))))
  show wpAny _ _ (pure (((n : Int) - 1), (-1 : Int), Builtin.Slice.slicePlaces ((n : Int) - 1) (-1) (-1))) _ _ s
  rw [places_back]
  exact wpAny_pure h
theorem fm_map {α β : Type} {f : α → Option β} {g : α → β} : ∀ {l : List α}, (∀ x ∈ l, f x = some (g x)) → l.filterMap f = l.map g
  | [], _ => rfl
  | x :: l, h => by
    rw [List.filterMap_cons, h x List.mem_cons_self, List.map_cons, fm_map fun y hy => h y (List.mem_cons_of_mem _ hy)]
theorem pick_back (xs : Array Value) : ((List.range xs.size).filterMap fun (m : Nat) => xs[(((xs.size : Int) - 1) + (m : Int) * (-1)).toNat]?).toArray = xs.toList.reverse.toArray := by
  congr 1
  refine List.ext_getElem? fun i => ?_
  have e : (List.range xs.size).filterMap (fun (m : Nat) => xs[(((xs.size : Int) - 1) + (m : Int) * (-1)).toNat]?) = (List.range xs.size).map fun m => xs[xs.size - 1 - m]?.getD .none := by
    refine fm_map fun m hm => ?_
    have hm := List.mem_range.mp hm
    have e1 : (((xs.size : Int) - 1) + (m : Int) * (-1)).toNat = xs.size - 1 - m := by omega
    rw [e1, Array.getElem?_eq_getElem (by omega)]
    rfl
  rw [e]
  by_cases h : i < xs.size
  · rw [List.getElem?_map, List.getElem?_range h, List.getElem?_reverse (by rw [Array.length_toList]; exact h), Array.length_toList]
    simp only [Option.map_some, Array.getElem?_toList]
    rw [Array.getElem?_eq_getElem (by omega)]
    rfl
  · rw [List.getElem?_eq_none (by rw [List.length_map, List.length_range]; omega), List.getElem?_eq_none (by rw [List.length_reverse, Array.length_toList]; omega)]
theorem getItem_tuple_back {t sl : Addr} {items : Array Value} {vs : Value} {Q : Value → Shared → Prop} (ht : IsTup s.heap t items) (hs : s.heap.IsSliceOf sl .none .none vs) (ps : IsPart vs (some (-1)))
    (h : Q (.ref s.heap.objs.size) { s with heap := s.heap.push { cls := .type "tuple", data := .seq items.toList.reverse.toArray } })
    (hsz : items.size ≤ sizeLine) : wpAny (model prog w) A (getItem (.ref t) (.ref sl)) Q E s := by
  have htake : sizeOk (.seq items.toList.reverse.toArray) := by
    show items.toList.reverse.toArray.size ≤ sizeLine
    rw [List.size_toArray, List.length_reverse, Array.length_toList]
    exact hsz
  obtain ⟨os, hos, hcs, hds⟩ := id hs
  have hTs : s.TypeIs (.ref sl) "slice" := ⟨os, hos, hcs⟩
  unfold getItem
  try with_reducible refine wpAny_holding ?_
  first | refine wpAny_bind (wpAny_pure ?_) | skip
  refine wpAny_bind (wpAny_sequenceKey ht.typeIs (by decide) ?_)
  refine wpAny_bind (wpAny_callSpecial?_slot (name := Str.ofString "__getitem__") ht.typeIs PyProof.Rows.slot_tuple_getitem
    (wpAny_call_entry PyProof.Rows.slot_tuple_getitem ht.typeIs entry_tuple_getitem ?_ (args_tuple_getitem _ _)))
  show wpAny _ _ (Builtin.Tuple.tupleItemsOf (.ref t) >>= _) _ _ s
  refine wpAny_bind (PyProof.Rows.tupleItemsOf_ ht ?_)
  refine wpAny_bind (wpAny_typeOf hTs ?_)
  rw [if_pos (by decide)]
  refine wpAny_bind (applied_back hs ps ?_)
  have hno : ¬ ((((items.size : Int) - 1) == 0 && (-1 : Int) == 1 && items.size == items.size) = true) := by
    intro q
    rw [Bool.and_eq_true, Bool.and_eq_true] at q
    exact absurd q.1.2 (by decide)
  show wpAny _ _ (if (((items.size : Int) - 1) == 0 && (-1 : Int) == 1 && items.size == items.size) = true then _ else _) _ _ s
  rw [if_neg hno, pick_back]
  first
    | exact wpAny_bind (m := Builtin.Tuple.tupleExact _) (wpAny_newObj_type (wpAny_pure ⟨_, rfl, wpAny_pure h⟩) htake)
    | exact wpAny_bind (m := Builtin.Tuple.tupleExact _) (wpAny_newObj_type (wpAny_bind (wpAny_pure (wpAny_pure ⟨_, rfl, wpAny_pure h⟩))) htake)
    | exact wpAny_bind (wpAny_bind (m := Builtin.Tuple.tupleExact _) (wpAny_newObj_type (wpAny_pure (wpAny_pure ⟨_, rfl, wpAny_pure h⟩)) htake))
    | exact wpAny_bind (wpAny_bind (m := Builtin.Tuple.tupleExact _) (wpAny_newObj_type (wpAny_pure ⟨_, rfl, wpAny_pure h⟩) htake))
end
def tRevT (K : PySem.W.Frag) (te : TE) : TE := fun σ H Q => te σ H fun x H1 => ∃ a xs, x = .ref a ∧ SqT K H1 a xs ∧ ∀ p, H1 p = none → Q (.ref p) (upd H1 p (.tup xs.reverse))
section
variable {X : Cx} {C : Cn} {W : WX} {a : Expr} {te : TE} {fa : Gm → R} {k : Nat} {p1 p2 p3 pos : Pos}
theorem pe_revT (he : PE X a te) : PE X (.Subscript a (.Slice none none (some (.UnaryOp .USub (.Constant (.int 1) k p1) p2)) p3) pos) (tRevT X.K te) := by
  refine ⟨fun pins s σ H Q I h => ?_⟩
  refine Subscript_ (thn (he.run pins s σ H _ I h) fun v s1 ⟨x, H1, I1, r1, q1⟩ => ?_)
  obtain ⟨ad, xs, ex, hx, q⟩ := q1
  subst ex
  cases r1
  have hst : PO X (some (.UnaryOp .USub (.Constant (.int 1) k p1) p2)) (tPart (tUn (rU fun i => .int (-i)) (tC (.int 1)))) := po_some (pe_un un_neg pe_int)
  refine wpAny_Slice (thn (po_none.run pins s1 σ H1 (fun o H2 => o = none ∧ H2 = H1) I1 ⟨rfl, rfl⟩) fun vl s2 ⟨l, H2, I2, pl, el, e2⟩ => ?_)
  subst el e2
  refine thn (po_none.run pins s2 σ H2 (fun o H3 => o = none ∧ H3 = H2) I2 ⟨rfl, rfl⟩) fun vu s3 ⟨u, H3, I3, pu, eu, e3⟩ => ?_
  subst eu e3
  refine thn (hst.run pins s3 σ H3 (fun o H4 => o = some (-1) ∧ H4 = H3) I3 ⟨1, rfl, -1, rfl, rfl, rfl⟩) fun vs s4 ⟨o, H4, I4, ps, eo, e4⟩ => ?_
  subst eo e4
  cases pl
  cases pu
  have I5 : Inv X pins σ H4 { s4 with heap := s4.heap.push { cls := .type "slice", data := .fields #[.none, .none, vs] } } := I4.kept (t' := s4.toks) fun b ob q => Heap.get?_push_of_some _ q
  obtain ⟨its, r, ht, hz⟩ := I5.tuple hx
  have hlen := r.length
  show wpAny (model X.prog X.w) X.A (subscriptTail a (.Slice none none (some (.UnaryOp .USub (.Constant (.int 1) k p1) p2)) p3) (.ref ad) (.ref s4.heap.objs.size)) (EP X pins σ Q) X.xe { s4 with heap := s4.heap.push { cls := .type "slice", data := .fields #[.none, .none, vs] } }
  refine tail_any (ops := [.ref ad, .ref s4.heap.objs.size]) ht.typeIs (PyProof.Rows.slot_tuple_getitem.lookup) ?_ (by with_unfolding_all rfl)
  refine getItem_tuple_back ht (Heap.IsSliceOf.new _ .none .none vs) ps ?_ (by rw [List.size_toArray]; omega)
  refine ⟨.ref _, _, I5.laid (t' := s4.toks) (o := .tup xs.reverse) (fun b ob q => Heap.get?_push_of_some _ q) (Nat.le_refl _) ?_, rfl, q _ (I5.hok.fresh (Nat.le_refl _))⟩
  exact ⟨by rw [List.length_reverse]; exact hz, _, r.reverse, IsTup.new _ _⟩
def revTD : D → R
  | .tup ds => .ok (.tup ds.reverse)
  | _ => .bad
theorem de_revT (ha : DE X C W a fa) : DF X C W (.Subscript a (.Slice none none (some (.UnaryOp .USub (.Constant (.int 1) k p1) p2)) p3) pos) (e1 revTD fa) :=
  PE.to (pe_revT ha) fun σ H Q ⟨Γ, P0, H0, E, g⟩ => by
  refine ⟨Γ, P0, H0, E, Got.bind repF_mono g fun d x H1 mm e1 t1 r1 g1 => ?_⟩
  cases d with
  | tup ds =>
    obtain ⟨p, xs, rfl, hp, r⟩ := rp_tup r1
    exact ⟨p, xs, rfl, .inl (.inl (mask_some.mp hp).2), fun q hq => g1.newT (E.e.mut.ext e1) t1 r.reverse q hq⟩
  | _ => exact g1.elim
end
end DL

set_option Elab.async false
set_option linter.all false
set_option maxRecDepth 100000
set_option maxHeartbeats 4000000
namespace DL
open PySem PySem.Spec PyProof.Rows L2 LamX
theorem law_loop {ks : List Nat} {fi : Gm → Rg (List D)} {t : Tg} {F : Gm → O} {Γ : Gm} {ds : List D} {P : Gm → Prop} (e : fi Γ = .ok ds) (h0 : P (killAll ks Γ)) (H : ∀ d ∈ ds, ∀ Γ, P Γ → ∃ Γ1 Γ2, t d Γ = some Γ1 ∧ F Γ1 = .nx Γ2 ∧ P (killAll ks Γ2)) :
    ((sFor ks false fi t F Γ).seq (sRet (vP (eC (.bl true))))).toR = .ok (.bl true) := by
  obtain ⟨Γ', h1, _⟩ := for_keep (F := F) h0 H
  rw [st_for e, h1, O.seq_nx]
  simp
theorem seq_step {F1 F2 : Gm → O} {Γ Γ' : Gm} {o : O} (h1 : F1 Γ = .nx Γ') (h2 : F2 Γ' = o) : sSeq F1 F2 Γ = o := by
  rw [st_seq, h1, O.seq_nx]
  exact h2
theorem chk {c : Gm → R} {F : Gm → O} {Γ : Gm} (h : c Γ = .ok (.bl false)) : sIf false c F sPass Γ = .nx Γ := by
  rw [st_if, tst_f, h]
  simp
/-! ### told -/
def toldR (ws : List Str) (r : R) : R := match r with
  | .ok d => .ok d
  | .exc c => if c ∈ ws then .ok (.str c) else .bad
  | .bad => .bad
@[simp] theorem toldR_ok (ws : List Str) (d : D) : toldR ws (.ok d) = .ok d := id rfl
@[simp] theorem toldR_exc (ws : List Str) (c : Str) : toldR ws (.exc c) = if c ∈ ws then .ok (.str c) else .bad := id rfl
@[simp] theorem ev_told (ws : List Str) (f : Gm → R) (Γ : Gm) : eTold ws f Γ = toldR ws (f Γ) := by unfold eTold toldR; split <;> simp_all
@[simp] theorem ev_trng (f : Gm → R) (Γ : Gm) : eTRng f Γ = (f Γ).bind fun d => trngA [d] := id rfl
@[simp] theorem ev_en (fs : Gm → Rg (List D)) (Γ : Gm) : iEn fs Γ = (fs Γ).bind enA := id rfl
@[simp] theorem ev_zp (fs : Gm → Rg (List D)) (Γ : Gm) : iZp fs Γ = (fs Γ).bind zpA := id rfl
theorem seq_at {F1 F2 : Gm → O} {Γ : Gm} {o1 o : O} (h1 : F1 Γ = o1) (h2 : o1.seq F2 = o) : sSeq F1 F2 Γ = o := by rw [st_seq, h1]; exact h2
/-- a loop that goes on through all its turns, nothing kept but what its start had -/
theorem for_same {ks : List Nat} {fi : Gm → Rg (List D)} {t : Tg} {F : Gm → O} {Γ Γ0 : Gm} {ds : List D} (e : fi Γ = .ok ds) (h0 : killAll ks Γ = Γ0) (H : ∀ d ∈ ds, ∃ Γ1 Γ2, t d Γ0 = some Γ1 ∧ F Γ1 = .nx Γ2 ∧ killAll ks Γ2 = Γ0) : sFor ks false fi t F Γ = .nx Γ0 := by
  rw [st_for e, h0]
  obtain ⟨Γ', h1, h2⟩ := for_keep (ks := ks) (t := t) (F := F) (P := fun Γ => Γ = Γ0) (ds := ds) rfl fun d hd Γ hΓ => by subst hΓ; exact H d hd
  rw [h1, h2]
/-- a loop over what stands for a list, its state told by what was passed -/
theorem for_list {α : Type} {ks : List Nat} {t : Tg} {F : Gm → O} {f : α → D} {S : List α → Gm} : ∀ {l pre : List α}, (∀ (p : List α) (x : α) (r : List α), pre ++ l = p ++ x :: r → ∃ Γ1 Γ2, t (f x) (S p) = some Γ1 ∧ F Γ1 = .nx Γ2 ∧ killAll ks Γ2 = S (p ++ [x])) → forL ks t F (l.map f) (S pre) = .nx (S (pre ++ l))
  | [], pre, _ => by rw [List.append_nil]; rfl
  | x :: l, pre, H => by
    obtain ⟨Γ1, Γ2, h1, h2, h3⟩ := H pre x l rfl
    rw [List.map_cons]
    unfold forL
    rw [h1]
    simp only [h2, h3]
    rw [for_list (l := l) (pre := pre ++ [x]) fun p y r e => H p y r (by rw [← e, List.append_assoc]; rfl), List.append_assoc]
    rfl
/-! ### pairs put, lists grown: by simp -/
def par2 (i j : Nat) (Γ : Gm) : List D → O
  | [a, b] => .nx ((Γ.set i (.dat a)).set j (.dat b))
  | _ => .bad
@[simp] theorem par2_two (i j : Nat) (Γ : Gm) (a b : D) : par2 i j Γ [a, b] = .nx ((Γ.set i (.dat a)).set j (.dat b)) := id rfl
theorem st_par2' (i j : Nat) (h : Gm → Rg (List D × Gm)) (Γ : Gm) : sPar2 i j h Γ = (h Γ).toS Γ fun p => par2 i j p.2 p.1 := by
  unfold sPar2 par2
  rfl
def par3 (i j l : Nat) (Γ : Gm) : List D → O
  | [a, b, c] => .nx (((Γ.set i (.dat a)).set j (.dat b)).set l (.dat c))
  | _ => .bad
@[simp] theorem par3_three (i j l : Nat) (Γ : Gm) (a b c : D) : par3 i j l Γ [a, b, c] = .nx (((Γ.set i (.dat a)).set j (.dat b)).set l (.dat c)) := id rfl
theorem st_par3' (i j l : Nat) (h : Gm → Rg (List D × Gm)) (Γ : Gm) : sPar3 i j l h Γ = (h Γ).toS Γ fun p => par3 i j l p.2 p.1 := by
  unfold sPar3 par3
  rfl
def isOwnL (s : Option Sl) (o : O) : O := match s with
  | some (.own (.lst _)) => o
  | _ => .bad
@[simp] theorem isOwnL_own (ds : List D) (o : O) : isOwnL (some (.own (.lst ds))) o = o := id rfl
def appL (s : Option Sl) (i : Nat) (Γ : Gm) (d : D) : O := match s with
  | some (.own (.lst ds)) => if ds.length < sizeLine then .nx (Γ.set i (.own (.lst (ds ++ [d])))) else .bad
  | _ => .bad
theorem lt_size {n : Nat} (h : n < 1000) : n < sizeLine := Nat.lt_of_lt_of_le h (by decide)
@[simp] theorem appL_own {i : Nat} {Γ : Gm} {d : D} {ds : List D} (h : ds.length < 1000) : appL (some (.own (.lst ds))) i Γ d = .nx (Γ.set i (.own (.lst (ds ++ [d])))) := if_pos (lt_size h)
@[simp] theorem st_app' (i : Nat) (h : Gm → Rg (D × Gm)) (Γ : Gm) : sApp i h Γ = isOwnL Γ[i]? ((h Γ).toS Γ fun p => appL p.2[i]? i p.2 p.1) := by
  unfold sApp isOwnL appL
  rfl
def extL (s : Option Sl) (i : Nat) (Γ : Gm) (d : D) : O := match s, d with
  | some (.own (.lst ds)), .lst es => if ds.length + es.length ≤ sizeLine then .nx (Γ.set i (.own (.lst (ds ++ es)))) else .bad
  | _, _ => .bad
@[simp] theorem extL_own {i : Nat} {Γ : Gm} {es ds : List D} (h : ds.length + es.length ≤ 1000) : extL (some (.own (.lst ds))) i Γ (.lst es) = .nx (Γ.set i (.own (.lst (ds ++ es)))) := if_pos (small h)
@[simp] theorem st_ext' (i : Nat) (h : Gm → Rg (D × Gm)) (Γ : Gm) : sExt i h Γ = isOwnL Γ[i]? ((h Γ).toS Γ fun p => extL p.2[i]? i p.2 p.1) := by
  unfold sExt isOwnL extL
  rfl
@[simp] theorem slotD_lst (ds : List D) : slotD (.lst ds) = .own (.lst ds) := id rfl
@[simp] theorem unown_nil : unown [] = [] := id rfl
@[simp] theorem unown_own' (d : D) (Γ : Gm) : unown (.own d :: Γ) = .dat d :: unown Γ := id rfl
@[simp] theorem unown_dat' (d : D) (Γ : Gm) : unown (.dat d :: Γ) = .dat d :: unown Γ := id rfl
@[simp] theorem unown_no (Γ : Gm) : unown (.no :: Γ) = .no :: unown Γ := id rfl
@[simp] theorem hide_nil : hideOwn [] = [] := id rfl
@[simp] theorem hide_own' (d : D) (Γ : Gm) : hideOwn (.own d :: Γ) = .no :: hideOwn Γ := id rfl
@[simp] theorem hide_dat' (d : D) (Γ : Gm) : hideOwn (.dat d :: Γ) = .dat d :: hideOwn Γ := id rfl
@[simp] theorem hide_no (Γ : Gm) : hideOwn (.no :: Γ) = .no :: hideOwn Γ := id rfl
@[simp] theorem flat_lst (ds : List D) : (D.lst ds).flat = false := by simp [D.flat]
@[simp] theorem flat_tup (ds : List D) : (D.tup ds).flat = D.flats ds := by simp [D.flat]
@[simp] theorem flat_int (i : Int) : (D.int i).flat = true := by simp [D.flat]
@[simp] theorem flat_bl (i : Bool) : (D.bl i).flat = true := by simp [D.flat]
@[simp] theorem flat_str (i : Str) : (D.str i).flat = true := by simp [D.flat]
@[simp] theorem flat_non : D.non.flat = true := by simp [D.flat]
@[simp] theorem flats_nil : D.flats [] = true := by simp [D.flats]
@[simp] theorem flats_cons (d : D) (ds : List D) : D.flats (d :: ds) = (d.flat && D.flats ds) := by simp [D.flats]
theorem flats_map {α : Type} {f : α → D} (h : ∀ x, (f x).flat = true) : ∀ l : List α, D.flats (l.map f) = true
  | [] => by simp
  | x :: l => by simp [h x, flats_map h l]
@[simp] theorem flats_ints (l : List Int) : D.flats (l.map .int) = true := flats_map (fun _ => by simp) l
@[simp] theorem flat_T (o : List Int) : (T o).flat = true := by unfold T; simp
@[simp] theorem flatI_lst (ds : List D) : flatItems (.lst ds) = D.flats ds := id rfl
theorem perm_sum {l m : List Int} (h : l.Perm m) : l.sum = m.sum := by
  induction h with
  | nil => rfl
  | cons x _ ih => simp only [List.sum_cons, ih]
  | swap x y l => simp only [List.sum_cons]; omega
  | trans _ _ h1 h2 => exact h1.trans h2
/-! ### texts -/
abbrev StrK := { s : Str // PyData.strOk s = true }
def SK (x : StrK) : D := .str x.1
theorem emb_S : Emb SK 1 := ⟨fun x y => by simp [SK, D.toPy, PyData.eqv, Subtype.ext_iff], fun x => by simp [SK, D.toPy, PyData.canLay0, x.2], fun x => by simp [SK, D.toPy, PyData.depth]⟩
theorem eq_strK {x y : Str} (hx : PyData.strOk x = true) (hy : PyData.strOk y = true) : eqD (.str x) (.str y) = .ok (.bl (decide (x = y))) := by
  have := emb_S.eqD (by decide) ⟨x, hx⟩ ⟨y, hy⟩
  simpa [SK] using this
theorem ne_strK {x y : Str} (hx : PyData.strOk x = true) (hy : PyData.strOk y = true) : neD (.str x) (.str y) = .ok (.bl (!decide (x = y))) := by
  have := emb_S.neD (by decide) ⟨x, hx⟩ ⟨y, hy⟩
  simpa [SK] using this
theorem ne_rep (n : Nat) {s : Str} (h : PyData.strOk s = true) : neD (.lst (List.replicate n (.str s))) (.lst (List.replicate n (.str s))) = .ok (.bl false) := by
  have := emb_S.lst.neD (by decide) (List.replicate n ⟨s, h⟩) (List.replicate n ⟨s, h⟩)
  simpa [SK] using this
/-! ### steps by what is in them -/
theorem set_ok {i : Nat} {f : Gm → R} {Γ Γ' : Gm} {d : D} (h : f Γ = .ok d) (e : Γ.set i (.dat d) = Γ') : sSet i (vP f) Γ = .nx Γ' := by
  subst e
  simp [h]
theorem ret_ok {f : Gm → R} {Γ : Gm} {d : D} (h : f Γ = .ok d) : sRet (vP f) Γ = .rt d := by
  simp [h]
theorem e2_ok {g : D → D → R} {fa fb : Gm → R} {Γ : Gm} {a b : D} {r : R} (ha : fa Γ = .ok a) (hb : fb Γ = .ok b) (h : g a b = r) : e2 g fa fb Γ = r := by
  subst h
  simp [ha, hb]
theorem e1_ok {g : D → R} {fa : Gm → R} {Γ : Gm} {a : D} {r : R} (ha : fa Γ = .ok a) (h : g a = r) : e1 g fa Γ = r := by
  subst h
  simp [ha]
theorem B1_ok {g : List D → R} {fa : Gm → R} {Γ : Gm} {a : D} {r : R} (ha : fa Γ = .ok a) (h : g [a] = r) : eB g (aCons fa aNil) Γ = r := by
  subst h
  simp [ha]
theorem c1_ok {m : List D → R} {fa : Gm → R} {Γ : Gm} {a : D} {r : R} (ha : fa Γ = .ok a) (h : m [a] = r) : eCall 1 m (aCons fa aNil) Γ = r := by
  subst h
  simp [ha]
theorem c2_ok {m : List D → R} {fa fb : Gm → R} {Γ : Gm} {a b : D} {r : R} (ha : fa Γ = .ok a) (hb : fb Γ = .ok b) (h : m [a, b] = r) : eCall 2 m (aCons fa (aCons fb aNil)) Γ = r := by
  subst h
  simp [ha, hb]
theorem and_ok {fa fb : Gm → R} {Γ : Gm} {a b : Bool} (ha : fa Γ = .ok (.bl a)) (hb : a = true → fb Γ = .ok (.bl b)) (h : a = false → b = false) : eAnd fa fb Γ = .ok (.bl b) := by
  cases a with
  | false => simp [ha, h rfl]
  | true => simp [ha, hb rfl]
theorem or_no {fa fb : Gm → R} {Γ : Gm} (ha : fa Γ = .ok (.bl false)) (hb : fb Γ = .ok (.bl false)) : eOr fa fb Γ = .ok (.bl false) := by
  simp [ha, hb]
theorem tup1_ok {fa : Gm → R} {Γ : Gm} {a : D} (ha : fa Γ = .ok a) : eTup (aCons fa aNil) Γ = .ok (.tup [a]) := by simp [ha]
theorem tup2_ok {fa fb : Gm → R} {Γ : Gm} {a b : D} (ha : fa Γ = .ok a) (hb : fb Γ = .ok b) : eTup (aCons fa (aCons fb aNil)) Γ = .ok (.tup [a, b]) := by simp [ha, hb]
theorem var_ok {i : Nat} {Γ : Gm} {d : D} (h : Γ[i]? = some (.dat d)) : eVar i Γ = .ok d := by simp [h]
theorem told_ok' {ws : List Str} {f : Gm → R} {Γ : Gm} {c : Str} (h : f Γ = .exc c) (hc : c ∈ ws) : eTold ws f Γ = .ok (.str c) := by simp [h, hc]
theorem mm1_L {g : List Int → Int} {o : List Int} (h : o ≠ []) : mm1D g [.lst (o.map .int)] = .ok (.int (g o)) := by
  simp only [mm1D, intsOf_ints, if_neg h]
theorem sub1 {n : Nat} (h : 1 ≤ n) : ((n : Int) - 1) = ((n - 1 : Nat) : Int) := by omega
end DL

set_option Elab.async false
set_option linter.all false
set_option maxRecDepth 100000
set_option maxHeartbeats 8000000
namespace DL
open PySem PySem.Spec PyProof.Rows L2 LamX
/-! is_count: slots 0 thing, 1 low, 2 high -/
def g_is_count : Gm → O := (sRet (vP (eAnd (eIsi "int" (eVar 0)) (eAnd (eNot (eIsi "bool" (eVar 0))) (eChain leD leD (eVar 1) (eVar 0) (eVar 2))))))
def m_is_count : List D → R := runDef 3 g_is_count
/-! is_order: slots 0 thing, 1 rank -/
def g_is_order : Gm → O := (sSeq (sIf false (eOr (eNot (eIsi "tuple" (eVar 0))) (eNot (eChain leD leD (eC (.int 1)) (eB lenD (aCons (eVar 0) aNil)) (eC (.int 6))))) (sRet (vP (eC (.bl false)))) sPass)
  (sSeq (sIf false (eNot (eB allD (aCons (eLc [1] (iSeq (eVar 0)) (tgN 1) (eC (.bl true)) (eCall 3 m_is_count (aCons (eVar 1) (aCons (eC (.int 0)) (aCons (e2 subD (eC (.int 6)) (eC (.int 1))) aNil))))) aNil))) (sRet (vP (eC (.bl false)))) sPass)
  (sRet (vP (e2 eqD (eSortSet (eVar 0)) (eLRng (e2 addD (eB (mm1D maxL) (aCons (eVar 0) aNil)) (eC (.int 1)))))))))
def m_is_order : List D → R := runDef 2 g_is_order
/-! need_item: slots 0 order, 1 item -/
def g_need_item : Gm → O := (sIf false (eNot (eCall 3 m_is_count (aCons (eVar 1) (aCons (eC (.int 0)) (aCons (e2 subD (eB lenD (aCons (eVar 0) aNil)) (eC (.int 1))) aNil))))) (sRaise "BadItem") sPass)
def m_need_item : List D → R := runDef 2 g_need_item
/-! tidied: slots 0 row, 1 kinds, 2 one -/
def g_tidied : Gm → O := (sSeq (sSet 1 (vP (eSortSet (eVar 0))))
  (sRet (vP (eB tupleD (aCons (eLc [2] (iSeq (eVar 0)) (tgN 2) (eC (.bl true)) (eMt "list" indexD (eVar 1) (aCons (eVar 2) aNil))) aNil)))))
def m_tidied : List D → R := runDef 3 g_tidied
/-! sign: slots 0 order, 1 one, 2 other -/
def g_sign : Gm → O := (sRet (vP (e2 subD (eB intD (aCons (e2 gtD (e2 ixD (eVar 0) (eVar 1)) (e2 ixD (eVar 0) (eVar 2))) aNil)) (eB intD (aCons (e2 ltD (e2 ixD (eVar 0) (eVar 1)) (e2 ixD (eVar 0) (eVar 2))) aNil)))))
def m_sign : List D → R := runDef 3 g_sign
/-! need_rows: slots 0 rows, 1 one -/
def g_need_rows : Gm → O := (sSeq (sIf false (eOr (eNot (eIsi "list" (eVar 0))) (eOr (eNot (eChain leD leD (eC (.int 1)) (eB lenD (aCons (eVar 0) aNil)) (eC (.int 40)))) (eNot (eB allD (aCons (eLc [1] (iSeq (eVar 0)) (tgN 1) (eC (.bl true)) (eCall 1 m_is_order (aCons (eVar 1) aNil))) aNil))))) (sRaise "BadOrder") sPass)
  (sIf false (eB anyD (aCons (eLc [1] (iSeq (eVar 0)) (tgN 1) (eC (.bl true)) (e2 neD (eB lenD (aCons (eVar 1) aNil)) (eB lenD (aCons (e2 ixD (eVar 0) (eC (.int 0))) aNil)))) aNil)) (sRaise "BadOrder") sPass))
def m_need_rows : List D → R := runDef 2 g_need_rows
/-! tally_of: slots 0 rows, 1 one, 2 other, 3 found, 4 order -/
def g_tally_of : Gm → O := (sSeq (sSet 3 (vP (eLc [4] (iSeq (eVar 0)) (tgN 4) (eC (.bl true)) (eCall 3 m_sign (aCons (eVar 4) (aCons (eVar 1) (aCons (eVar 2) aNil)))))))
  (sRet (vP (eTup (aCons (eMt "list" countD (eVar 3) (aCons (e1 negD (eC (.int 1))) aNil)) (aCons (eMt "list" countD (eVar 3) (aCons (eC (.int 0)) aNil)) (aCons (eMt "list" countD (eVar 3) (aCons (eC (.int 1)) aNil)) aNil)))))))
def m_tally_of : List D → R := runDef 5 g_tally_of
/-! tally: slots 0 rows, 1 one, 2 other -/
def g_tally : Gm → O := (sSeq (sDrop (vP (eCall 1 m_need_rows (aCons (eVar 0) aNil))))
  (sSeq (sDrop (vP (eCall 2 m_need_item (aCons (e2 ixD (eVar 0) (eC (.int 0))) (aCons (eVar 1) aNil)))))
  (sSeq (sDrop (vP (eCall 2 m_need_item (aCons (e2 ixD (eVar 0) (eC (.int 0))) (aCons (eVar 2) aNil)))))
  (sRet (vP (eCall 3 m_tally_of (aCons (eVar 0) (aCons (eVar 1) (aCons (eVar 2) aNil)))))))))
def m_tally : List D → R := runDef 3 g_tally
/-! points_of: slots 0 rows, 1 found, 2 one, 3 some, 4 other, 5 ahead, 6 like, 7 late -/
def g_points_of : Gm → O := (sSeq (sOwn 1 (vP (eLst aNil)))
  (sSeq (sFor [2, 3] false (iRng (aCons (eB lenD (aCons (e2 ixD (eVar 0) (eC (.int 0))) aNil)) aNil)) (tgN 2) (sSeq (sSet 3 (vP (eLc [4] (iRng (aCons (eB lenD (aCons (e2 ixD (eVar 0) (eC (.int 0))) aNil)) aNil)) (tgN 4) (e2 neD (eVar 4) (eVar 2)) (eCall 3 m_tally_of (aCons (eVar 0) (aCons (eVar 2) (aCons (eVar 4) aNil)))))))
  (sApp 1 (vP (eB sumD (aCons (eLc [5, 6, 7] (iSeq (eVar 3)) (tgT 3 (tgCons (tgN 5) (tgCons (tgN 6) (tgCons (tgN 7) tgNil)))) (eC (.bl true)) (e2 addD (e2 mulD (eC (.int 2)) (eVar 5)) (eVar 6))) aNil))))))
  (sRet (vB (eVar 1)))))
def m_points_of : List D → R := runDef 8 g_points_of
/-! points: slots 0 rows -/
def g_points : Gm → O := (sSeq (sDrop (vP (eCall 1 m_need_rows (aCons (eVar 0) aNil))))
  (sRet (vP (eCall 1 m_points_of (aCons (eVar 0) aNil)))))
def m_points : List D → R := runDef 1 g_points
/-! by_points: slots 0 rows, 1 one -/
def g_by_points : Gm → O := (sSeq (sDrop (vP (eCall 1 m_need_rows (aCons (eVar 0) aNil))))
  (sRet (vP (eCall 1 m_tidied (aCons (eLc [1] (iSeq (eCall 1 m_points_of (aCons (eVar 0) aNil))) (tgN 1) (eC (.bl true)) (e2 subD (eC (.int 0)) (eVar 1))) aNil)))))
def m_by_points : List D → R := runDef 2 g_by_points
/-! beats: slots 0 rows, 1 one, 2 other, 3 ahead, 4 like, 5 late -/
def g_beats : Gm → O := (sSeq (sAsg (tgT 3 (tgCons (tgN 3) (tgCons (tgN 4) (tgCons (tgN 5) tgNil)))) (vP (eCall 3 m_tally_of (aCons (eVar 0) (aCons (eVar 1) (aCons (eVar 2) aNil))))))
  (sRet (vP (e2 gtD (eVar 3) (eVar 5)))))
def m_beats : List D → R := runDef 6 g_beats
/-! winner: slots 0 rows, 1 items, 2 one, 3 other -/
def g_winner : Gm → O := (sSeq (sDrop (vP (eCall 1 m_need_rows (aCons (eVar 0) aNil))))
  (sSeq (sSet 1 (vP (eLRng (eB lenD (aCons (e2 ixD (eVar 0) (eC (.int 0))) aNil)))))
  (sSeq (sFor [2] false (iSeq (eVar 1)) (tgN 2) (sIf false (eB allD (aCons (eLc [3] (iSeq (eVar 1)) (tgN 3) (eC (.bl true)) (eOr (e2 eqD (eVar 3) (eVar 2)) (eCall 3 m_beats (aCons (eVar 0) (aCons (eVar 2) (aCons (eVar 3) aNil)))))) aNil)) (sRet (vP (eVar 2))) sPass))
  (sRet (vP (eC .non))))))
def m_winner : List D → R := runDef 4 g_winner
/-! best_ones: slots 0 rows, 1 items, 2 found, 3 one, 4 some, 5 at, 6 other -/
def g_best_ones : Gm → O := (sSeq (sDrop (vP (eCall 1 m_need_rows (aCons (eVar 0) aNil))))
  (sSeq (sSet 1 (vP (eLRng (eB lenD (aCons (e2 ixD (eVar 0) (eC (.int 0))) aNil)))))
  (sSeq (sSet 2 (vP (eVar 1)))
  (sSeq (sFor [3, 4, 5] false (iSeq (eVar 1)) (tgN 3) (sSeq (sOwn 4 (vP (eLst (aCons (eVar 3) aNil))))
  (sSeq (sSet 5 (vP (eC (.int 0))))
  (sSeq (sWhile [] true (e2 ltD (eVar 5) (eB lenD (aCons (eVar 4) aNil))) (sSeq (sExt 4 (vF (eLc [6] (iSeq (eVar 1)) (tgN 6) (eAnd (e2 ninD (eVar 6) (eVar 4)) (eNot (eCall 3 m_beats (aCons (eVar 0) (aCons (e2 ixD (eVar 4) (eVar 5)) (aCons (eVar 6) aNil)))))) (eVar 6))))
  (sSet 5 (vP (e2 addD (eVar 5) (eC (.int 1)))))) 100)
  (sIf true (e2 ltD (eB lenD (aCons (eVar 4) aNil)) (eB lenD (aCons (eVar 2) aNil))) (sSet 2 (vF (eB sortD (aCons (eVar 4) aNil)))) sPass)))))
  (sRet (vP (eVar 2)))))))
def m_best_ones : List D → R := runDef 7 g_best_ones
/-! firsts_of: slots 0 order, 1 left, 2 least, 3 item -/
def g_firsts_of : Gm → O := (sSeq (sSet 2 (vP (eB (mm1D minL) (aCons (eLc [3] (iSeq (eVar 1)) (tgN 3) (eC (.bl true)) (e2 ixD (eVar 0) (eVar 3))) aNil))))
  (sRet (vP (eLc [3] (iSeq (eVar 1)) (tgN 3) (e2 eqD (e2 ixD (eVar 0) (eVar 3)) (eVar 2)) (eVar 3)))))
def m_firsts_of : List D → R := runDef 4 g_firsts_of
/-! runoff: slots 0 rows, 1 left, 2 found, 3 counts, 4 order, 5 item, 6 gone -/
def g_runoff : Gm → O := (sSeq (sDrop (vP (eCall 1 m_need_rows (aCons (eVar 0) aNil))))
  (sSeq (sSet 1 (vP (eLRng (eB lenD (aCons (e2 ixD (eVar 0) (eC (.int 0))) aNil)))))
  (sSeq (sOwn 2 (vP (eLst aNil)))
  (sSeq (sWhile [3, 4, 6] false (e2 neD (eVar 1) (eLst aNil)) (sSeq (sOwn 3 (vP (eB dictD (aCons (eLc [5] (iSeq (eVar 1)) (tgN 5) (eC (.bl true)) (eTup (aCons (eVar 5) (aCons (eC (.int 0)) aNil)))) aNil))))
  (sSeq (sFor [4] false (iSeq (eVar 0)) (tgN 4) (sFor [] false (iSeq (eCall 2 m_firsts_of (aCons (eVar 4) (aCons (eVar 1) aNil)))) (tgN 5) (sPut 3 (vF (e2 addD (e2 ixD (eVar 3) (eVar 5)) (eC (.int 1)))) false (eVar 5))))
  (sSeq (sSet 6 (vB (eB minDD (aCons (eLc [5] (iSeq (eVar 1)) (tgN 5) (eC (.bl true)) (eTup (aCons (e2 ixD (eVar 3) (eVar 5)) (aCons (e2 subD (eC (.int 0)) (eVar 5)) aNil)))) aNil))))
  (sSeq (sApp 2 (vP (e2 subD (eC (.int 0)) (e2 ixD (eVar 6) (eC (.int 1))))))
  (sSet 1 (vF (eLc [5] (iSeq (eVar 1)) (tgN 5) (e2 neD (eVar 5) (e2 ixD (eVar 2) (e1 negD (eC (.int 1))))) (eVar 5)))))))) 100)
  (sRet (vB (eVar 2)))))))
def m_runoff : List D → R := runDef 7 g_runoff
/-! _law_cell: slots 0 _law_script, 1 _law_k -/
def g__law_cell : Gm → O := (sSeq (sIf false (e2 eqD (eVar 0) (eLst aNil)) (sRet (vP (e2 mulD (eVar 1) (eC (.int 7919))))) sPass)
  (sRet (vP (e2 addD (e2 ixD (eVar 0) (e2 modD (eVar 1) (eB lenD (aCons (eVar 0) aNil)))) (e2 mulD (e2 fdivD (eVar 1) (eB lenD (aCons (eVar 0) aNil))) (eC (.int 104729)))))))
def m__law_cell : List D → R := runDef 2 g__law_cell
/-! _law_drawn: slots 0 _law_cell_here, 1 _law_k, 2 _law_more -/
def g__law_drawn : Gm → O := (sSeq (sSet 2 (vP (e2 modD (e2 addD (e2 mulD (eVar 0) (eC (.int 6364136223846793005))) (e2 mulD (e2 addD (eVar 1) (eC (.int 1))) (eC (.int 1442695040888963407)))) (eC (.int 340282366920938463463374607431768211507)))))
  (sSeq (sSet 2 (vP (e2 modD (e2 mulD (eVar 2) (eVar 2)) (eC (.int 340282366920938463463374607431768211297)))))
  (sSeq (sSet 2 (vP (e2 mulD (e2 mulD (e2 addD (e2 modD (eVar 2) (eC (.int 18446744073709551557))) (eC (.int 1))) (e2 addD (e2 fdivD (eVar 2) (eC (.int 18446744073709551557))) (eC (.int 1)))) (eVar 2))))
  (sRet (vP (e2 modD (eVar 2) (eC (.int 340282366920938463463374607431768211507))))))))
def m__law_drawn : List D → R := runDef 3 g__law_drawn
/-! _law_dense: slots 0 _law_row, 1 _law_one, 2 _law_other -/
def g__law_dense : Gm → O := (sRet (vP (eB tupleD (aCons (eLc [1] (iSeq (eVar 0)) (tgN 1) (eC (.bl true)) (eLenSet (eLc [2] (iSeq (eVar 0)) (tgN 2) (e2 ltD (eVar 2) (eVar 1)) (eVar 2)))) aNil))))
def m__law_dense : List D → R := runDef 3 g__law_dense
/-! _law_order: slots 0 _law_more, 1 _law_items_here, 2 _law_j -/
def g__law_order : Gm → O := (sRet (vP (eCall 1 m__law_dense (aCons (eLc [2] (iRng (aCons (eVar 1) aNil)) (tgN 2) (eC (.bl true)) (e2 modD (e2 fdivD (eCall 2 m__law_drawn (aCons (eVar 0) (aCons (eVar 2) aNil))) (eC (.int 4))) (e2 ixD (eLst (aCons (eC (.int 2)) (aCons (eVar 1) (aCons (eC (.int 6)) aNil)))) (e2 modD (eVar 0) (eC (.int 3)))))) aNil))))
def m__law_order : List D → R := runDef 3 g__law_order
/-! _law_items: slots 0 _law_more -/
def g__law_items : Gm → O := (sRet (vP (e2 ixD (eLst (aCons (e2 addD (eC (.int 1)) (e2 modD (eVar 0) (eC (.int 5)))) (aCons (eC (.int 3)) (aCons (eC (.int 4)) (aCons (eC (.int 6)) (aCons (eC (.int 2)) aNil)))))) (e2 modD (e2 fdivD (eVar 0) (eC (.int 8))) (eC (.int 5))))))
def m__law_items : List D → R := runDef 1 g__law_items
/-! _law_sign: slots 0 _law_order_here, 1 _law_one, 2 _law_other, 3 _law_mine, 4 _law_its -/
def g__law_sign : Gm → O := (sSeq (sPar2 3 4 (aP (aCons (e2 ixD (eVar 0) (eVar 1)) (aCons (e2 ixD (eVar 0) (eVar 2)) aNil))))
  (sRet (vP (e2 subD (eB intD (aCons (e2 gtD (eVar 3) (eVar 4)) aNil)) (eB intD (aCons (e2 ltD (eVar 3) (eVar 4)) aNil))))))
def m__law_sign : List D → R := runDef 5 g__law_sign
/-! _law_votes: slots 0 _law_more, 1 _law_items_here, 2 _law_found, 3 _law_j, 4 _law_here -/
def g__law_votes : Gm → O := (sSeq (sOwn 2 (vP (eLst aNil)))
  (sSeq (sFor [3, 4] false (iRng (aCons (e2 addD (eC (.int 1)) (e2 modD (eVar 0) (e2 ixD (eLst (aCons (eC (.int 3)) (aCons (eC (.int 12)) (aCons (eC (.int 40)) aNil)))) (e2 modD (e2 fdivD (eVar 0) (eC (.int 8))) (eC (.int 3)))))) aNil)) (tgN 3) (sSeq (sSet 4 (vP (eCall 2 m__law_drawn (aCons (eVar 0) (aCons (e2 addD (eC (.int 300)) (eVar 3)) aNil)))))
  (sIf true (eAnd (e2 eqD (e2 modD (eVar 4) (eC (.int 3))) (eC (.int 0))) (e2 neD (eVar 2) (eLst aNil))) (sApp 2 (vB (e2 ixD (eVar 2) (e2 modD (e2 fdivD (eVar 4) (eC (.int 8))) (eB lenD (aCons (eVar 2) aNil)))))) (sApp 2 (vP (eCall 2 m__law_order (aCons (e2 fdivD (eVar 4) (eC (.int 64))) (aCons (eVar 1) aNil))))))))
  (sRet (vB (eVar 2)))))
def m__law_votes : List D → R := runDef 5 g__law_votes
/-! _law_beats: slots 0 _law_some, 1 _law_one, 2 _law_other, 3 _law_order_here -/
def g__law_beats : Gm → O := (sRet (vP (e2 ltD (eB sumD (aCons (eLc [3] (iSeq (eVar 0)) (tgN 3) (eC (.bl true)) (eCall 3 m__law_sign (aCons (eVar 3) (aCons (eVar 1) (aCons (eVar 2) aNil))))) aNil)) (eC (.int 0)))))
def m__law_beats : List D → R := runDef 4 g__law_beats
/-! _law_best: slots 0 _law_some, 1 _law_items_here, 2 _law_rows, 3 _law_item, 4 _law_good, 5 _law_row, 6 _law_rest, 7 _law_one, 8 _law_other -/
def g__law_best : Gm → O := (sSeq (sSet 2 (vP (eLst (aCons (eLst aNil) aNil))))
  (sSeq (sFor [] false (iRng (aCons (eVar 1) aNil)) (tgN 3) (sSet 2 (vP (e2 addD (eVar 2) (eLc [5] (iSeq (eVar 2)) (tgN 5) (eC (.bl true)) (e2 addD (eVar 5) (eLst (aCons (eVar 3) aNil))))))))
  (sSeq (sOwn 4 (vP (eLst aNil)))
  (sSeq (sFor [5, 6] false (iSeq (eSl (pAt (eC (.int 1))) pNo (eVar 2))) (tgN 5) (sSeq (sSet 6 (vP (eLc [3] (iRng (aCons (eVar 1) aNil)) (tgN 3) (e2 ninD (eVar 3) (eVar 5)) (eVar 3))))
  (sIf false (e2 eqD (eLc [7] (iSeq (eVar 5)) (tgN 7) (e2 neD (eLc [8] (iSeq (eVar 6)) (tgN 8) (eNot (eCall 3 m__law_beats (aCons (eVar 0) (aCons (eVar 7) (aCons (eVar 8) aNil))))) (eC (.int 1))) (eLst aNil)) (eC (.int 1))) (eLst aNil)) (sApp 4 (vP (eTup (aCons (eB lenD (aCons (eVar 5) aNil)) (aCons (eVar 5) aNil))))) sPass)))
  (sRet (vB (e2 ixD (eB minDD (aCons (eVar 4) aNil)) (eC (.int 1)))))))))
def m__law_best : List D → R := runDef 9 g__law_best
/-! _law_runoff: slots 0 _law_some, 1 _law_items_here, 2 _law_found, 3 _law_left, 4 _law_counts, 5 _law_item, 6 _law_first, 7 _law_order_here, 8 _law_other -/
def g__law_runoff : Gm → O := (sSeq (sOwn 2 (vP (eLst aNil)))
  (sSeq (sWhile [3, 4, 6] true (e2 ltD (eB lenD (aCons (eVar 2) aNil)) (eVar 1)) (sSeq (sPO 3 4 false true (vF (eLc [5] (iRng (aCons (eVar 1) aNil)) (tgN 5) (e2 ninD (eVar 5) (eVar 2)) (eVar 5))) (vP (eLst aNil)))
  (sSeq (sFor [6] false (iSeq (eVar 3)) (tgN 5) (sSeq (sSet 6 (vP (eLc [7] (iSeq (eVar 0)) (tgN 7) (e2 eqD (eLc [8] (iSeq (eVar 3)) (tgN 8) (e2 ltD (e2 ixD (eVar 7) (eVar 8)) (e2 ixD (eVar 7) (eVar 5))) (eC (.int 1))) (eLst aNil)) (eC (.int 1)))))
  (sApp 4 (vP (eTup (aCons (eB lenD (aCons (eVar 6) aNil)) (aCons (e2 subD (eC (.int 0)) (eVar 5)) aNil)))))))
  (sApp 2 (vB (e2 subD (eC (.int 0)) (e2 ixD (eB minDD (aCons (eVar 4) aNil)) (eC (.int 1)))))))) 100)
  (sRet (vB (eVar 2)))))
def m__law_runoff : List D → R := runDef 9 g__law_runoff
/-! law: slots 0 _law_script, 1 _law_k, 2 _law_more, 3 _law_items_here, 4 _law_some, 5 _law_kept, 6 _law_scores, 7 _law_one, 8 _law_own, 9 _law_other, 10 _law_signs, 11 _law_first, 12 _law_about, 13 _law_order_here, 14 _law_score, 15 _law_rank -/
def b1_law : Gm → O := (sSeq (sSet 10 (vP (eLc [13] (iSeq (eVar 4)) (tgN 13) (eC (.bl true)) (eCall 3 m__law_sign (aCons (eVar 13) (aCons (eVar 7) (aCons (eVar 9) aNil)))))))
  (sSeq (sIf false (e2 neD (eCall 3 m_tally (aCons (eVar 4) (aCons (eVar 7) (aCons (eVar 9) aNil)))) (eTup (aCons (eMt "list" countD (eVar 10) (aCons (e1 negD (eC (.int 1))) aNil)) (aCons (eMt "list" countD (eVar 10) (aCons (eC (.int 0)) aNil)) (aCons (eMt "list" countD (eVar 10) (aCons (eC (.int 1)) aNil)) aNil))))) (sRet (vP (eC (.bl false)))) sPass)
  (sSet 8 (vP (e2 addD (eVar 8) (e2 mulD (eB intD (aCons (e2 neD (eVar 7) (eVar 9)) aNil)) (e2 addD (e2 mulD (eC (.int 2)) (eMt "list" countD (eVar 10) (aCons (e1 negD (eC (.int 1))) aNil))) (eMt "list" countD (eVar 10) (aCons (eC (.int 0)) aNil)))))))))
def b2_law : Gm → O := (sSeq (sSet 8 (vP (eC (.int 0))))
  (sSeq (sFor [10] false (iRng (aCons (eVar 3) aNil)) (tgN 9) b1_law)
  (sApp 6 (vP (eVar 8)))))
def b3_law : Gm → O := (sIf false (e2 eqD (eLc [9] (iRng (aCons (eVar 3) aNil)) (tgN 9) (eAnd (e2 neD (eVar 9) (eVar 7)) (eNot (eCall 3 m__law_beats (aCons (eVar 4) (aCons (eVar 7) (aCons (eVar 9) aNil)))))) (eVar 9)) (eLst aNil)) (sSet 11 (vP (eVar 7))) sPass)
def b4_law : Gm → O := (sSeq (sSet 2 (vP (eCall 2 m__law_drawn (aCons (eCall 2 m__law_cell (aCons (eVar 0) (aCons (eVar 1) aNil))) (aCons (eVar 1) aNil)))))
  (sSeq (sSet 3 (vP (eCall 1 m__law_items (aCons (e2 fdivD (eVar 2) (eC (.int 8))) aNil))))
  (sSeq (sSet 4 (vP (eCall 2 m__law_votes (aCons (e2 fdivD (eVar 2) (eC (.int 64))) (aCons (eVar 3) aNil)))))
  (sSeq (sPO 5 6 false true (vP (eB listD (aCons (eVar 4) aNil))) (vP (eLst aNil)))
  (sSeq (sFor [7, 8, 10] false (iRng (aCons (eVar 3) aNil)) (tgN 7) b2_law)
  (sSeq (sIf true (eOr (e2 neD (eCall 1 m_points (aCons (eVar 4) aNil)) (eVar 6)) (e2 neD (eB sumD (aCons (eVar 6) aNil)) (e2 mulD (e2 mulD (eB lenD (aCons (eVar 4) aNil)) (eVar 3)) (e2 subD (eVar 3) (eC (.int 1)))))) (sRet (vP (eC (.bl false)))) sPass)
  (sSeq (sIf true (e2 neD (eCall 1 m_by_points (aCons (eVar 4) aNil)) (eCall 1 m__law_dense (aCons (eLc [14] (iSeq (eVar 6)) (tgN 14) (eC (.bl true)) (e2 subD (eC (.int 0)) (eVar 14))) aNil))) (sRet (vP (eC (.bl false)))) sPass)
  (sSeq (sSet 11 (vP (eC .non)))
  (sSeq (sFor [7] false (iRng (aCons (eVar 3) aNil)) (tgN 7) b3_law)
  (sSeq (sIf false (eOr (e2 neD (eCall 1 m_winner (aCons (eVar 4) aNil)) (eVar 11)) (e2 neD (eCall 1 m_best_ones (aCons (eVar 4) aNil)) (eCall 2 m__law_best (aCons (eVar 4) (aCons (eVar 3) aNil))))) (sRet (vP (eC (.bl false)))) sPass)
  (sSeq (sIf false (e2 neD (e2 isntD (eVar 11) (eC .non)) (e2 eqD (eB lenD (aCons (eCall 1 m_best_ones (aCons (eVar 4) aNil)) aNil)) (eC (.int 1)))) (sRet (vP (eC (.bl false)))) sPass)
  (sSeq (sIf false (e2 neD (eCall 1 m_runoff (aCons (eVar 4) aNil)) (eCall 2 m__law_runoff (aCons (eVar 4) (aCons (eVar 3) aNil)))) (sRet (vP (eC (.bl false)))) sPass)
  (sSeq (sIf true (e2 neD (eLst (aCons (eCall 1 m_points (aCons (e1 revD (eVar 4)) aNil)) (aCons (eCall 1 m_best_ones (aCons (e1 revD (eVar 4)) aNil)) (aCons (eCall 1 m_runoff (aCons (e1 revD (eVar 4)) aNil)) aNil)))) (eLst (aCons (eVar 6) (aCons (eCall 1 m_best_ones (aCons (eVar 4) aNil)) (aCons (eCall 1 m_runoff (aCons (eVar 4) aNil)) aNil))))) (sRet (vP (eC (.bl false)))) sPass)
  (sSeq (sSet 12 (vP (eLc [13] (iSeq (eVar 4)) (tgN 13) (eC (.bl true)) (eB tupleD (aCons (eLc [15] (iSeq (eVar 13)) (tgN 15) (eC (.bl true)) (e2 subD (eB (mm1D maxL) (aCons (eVar 13) aNil)) (eVar 15))) aNil)))))
  (sIf false (eOr (e2 neD (eCall 3 m_tally (aCons (eVar 12) (aCons (eC (.int 0)) (aCons (e2 subD (eVar 3) (eC (.int 1))) aNil)))) (e1 revTD (eCall 3 m_tally (aCons (eVar 4) (aCons (eC (.int 0)) (aCons (e2 subD (eVar 3) (eC (.int 1))) aNil)))))) (e2 neD (eVar 4) (eVar 5))) (sRet (vP (eC (.bl false)))) sPass)))))))))))))))
def g_law : Gm → O := (sSeq (sFor [1, 2, 3, 4, 5, 6, 7, 8, 10, 11, 12] false (iRng (aCons (eB max2D (aCons (eC (.int 1)) (aCons (eB min2D (aCons (eC (.int 3)) (aCons (eB lenD (aCons (eVar 0) aNil)) aNil))) aNil))) aNil)) (tgN 1) b4_law)
  (sRet (vP (eC (.bl true)))))
def m_law : List D → R := runDef 16 g_law
end DL

set_option Elab.async false
set_option linter.all false
set_option maxRecDepth 100000
set_option maxHeartbeats 4000000
namespace DL
open PySem PySem.Spec PyProof.Rows L2 LamX
theorem sp_sign {o : List Int} {i j : Nat} (hi : i < o.length) (hj : j < o.length) : m_sign [T o, .int i, .int j] = .ok (.int (sg (v o i) (v o j))) := by
  simp [m_sign, runDef, gam0, g_sign, ix_T hi, ix_T hj, sg]
theorem sp_signL {o : List Int} {i j : Nat} (hi : i < o.length) (hj : j < o.length) : m_sign [.lst (o.map .int), .int i, .int j] = .ok (.int (sg (v o i) (v o j))) := by
  simp [m_sign, runDef, gam0, g_sign, ix_L hi, ix_L hj, sg]
theorem sp_is_count (x lo hi : Int) : m_is_count [.int x, .int lo, .int hi] = .ok (.bl (decide (lo ≤ x) && decide (x ≤ hi))) := by
  simp only [m_is_count, runDef, gam0, g_is_count]
  simp
  split <;> simp_all <;> omega
theorem sp_is_order {n : Nat} {o : List Int} (h : Ord n o) : m_is_order [T o] = .ok (.bl true) := by
  have h1 := h.len
  have h2 := h.pos
  have h3 := h.le
  have hne : o ≠ [] := fun e => by rw [e] at h1; simp at h1; omega
  have hm := maxL_mem hne
  have m0 := h.lt hm.1
  have hlc : eLc [1] (iSeq (eVar 0)) (tgN 1) (eC (.bl true)) (eCall 3 m_is_count (aCons (eVar 1) (aCons (eC (.int 0)) (aCons (e2 subD (eC (.int 6)) (eC (.int 1))) aNil)))) [.dat (T o), .no] = .ok (.lst (o.map fun _ => .bl true)) := by
    refine lc_of (f := D.int) (by simp) (by omega) fun x hx => ⟨_, rfl, ?_⟩
    have := h.lt hx
    simp [killAll, hideOwn, sp_is_count]
    omega
  have hs : sortSetD (T o) = .ok (.lst ((nubS ltI o).map .int)) := sort_ints (by omega)
  have hmx : mm1D maxL [T o] = .ok (.int (maxL o)) := mm1_T hne
  have hr : lrngA [.int (maxL o + 1)] = .ok (.lst ((nubS ltI o).map .int)) := by
    rw [lrng1 (by omega), nub_dense h.dn hne]
    simp [rngD]
  simp [m_is_order, runDef, gam0, g_is_order, hlc, all_bl o (fun _ => true), hs, hmx, hr, eq_L]
  rw [if_pos (by omega), if_pos (by omega)]
theorem sp_tidiedL {row : List Int} (h : row.length < 64) : m_tidied [.lst (row.map .int)] = .ok (T (tidy ltI row)) := by
  have hlc : eLc [2] (iSeq (eVar 0)) (tgN 2) (eC (.bl true)) (eMt "list" indexD (eVar 1) (aCons (eVar 2) aNil)) [.dat (.lst (row.map .int)), .dat (.lst ((nubS ltI row).map .int)), .no] = .ok (.lst (row.map fun x => .int ((nubS ltI row).idxOf x : Nat))) := by
    refine lc_of (f := D.int) (by simp) (by omega) fun x hx => ⟨_, rfl, ?_⟩
    simp [killAll, hideOwn, isTy, index_map emb_int (by decide) ((mem_nubS linI row).mpr hx)]
  simp [m_tidied, runDef, gam0, g_tidied, sort_lints h, hlc]
  unfold T tidy
  rw [List.map_map]
  rfl
theorem sp_tidiedU {rows : List (List Int)} (hn : rows ≠ []) (hok : okU rows = true) (h : rows.length < 64) : m_tidied [.lst (rows.map T)] = .ok (T (tidy HT.lexLt rows)) := by
  have hs : sortSetD (.lst (rows.map T)) = .ok (.lst ((nubS HT.lexLt rows).map T)) := by
    have h1 : intsOf (rows.map T) = none := by
      cases rows with
      | nil => exact absurd rfl hn
      | cons r rs => rfl
    have h2 : tupsOf (rows.map T) = some rows := tupsOf_tups rows
    simp only [sortSetD, h1, h2, if_pos (And.intro hok h)]
    rfl
  have hlc : eLc [2] (iSeq (eVar 0)) (tgN 2) (eC (.bl true)) (eMt "list" indexD (eVar 1) (aCons (eVar 2) aNil)) [.dat (.lst (rows.map T)), .dat (.lst ((nubS HT.lexLt rows).map T)), .no] = .ok (.lst (rows.map fun x => .int ((nubS HT.lexLt rows).idxOf x : Nat))) := by
    refine lc_of (f := T) (by simp) (by omega) fun x hx => ⟨_, rfl, ?_⟩
    simp [killAll, hideOwn, isTy, index_map emb_T (by decide) ((mem_nubS linT rows).mpr hx)]
  simp [m_tidied, runDef, gam0, g_tidied, hs, hlc]
  unfold T tidy
  rw [List.map_map]
  rfl
theorem sp_tidiedP {rows : List (List Int)} (hn : rows ≠ []) (hok : okT rows = true) (h : rows.length < 64) : m_tidied [.lst (rows.map T)] = .ok (T (tidy HT.lexLt rows)) := sp_tidiedU hn (okT_okU hok) h
theorem pairs_turn {n : Nat} {o : List Int} (h1 : o.length = n) (h6 : n ≤ 6) {acc : List D} (ha : acc.length ≤ 900) {j : Nat} (hj : j < n) :
    sExt 1 (vP (eLc [3] (iRng (aCons (e2 addD (eVar 2) (eC (.int 1))) (aCons (eB lenD (aCons (eVar 0) aNil)) aNil))) (tgN 3) (eC (.bl true)) (eTup (aCons (eVar 2) (aCons (eVar 3) aNil))))) [.dat (T o), .own (.lst acc), .dat (.int (j : Int)), .no] =
      .nx [.dat (T o), .own (.lst (acc ++ (List.range (n - (j + 1))).map fun k => PR (j, j + 1 + k))), .dat (.int (j : Int)), .no] := by
  have hr : rngA [.int ((j : Int) + 1), .int (n : Int)] = .ok ((List.range (n - (j + 1))).map fun k : Nat => .int ((j : Int) + 1 + k)) := by
    rw [rng2 (by omega)]
    unfold rngD
    rw [show ((n : Int) - ((j : Int) + 1)).toNat = n - (j + 1) by omega]
  have hlc : eLc [3] (iRng (aCons (e2 addD (eVar 2) (eC (.int 1))) (aCons (eB lenD (aCons (eVar 0) aNil)) aNil))) (tgN 3) (eC (.bl true)) (eTup (aCons (eVar 2) (aCons (eVar 3) aNil))) [.dat (T o), .own (.lst acc), .dat (.int (j : Int)), .no] = .ok (.lst ((List.range (n - (j + 1))).map fun k => PR (j, j + 1 + k))) := by
    refine lc_of (f := fun k : Nat => .int ((j : Int) + 1 + k)) ?_ (by rw [List.length_range]; omega) fun k hk => ⟨_, rfl, ?_⟩
    · simp only [ev_rng, ev_cons, ev_2, ev_var, ev_c, ev_B, ev_nil, List.getElem?_cons_succ, List.getElem?_cons_zero, slR_dat, Rg.bind_ok, add_int, lenD_T, h1, hr]
    · simp [killAll, hideOwn, PR]
  refine st_ext (ds0 := acc) (ds := acc) rfl ((ev_vP _ _).trans (congrArg (fun r : R => r.bind fun d => Rg.ok (d, _)) hlc)) rfl (small ?_)
  rw [List.length_map, List.length_range]
  omega
/-! ### finer -/
theorem in_two (x y z : Int) : inD (.int x) (.tup [.int y, .int z]) = .ok (.bl (decide (x = y ∨ x = z))) := by
  have h1 : eqOk (.int x) = true := emb_int.ok (by decide) x
  have h2 : eqOk (.tup [.int y, .int z]) = true := emb_T.ok (by decide) [y, z]
  simp only [inD, h1, h2, Bool.and_self, if_true, List.any_cons, List.any_nil, Bool.or_false]
  congr 2
  rw [Bool.eq_iff_iff, Bool.or_eq_true, decide_eq_true_iff, emb_int.eq, emb_int.eq]
  constructor
  · rintro (h | h)
    · exact .inl h.symm
    · exact .inr h.symm
  · rintro (h | h)
    · exact .inl h.symm
    · exact .inr h.symm
/-- where b tells one ahead, a tells it too -/
def Fin (n : Nat) (a b : List Int) : Prop := ∀ i j, i < n → j < n → v b i < v b j → v a i < v a j
noncomputable instance {n : Nat} {a b : List Int} : Decidable (Fin n a b) := Classical.propDecidable _
def fq (a b : List Int) (p : Nat × Nat) : Bool := decide (sg (v b p.1) (v b p.2) = 0 ∨ sg (v b p.1) (v b p.2) = sg (v a p.1) (v a p.2))
theorem pair_all {n : Nat} {p : Nat → Nat → Prop} (sym : ∀ i j, p i j → p j i) (h : ∀ i j, i < j → j < n → p i j) : ∀ i j, i < n → j < n → i ≠ j → p i j := fun i j hi hj hne => by
  rcases Nat.lt_trichotomy i j with c | c | c
  · exact h i j c hj
  · exact absurd c hne
  · exact sym _ _ (h j i c hi)
theorem fin_iff {n : Nat} {a b : List Int} : (prs n).all (fq a b) = true ↔ Fin n a b := by
  rw [all_prs]
  simp only [fq, decide_eq_true_eq]
  constructor
  · intro h i j hi hj hlt
    have hne : i ≠ j := fun e => by subst e; omega
    have key := pair_all (n := n) (p := fun i j => (v b i < v b j → v a i < v a j) ∧ (v b j < v b i → v a j < v a i)) (fun i j h => ⟨h.2, h.1⟩) (fun i j h1 h2 => by
      have := h i j h1 h2
      rcases sg_cases (v b i) (v b j) with c | c | c <;> rcases sg_cases (v a i) (v a j) with d | d | d <;> constructor <;> intro _ <;> omega) i j hi hj hne
    exact key.1 hlt
  · intro h i j h1 h2
    have x1 := h i j (by omega) h2
    have x2 := h j i h2 (by omega)
    rcases sg_cases (v b i) (v b j) with c | c | c <;> rcases sg_cases (v a i) (v a j) with d | d | d <;> omega
/-! ### behind -/
def zp (a b : List Int) : List (List Int) := (a.zip b).map fun p => [p.1, p.2]
def beh (a b : List Int) : List Int := tidy HT.lexLt (zp a b)
theorem zip_T (a b : List Int) : zipD [T a, T b] = .ok (.lst ((zp a b).map T)) := by
  simp only [zp, zipD, T, seqD, List.zip_map, List.map_map]
  rfl
theorem beh_ord {n : Nat} {a b : List Int} (ha : Ord n a) (hb : Ord n b) : Ord n (beh a b) := tidy_ord linT (by rw [zp, List.length_map, List.length_zip, ha.len, hb.len, Nat.min_self]) ha.pos ha.le
theorem beh_lt {n : Nat} {a b : List Int} (ha : Ord n a) (hb : Ord n b) {i j : Nat} (hi : i < n) (hj : j < n) : v (beh a b) i < v (beh a b) j ↔ v a i < v a j ∨ (v a i = v a j ∧ v b i < v b j) := by
  have hl : (zp a b).length = n := by rw [zp, List.length_map, List.length_zip, ha.len, hb.len, Nat.min_self]
  have at_ : ∀ k (hk : k < n), (zp a b)[k]'(by rw [hl]; exact hk) = [v a k, v b k] := fun k hk => by
    unfold zp
    rw [List.getElem_map, List.getElem_zip, v_at (by rw [ha.len]; exact hk), v_at (by rw [hb.len]; exact hk)]
  unfold beh
  rw [tidy_lt linT (by rw [hl]; exact hi) (by rw [hl]; exact hj), at_ i hi, at_ j hj, HT.lexLt_cons, HT.lexLt_cons, HT.lexLt_nil_nil]
  by_cases c : v a i = v a j
  · rw [if_pos c]
    by_cases d : v b i = v b j
    · rw [if_pos d]
      constructor
      · intro h; cases h
      · intro h; omega
    · rw [if_neg d, decide_eq_true_iff]; omega
  · rw [if_neg c, decide_eq_true_iff]; omega
/-! ### agree -/
def Agr (n : Nat) (a b : List Int) : Prop := ∀ i j, i < n → j < n → v a i < v a j → ¬ v b j < v b i
noncomputable instance {n : Nat} {a b : List Int} : Decidable (Agr n a b) := Classical.propDecidable _
def aq (a b : List Int) (p : Nat × Nat) : Bool := decide (0 ≤ sg (v a p.1) (v a p.2) * sg (v b p.1) (v b p.2))
theorem agr_iff {n : Nat} {a b : List Int} : (prs n).all (aq a b) = true ↔ Agr n a b := by
  rw [all_prs]
  simp only [aq, decide_eq_true_eq]
  have nn : ∀ x y x' y' : Int, 0 ≤ sg x y * sg x' y' ↔ (x < y → ¬ y' < x') ∧ (y < x → ¬ x' < y') := fun x y x' y' => by
    rcases sg_cases x y with ⟨c, e⟩ | ⟨c, e⟩ | ⟨c, e⟩ <;> rcases sg_cases x' y' with ⟨d, f⟩ | ⟨d, f⟩ | ⟨d, f⟩ <;> rw [e, f] <;> constructor <;> intro h <;> omega
  constructor
  · intro h i j hi hj hlt
    have hne : i ≠ j := fun e => by subst e; omega
    have key := pair_all (n := n) (p := fun i j => (v a i < v a j → ¬ v b j < v b i) ∧ (v a j < v a i → ¬ v b i < v b j)) (fun i j h => ⟨h.2, h.1⟩) (fun i j h1 h2 => (nn _ _ _ _).mp (h i j h1 h2)) i j hi hj hne
    exact key.1 hlt
  · intro h i j h1 h2
    exact (nn _ _ _ _).mpr ⟨h i j (by omega) h2, h j i h2 (by omega)⟩
theorem sg_mulOk (x y x' y' : Int) : mulOk (sg x y) (sg x' y') = true := by
  rcases sg_cases x y with ⟨_, e⟩ | ⟨_, e⟩ | ⟨_, e⟩ <;> rcases sg_cases x' y' with ⟨_, f⟩ | ⟨_, f⟩ | ⟨_, f⟩ <;> rw [e, f] <;> decide
/-- a loop that carries b -/
theorem for_fold {ks : List Nat} {t : Tg} {F : Gm → O} {α β : Type} {enc : β → Gm} {step : β → α → β} {f : α → D} {P : β → Prop} : ∀ (l : List α) (b : β), P b → (∀ b x, x ∈ l → P b → P (step b x) ∧ ∃ Γ1 Γ2, t (f x) (enc b) = some Γ1 ∧ F Γ1 = .nx Γ2 ∧ killAll ks Γ2 = enc (step b x)) →
    forL ks t F (l.map f) (enc b) = .nx (enc (l.foldl step b)) ∧ P (l.foldl step b)
  | [], b, h, _ => ⟨rfl, h⟩
  | x :: l, b, h, H => by
    obtain ⟨hp, Γ1, Γ2, h1, h2, h3⟩ := H b x List.mem_cons_self h
    rw [List.map_cons]
    unfold forL
    rw [h1]
    simp only [h2, h3]
    exact for_fold l (step b x) hp fun b y hy => H b y (List.mem_cons_of_mem _ hy)
/-! ### coarsened -/
/-- ranks from lo to hi become lo -/
def mrg (lo hi : Int) (row : List Int) : List Int := row.map fun r => if lo ≤ r ∧ r ≤ hi then lo else r
def low (row : List Int) (a b : Nat) : Int := if v row b < v row a then v row b else v row a
def high (row : List Int) (a b : Nat) : Int := if v row b > v row a then v row b else v row a
def bad (other row : List Int) (a b : Nat) : Prop := v row a ≠ v row b ∧ sg (v row a) (v row b) ≠ sg (v other a) (v other b)
noncomputable instance {o r : List Int} {a b : Nat} : Decidable (bad o r a b) := Classical.propDecidable _
noncomputable def cst (other : List Int) (s : List Int × Bool) (p : Nat × Nat) : List Int × Bool := if bad other s.1 p.1 p.2 then (mrg (low s.1 p.1 p.2) (high s.1 p.1 p.2) s.1, true) else s
def coE (one other : List Int) (s : List Int × Bool) : Gm := [.dat (T one), .dat (T other), .dat (.lst (s.1.map .int)), .dat (.bl s.2), .no, .no, .no, .no, .no]
def coF : Gm → O := sIf false (eAnd (e2 neD (e2 ixD (eVar 2) (eVar 4)) (e2 ixD (eVar 2) (eVar 5))) (e2 neD (eCall 3 m_sign (aCons (eVar 2) (aCons (eVar 4) (aCons (eVar 5) aNil)))) (eCall 3 m_sign (aCons (eVar 1) (aCons (eVar 4) (aCons (eVar 5) aNil)))))) (sSeq (sAsg (tgT 2 (tgCons (tgN 6) (tgCons (tgN 7) tgNil))) (vP (eTup (aCons (eB min2D (aCons (e2 ixD (eVar 2) (eVar 4)) (aCons (e2 ixD (eVar 2) (eVar 5)) aNil))) (aCons (eB max2D (aCons (e2 ixD (eVar 2) (eVar 4)) (aCons (e2 ixD (eVar 2) (eVar 5)) aNil))) aNil)))))
  (sSeq (sSet 2 (vP (eLc [8] (iSeq (eVar 2)) (tgN 8) (eC (.bl true)) (eIf (eChain leD leD (eVar 6) (eVar 8) (eVar 7)) (eVar 6) (eVar 8)))))
  (sSet 3 (vP (eC (.bl true)))))) sPass
theorem co_turn {n : Nat} {one other : List Int} (h6 : n ≤ 6) (ho : other.length = n) {s : List Int × Bool} (hr : s.1.length = n) {a b : Nat} (ha : a < b) (hb : b < n) :
    ∃ Γ1 Γ2, tgT 2 (tgCons (tgN 4) (tgCons (tgN 5) tgNil)) (PR (a, b)) (coE one other s) = some Γ1 ∧ coF Γ1 = .nx Γ2 ∧ killAll [4, 5, 6, 7] Γ2 = coE one other (cst other s (a, b)) := by
  obtain ⟨row, new⟩ := s
  simp only at hr
  have x1 := ix_L (o := row) (i := a) (by omega)
  have x2 := ix_L (o := row) (i := b) (by omega)
  have y1 := sp_signL (o := row) (i := a) (j := b) (by omega) (by omega)
  have y2 := sp_sign (o := other) (i := a) (j := b) (by omega) (by omega)
  refine ⟨[.dat (T one), .dat (T other), .dat (.lst (row.map .int)), .dat (.bl new), .dat (.int a), .dat (.int b), .no, .no, .no], ?_⟩
  by_cases hbad : bad other row a b
  · have hc : cst other (row, new) (a, b) = (mrg (low row a b) (high row a b) row, true) := if_pos hbad
    rw [hc]
    obtain ⟨b1, b2⟩ := hbad
    refine ⟨[.dat (T one), .dat (T other), .dat (.lst ((mrg (low row a b) (high row a b) row).map .int)), .dat (.bl true), .dat (.int a), .dat (.int b), .dat (.int (low row a b)), .dat (.int (high row a b)), .no], rfl, ?_, rfl⟩
    have hlc : eLc [8] (iSeq (eVar 2)) (tgN 8) (eC (.bl true)) (eIf (eChain leD leD (eVar 6) (eVar 8) (eVar 7)) (eVar 6) (eVar 8)) [.dat (T one), .dat (T other), .dat (.lst (row.map .int)), .dat (.bl new), .dat (.int a), .dat (.int b), .dat (.int (low row a b)), .dat (.int (high row a b)), .no] = .ok (.lst ((mrg (low row a b) (high row a b) row).map .int)) := by
      unfold mrg
      rw [List.map_map]
      refine lc_of (f := D.int) (by simp) (by omega) fun x hx => ⟨_, rfl, ?_⟩
      simp [killAll, hideOwn]
      by_cases c1 : low row a b ≤ x
      · by_cases c2 : x ≤ high row a b
        · simp [c1, c2]
        · simp [c1, c2]
      · simp [c1]
    have hl : (if v row b < v row a then v row b else v row a) = low row a b := rfl
    have hh : (if v row a < v row b then v row b else v row a) = high row a b := rfl
    simp [coF, x1, x2, y1, y2, b1, b2, hl, hh, hlc]
  · have hc : cst other (row, new) (a, b) = (row, new) := if_neg hbad
    rw [hc]
    refine ⟨[.dat (T one), .dat (T other), .dat (.lst (row.map .int)), .dat (.bl new), .dat (.int a), .dat (.int b), .no, .no, .no], rfl, ?_, rfl⟩
    by_cases c1 : v row a = v row b
    · simp [coF, x1, x2, y1, y2, c1]
    · have c2 : sg (v row a) (v row b) = sg (v other a) (v other b) := Classical.byContradiction fun z => hbad ⟨c1, z⟩
      simp [coF, x1, x2, y1, y2, c1, c2]
noncomputable def pass (n : Nat) (other row : List Int) : List Int × Bool := (prs n).foldl (cst other) (row, false)
theorem mrg_len (lo hi : Int) (row : List Int) : (mrg lo hi row).length = row.length := List.length_map _
theorem cst_len {other : List Int} {s : List Int × Bool} {p : Nat × Nat} : (cst other s p).1.length = s.1.length := by
  unfold cst
  split
  · exact mrg_len _ _ _
  · rfl
theorem co_pass {n : Nat} {one other row : List Int} (h6 : n ≤ 6) (ho : other.length = n) (hr : row.length = n) :
    forL [4, 5, 6, 7] (tgT 2 (tgCons (tgN 4) (tgCons (tgN 5) tgNil))) coF ((prs n).map PR) (coE one other (row, false)) = .nx (coE one other (pass n other row)) ∧ (pass n other row).1.length = n :=
  for_fold (P := fun s => s.1.length = n) (prs n) (row, false) hr fun s x hx hs => ⟨cst_len.trans hs, co_turn h6 ho hs (mem_prs.mp hx).1 (mem_prs.mp hx).2⟩
/-- closed downwards -/
def Down (n : Nat) (o : List Int) (S : Nat → Prop) : Prop := ∀ i j, i < n → j < n → v o i ≤ v o j → S j → S i
structure CoI (n : Nat) (one other row : List Int) : Prop where
  len : row.length = n
  mono : ∀ i j, i < n → j < n → v one i ≤ v one j → v row i ≤ v row j
  down : ∀ S, Down n one S → Down n other S → Down n row S
theorem mrg_v {lo hi : Int} {row : List Int} {i : Nat} (h : i < row.length) : v (mrg lo hi row) i = if lo ≤ v row i ∧ v row i ≤ hi then lo else v row i := by
  unfold mrg
  rw [v_map h, v_at h]
theorem co_merge {n : Nat} {one other row : List Int} (I : CoI n one other row) {a b : Nat} (ha : a < n) (hb : b < n) (h : bad other row a b) : CoI n one other (mrg (low row a b) (high row a b) row) := by
  have hl := I.len
  have cases2 : (v row a < v row b ∧ v other b ≤ v other a ∧ low row a b = v row a ∧ high row a b = v row b) ∨ (v row b < v row a ∧ v other a ≤ v other b ∧ low row a b = v row b ∧ high row a b = v row a) := by
    obtain ⟨b1, b2⟩ := h
    unfold low high
    rcases sg_cases (v row a) (v row b) with ⟨c, e⟩ | ⟨c, e⟩ | ⟨c, e⟩
    · left
      rcases sg_cases (v other a) (v other b) with ⟨d, f⟩ | ⟨d, f⟩ | ⟨d, f⟩
      · exact absurd (e.trans f.symm) b2
      · exact ⟨c, by omega, if_neg (by omega), if_pos c⟩
      · exact ⟨c, by omega, if_neg (by omega), if_pos c⟩
    · exact absurd c b1
    · right
      rcases sg_cases (v other a) (v other b) with ⟨d, f⟩ | ⟨d, f⟩ | ⟨d, f⟩
      · exact ⟨c, by omega, if_pos c, if_neg (by omega)⟩
      · exact ⟨c, by omega, if_pos c, if_neg (by omega)⟩
      · exact absurd (e.trans f.symm) b2
  refine ⟨(mrg_len _ _ _).trans hl, fun i j hi hj hij => ?_, fun S h1 h2 i j hi hj hij hS => ?_⟩
  · have := I.mono i j hi hj hij
    rw [mrg_v (by omega), mrg_v (by omega)]
    split <;> split <;> omega
  · have hd := I.down S h1 h2
    by_cases c : v row i ≤ v row j
    · exact hd i j hi hj c hS
    · rw [mrg_v (by omega), mrg_v (by omega)] at hij
      rcases cases2 with ⟨c1, c2, e1, e2⟩ | ⟨c1, c2, e1, e2⟩
      · rw [e1, e2] at hij
        have q1 : v row a ≤ v row j ∧ v row i ≤ v row b := by split at hij <;> split at hij <;> omega
        exact hd i b hi hb q1.2 (h2 b a hb ha c2 (hd a j ha hj q1.1 hS))
      · rw [e1, e2] at hij
        have q1 : v row b ≤ v row j ∧ v row i ≤ v row a := by split at hij <;> split at hij <;> omega
        exact hd i a hi ha q1.2 (h2 a b ha hb c2 (hd b j hb hj q1.1 hS))
def card (row : List Int) : Nat := (nubS ltI row).length
theorem card_merge {n : Nat} {other row : List Int} (hl : row.length = n) {a b : Nat} (ha : a < n) (hb : b < n) (h : bad other row a b) : card (mrg (low row a b) (high row a b) row) < card row := by
  have hm : ∀ x, x ∈ nubS ltI (mrg (low row a b) (high row a b) row) → x ∈ (nubS ltI row).erase (high row a b) := fun x hx => by
    rw [mem_nubS linI] at hx
    obtain ⟨r, hr, rfl⟩ := List.mem_map.mp hx
    have lo_mem : low row a b ∈ row := by unfold low; split <;> exact v_mem (by omega)
    have ne : low row a b ≠ high row a b := by obtain ⟨b1, _⟩ := h; unfold low high; split <;> split <;> omega
    split
    · exact (List.mem_erase_of_ne ne).mpr ((mem_nubS linI row).mpr lo_mem)
    · rename_i c
      have le : low row a b ≤ high row a b := by unfold low high; split <;> split <;> omega
      exact (List.mem_erase_of_ne (fun e => c ⟨by omega, by omega⟩)).mpr ((mem_nubS linI row).mpr hr)
  have hi_mem : high row a b ∈ nubS ltI row := (mem_nubS linI row).mpr (by unfold high; split <;> exact v_mem (by omega))
  have := nodup_len (pw_nodup linI (nubS_pw linI _)) hm
  rw [List.length_erase_of_mem hi_mem] at this
  have : 0 < (nubS ltI row).length := List.length_pos_of_mem hi_mem
  unfold card
  omega
theorem pass_is {n : Nat} {one other : List Int} : ∀ (l : List (Nat × Nat)), (∀ p ∈ l, p.1 < n ∧ p.2 < n) → ∀ (s : List Int × Bool), CoI n one other s.1 →
    CoI n one other (l.foldl (cst other) s).1 ∧ card (l.foldl (cst other) s).1 ≤ card s.1 ∧ (s.2 = true → (l.foldl (cst other) s).2 = true) ∧
    ((l.foldl (cst other) s).2 = true → s.2 = true ∨ card (l.foldl (cst other) s).1 < card s.1) ∧ ((l.foldl (cst other) s).2 = false → (l.foldl (cst other) s) = s ∧ ∀ p ∈ l, ¬ bad other s.1 p.1 p.2)
  | [], _, s, I => ⟨I, Nat.le_refl _, fun h => h, fun h => .inl h, fun _ => ⟨rfl, fun p hp => by simp at hp⟩⟩
  | p :: l, hl, s, I => by
    obtain ⟨ha, hb⟩ := hl p List.mem_cons_self
    have hl' : ∀ q ∈ l, q.1 < n ∧ q.2 < n := fun q hq => hl q (List.mem_cons_of_mem _ hq)
    rw [List.foldl_cons]
    by_cases c : bad other s.1 p.1 p.2
    · have e : cst other s p = (mrg (low s.1 p.1 p.2) (high s.1 p.1 p.2) s.1, true) := if_pos c
      rw [e]
      have lt := card_merge I.len ha hb c
      obtain ⟨h1, h2, h3, h4, h5⟩ := pass_is l hl' (mrg (low s.1 p.1 p.2) (high s.1 p.1 p.2) s.1, true) (co_merge I ha hb c)
      have h3' := h3 rfl
      refine ⟨h1, Nat.le_trans h2 (Nat.le_of_lt lt), fun _ => h3', fun _ => .inr (Nat.lt_of_le_of_lt h2 lt), fun z => ?_⟩
      rw [h3'] at z
      cases z
    · have e : cst other s p = s := if_neg c
      rw [e]
      obtain ⟨h1, h2, h3, h4, h5⟩ := pass_is l hl' s I
      refine ⟨h1, h2, h3, h4, fun z => ⟨(h5 z).1, fun q hq => ?_⟩⟩
      rcases List.mem_cons.mp hq with e | e
      · rw [e]; exact c
      · exact (h5 z).2 q e
theorem while_step {ks : List Nat} {b : Bool} {f : Gm → R} {F : Gm → O} {k : Nat} {Γ Γ2 : Gm} (ht : tst b f Γ = .ok (.bl true)) (hb : F Γ = .nx Γ2) : whileN ks b f F (k + 1) Γ = whileN ks b f F k (killAll ks Γ2) := by
  rw [whileN]
  simp only [ht, hb]
theorem while_end {ks : List Nat} {b : Bool} {f : Gm → R} {F : Gm → O} {k : Nat} {Γ : Gm} (ht : tst b f Γ = .ok (.bl false)) : whileN ks b f F (k + 1) Γ = .nx Γ := by
  rw [whileN]
  simp only [ht]
theorem co_kill {one other : List Int} {s : List Int × Bool} : killAll [4, 5, 6, 7] (coE one other s) = coE one other s := by simp [killAll, coE]
theorem co_test {one other : List Int} {s : List Int × Bool} : tst false (eVar 3) (coE one other s) = .ok (.bl s.2) := by simp [coE]
/-- the finest that is coarser than both: what comes of it -/
theorem co_rel {n : Nat} {one other row : List Int} (I : CoI n one other row) (st : ∀ i j, i < j → j < n → ¬ bad other row i j) {i j : Nat} (hi : i < n) (hj : j < n) :
    v row i < v row j ↔ ∃ S, Down n one S ∧ Down n other S ∧ S i ∧ ¬ S j := by
  have fin : ∀ i j, i < n → j < n → v row i < v row j → v other i < v other j := fun i j hi hj h => by
    have hne : i ≠ j := fun e => by subst e; omega
    have key := pair_all (n := n) (p := fun i j => (v row i < v row j → v other i < v other j) ∧ (v row j < v row i → v other j < v other i)) (fun i j h => ⟨h.2, h.1⟩) (fun i j h1 h2 => by
      have nb := st i j h1 h2
      unfold bad at nb
      rcases sg_cases (v row i) (v row j) with ⟨c, e⟩ | ⟨c, e⟩ | ⟨c, e⟩ <;> rcases sg_cases (v other i) (v other j) with ⟨d, f⟩ | ⟨d, f⟩ | ⟨d, f⟩ <;> (first | (constructor <;> intro _ <;> omega) | (exact absurd ⟨by omega, by rw [e, f]; decide⟩ nb))) i j hi hj hne
    exact key.1 h
  constructor
  · intro h
    refine ⟨fun x => v row x ≤ v row i, fun x y hx hy hxy hS => Int.le_trans (I.mono x y hx hy hxy) hS, fun x y hx hy hxy hS => ?_, Int.le_refl _, by simpa using h⟩
    have c : ¬ v row y < v row x := fun z => by have := fin y x hy hx z; omega
    omega
  · rintro ⟨S, h1, h2, h3, h4⟩
    refine Int.not_le.mp fun z => h4 (I.down S h1 h2 j i hj hi z h3)
/-! ### turned -/
def tur (o : List Int) : List Int := o.map fun x => maxL o - x
theorem tur_v {n : Nat} {o : List Int} (h : Ord n o) {i : Nat} (hi : i < n) : v (tur o) i = maxL o - v o i := by
  unfold tur
  rw [v_map (by rw [h.len]; exact hi), v_at (by rw [h.len]; exact hi)]
theorem Ord.ne {n : Nat} {o : List Int} (h : Ord n o) : o ≠ [] := fun e => by have h1 := h.len; have := h.pos; rw [e] at h1; simp at h1; omega
theorem tur_ord {n : Nat} {o : List Int} (h : Ord n o) : Ord n (tur o) := by
  obtain ⟨m1, m2⟩ := maxL_mem h.ne
  have m0 := h.lt m1
  refine ⟨by unfold tur; rw [List.length_map, h.len], h.pos, h.le, fun x hx => ?_⟩
  obtain ⟨y, hy, rfl⟩ := List.mem_map.mp hx
  have h1 := m2 y hy
  have h2 := h.lt hy
  refine ⟨by omega, fun hp => List.mem_map.mpr ⟨y + 1, ?_, by omega⟩⟩
  have := dense_all h.dn (maxL o).toNat _ m1 (by omega) (y + 1).toNat (by omega)
  rw [show (((y + 1).toNat : Nat) : Int) = y + 1 by omega] at this
  exact this
theorem tur_lt {n : Nat} {o : List Int} (h : Ord n o) {i j : Nat} (hi : i < n) (hj : j < n) : v (tur o) i < v (tur o) j ↔ v o j < v o i := by
  rw [tur_v h hi, tur_v h hj]
  omega
/-! ### the law's draws -/
theorem pow_lt {x : Int} {a b : Nat} (h : x.natAbs < 2 ^ a) (hab : a ≤ b) : x.natAbs < 2 ^ b := Nat.lt_of_lt_of_le h (Nat.pow_le_pow_right (by decide) hab)
theorem q128 {x : Int} (h0 : 0 ≤ x) (h : x < 340282366920938463463374607431768211507) : x.natAbs < 2 ^ 129 := by
  have : (340282366920938463463374607431768211507 : Nat) < 2 ^ 129 := by decide
  omega
def MQ : Int := 340282366920938463463374607431768211507
theorem sp_drawn {c k : Int} {B : Nat} (hB : B < 99000000) (hc : c.natAbs < 2 ^ (B + 1)) (h0 : 0 ≤ k) (hk : k < 1000) : ∃ y : Int, m__law_drawn [.int c, .int k] = .ok (.int y) ∧ 0 ≤ y ∧ y < MQ := by
  have p1 : mulOk c 6364136223846793005 = true := mulOk_of (b := 63) hc (by decide) (by omega)
  have e64 : (2 : Nat) ^ (63 + 1) = 18446744073709551616 := by decide
  have p2 : mulOk (k + 1) 1442695040888963407 = true := mulOk_of (a := 63) (b := 63) (by rw [e64]; omega) (by decide) (by decide)
  have q1 : (0 : Int) < 340282366920938463463374607431768211507 := by decide
  have q2 : (0 : Int) < 340282366920938463463374607431768211297 := by decide
  have q3 : (0 : Int) < 18446744073709551557 := by decide
  have q4 : (18446744073709551557 : Int).natAbs.log2 < 9000 := by decide
  have r1 := Int.emod_nonneg (c * 6364136223846793005 + (k + 1) * 1442695040888963407) (b := 340282366920938463463374607431768211507) (by decide)
  have r2 := Int.emod_lt_of_pos (c * 6364136223846793005 + (k + 1) * 1442695040888963407) q1
  generalize hm1 : (c * 6364136223846793005 + (k + 1) * 1442695040888963407) % 340282366920938463463374607431768211507 = m1 at r1 r2
  have p3 : mulOk m1 m1 = true := mulOk_of (a := 128) (b := 128) (q128 r1 r2) (q128 r1 r2) (by decide)
  have s1 := Int.emod_nonneg (m1 * m1) (b := 340282366920938463463374607431768211297) (by decide)
  have s2 := Int.emod_lt_of_pos (m1 * m1) q2
  generalize hm2 : (m1 * m1) % 340282366920938463463374607431768211297 = m2 at s1 s2
  have t1 := Int.emod_nonneg m2 (b := 18446744073709551557) (by decide)
  have t2 := Int.emod_lt_of_pos m2 q3
  generalize hm3 : m2 % 18446744073709551557 = m3 at t1 t2
  have t3 : 0 ≤ m2 / 18446744073709551557 := Int.ediv_nonneg s1 (by decide)
  have t4 : m2 / 18446744073709551557 ≤ m2 := by omega
  generalize hm4 : m2 / 18446744073709551557 = m4 at t3 t4
  have e129 : (2 : Nat) ^ 129 = 680564733841876926926749214863536422912 := by decide
  have p4 : mulOk (m3 + 1) (m4 + 1) = true := mulOk_of (a := 128) (b := 128) (by omega) (by omega) (by decide)
  have p5 : mulOk ((m3 + 1) * (m4 + 1)) m2 = true := by
    refine mulOk_of (a := 258) (b := 128) ?_ (by omega) (by decide)
    rw [Int.natAbs_mul]
    have a1 : (m3 + 1).natAbs < 2 ^ 129 := by omega
    have a2 : (m4 + 1).natAbs < 2 ^ 129 := by omega
    calc (m3 + 1).natAbs * (m4 + 1).natAbs < 2 ^ 129 * 2 ^ 129 := Nat.mul_lt_mul'' a1 a2
      _ ≤ 2 ^ (258 + 1) := by rw [← Nat.pow_add]; exact Nat.pow_le_pow_right (by decide) (by decide)
  refine ⟨((m3 + 1) * (m4 + 1) * m2) % 340282366920938463463374607431768211507, ?_, Int.emod_nonneg _ (by decide), Int.emod_lt_of_pos _ q1⟩
  simp [m__law_drawn, runDef, gam0, g__law_drawn, mul_int p1, mul_int p2, mod_int q1, mod_int q2, mod_int q3, fdiv_int q3 q4, hm1, mul_int p3, hm2, hm3, hm4, mul_int p4, mul_int p5]
theorem bits_lt {z : Int} {B : Nat} (h : Builtin.Int.intBits z ≤ B) : z.natAbs < 2 ^ B := by
  unfold Builtin.Int.intBits at h
  by_cases c : z.natAbs = 0
  · rw [c]; exact Nat.two_pow_pos B
  · have hz : ¬ (z == 0) = true := by simp; omega
    rw [if_neg hz] at h
    exact (Nat.log2_lt c).mp (by omega)
theorem scr_len {d : D} {ns : List Int} (h : IsScr d ns) : lenD [d] = .ok (.int ns.length) := by
  rcases h with rfl | rfl
  · rfl
  · simp [lenD]
theorem scr_eq {d : D} {ns : List Int} (h : IsScr d ns) : eqD d (.lst []) = .ok (.bl (decide (ns = []))) := by
  rcases h with rfl | rfl
  · have e : (D.scr ns).toPy = (D.lst (ns.map .int)).toPy := by
      simp only [D.toPy, toPys_map, List.map_map]
      rfl
    have := eq_L ns []
    unfold eqD eqOk at this ⊢
    rw [e]
    exact this
  · exact eq_L ns []
theorem scr_ix {d : D} {ns : List Int} (h : IsScr d ns) {i : Nat} (hi : i < ns.length) : ixD d (.int (i : Int)) = .ok (.int (v ns i)) := by
  rcases h with rfl | rfl
  · show optR ((atI ns (i : Int)).map .int) = _
    rw [atI_nat hi, v_at hi]
    rfl
  · exact ix_L hi
theorem sp_cell {d : D} {ns : List Int} (h : IsScr d ns) (hl : ns.length ≤ 63) {B : Nat} (hB : 64 ≤ B) (hb : ∀ z ∈ ns, z.natAbs < 2 ^ B) (k : Nat) (hk : k < 64) : ∃ c : Int, m__law_cell [d, .int k] = .ok (.int c) ∧ c.natAbs < 2 ^ (B + 1) := by
  have e64 : (2 : Nat) ^ 64 = 18446744073709551616 := by decide
  have eB : (2 : Nat) ^ 64 ≤ 2 ^ B := Nat.pow_le_pow_right (by decide) hB
  have eB1 : (2 : Nat) ^ (B + 1) = 2 ^ B * 2 := Nat.pow_succ ..
  by_cases c : ns = []
  · have p : mulOk (k : Int) 7919 = true := mulOk_of (a := 63) (b := 63) (by rw [e64]; omega) (by decide) (by decide)
    refine ⟨(k : Int) * 7919, ?_, by rw [eB1]; omega⟩
    simp [m__law_cell, runDef, gam0, g__law_cell, scr_eq h, c, mul_int p]
  · have hn : 0 < ns.length := List.length_pos_iff.mpr c
    have e1 : (k : Int) % (ns.length : Int) = ((k % ns.length : Nat) : Int) := by simp
    have e2 : (k : Int) / (ns.length : Int) = ((k / ns.length : Nat) : Int) := by simp
    have hm : k % ns.length < ns.length := Nat.mod_lt _ hn
    have hq : k / ns.length ≤ k := Nat.div_le_self _ _
    have hln : ((ns.length : Int)).natAbs.log2 < 9000 := by
      have : ((ns.length : Int)).natAbs.log2 ≤ 63 := log2_le (by rw [e64]; omega)
      omega
    have p : mulOk ((k / ns.length : Nat) : Int) 104729 = true := mulOk_of (a := 63) (b := 63) (by rw [e64]; generalize k / ns.length = q at hq; omega) (by decide) (by decide)
    have hz := hb _ (v_mem hm)
    have hfin : (v ns (k % ns.length) + ((k / ns.length : Nat) : Int) * 104729).natAbs < 2 ^ (B + 1) := by
      rw [eB1]
      generalize v ns (k % ns.length) = z at hz
      generalize k / ns.length = q at hq
      omega
    refine ⟨v ns (k % ns.length) + ((k / ns.length : Nat) : Int) * 104729, ?_, hfin⟩
    have h0 : (0 : Int) < ns.length := by omega
    simp only [m__law_cell, runDef, gam0, g__law_cell]
    simp [scr_eq h, c, scr_len h, mod_int h0, fdiv_int h0 hln]
    rw [e1, e2, scr_ix h hm, mul_int p]
    simp
theorem nat_of {x : Int} (h : 0 ≤ x) : ∃ n : Nat, x = n := ⟨x.toNat, by omega⟩
theorem sp_items {x : Int} (h : 0 ≤ x) : ∃ n : Nat, m__law_items [.int x] = .ok (.int n) ∧ 1 ≤ n ∧ n ≤ 6 := by
  have p5 : (0 : Int) < 5 := by decide
  have p8 : (0 : Int) < 8 := by decide
  have l8 : (8 : Int).natAbs.log2 < 9000 := by decide
  obtain ⟨k, hk⟩ := nat_of (x := x / 8 % 5) (Int.emod_nonneg _ (by decide))
  have k5 : k < 5 := by have := Int.emod_lt_of_pos (x / 8) p5; omega
  obtain ⟨r, hr⟩ := nat_of (x := 1 + x % 5) (by have := Int.emod_nonneg x (b := 5) (by decide); omega)
  have r5 : 1 ≤ r ∧ r ≤ 5 := by have := Int.emod_nonneg x (b := 5) (by decide); have := Int.emod_lt_of_pos x p5; omega
  have hx : ∀ n : Nat, ([D.int r, .int 3, .int 4, .int 6, .int 2] : List D)[k]'(by simpa using k5) = .int n → m__law_items [.int x] = .ok (.int n) := fun n e => by
    simp [m__law_items, runDef, gam0, g__law_items, mod_int p5, fdiv_int p8 l8, hr, hk]
    rw [ix_lst (by simpa using k5), e]
    simp
  rcases (by omega : k = 0 ∨ k = 1 ∨ k = 2 ∨ k = 3 ∨ k = 4) with rfl | rfl | rfl | rfl | rfl
  · exact ⟨r, hx r rfl, r5.1, by omega⟩
  · exact ⟨3, hx 3 rfl, by decide, by decide⟩
  · exact ⟨4, hx 4 rfl, by decide, by decide⟩
  · exact ⟨6, hx 6 rfl, by decide, by decide⟩
  · exact ⟨2, hx 2 rfl, by decide, by decide⟩
theorem nub_below {α : Type} [BEq α] [LawfulBEq α] {lt : α → α → Bool} (L : Lin lt) {row : List α} {x : α} (hx : x ∈ row) : nubS lt (row.filter fun y => lt y x) = (nubS lt row).take ((nubS lt row).idxOf x) := by
  have pw := nubS_pw L row
  have hx' := (mem_nubS L row).mpr hx
  refine (nubS_of L (pw.sublist (List.take_sublist _ _)) fun z => ?_).symm
  rw [List.mem_filter]
  constructor
  · intro hz
    have hz1 := List.mem_of_mem_take hz
    obtain ⟨i, hi, e⟩ := List.getElem_of_mem hz
    rw [List.length_take] at hi
    rw [List.getElem_take] at e
    refine ⟨(mem_nubS L row).mp hz1, (idx_lt L pw hz1 hx').mp ?_⟩
    rw [← e, (pw_nodup L pw).idxOf_getElem _ (by omega)]
    omega
  · rintro ⟨h1, h2⟩
    have hz1 := (mem_nubS L row).mpr h1
    have h3 := (idx_lt L pw hz1 hx').mpr h2
    have h4 := List.idxOf_lt_length_of_mem hz1
    refine List.mem_iff_getElem.mpr ⟨(nubS lt row).idxOf z, by rw [List.length_take]; omega, ?_⟩
    rw [List.getElem_take]
    exact List.getElem_idxOf h4
theorem sp_dense {row : List Int} (h : row.length ≤ 900) : m__law_dense [.lst (row.map .int)] = .ok (T (tidy ltI row)) := by
  have hlc : eLc [1] (iSeq (eVar 0)) (tgN 1) (eC (.bl true)) (eLenSet (eLc [2] (iSeq (eVar 0)) (tgN 2) (e2 ltD (eVar 2) (eVar 1)) (eVar 2))) [.dat (.lst (row.map .int)), .no, .no] = .ok (.lst (row.map fun x => .int ((nubS ltI row).idxOf x : Nat))) := by
    refine lc_of (f := D.int) (by simp) (by omega) fun x hx => ⟨[.dat (.lst (row.map .int)), .dat (.int x), .no], rfl, ?_⟩
    have hin : eLc [2] (iSeq (eVar 0)) (tgN 2) (e2 ltD (eVar 2) (eVar 1)) (eVar 2) [.dat (.lst (row.map .int)), .dat (.int x), .no] = .ok (.lst ((row.filter fun y => ltI y x).map .int)) := by
      refine lc_ofF (f := D.int) (p := fun y => ltI y x) (by simp) (by omega) fun y hy => ⟨[.dat (.lst (row.map .int)), .dat (.int x), .dat (.int y)], rfl, by simp [ltI], fun _ => by simp⟩
    have hn := nub_below linI hx
    have hl : (row.filter fun y => ltI y x).length < 1000 := by
      have := List.length_filter_le (fun y => ltI y x) row
      omega
    rw [ev_lenset, hin, Rg.bind_ok]
    simp only [lenSetD, intsOf_T, if_pos hl, hn, List.length_take]
    have := List.idxOf_lt_length_of_mem ((mem_nubS linI row).mpr hx)
    rw [Nat.min_eq_left (by omega)]
  have e0 : gam0 3 [.lst (row.map .int)] = [.dat (.lst (row.map .int)), .no, .no] := by simp [gam0, List.replicate]
  unfold m__law_dense runDef g__law_dense
  rw [e0]
  simp [hlc]
  unfold T tidy
  rw [List.map_map]
  rfl
theorem sp_order {x : Int} {n : Nat} (h0 : 0 ≤ x) (hx : x < MQ) (h1 : 1 ≤ n) (h6 : n ≤ 6) : ∃ o, m__law_order [.int x, .int n] = .ok (T o) ∧ Ord n o := by
  have p3 : (0 : Int) < 3 := by decide
  have p4 : (0 : Int) < 4 := by decide
  have l4 : (4 : Int).natAbs.log2 < 9000 := by decide
  obtain ⟨k, hk⟩ := nat_of (x := x % 3) (Int.emod_nonneg _ (by decide))
  have k3 : k < 3 := by have := Int.emod_lt_of_pos x p3; omega
  have hd : ∃ m : Nat, ([D.int 2, .int n, .int 6] : List D)[k]'(by simpa using k3) = .int m ∧ 0 < m := by
    rcases (by omega : k = 0 ∨ k = 1 ∨ k = 2) with rfl | rfl | rfl
    · exact ⟨2, rfl, by decide⟩
    · exact ⟨n, rfl, by omega⟩
    · exact ⟨6, rfl, by decide⟩
  obtain ⟨m, hm, m0⟩ := hd
  have m0' : (0 : Int) < m := by omega
  have H : ∀ j : Nat, ∃ y : Int, j < n → (e2 modD (e2 fdivD (eCall 2 m__law_drawn (aCons (eVar 0) (aCons (eVar 2) aNil))) (eC (.int 4))) (e2 ixD (eLst (aCons (eC (.int 2)) (aCons (eVar 1) (aCons (eC (.int 6)) aNil)))) (e2 modD (eVar 0) (eC (.int 3))))) [.dat (.int x), .dat (.int n), .dat (.int (j : Int))] = .ok (.int y) := fun j => by
    by_cases hj : j < n
    · obtain ⟨y, hy, y0, y1⟩ := sp_drawn (c := x) (k := (j : Int)) (B := 128) (by decide) (q128 h0 hx) (by omega) (by omega)
      refine ⟨y / 4 % m, fun _ => ?_⟩
      simp [hy, fdiv_int p4 l4, mod_int p3, hk]
      rw [ix_lst (by simpa using k3), hm]
      simp [mod_int m0']
    · exact ⟨0, fun z => absurd z hj⟩
  obtain ⟨f, hf⟩ := Classical.axiomOfChoice H
  have hlc : eLc [2] (iRng (aCons (eVar 1) aNil)) (tgN 2) (eC (.bl true)) (e2 modD (e2 fdivD (eCall 2 m__law_drawn (aCons (eVar 0) (aCons (eVar 2) aNil))) (eC (.int 4))) (e2 ixD (eLst (aCons (eC (.int 2)) (aCons (eVar 1) (aCons (eC (.int 6)) aNil)))) (e2 modD (eVar 0) (eC (.int 3))))) [.dat (.int x), .dat (.int n), .no] = .ok (.lst (((List.range n).map f).map .int)) := by
    rw [List.map_map]
    refine lc_of (f := fun j : Nat => .int (j : Int)) ?_ (by rw [List.length_range]; omega) fun j hj => ⟨[.dat (.int x), .dat (.int n), .dat (.int (j : Int))], rfl, hf j (List.mem_range.mp hj)⟩
    have hr : rngA [.int (n : Int)] = .ok ((List.range n).map fun j : Nat => .int (j : Int)) := by
      rw [rng1 (by omega)]
      simp [rngD]
    simp [hr]
  have hl : ((List.range n).map f).length = n := by rw [List.length_map, List.length_range]
  refine ⟨tidy ltI ((List.range n).map f), ?_, tidy_ord linI hl h1 h6⟩
  have hs := sp_dense (row := (List.range n).map f) (by rw [hl]; omega)
  generalize (List.range n).map f = row at hlc hs
  have e0 : gam0 3 [.int x, .int n] = [.dat (.int x), .dat (.int n), .no] := by simp [gam0, List.replicate]
  unfold m__law_order runDef g__law_order
  rw [e0]
  simp [hlc, hs]

section
variable {n : Nat} {a b c : List Int}
theorem beh_eq (ha : Ord n a) (hb : Ord n b) {i j : Nat} (hi : i < n) (hj : j < n) : v (beh a b) i = v (beh a b) j ↔ v a i = v a j ∧ v b i = v b j := by
  have h1 := beh_lt ha hb hi hj
  have h2 := beh_lt ha hb hj hi
  omega
theorem f_beh_assoc (ha : Ord n a) (hb : Ord n b) (hc : Ord n c) : beh (beh a b) c = beh a (beh b c) := by
  have hab := beh_ord ha hb
  have hbc := beh_ord hb hc
  refine Ord.unique (beh_ord hab hc) (beh_ord ha hbc) fun i j hi hj => ?_
  rw [beh_lt hab hc hi hj, beh_lt ha hbc hi hj, beh_lt ha hb hi hj, beh_eq ha hb hi hj, beh_lt hb hc hi hj]
  omega
theorem f_beh_self (ha : Ord n a) : beh a a = a := Ord.unique (beh_ord ha ha) ha fun i j hi hj => by
  rw [beh_lt ha ha hi hj]
  omega
theorem f_beh_had (ha : Ord n a) (hb : Ord n b) : beh (beh a b) a = beh a b := by
  have hab := beh_ord ha hb
  refine Ord.unique (beh_ord hab ha) hab fun i j hi hj => ?_
  rw [beh_lt hab ha hi hj, beh_eq ha hb hi hj, beh_lt ha hb hi hj]
  omega
def zer (n : Nat) : List Int := List.replicate n 0
theorem zer_v {i : Nat} (hi : i < n) : v (zer n) i = 0 := by
  rw [v_at (by unfold zer; rw [List.length_replicate]; exact hi)]
  unfold zer
  exact List.getElem_replicate _
theorem zer_ord (h1 : 1 ≤ n) (h6 : n ≤ 6) : Ord n (zer n) := ⟨List.length_replicate, h1, h6, fun x hx => by
  have := List.eq_of_mem_replicate hx
  subst this
  exact ⟨Int.le_refl _, fun h => by omega⟩⟩
theorem zer_D (h1 : 1 ≤ n) (h6 : n ≤ 6) : mulD (.tup [.int 0]) (.int n) = .ok (T (zer n)) := by
  rcases (by omega : n = 1 ∨ n = 2 ∨ n = 3 ∨ n = 4 ∨ n = 5 ∨ n = 6) with rfl | rfl | rfl | rfl | rfl | rfl <;> simp [mulD, T, zer, List.replicate]
theorem f_beh_zer (ha : Ord n a) : beh a (zer n) = a := by
  have hz := zer_ord ha.pos ha.le
  refine Ord.unique (beh_ord ha hz) ha fun i j hi hj => ?_
  rw [beh_lt ha hz hi hj, zer_v hi, zer_v hj]
  omega
theorem f_zer_beh (ha : Ord n a) : beh (zer n) a = a := by
  have hz := zer_ord ha.pos ha.le
  refine Ord.unique (beh_ord hz ha) ha fun i j hi hj => ?_
  rw [beh_lt hz ha hi hj, zer_v hi, zer_v hj]
  omega
theorem f_fin_beh (ha : Ord n a) (hb : Ord n b) : Fin n a b ↔ beh b a = a := by
  have hba := beh_ord hb ha
  rw [Ord.eq_iff hba ha]
  constructor
  · intro h i j hi hj
    have h1 := h i j hi hj
    have h2 := h j i hj hi
    rw [beh_lt hb ha hi hj]
    omega
  · intro h i j hi hj hlt
    have h1 := h i j hi hj
    rw [beh_lt hb ha hi hj] at h1
    omega
theorem f_beh_fin (ha : Ord n a) (hb : Ord n b) : Fin n (beh a b) a := fun i j hi hj h => (beh_lt ha hb hi hj).mpr (.inl h)
theorem f_agr (ha : Ord n a) (hb : Ord n b) : Agr n a b ↔ beh a b = beh b a := by
  have hab := beh_ord ha hb
  have hba := beh_ord hb ha
  rw [Ord.eq_iff hab hba]
  constructor
  · intro h i j hi hj
    have h1 := h i j hi hj
    have h2 := h j i hj hi
    rw [beh_lt ha hb hi hj, beh_lt hb ha hi hj]
    omega
  · intro h i j hi hj hlt
    have h1 := h i j hi hj
    rw [beh_lt ha hb hi hj, beh_lt hb ha hi hj] at h1
    omega
theorem down_le {o : List Int} {k : Int} : Down n o fun x => v o x ≤ k := fun i j hi hj h hS => Int.le_trans h hS
theorem f_tur_beh (ha : Ord n a) (hb : Ord n b) : tur (beh a b) = beh (tur a) (tur b) := by
  have ta := tur_ord ha
  have tb := tur_ord hb
  refine Ord.unique (tur_ord (beh_ord ha hb)) (beh_ord ta tb) fun i j hi hj => ?_
  rw [tur_lt (beh_ord ha hb) hi hj, beh_lt ha hb hj hi, beh_lt ta tb hi hj, tur_lt ha hi hj, tur_lt hb hi hj, tur_v ha hi, tur_v ha hj]
  omega
theorem down_tur {o : List Int} (h : Ord n o) {S : Nat → Prop} : Down n (tur o) S ↔ Down n o fun x => ¬ S x := by
  constructor
  · intro hd i j hi hj hij hS hc
    exact hS (hd j i hj hi (by rw [tur_v h hi, tur_v h hj]; omega) hc)
  · intro hd i j hi hj hij hS
    rw [tur_v h hi, tur_v h hj] at hij
    exact Classical.byContradiction fun z => hd j i hj hi (by omega) z hS
end

theorem loop_range {d : D} {ns : List Int} (h : IsScr d ns) {m : Int} {Γ : Gm} (e : slR Γ[0]? = .ok d) (hm : 0 ≤ m ∧ m ≤ 60) : ∃ k : Nat, k ≤ 60 ∧ iRng (aCons (eB max2D (aCons (eC (.int 1)) (aCons (eB min2D (aCons (eC (.int m)) (aCons (eB lenD (aCons (eVar 0) aNil)) aNil))) aNil))) aNil) Γ = .ok ((List.range k).map fun j : Nat => .int (j : Int)) := by
  have key : ∀ q : Int, 0 ≤ q ∧ q ≤ 60 → rngA [.int q] = .ok ((List.range q.toNat).map fun j : Nat => .int (j : Int)) := fun q hq => by
    rw [rng1 (by omega)]
    simp [rngD]
  refine ⟨(if (if (ns.length : Int) < m then (ns.length : Int) else m) > 1 then (if (ns.length : Int) < m then (ns.length : Int) else m) else 1).toNat, by split <;> split <;> omega, ?_⟩
  rw [← key _ (by split <;> split <;> omega)]
  simp only [ev_rng, ev_cons, ev_B, ev_c, ev_var, ev_nil, e, Rg.bind_ok, scr_len h, min2_int, max2_int]

/-! ### what is no order -/
def cnt (d : D) : Bool := match d with
  | .int i => decide (0 ≤ i) && decide (i ≤ 5)
  | _ => false
@[simp] theorem isi_int (T : String) (i : Int) : isiD T (.int i) = .ok (.bl (subTy T "int")) := id rfl
@[simp] theorem isi_bl (T : String) (i : Bool) : isiD T (.bl i) = .ok (.bl (subTy T "bool")) := id rfl
@[simp] theorem isi_non (T : String) : isiD T .non = .ok (.bl (subTy T "NoneType")) := id rfl
@[simp] theorem isi_str (T : String) (x : Str) : isiD T (.str x) = .ok (.bl (subTy T "str")) := id rfl
@[simp] theorem isi_tup (T : String) (x : List D) : isiD T (.tup x) = .ok (.bl (subTy T "tuple")) := id rfl
@[simp] theorem isi_lst (T : String) (x : List D) : isiD T (.lst x) = .ok (.bl (subTy T "list")) := id rfl
theorem sp_count0 {d : D} (h : (tyN d).isSome = true) : m_is_count [d, .int 0, .int 5] = .ok (.bl (cnt d)) := by
  cases d with
  | int i =>
    rw [sp_is_count]
    rfl
  | non => rfl
  | bl b => rfl
  | str x => rfl
  | tup x => rfl
  | lst x => rfl
  | scr x => rfl
  | dK x y => rfl
  | dT x y => rfl
  | cst x => simp [tyN] at h
  | fn x => simp [tyN] at h
theorem cnt_ints : ∀ {ds : List D}, ds.all cnt = true → ∃ o : List Int, ds = o.map .int ∧ ∀ x ∈ o, 0 ≤ x ∧ x ≤ 5
  | [], _ => ⟨[], rfl, fun x hx => absurd hx List.not_mem_nil⟩
  | d :: ds, h => by
    rw [List.all_cons, Bool.and_eq_true] at h
    obtain ⟨o, e, ho⟩ := cnt_ints h.2
    cases d with
    | int i =>
      refine ⟨i :: o, by rw [e]; rfl, fun x hx => ?_⟩
      rcases List.mem_cons.mp hx with rfl | hx
      · have h1 : (decide (0 ≤ x) && decide (x ≤ 5)) = true := h.1
        simp at h1
        exact h1
      · exact ho x hx
    | _ => exact absurd h.1 (by simp [cnt])
/-- what is an order -/
def IsO (d : D) : Prop := ∃ n o, d = T o ∧ Ord n o
noncomputable instance {d : D} : Decidable (IsO d) := Classical.propDecidable _
theorem dense_iff {o : List Int} (hne : o ≠ []) : nubS ltI o = (List.range (maxL o + 1).toNat).map (fun k : Nat => (k : Int)) ↔ Dense o := by
  refine ⟨fun h => ?_, fun h => nub_dense h hne⟩
  have key : ∀ z, z ∈ o ↔ ∃ k : Nat, k < (maxL o + 1).toNat ∧ (k : Int) = z := fun z => by
    rw [← mem_nubS linI o, h, List.mem_map]
    exact ⟨fun ⟨k, hk, e⟩ => ⟨k, List.mem_range.mp hk, e⟩, fun ⟨k, hk, e⟩ => ⟨k, List.mem_range.mpr hk, e⟩⟩
  intro x hx
  obtain ⟨k, hk, rfl⟩ := (key x).mp hx
  refine ⟨Int.natCast_nonneg _, fun h0 => (key _).mpr ⟨k - 1, by omega, by omega⟩⟩
theorem sp_is_order_tup {ds : List D} (ht : ∀ d ∈ ds, (tyN d).isSome = true) (hl : ds.length ≤ 900) : m_is_order [.tup ds] = .ok (.bl (decide (IsO (.tup ds)))) := by
  have no : ∀ {b : Bool}, ¬ IsO (.tup ds) → m_is_order [.tup ds] = .ok (.bl false) → m_is_order [.tup ds] = .ok (.bl (decide (IsO (.tup ds)))) := fun h e => by rw [e, decide_eq_false h]
  by_cases h6 : 1 ≤ ds.length ∧ ds.length ≤ 6
  · have hlc : eLc [1] (iSeq (eVar 0)) (tgN 1) (eC (.bl true)) (eCall 3 m_is_count (aCons (eVar 1) (aCons (eC (.int 0)) (aCons (e2 subD (eC (.int 6)) (eC (.int 1))) aNil)))) [.dat (.tup ds), .no] = .ok (.lst (ds.map fun d => .bl (cnt d))) := by
      refine lc_of (l := ds) (f := id) (by simp) (by omega) fun x hx => ⟨_, rfl, ?_⟩
      have := sp_count0 (ht x hx)
      simp [killAll, hideOwn, this]
    by_cases hc : ds.all cnt = true
    · obtain ⟨o, rfl, ho⟩ := cnt_ints hc
      have lo : o.length = (o.map D.int).length := (List.length_map _).symm
      have hne : o ≠ [] := fun e => by subst e; simp at h6
      have hm := maxL_mem hne
      have m0 := ho _ hm.1
      have hs : sortSetD (.tup (o.map D.int)) = .ok (.lst ((nubS ltI o).map .int)) := sort_ints (by omega)
      have hmx : mm1D maxL [.tup (o.map D.int)] = .ok (.int (maxL o)) := mm1_T hne
      have hr : lrngA [.int (maxL o + 1)] = .ok (.lst (((List.range (maxL o + 1).toNat).map fun k : Nat => (k : Int)).map .int)) := by
        rw [lrng1 (by omega)]
        simp [rngD]
      have e : decide (nubS ltI o = (List.range (maxL o + 1).toNat).map fun k : Nat => (k : Int)) = decide (IsO (.tup (o.map D.int))) := by
        rw [decide_eq_decide, dense_iff hne]
        constructor
        · exact fun hd => ⟨o.length, o, rfl, rfl, by omega, by omega, hd⟩
        · rintro ⟨n, o', e', h'⟩
          have e2 : T o = T o' := e'
          rw [T_inj] at e2
          rw [e2]
          exact h'.dn
      have hl2 : ¬ (o.length < 1) ∧ ¬ (6 < o.length) := by omega
      simp only [m_is_order, runDef, gam0, g_is_order, st_seq, st_if, tst_f, ev_or, ev_not, ev_isi, ev_var, ev_chain, ev_c, ev_B, ev_cons, ev_nil, List.map_cons, List.map_nil, List.length_cons, List.length_nil, List.replicate, List.cons_append, List.nil_append, List.getElem?_cons_zero, slR_dat, Rg.bind_ok, isi_tup]
      have hlen : lenD [.tup (o.map D.int)] = .ok (.int o.length) := by simp [lenD]
      rw [hlen]
      have q1 : (1 : Int) ≤ o.length := by omega
      have q2 : (o.length : Int) ≤ 6 := by omega
      have q3 := (all_bl (o.map D.int) cnt).trans (by rw [hc])
      simp only [st_seq, st_if, tst_f, ev_or, ev_not, ev_isi, ev_chain, hlc, q3, Rg.bind_ok, le_int, q1, q2, decide_true, B3_bl, subTy, if_true, beq_self_eq_true, Bool.true_or, ifB_bl, Bool.false_eq_true, if_false, st_ret, st_pass, O.seq_nx, ev_vP, ev_2, ev_sortset, ev_var, List.getElem?_cons_zero, slR_dat, hs, ev_lrng, ev_B, ev_cons, ev_nil, hmx, add_int, ev_c, hr, eq_L, Rg.toS_ok, toR_rt, e]
    · refine no (b := false) (fun ⟨n, o, e, h⟩ => hc ?_) ?_
      · have e : ds = o.map .int := by injection e
        subst e
        rw [List.all_eq_true]
        intro d hd
        obtain ⟨x, hx, rfl⟩ := List.mem_map.mp hd
        have := h.lt hx
        have := h.le
        show (decide (0 ≤ x) && decide (x ≤ 5)) = true
        simp
        omega
      · have hc' : ds.all cnt = false := by simpa using hc
        simp only [m_is_order, runDef, gam0, g_is_order, st_seq, st_if, tst_f, ev_or, ev_not, ev_isi, ev_var, ev_chain, ev_c, ev_B, ev_cons, ev_nil, List.map_cons, List.map_nil, List.length_cons, List.length_nil, List.replicate, List.cons_append, List.nil_append, List.getElem?_cons_zero, slR_dat, Rg.bind_ok, isi_tup]
        have hlen : lenD [.tup ds] = .ok (.int ds.length) := by simp [lenD]
        rw [hlen]
        have q1 : (1 : Int) ≤ ds.length := by omega
        have q2 : (ds.length : Int) ≤ 6 := by omega
        have q3 := (all_bl ds cnt).trans (by rw [hc'])
        simp only [st_seq, st_if, tst_f, ev_or, ev_not, ev_isi, ev_chain, hlc, q3, Rg.bind_ok, le_int, q1, q2, decide_true, B3_bl, subTy, if_true, beq_self_eq_true, Bool.true_or, ifB_bl, Bool.false_eq_true, if_false, st_ret, st_pass, O.seq_nx, O.seq_rt, ev_vP, ev_2, ev_var, List.getElem?_cons_zero, slR_dat, ev_lrng, ev_B, ev_cons, ev_nil, add_int, ev_c, eq_L, Rg.toS_ok, toR_rt]
  · refine no (b := false) (fun ⟨n, o, e, h⟩ => h6 ?_) ?_
    · have e : ds = o.map .int := by injection e
      have h1 := h.len
      have h2 := h.pos
      have h3 := h.le
      rw [e, List.length_map]
      omega
    · simp only [m_is_order, runDef, gam0, g_is_order, st_seq, st_if, tst_f, ev_or, ev_not, ev_isi, ev_var, ev_chain, ev_c, ev_B, ev_cons, ev_nil, List.map_cons, List.map_nil, List.length_cons, List.length_nil, List.replicate, List.cons_append, List.nil_append, List.getElem?_cons_zero, slR_dat, Rg.bind_ok, isi_tup]
      have hlen : lenD [.tup ds] = .ok (.int ds.length) := by simp [lenD]
      rw [hlen]
      by_cases h1 : (1 : Int) ≤ ds.length
      · have h2 : ¬ ((ds.length : Int) ≤ 6) := by omega
        simp [h1, h2, subTy]
      · simp [h1, subTy]
theorem isO_T {o : List Int} {n : Nat} (h : o.length = n) : IsO (T o) ↔ Ord n o := ⟨fun ⟨m, o', e, h'⟩ => by
  rw [T_inj] at e
  subst e
  rw [← h, h'.len]
  exact h', fun h' => ⟨n, o, rfl, h'⟩⟩
theorem sp_is_orderT (o : List Int) (hl : o.length ≤ 900) : m_is_order [T o] = .ok (.bl (decide (IsO (T o)))) :=
  sp_is_order_tup (fun d hd => by obtain ⟨x, _, rfl⟩ := List.mem_map.mp hd; rfl) (by rw [List.length_map]; exact hl)
/-- no order of n items -/
def NotN (n : Nat) (d : D) : Prop := m_is_order [d] = .ok (.bl false) ∨ ∃ k o, d = T o ∧ Ord k o ∧ k ≠ n
theorem add_T {a b : List Int} (h : a.length + b.length ≤ 1000) : addD (T a) (T b) = .ok (T (a ++ b)) := by
  unfold T
  simp only [addD, List.length_map, if_pos (small h), List.map_append]
/-- an order with one more, behind all -/
theorem more_ord {n : Nat} {a : List Int} (h : Ord n a) (h5 : n ≤ 5) : Ord (n + 1) (a ++ [maxL a + 1]) := by
  have hm := maxL_mem h.ne
  refine ⟨by rw [List.length_append, h.len]; rfl, by omega, by omega, fun x hx => ?_⟩
  rcases List.mem_append.mp hx with hx | hx
  · exact ⟨(h.dn x hx).1, fun h0 => List.mem_append_left _ ((h.dn x hx).2 h0)⟩
  · obtain rfl := List.mem_singleton.mp hx
    have := (h.lt hm.1).1
    exact ⟨by omega, fun _ => List.mem_append_left _ (by rw [Int.add_sub_cancel]; exact hm.1)⟩
theorem notN_non {n : Nat} : NotN n .non := .inl rfl
theorem notN_one {n : Nat} : NotN n (T [1]) := .inl (by
  rw [sp_is_orderT [1] (by decide), decide_eq_false]
  rw [isO_T (n := 1) rfl]
  intro h
  have := (h.dn 1 (by simp)).2 (by decide)
  simp at this)
theorem notN_long {m : Nat} {o : List Int} (h : o.length ≤ 900) (h6 : 6 < o.length) : NotN m (T o) := .inl (by
  rw [sp_is_orderT o h, decide_eq_false]
  rw [isO_T rfl]
  intro q
  have := q.le
  omega)
theorem notN_more {n : Nat} {a : List Int} (h : Ord n a) : NotN n (T (a ++ [maxL a + 1])) := by
  by_cases h5 : n ≤ 5
  · exact .inr ⟨n + 1, _, rfl, more_ord h h5, by omega⟩
  · have := h.len
    have := h.le
    exact notN_long (by simp; omega) (by simp; omega)
/-! ### how far apart -/
def ab (i : Int) : Int := if i < 0 then -i else i
def gq (a b : List Int) (p : Nat × Nat) : Int := ab (sg (v a p.1) (v a p.2) - sg (v b p.1) (v b p.2))
def apt (n : Nat) (a b : List Int) : Int := ((prs n).map (gq a b)).sum
theorem abs_int (i : Int) : absD [.int i] = .ok (.int (ab i)) := id rfl
theorem sum_ints (l : List Int) : sumD [.lst (l.map .int)] = .ok (.int l.sum) := by simp [sumD]
/-! sums -/
theorem sum_le {α : Type} {f g : α → Int} : ∀ {l : List α}, (∀ x ∈ l, f x ≤ g x) → (l.map f).sum ≤ (l.map g).sum
  | [], _ => Int.le_refl _
  | x :: l, h => by
    have h1 := h x List.mem_cons_self
    have h2 := sum_le (l := l) fun y hy => h y (List.mem_cons_of_mem _ hy)
    simp only [List.map_cons, List.sum_cons]
    omega
theorem sum_add {α : Type} {f g : α → Int} : ∀ {l : List α}, (l.map fun x => f x + g x).sum = (l.map f).sum + (l.map g).sum
  | [] => rfl
  | x :: l => by
    have h2 := sum_add (f := f) (g := g) (l := l)
    simp only [List.map_cons, List.sum_cons]
    omega
theorem sum_eq {α : Type} {f g : α → Int} {l : List α} (h : ∀ x ∈ l, f x = g x) : (l.map f).sum = (l.map g).sum := by rw [List.map_congr_left h]
theorem sum_nn {α : Type} {f : α → Int} {l : List α} (h : ∀ x ∈ l, 0 ≤ f x) : 0 ≤ (l.map f).sum := by
  have := sum_le (f := fun _ => (0 : Int)) (g := f) (l := l) h
  have z : ∀ l : List α, (l.map fun _ => (0 : Int)).sum = 0 := fun l => by induction l <;> simp_all
  rw [z] at this
  exact this
theorem sum_zero {α : Type} {f : α → Int} : ∀ {l : List α}, (∀ x ∈ l, 0 ≤ f x) → (l.map f).sum = 0 → ∀ x ∈ l, f x = 0
  | [], _, _, x, hx => absurd hx List.not_mem_nil
  | y :: l, h, e, x, hx => by
    have h1 := h y List.mem_cons_self
    have h2 := sum_nn (l := l) fun z hz => h z (List.mem_cons_of_mem _ hz)
    simp only [List.map_cons, List.sum_cons] at e
    rcases List.mem_cons.mp hx with rfl | hx
    · omega
    · exact sum_zero (l := l) (fun z hz => h z (List.mem_cons_of_mem _ hz)) (by omega) x hx
theorem ab_nn (i : Int) : 0 ≤ ab i := by unfold ab; split <;> omega
theorem gq_nn (a b : List Int) (p : Nat × Nat) : 0 ≤ gq a b p := ab_nn _
section
variable {n : Nat} {a b c : List Int}
theorem apt_nn : 0 ≤ apt n a b := sum_nn fun p _ => gq_nn a b p
theorem apt_comm : apt n a b = apt n b a := sum_eq fun p _ => by unfold gq ab; split <;> split <;> omega
theorem apt_self : apt n a a = 0 := by
  have : apt n a a = ((prs n).map fun _ => (0 : Int)).sum := sum_eq fun p _ => by unfold gq ab; split <;> omega
  rw [this]
  generalize prs n = l
  induction l <;> simp_all
theorem apt_zero (ha : Ord n a) (hb : Ord n b) : apt n a b = 0 ↔ a = b := by
  refine ⟨fun h => Ord.unique ha hb fun i j hi hj => ?_, fun h => by rw [h]; exact apt_self⟩
  have key := sum_zero (fun p _ => gq_nn a b p) h
  have at_ : ∀ i j, i < j → j < n → sg (v a i) (v a j) = sg (v b i) (v b j) := fun i j h1 h2 => by
    have := key (i, j) (mem_prs.mpr ⟨h1, h2⟩)
    unfold gq ab at this
    dsimp only at this
    split at this <;> omega
  rcases Nat.lt_trichotomy i j with q | q | q
  · have := at_ i j q hj
    rcases sg_cases (v b i) (v b j) with c | c | c <;> rcases sg_cases (v a i) (v a j) with d | d | d <;> omega
  · subst q; omega
  · have := at_ j i q hi
    rcases sg_cases (v b j) (v b i) with c | c | c <;> rcases sg_cases (v a j) (v a i) with d | d | d <;> omega
theorem apt_tri : apt n a c ≤ apt n a b + apt n b c := by
  unfold apt
  rw [← sum_add]
  refine sum_le fun p _ => ?_
  unfold gq ab
  split <;> split <;> split <;> omega
theorem sg_tur {o : List Int} (h : Ord n o) {i j : Nat} (hi : i < n) (hj : j < n) : sg (v (tur o) i) (v (tur o) j) = - sg (v o i) (v o j) := by
  rw [tur_v h hi, tur_v h hj]
  rcases sg_cases (v o i) (v o j) with q | q | q <;> rcases sg_cases (maxL o - v o i) (maxL o - v o j) with d | d | d <;> omega
theorem apt_tur (ha : Ord n a) (hb : Ord n b) : apt n (tur a) (tur b) = apt n a b := sum_eq fun p hp => by
  obtain ⟨h1, h2⟩ := mem_prs.mp (show (p.1, p.2) ∈ prs n from hp)
  unfold gq
  rw [sg_tur ha (by omega) h2, sg_tur hb (by omega) h2]
  unfold ab
  split <;> split <;> omega
theorem prs_two (h : n ≤ 6) : 2 * ((prs n).length : Int) = n * (n - 1) := by
  rcases (by omega : n = 0 ∨ n = 1 ∨ n = 2 ∨ n = 3 ∨ n = 4 ∨ n = 5 ∨ n = 6) with rfl | rfl | rfl | rfl | rfl | rfl | rfl <;> decide
theorem gq_le (p : Nat × Nat) : gq a b p ≤ 2 := by
  unfold gq ab
  rcases sg_cases (v a p.1) (v a p.2) with q | q | q <;> rcases sg_cases (v b p.1) (v b p.2) with d | d | d <;> split <;> omega
theorem sum_const {α : Type} (l : List α) (k : Int) : (l.map fun _ => k).sum = k * l.length := by
  induction l with
  | nil => simp
  | cons x l ih =>
    simp only [List.map_cons, List.sum_cons, ih, List.length_cons]
    rw [Int.natCast_add, Int.mul_add]
    simp
    omega
theorem apt_le (h : n ≤ 6) : apt n a b ≤ n * (n - 1) := by
  have h1 : apt n a b ≤ ((prs n).map fun _ => (2 : Int)).sum := sum_le fun p _ => gq_le p
  rw [sum_const] at h1
  have := prs_two h
  omega
/-- the strict order 0 .. n - 1 -/
def strc (n : Nat) : List Int := (List.range n).map fun k : Nat => (k : Int)
theorem strc_v {i : Nat} (h : i < n) : v (strc n) i = i := by
  unfold strc
  rw [v_map (by rw [List.length_range]; exact h)]
  simp
theorem strc_ord (h1 : 1 ≤ n) (h6 : n ≤ 6) : Ord n (strc n) := ⟨by unfold strc; rw [List.length_map, List.length_range], h1, h6, fun x hx => by
  obtain ⟨k, hk, rfl⟩ := List.mem_map.mp hx
  have := List.mem_range.mp hk
  exact ⟨Int.natCast_nonneg _, fun h => List.mem_map.mpr ⟨k - 1, List.mem_range.mpr (by omega), by omega⟩⟩⟩
theorem apt_strc (h1 : 1 ≤ n) (h6 : n ≤ 6) : apt n (strc n) (tur (strc n)) = n * (n - 1) := by
  have hs := strc_ord h1 h6
  have : apt n (strc n) (tur (strc n)) = ((prs n).map fun _ => (2 : Int)).sum := sum_eq fun p hp => by
    obtain ⟨h1, h2⟩ := mem_prs.mp (show (p.1, p.2) ∈ prs n from hp)
    unfold gq
    rw [sg_tur hs (by omega) h2, strc_v (by omega), strc_v h2]
    unfold ab
    rcases sg_cases (p.1 : Int) (p.2 : Int) with q | q | q <;> split <;> omega
  rw [this, sum_const, prs_two h6]
end

/-! ### rows of numbers sorted -/
theorem rowLt_lex : ∀ a b : List Int, PySem.W.rowLt (a.map .int) (b.map .int) = HT.lexLt a b
  | [], [] => by decide
  | [], y :: b => by rfl
  | x :: a, [] => by rfl
  | x :: a, y :: b => by
    unfold PySem.W.rowLt
    rw [List.map_cons, List.map_cons, PySem.W.dataLt_cons (by simp [PySem.W.alike]), HT.lexLt_cons]
    have ih := rowLt_lex a b
    unfold PySem.W.rowLt at ih
    rw [ih, PySem.W.dataLt_int]
    by_cases h : x = y <;> simp [PyData.eqv, h]
theorem toPy_T (o : List Int) : (T o).toPy = .tuple (o.map .int) := by
  unfold T
  simp only [D.toPy, toPys_map, List.map_map]
  rfl
theorem le_T (a b : List Int) : PySem.W.dataLe false D.toPy (T a) (T b) = !HT.lexLt b a := by
  have h := rowLt_lex b a
  unfold PySem.W.rowLt at h
  rw [← h, ← PySem.W.dataLt_tuple, ← toPy_T, ← toPy_T]
  rfl
def sortL (L : List (List Int)) : List (List Int) := L.mergeSort fun a b => !HT.lexLt b a
theorem alikeI : ∀ a b : List Int, a.length = b.length → PySem.W.alikeAll (a.map PyData.int) (b.map PyData.int) = true
  | [], [], _ => by simp [PySem.W.alikeAll]
  | x :: a, y :: b, h => by simp [PySem.W.alikeAll, PySem.W.alike, alikeI a b (by simpa using h)]
  | [], y :: b, h => by simp at h
  | x :: a, [], h => by simp at h
theorem sort_rows {n : Nat} {L : List (List Int)} (h : ∀ o ∈ L, o.length = n) (h1 : 1 ≤ n) : sortD [.lst (L.map T)] = .ok (.lst ((sortL L).map T)) := by
  have ok : sortOk (L.map T) = true := by
    unfold sortOk
    simp only [Bool.and_eq_true, Bool.or_eq_true, List.all_eq_true]
    refine ⟨⟨fun d hd e he => ?_, .inl fun d hd => ?_⟩, fun d hd => ?_⟩
    · obtain ⟨a, ha, rfl⟩ := List.mem_map.mp hd
      obtain ⟨b, hb, rfl⟩ := List.mem_map.mp he
      rw [toPy_T, toPy_T]
      simp only [PySem.W.alike]
      exact alikeI a b ((h a ha).trans (h b hb).symm)
    · obtain ⟨a, ha, rfl⟩ := List.mem_map.mp hd
      rw [toPy_T]
      have := h a ha
      cases a with
      | nil => simp at this; omega
      | cons x a => rfl
    · obtain ⟨a, ha, rfl⟩ := List.mem_map.mp hd
      refine ⟨emb_T.lay a, decide_eq_true (Nat.le_trans (emb_T.dep a) (by decide))⟩
  unfold sortD
  simp only [ok, if_true]
  congr 2
  exact (List.map_mergeSort (f := T) fun a _ b _ => (le_T a b).symm).symm
theorem lex_total (a b : List Int) : (!HT.lexLt b a || !HT.lexLt a b) = true := by
  cases h : HT.lexLt a b with
  | false => simp
  | true =>
    cases h2 : HT.lexLt b a with
    | false => rfl
    | true =>
      have := lex_tr _ _ _ h h2
      rw [lex_irr] at this
      cases this
theorem lex_letr (a b c : List Int) (h1 : (!HT.lexLt b a) = true) (h2 : (!HT.lexLt c b) = true) : (!HT.lexLt c a) = true := by
  cases h : HT.lexLt c a with
  | false => rfl
  | true =>
    exfalso
    have e1 : HT.lexLt b a = false := by simpa using h1
    have e2 : HT.lexLt c b = false := by simpa using h2
    cases h3 : HT.lexLt a b with
    | true => rw [lex_tr _ _ _ h h3] at e2; cases e2
    | false =>
      have := lex_eq _ _ h3 e1
      subst this
      rw [h] at e2; cases e2
/-- rows that rise stay as they stand -/
theorem sortL_of {L : List (List Int)} (h : L.Pairwise fun a b => HT.lexLt a b = true) : sortL L = L := by
  refine List.mergeSort_of_pairwise (h.imp fun {a b} q => ?_)
  cases h2 : HT.lexLt b a with
  | false => rfl
  | true =>
    have := lex_tr _ _ _ q h2
    rw [lex_irr] at this
    cases this
theorem sortL_perm (L : List (List Int)) : (sortL L).Perm L := List.mergeSort_perm _ _
/-- different rows, sorted: they rise -/
theorem sortL_rise {L : List (List Int)} (h : L.Nodup) : (sortL L).Pairwise fun a b => HT.lexLt a b = true := by
  have hs : (sortL L).Pairwise fun a b => (!HT.lexLt b a) = true := List.pairwise_mergeSort lex_letr lex_total L
  have hn : (sortL L).Nodup := (sortL_perm L).nodup_iff.mpr h
  refine hs.imp₂ (fun a b q ne => ?_) hn
  cases h3 : HT.lexLt a b with
  | true => rfl
  | false => exact absurd (lex_eq _ _ h3 (by simpa using q)) ne
theorem sortL_nub {L : List (List Int)} (h : L.Nodup) : sortL L = nubS HT.lexLt L := nubS_of linT (sortL_rise h) fun z => (sortL_perm L).mem_iff
/-- as rows with the same members -/
theorem rise_ext {L M : List (List Int)} (h1 : L.Pairwise fun a b => HT.lexLt a b = true) (h2 : M.Pairwise fun a b => HT.lexLt a b = true) (h : ∀ z, z ∈ L ↔ z ∈ M) : L = M := pw_ext linT h1 h2 h
/-! ### dense of rows -/
theorem lt_T (a b : List Int) : ltD (T a) (T b) = .ok (.bl (HT.lexLt a b)) := by
  unfold T ltD cmpI
  simp only [intsOf_T]
theorem tupsOf_T (L : List (List Int)) : tupsOf (L.map T) = some L := tupsOf_tups L
theorem intsOf_T_none {L : List (List Int)} (h : L ≠ []) : intsOf (L.map T) = none := by
  cases L with
  | nil => exact absurd rfl h
  | cons r rs => rfl
theorem len_rows {L : List (List Int)} (h : L.length < 64) : lenSetD (.lst (L.map T)) = .ok (.int (nubS HT.lexLt L).length) := by
  by_cases hn : L = []
  · subst hn; rfl
  · simp only [lenSetD, intsOf_T_none hn, tupsOf_T, if_pos h]
theorem sp_denseL {row : List (List Int)} (h : row.length < 64) : m__law_dense [.lst (row.map T)] = .ok (T (tidy HT.lexLt row)) := by
  have hlc : eLc [1] (iSeq (eVar 0)) (tgN 1) (eC (.bl true)) (eLenSet (eLc [2] (iSeq (eVar 0)) (tgN 2) (e2 ltD (eVar 2) (eVar 1)) (eVar 2))) [.dat (.lst (row.map T)), .no, .no] = .ok (.lst (row.map fun x => .int ((nubS HT.lexLt row).idxOf x : Nat))) := by
    refine lc_of (f := T) (by simp) (by omega) fun x hx => ⟨[.dat (.lst (row.map T)), .dat (T x), .no], rfl, ?_⟩
    have hin : eLc [2] (iSeq (eVar 0)) (tgN 2) (e2 ltD (eVar 2) (eVar 1)) (eVar 2) [.dat (.lst (row.map T)), .dat (T x), .no] = .ok (.lst ((row.filter fun y => HT.lexLt y x).map T)) := by
      refine lc_ofF (f := T) (p := fun y => HT.lexLt y x) (by simp) (by omega) fun y hy => ⟨[.dat (.lst (row.map T)), .dat (T x), .dat (T y)], rfl, by simp [lt_T], fun _ => by simp⟩
    have hn := nub_below linT hx
    have hl : (row.filter fun y => HT.lexLt y x).length < 64 := by
      have := List.length_filter_le (fun y => HT.lexLt y x) row
      omega
    rw [ev_lenset, hin, Rg.bind_ok, len_rows hl, hn, List.length_take]
    have := List.idxOf_lt_length_of_mem ((mem_nubS linT row).mpr hx)
    rw [Nat.min_eq_left (by omega)]
  have e0 : gam0 3 [.lst (row.map T)] = [.dat (.lst (row.map T)), .no, .no] := by simp [gam0, List.replicate]
  unfold m__law_dense runDef g__law_dense
  rw [e0]
  simp [hlc]
  unfold T tidy
  rw [List.map_map]
  rfl
theorem sp_denseT {row : List Int} (h : row.length ≤ 900) : m__law_dense [T row] = .ok (T (tidy ltI row)) := by
  have hlc : eLc [1] (iSeq (eVar 0)) (tgN 1) (eC (.bl true)) (eLenSet (eLc [2] (iSeq (eVar 0)) (tgN 2) (e2 ltD (eVar 2) (eVar 1)) (eVar 2))) [.dat (T row), .no, .no] = .ok (.lst (row.map fun x => .int ((nubS ltI row).idxOf x : Nat))) := by
    refine lc_of (f := D.int) (by simp) (by omega) fun x hx => ⟨[.dat (T row), .dat (.int x), .no], rfl, ?_⟩
    have hin : eLc [2] (iSeq (eVar 0)) (tgN 2) (e2 ltD (eVar 2) (eVar 1)) (eVar 2) [.dat (T row), .dat (.int x), .no] = .ok (.lst ((row.filter fun y => ltI y x).map .int)) := by
      refine lc_ofF (f := D.int) (p := fun y => ltI y x) (by simp) (by omega) fun y hy => ⟨[.dat (T row), .dat (.int x), .dat (.int y)], rfl, by simp [ltI], fun _ => by simp⟩
    have hn := nub_below linI hx
    have hl : (row.filter fun y => ltI y x).length < 1000 := by
      have := List.length_filter_le (fun y => ltI y x) row
      omega
    rw [ev_lenset, hin, Rg.bind_ok]
    simp only [lenSetD, intsOf_T, if_pos hl, hn, List.length_take]
    have := List.idxOf_lt_length_of_mem ((mem_nubS linI row).mpr hx)
    rw [Nat.min_eq_left (by omega)]
  have e0 : gam0 3 [T row] = [.dat (T row), .no, .no] := by simp [gam0, List.replicate]
  unfold m__law_dense runDef g__law_dense
  rw [e0]
  simp [hlc]
  unfold T tidy
  rw [List.map_map]
  rfl
/-! ### what is tidied already -/
theorem tidy_self {o : List Int} : tidy ltI o = o ↔ Dense o := by
  refine ⟨fun h => by rw [← h]; exact tidy_dense linI o, fun h => ?_⟩
  refine dense_unique (tidy_dense linI o) h tidy_len fun i j hi hj => ?_
  rw [tidy_len] at hi hj
  rw [tidy_lt linI hi hj]
  simp [ltI, v_at hi, v_at hj]

/-! ### slices, zip, enumerate by simp -/
def intP (d : D) : Rg (Option Int) := match d with
  | .int i => .ok (some i)
  | _ => .bad
@[simp] theorem intP_int (i : Int) : intP (.int i) = .ok (some i) := id rfl
@[simp] theorem ev_sl (lo hi : Rp1) (f : Gm → R) (Γ : Gm) : eSl lo hi f Γ = (f Γ).bind fun d => (lo Γ).bind fun l => (hi Γ).bind fun h => slD l h d := id rfl
@[simp] theorem ev_pno (Γ : Gm) : pNo Γ = .ok none := id rfl
@[simp] theorem ev_pat (f : Gm → R) (Γ : Gm) : pAt f Γ = (f Γ).bind intP := by
  unfold pAt intP
  rfl
@[simp] theorem neg_int (i : Int) : negD (.int i) = .ok (.int (-i)) := id rfl
theorem cut_last (ds : List D) : cutD ds none (some (-1)) = ds.take (ds.length - 1) := by
  unfold cutD HT.sIx
  simp
  congr 1
  omega
theorem cut_from1 (ds : List D) : cutD ds (some 1) none = ds.drop 1 := by
  unfold cutD HT.sIx
  simp
  cases ds with
  | nil => simp
  | cons d ds =>
    rw [Nat.min_eq_left (by simp)]
    simp
theorem cut_to (ds : List D) {k : Nat} (h : k ≤ ds.length) : cutD ds none (some (k : Int)) = ds.take k := by
  unfold cutD
  rw [HT.sIx_nat, HT.sIx_none, Nat.min_eq_left h]
  simp
theorem cut_from (ds : List D) {k : Nat} (h : k ≤ ds.length) : cutD ds (some (k : Int)) none = ds.drop k := by
  unfold cutD
  rw [HT.sIx_nat, HT.sIx_none, Nat.min_eq_left h]
  rw [List.take_of_length_le (by rw [List.length_drop]; omega)]
@[simp] theorem sl_lst (lo hi : Option Int) (ds : List D) : slD lo hi (.lst ds) = .ok (.lst (cutD ds lo hi)) := id rfl
@[simp] theorem sl_tup (lo hi : Option Int) (ds : List D) : slD lo hi (.tup ds) = .ok (.tup (cutD ds lo hi)) := id rfl
theorem zipL_map {α β : Type} (f : α → D) (g : β → D) : ∀ (l : List α) (m : List β), zipL (l.map f) (m.map g) = (l.zip m).map fun p => .tup [f p.1, g p.2]
  | [], m => by cases m <;> rfl
  | x :: l, [] => rfl
  | x :: l, y :: m => by
    simp only [List.map_cons, List.zip_cons_cons, ← zipL_map f g l m]
    rfl
theorem enumL_map {α : Type} (f : α → D) : ∀ (l : List α) (i : Nat), enumL i (l.map f) = (l.zipIdx i).map fun p => .tup [.int (p.2 : Nat), f p.1]
  | [], i => rfl
  | x :: l, i => by
    simp only [List.map_cons, List.zipIdx_cons, ← enumL_map f l (i + 1)]
    rfl
@[simp] theorem zp_lst (a b : List D) : zpA [.lst a, .lst b] = .ok (zipL a b) := id rfl
@[simp] theorem zp_tup (a b : List D) : zpA [.tup a, .tup b] = .ok (zipL a b) := id rfl
@[simp] theorem zp_mix (a b : List D) : zpA [.tup a, .lst b] = .ok (zipL a b) := id rfl
@[simp] theorem en_lst (a : List D) : enA [.lst a] = .ok (enumL 0 a) := id rfl
@[simp] theorem en_tup (a : List D) : enA [.tup a] = .ok (enumL 0 a) := id rfl
theorem ne_nil {ds : List D} (h : eqOk (.lst ds) = true) : neD (.lst ds) (.lst []) = .ok (.bl (!ds.isEmpty)) := by
  have h2 : eqOk (.lst []) = true := by decide
  unfold neD
  rw [h, h2]
  cases ds <;> simp [D.toPy, D.toPys, PyData.eqv, PyData.eqvAll]
theorem eqOk_ints (o : List Int) : eqOk (.lst (o.map .int)) = true := emb_int.lst.ok (by decide) o
/-- a list of numbers by natural ones -/
theorem nat_ints (s : List Nat) : (s.map fun i : Nat => D.int (i : Int)) = (s.map fun i : Nat => (i : Int)).map .int := by rw [List.map_map]; rfl
/-! ### a whole number between bounds -/
def cntN (lo hi : Int) (d : D) : Bool := match d with
  | .int i => decide (lo ≤ i) && decide (i ≤ hi)
  | _ => false
theorem sp_countN {d : D} {lo hi : Int} (h : (tyN d).isSome = true) : m_is_count [d, .int lo, .int hi] = .ok (.bl (cntN lo hi d)) := by
  cases d with
  | int i =>
    rw [sp_is_count]
    rfl
  | non => rfl
  | bl b => rfl
  | str x => rfl
  | tup x => rfl
  | lst x => rfl
  | scr x => rfl
  | dK x y => rfl
  | dT x y => rfl
  | cst x => simp [tyN] at h
  | fn x => simp [tyN] at h
/-! ### what is none: other kinds -/
theorem notO_lst (ds : List D) : m_is_order [.lst ds] = .ok (.bl false) := by rfl
theorem notO_str (x : Str) : m_is_order [.str x] = .ok (.bl false) := by rfl
theorem notO_int (x : Int) : m_is_order [.int x] = .ok (.bl false) := by rfl
theorem notO_bl (x : Bool) : m_is_order [.bl x] = .ok (.bl false) := by rfl
theorem notO_non : m_is_order [.non] = .ok (.bl false) := by rfl

/-! ### long lists -/
section
variable {α : Type} {f : α → D} {vs : List Nat} {fi : Gm → Rg (List D)} {t : Tg} {ft fe : Gm → R} {Γ : Gm}
theorem lc_ofG {l : List α} {h : α → D} (e : fi Γ = .ok (l.map f)) (hz : l.length ≤ sizeLine) (H : ∀ x ∈ l, ∃ Γ1, t (f x) (killAll vs (hideOwn Γ)) = some Γ1 ∧ fe Γ1 = .ok (h x)) : eLc vs fi t (eC (.bl true)) fe Γ = .ok (.lst (l.map h)) := by
  refine ev_lc e (by rw [List.length_map]; exact hz) ?_
  generalize killAll vs (hideOwn Γ) = Γ0 at H
  clear e hz
  induction l with
  | nil => rfl
  | cons x l ih =>
    obtain ⟨Γ1, h1, h2⟩ := H x List.mem_cons_self
    rw [List.map_cons]
    unfold lcL
    rw [h1]
    simp only [ev_c, h2, ih fun y hy => H y (List.mem_cons_of_mem _ hy)]
    rfl
theorem lc_ofFG {l : List α} {p : α → Bool} {h : α → D} (e : fi Γ = .ok (l.map f)) (hz : l.length ≤ sizeLine) (H : ∀ x ∈ l, ∃ Γ1, t (f x) (killAll vs (hideOwn Γ)) = some Γ1 ∧ ft Γ1 = .ok (.bl (p x)) ∧ (p x = true → fe Γ1 = .ok (h x))) : eLc vs fi t ft fe Γ = .ok (.lst ((l.filter p).map h)) := by
  refine ev_lc e (by rw [List.length_map]; exact hz) ?_
  generalize killAll vs (hideOwn Γ) = Γ0 at H
  clear e hz
  induction l with
  | nil => rfl
  | cons x l ih =>
    obtain ⟨Γ1, h1, h2, h3⟩ := H x List.mem_cons_self
    have ih := ih fun y hy => H y (List.mem_cons_of_mem _ hy)
    rw [List.map_cons]
    unfold lcL
    rw [h1]
    cases hp : p x with
    | true =>
      rw [hp] at h2
      simp only [h2, h3 hp, ih, List.filter_cons, hp, if_true]
      rfl
    | false =>
      rw [hp] at h2
      simp only [h2, ih, List.filter_cons, hp]
      rfl
end
/-! ### all rows, all orders, in plain -/
def ext1 (n : Nat) (b : List Int) : List (List Int) := (List.range n).map fun r : Nat => b ++ [(r : Int)]
def tupL (n : Nat) : Nat → List (List Int)
  | 0 => [[]]
  | t + 1 => (tupL n t).flatMap (ext1 n)
def dnB (q : List Int) : Bool := decide (tidy ltI q = q)
def evL (n : Nat) : List (List Int) := (tupL n n).filter dnB
theorem ext1_len (n : Nat) (b : List Int) : (ext1 n b).length = n := by unfold ext1; rw [List.length_map, List.length_range]
theorem flatMap_len {α β : Type} {f : α → List β} {n : Nat} (h : ∀ x, (f x).length = n) : ∀ l : List α, (l.flatMap f).length = l.length * n
  | [] => by simp
  | x :: l => by rw [List.flatMap_cons, List.length_append, h x, flatMap_len h l, List.length_cons, Nat.add_mul, Nat.one_mul, Nat.add_comm]
theorem tupL_len (n : Nat) : ∀ t : Nat, (tupL n t).length = n ^ t
  | 0 => rfl
  | t + 1 => by
    unfold tupL
    rw [flatMap_len (ext1_len n), tupL_len n t, Nat.pow_succ]
theorem mem_ext1 {n : Nat} {b q : List Int} : q ∈ ext1 n b ↔ ∃ r : Int, 0 ≤ r ∧ r < n ∧ q = b ++ [r] := by
  unfold ext1
  rw [List.mem_map]
  constructor
  · rintro ⟨r, hr, rfl⟩
    exact ⟨r, by omega, by have := List.mem_range.mp hr; omega, rfl⟩
  · rintro ⟨r, h0, h1, rfl⟩
    exact ⟨r.toNat, List.mem_range.mpr (by omega), by rw [show ((r.toNat : Nat) : Int) = r by omega]⟩
theorem mem_tupL {n : Nat} : ∀ {t : Nat} {q : List Int}, q ∈ tupL n t ↔ q.length = t ∧ ∀ x ∈ q, 0 ≤ x ∧ x < n
  | 0, q => by
    unfold tupL
    rw [List.mem_singleton]
    constructor
    · rintro rfl; simp
    · rintro ⟨h, _⟩; exact List.length_eq_zero_iff.mp h
  | t + 1, q => by
    unfold tupL
    rw [List.mem_flatMap]
    constructor
    · rintro ⟨b, hb, hq⟩
      obtain ⟨r, h0, h1, rfl⟩ := mem_ext1.mp hq
      obtain ⟨h2, h3⟩ := mem_tupL.mp hb
      refine ⟨by simp [h2], fun x hx => ?_⟩
      rcases List.mem_append.mp hx with hx | hx
      · exact h3 x hx
      · rw [List.mem_singleton.mp hx]; exact ⟨h0, h1⟩
    · rintro ⟨h1, h2⟩
      have hne : q ≠ [] := fun e => by subst e; simp at h1
      refine ⟨q.dropLast, mem_tupL.mpr ⟨by rw [List.length_dropLast, h1]; rfl, fun x hx => h2 x ((List.dropLast_sublist q).subset hx)⟩, mem_ext1.mpr ⟨q.getLast hne, (h2 _ (List.getLast_mem hne)).1, (h2 _ (List.getLast_mem hne)).2, (List.dropLast_concat_getLast hne).symm⟩⟩
theorem dnB_iff {q : List Int} : dnB q = true ↔ Dense q := by unfold dnB; rw [decide_eq_true_iff]; exact tidy_self
theorem mem_evL {n : Nat} (h1 : 1 ≤ n) (h6 : n ≤ 6) {q : List Int} : q ∈ evL n ↔ Ord n q := by
  unfold evL
  rw [List.mem_filter, mem_tupL, dnB_iff]
  exact ⟨fun ⟨⟨a, _⟩, b⟩ => ⟨a, h1, h6, b⟩, fun h => ⟨⟨h.len, fun x hx => h.lt hx⟩, h.dn⟩⟩
theorem lex_app : ∀ {a b c d : List Int}, a.length = b.length → HT.lexLt (a ++ c) (b ++ d) = if a = b then HT.lexLt c d else HT.lexLt a b
  | [], [], c, d, _ => by simp
  | x :: a, y :: b, c, d, h => by
    rw [List.cons_append, List.cons_append, HT.lexLt_cons, HT.lexLt_cons, lex_app (a := a) (b := b) (by simpa using h)]
    by_cases e : x = y
    · by_cases e2 : a = b
      · simp [e, e2]
      · simp [e, e2]
    · simp [e]
  | [], _ :: _, _, _, h => by simp at h
  | _ :: _, [], _, _, h => by simp at h
abbrev Rise (L : List (List Int)) : Prop := L.Pairwise fun a b => HT.lexLt a b = true
/-- rows of one length grown by rising parts rise -/
theorem rise_grow {t : Nat} {g : List Int → List (List Int)} (hg : ∀ b q, q ∈ g b → ∃ r : Int, q = b ++ [r]) (hr : ∀ b, Rise (g b)) : ∀ {L : List (List Int)}, (∀ b ∈ L, b.length = t) → Rise L → Rise (L.flatMap g)
  | [], _, _ => List.Pairwise.nil
  | b :: L, hl, h => by
    rw [List.flatMap_cons]
    obtain ⟨h1, h2⟩ := List.pairwise_cons.mp h
    refine List.pairwise_append.mpr ⟨hr b, rise_grow hg hr (fun c hc => hl c (List.mem_cons_of_mem _ hc)) h2, fun x hx y hy => ?_⟩
    obtain ⟨c, hc, hy⟩ := List.mem_flatMap.mp hy
    obtain ⟨r, rfl⟩ := hg b x hx
    obtain ⟨s, rfl⟩ := hg c y hy
    have hbc := h1 c hc
    rw [lex_app ((hl b List.mem_cons_self).trans (hl c (List.mem_cons_of_mem _ hc)).symm), if_neg]
    · exact hbc
    · intro e
      rw [e, lex_irr] at hbc
      cases hbc
theorem rise_ext1 (n : Nat) (b : List Int) : Rise (ext1 n b) := by
  unfold ext1 Rise
  rw [List.pairwise_map]
  refine List.pairwise_lt_range.imp fun {x y} h => ?_
  rw [lex_app rfl, if_pos rfl, HT.lexLt_cons]
  rw [if_neg (by omega)]
  exact decide_eq_true (by omega)
theorem rise_tupL (n : Nat) : ∀ t : Nat, Rise (tupL n t)
  | 0 => List.pairwise_singleton _ _
  | t + 1 => by
    unfold tupL
    exact rise_grow (t := t) (fun b q hq => let ⟨r, _, _, e⟩ := mem_ext1.mp hq; ⟨r, e⟩) (rise_ext1 n) (fun b hb => (mem_tupL.mp hb).1) (rise_tupL n t)
theorem rise_evL (n : Nat) : Rise (evL n) := (rise_tupL n n).sublist List.filter_sublist
theorem rise_nodup {L : List (List Int)} (h : Rise L) : L.Nodup := pw_nodup linT h
theorem evL_pos {n : Nat} (h1 : 1 ≤ n) (h6 : n ≤ 6) : 0 < (evL n).length := List.length_pos_of_mem ((mem_evL h1 h6).mpr (strc_ord h1 h6))
theorem pow_le (n : Nat) (h : n ≤ 5) (t : Nat) (ht : t ≤ n) : n ^ t ≤ 3125 := by
  have : ∀ n, n ≤ 5 → ∀ t, t ≤ n → n ^ t ≤ 3125 := by decide
  exact this n h t ht
theorem evL_len {n : Nat} (h : n ≤ 5) : (evL n).length ≤ 3125 := by
  have h1 : (evL n).length ≤ (tupL n n).length := List.length_filter_le _ _
  rw [tupL_len] at h1
  exact Nat.le_trans h1 (pow_le n h n (Nat.le_refl _))
/-! ### the law's listing -/
def lastS (l : List (List Int)) (s : Sl) : Sl := match l.getLast? with
  | some q => .dat (T q)
  | none => s
theorem lastS_snoc (l : List (List Int)) (q : List Int) (s : Sl) : lastS (l ++ [q]) s = .dat (T q) := by simp [lastS]
def evS (n : Nat) : Nat → Sl
  | 0 => .no
  | t + 1 => lastS (tupL n t) (evS n t)
theorem add_one (b : List Int) (r : Int) (h : b.length ≤ 900) : addD (T b) (.tup [.int r]) = .ok (T (b ++ [r])) := add_T (a := b) (b := [r]) (by simp; omega)
theorem rng_N {n : Nat} (h : n ≤ 90000) : rngA [.int (n : Int)] = .ok ((List.range n).map fun r : Nat => .int (r : Int)) := by
  rw [rng1 (by omega)]
  simp [rngD]
/-! ### the program's listing -/
def okP (n : Nat) (q : List Int) : Bool := decide (maxL q + 1 - (nubS ltI q).length ≤ (n : Int) - q.length)
def extP (n : Nat) (b : List Int) : List (List Int) := (ext1 n b).filter (okP n)
def evP (n : Nat) : Nat → List (List Int)
  | 0 => [[]]
  | t + 1 => (evP n t).flatMap (extP n)
theorem mem_extP {n : Nat} {b q : List Int} : q ∈ extP n b ↔ (∃ r : Int, 0 ≤ r ∧ r < n ∧ q = b ++ [r]) ∧ okP n q = true := by unfold extP; rw [List.mem_filter, mem_ext1]
theorem evP_sub (n : Nat) : ∀ (t : Nat) (q : List Int), q ∈ evP n t → q ∈ tupL n t
  | 0, q, h => h
  | t + 1, q, h => by
    unfold evP at h
    unfold tupL
    obtain ⟨b, hb, hq⟩ := List.mem_flatMap.mp h
    exact List.mem_flatMap.mpr ⟨b, evP_sub n t b hb, (List.mem_filter.mp hq).1⟩
theorem rise_evP (n : Nat) : ∀ t : Nat, Rise (evP n t)
  | 0 => List.pairwise_singleton _ _
  | t + 1 => by
    unfold evP
    exact rise_grow (t := t) (fun b q hq => let ⟨⟨r, _, _, e⟩, _⟩ := mem_extP.mp hq; ⟨r, e⟩) (fun b => (rise_ext1 n b).sublist List.filter_sublist) (fun b hb => (mem_tupL.mp (evP_sub n t b hb)).1) (rise_evP n t)
/-- how many kinds: those below the greatest that are there -/
theorem kinds_count {q : List Int} (h0 : ∀ x ∈ q, 0 ≤ x) (hne : q ≠ []) : ((List.range (maxL q + 1).toNat).filter fun k : Nat => decide ((k : Int) ∈ q)).length = (nubS ltI q).length := by
  have hm := maxL_mem hne
  rw [← List.length_map (f := fun k : Nat => (k : Int))]
  refine nub_count linI ?_ fun z => ?_
  · rw [List.Nodup, List.pairwise_map]
    exact (List.nodup_range.sublist List.filter_sublist).imp fun {a b} ne e => ne (by omega)
  · rw [List.mem_map]
    constructor
    · rintro ⟨k, hk, rfl⟩
      exact of_decide_eq_true (List.mem_filter.mp hk).2
    · intro hz
      have a := h0 z hz
      have b := hm.2 z hz
      refine ⟨z.toNat, List.mem_filter.mpr ⟨List.mem_range.mpr (by omega), decide_eq_true ?_⟩, by omega⟩
      rw [show ((z.toNat : Nat) : Int) = z by omega]
      exact hz
theorem filter_both {α : Type} (p : α → Bool) : ∀ l : List α, (l.filter p).length + (l.filter fun x => !p x).length = l.length
  | [] => rfl
  | x :: l => by
    have := filter_both p l
    cases h : p x <;> simp [List.filter_cons, h] <;> omega
/-- a beginning of an order -/
theorem ok_begin {n : Nat} {q r : List Int} (hne : q ≠ []) (ho : Ord n (q ++ r)) : okP n q = true := by
  have hm := maxL_mem hne
  have h0 : ∀ x ∈ q, 0 ≤ x := fun x hx => (ho.lt (List.mem_append_left _ hx)).1
  have hk := kinds_count h0 hne
  have hb := filter_both (fun k : Nat => decide ((k : Int) ∈ q)) (List.range (maxL q + 1).toNat)
  have hl := ho.len
  rw [List.length_append] at hl
  have hmiss : ((List.range (maxL q + 1).toNat).filter fun k : Nat => !decide ((k : Int) ∈ q)).length ≤ r.length := by
    have := nodup_len (l := ((List.range (maxL q + 1).toNat).filter fun k : Nat => !decide ((k : Int) ∈ q)).map fun k : Nat => (k : Int)) (m := r) ?_ ?_
    · rwa [List.length_map] at this
    · rw [List.Nodup, List.pairwise_map]
      exact (List.nodup_range.sublist List.filter_sublist).imp fun {a b} ne e => ne (by omega)
    · intro z hz
      obtain ⟨k, hk, rfl⟩ := List.mem_map.mp hz
      obtain ⟨h1, h2⟩ := List.mem_filter.mp hk
      have h1 := List.mem_range.mp h1
      have hin := dense_all ho.dn (maxL q).toNat _ (List.mem_append_left r hm.1) (by have := h0 _ hm.1; omega) k (by omega)
      rcases List.mem_append.mp hin with h | h
      · simp [h] at h2
      · exact h
  rw [List.length_range] at hb
  have := h0 _ hm.1
  exact decide_eq_true (by omega)
theorem mem_evP_begin {n : Nat} : ∀ {t : Nat} {q r : List Int}, q.length = t → Ord n (q ++ r) → q ∈ evP n t
  | 0, q, r, h, _ => by rw [List.length_eq_zero_iff.mp h]; exact List.mem_singleton.mpr rfl
  | t + 1, q, r, h, ho => by
    have hne : q ≠ [] := fun e => by subst e; simp at h
    have hq : q.dropLast ++ [q.getLast hne] = q := List.dropLast_concat_getLast hne
    unfold evP
    refine List.mem_flatMap.mpr ⟨q.dropLast, mem_evP_begin (r := [q.getLast hne] ++ r) (by rw [List.length_dropLast, h]; rfl) (by rw [← List.append_assoc, hq]; exact ho), mem_extP.mpr ⟨⟨q.getLast hne, ?_, ?_, hq.symm⟩, ok_begin hne ho⟩⟩
    · exact (ho.lt (List.mem_append_left _ (List.getLast_mem hne))).1
    · exact (ho.lt (List.mem_append_left _ (List.getLast_mem hne))).2
theorem ok_whole {n : Nat} {q : List Int} (hl : q.length = n) (hne : q ≠ []) (h0 : ∀ x ∈ q, 0 ≤ x) (h : okP n q = true) : Dense q := by
  have hm := maxL_mem hne
  have hk := kinds_count h0 hne
  have hb := filter_both (fun k : Nat => decide ((k : Int) ∈ q)) (List.range (maxL q + 1).toNat)
  rw [List.length_range] at hb
  have h := of_decide_eq_true h
  have hz : ((List.range (maxL q + 1).toNat).filter fun k : Nat => !decide ((k : Int) ∈ q)) = [] := List.length_eq_zero_iff.mp (by have := h0 _ hm.1; omega)
  intro x hx
  have h1 := h0 x hx
  have h2 := hm.2 x hx
  refine ⟨h1, fun hp => ?_⟩
  have := List.filter_eq_nil_iff.mp hz (x - 1).toNat (List.mem_range.mpr (by omega))
  rw [show (((x - 1).toNat : Nat) : Int) = x - 1 by omega] at this
  simpa using this
theorem evP_is {n : Nat} (h1 : 1 ≤ n) (h6 : n ≤ 6) : evP n n = evL n := by
  refine rise_ext (rise_evP n n) (rise_evL n) fun q => ?_
  rw [mem_evL h1 h6]
  constructor
  · intro h
    obtain ⟨a, b⟩ := mem_tupL.mp (evP_sub n n q h)
    have hne : q ≠ [] := fun e => by subst e; simp at a; omega
    obtain ⟨t, rfl⟩ : ∃ t, n = t + 1 := ⟨n - 1, by omega⟩
    unfold evP at h
    obtain ⟨c, _, hq⟩ := List.mem_flatMap.mp h
    exact ⟨a, h1, h6, ok_whole a hne (fun x hx => (b x hx).1) (mem_extP.mp hq).2⟩
  · intro h
    exact mem_evP_begin (r := []) h.len (by rw [List.append_nil]; exact h)

theorem cntN_int (lo hi i : Int) : cntN lo hi (.int i) = (decide (lo ≤ i) && decide (i ≤ hi)) := id rfl
theorem evP_len {n : Nat} (h6 : n ≤ 6) {t : Nat} (ht : t ≤ n) : (evP n t).length ≤ 46656 := by
  have h1 := nodup_len (rise_nodup (rise_evP n t)) (evP_sub n t)
  rw [tupL_len] at h1
  have : ∀ n, n ≤ 6 → ∀ t, t ≤ n → n ^ t ≤ 46656 := by decide
  exact Nat.le_trans h1 (this n h6 t ht)
theorem evP_len5 {n : Nat} (h6 : n ≤ 6) {t : Nat} (ht : t < n) : (evP n t).length ≤ 7776 := by
  have h1 := nodup_len (rise_nodup (rise_evP n t)) (evP_sub n t)
  rw [tupL_len] at h1
  have : ∀ n, n ≤ 6 → ∀ t, t < n → n ^ t ≤ 7776 := by decide
  exact Nat.le_trans h1 (this n h6 t ht)
theorem ne_snoc (b : List Int) (r : Int) : b ++ [r] ≠ [] := by simp
/-- the place of a row among those that rise -/
theorem ix_rows {L : List (List Int)} {i : Nat} (h : i < L.length) : ixD (.lst (L.map T)) (.int (i : Int)) = .ok (T L[i]) := by
  rw [ix_lst (by rw [List.length_map]; exact h), List.getElem_map]
theorem len_rows' (L : List (List Int)) : lenD [.lst (L.map T)] = .ok (.int L.length) := by simp [lenD]
theorem ne_rows (a b : List (List Int)) : neD (.lst (a.map T)) (.lst (b.map T)) = .ok (.bl (!decide (a = b))) := emb_T.lst.neD (by decide) a b
theorem eq_rows (a b : List (List Int)) : eqD (.lst (a.map T)) (.lst (b.map T)) = .ok (.bl (decide (a = b))) := emb_T.lst.eqD (by decide) a b

/-! ### the law's signs, pairs -/
theorem sp__law_sign {o : List Int} {i j : Nat} (hi : i < o.length) (hj : j < o.length) : m__law_sign [T o, .int i, .int j] = .ok (.int (sg (v o i) (v o j))) := by
  simp [m__law_sign, runDef, gam0, g__law_sign, st_par2', ix_T hi, ix_T hj, sg, -st_par2]
def lprs (n : Nat) : List (Nat × Nat) := (List.range n).flatMap fun j => (List.range j).map fun i => (i, j)
theorem lprs_succ (m : Nat) : lprs (m + 1) = lprs m ++ (List.range m).map fun i => (i, m) := by
  unfold lprs
  rw [List.range_succ, List.flatMap_append]
  simp
theorem lprs_perm {n : Nat} (h : n ≤ 6) : (lprs n).Perm (prs n) := by
  have : ∀ n, n ≤ 6 → (lprs n).Perm (prs n) := by decide
  exact this n h
theorem lprs_len {n : Nat} (h : n ≤ 6) : (lprs n).length ≤ 900 := by
  have : ∀ n, n ≤ 6 → (lprs n).length ≤ 900 := by decide
  exact this n h
theorem mem_lprs {n : Nat} (h : n ≤ 6) {i j : Nat} : (i, j) ∈ lprs n ↔ i < j ∧ j < n := (lprs_perm h).mem_iff.trans mem_prs
theorem all_lprs {n : Nat} (h : n ≤ 6) (p : Nat × Nat → Bool) : (lprs n).all p = (prs n).all p := by
  rw [Bool.eq_iff_iff, List.all_eq_true, List.all_eq_true]
  exact ⟨fun q x hx => q x ((lprs_perm h).mem_iff.mpr hx), fun q x hx => q x ((lprs_perm h).mem_iff.mp hx)⟩
theorem filter_nil {α : Type} {p : α → Bool} {l : List α} : (l.filter p).isEmpty = l.all fun x => !p x := by
  induction l with
  | nil => rfl
  | cons x l ih => cases h : p x <;> simp [List.filter_cons, h, ← ih]
theorem eq_nil {ds : List D} (h : eqOk (.lst ds) = true) : eqD (.lst ds) (.lst []) = .ok (.bl ds.isEmpty) := by
  have h2 : eqOk (.lst []) = true := by decide
  unfold eqD
  rw [h, h2]
  cases ds <;> simp [D.toPy, D.toPys, PyData.eqv, PyData.eqvAll]
theorem eqOk_rows (L : List (List Int)) : eqOk (.lst (L.map T)) = true := emb_T.lst.ok (by decide) L
theorem isEmpty_map {α β : Type} (f : α → β) (l : List α) : (l.map f).isEmpty = l.isEmpty := by cases l <;> rfl
theorem in_rows (q : List Int) (L : List (List Int)) : inD (T q) (.lst (L.map T)) = .ok (.bl (decide (q ∈ L))) := by
  have h1 : eqOk (T q) = true := emb_T.ok (by decide) q
  simp only [inD, h1, eqOk_rows, Bool.and_self, if_true]
  congr 2
  rw [Bool.eq_iff_iff, decide_eq_true_iff, List.any_eq_true]
  constructor
  · rintro ⟨d, hd, e⟩
    obtain ⟨r, hr, rfl⟩ := List.mem_map.mp hd
    rw [(emb_T.eq r q).mp e] at hr
    exact hr
  · exact fun h => ⟨T q, List.mem_map.mpr ⟨q, h, rfl⟩, (emb_T.eq q q).mpr rfl⟩
theorem nin_rows (q : List Int) (L : List (List Int)) : ninD (T q) (.lst (L.map T)) = .ok (.bl (!decide (q ∈ L))) := by
  unfold ninD
  rw [in_rows]
  rfl
theorem filter_one {α : Type} [DecidableEq α] {p : α → Bool} {x : α} : ∀ {l : List α}, l.Nodup → x ∈ l → (∀ y ∈ l, p y = true ↔ y = x) → l.filter p = [x]
  | [], _, h, _ => absurd h List.not_mem_nil
  | y :: l, hn, hx, h => by
    obtain ⟨n1, n2⟩ := List.nodup_cons.mp hn
    by_cases e : y = x
    · subst e
      have : l.filter p = [] := List.filter_eq_nil_iff.mpr fun z hz hp => n1 (((h z (List.mem_cons_of_mem _ hz)).mp hp) ▸ hz)
      rw [List.filter_cons, if_pos ((h y List.mem_cons_self).mpr rfl), this]
    · have hx' : x ∈ l := (List.mem_cons.mp hx).resolve_left fun z => e z.symm
      rw [List.filter_cons, if_neg (fun z => e ((h y List.mem_cons_self).mp z)), filter_one n2 hx' fun z hz => h z (List.mem_cons_of_mem _ hz)]
/-! ### finer, as an order -/
section
variable {n : Nat} {a b c r : List Int}
theorem fin_anti (ha : Ord n a) (hb : Ord n b) (h1 : Fin n a b) (h2 : Fin n b a) : a = b := Ord.unique ha hb fun i j hi hj => ⟨h2 i j hi hj, h1 i j hi hj⟩
theorem fin_refl : Fin n a a := fun _ _ _ _ h => h
theorem fin_trans (h1 : Fin n a b) (h2 : Fin n b c) : Fin n a c := fun i j hi hj h => h1 i j hi hj (h2 i j hi hj h)
theorem beh_fin2 (ha : Ord n a) (hb : Ord n b) (h : Agr n a b) : Fin n (beh a b) b := fun i j hi hj hlt => by
  rw [beh_lt ha hb hi hj]
  have := h j i hj hi
  omega
theorem beh_least (ha : Ord n a) (hb : Ord n b) (h1 : Fin n r a) (h2 : Fin n r b) : Fin n r (beh a b) := fun i j hi hj hlt => by
  rcases (beh_lt ha hb hi hj).mp hlt with h | ⟨_, h⟩
  · exact h1 i j hi hj h
  · exact h2 i j hi hj h
/-- the sign of one order behind another -/
theorem beh_sg (ha : Ord n a) (hb : Ord n b) {i j : Nat} (hi : i < n) (hj : j < n) : sg (v (beh a b) i) (v (beh a b) j) = (if 0 < sg (v a i) (v a j) * 2 + sg (v b i) (v b j) then 1 else 0) - (if sg (v a i) (v a j) * 2 + sg (v b i) (v b j) < 0 then 1 else 0) := by
  have h1 := beh_lt ha hb hi hj
  have h2 := beh_lt ha hb hj hi
  rcases sg_cases (v (beh a b) i) (v (beh a b) j) with ⟨q, e⟩ | ⟨q, e⟩ | ⟨q, e⟩ <;> rcases sg_cases (v a i) (v a j) with ⟨q2, e2⟩ | ⟨q2, e2⟩ | ⟨q2, e2⟩ <;> rcases sg_cases (v b i) (v b j) with ⟨q3, e3⟩ | ⟨q3, e3⟩ | ⟨q3, e3⟩ <;> rw [e, e2, e3] <;> first | decide | omega
end

theorem flatten_one {α : Type} (d : α) : ∀ n : Nat, (List.replicate n [d]).flatten = List.replicate n d
  | 0 => rfl
  | n + 1 => by rw [List.replicate_succ, List.flatten_cons, flatten_one d n]; rfl
theorem mul_lst1 (d : D) {n : Nat} (h : n ≤ 900) : mulD (.lst [d]) (.int n) = .ok (.lst (List.replicate n d)) := by
  unfold mulD
  simp only [List.length_cons, List.length_nil]
  rw [if_pos ⟨by omega, small (by omega)⟩, Int.toNat_natCast, flatten_one]
theorem mul_tup1 (d : D) {n : Nat} (h1 : 1 ≤ n) (h : n ≤ 900) : mulD (.tup [d]) (.int n) = .ok (.tup (List.replicate n d)) := by
  unfold mulD
  simp only []
  by_cases c : n = 1
  · subst c
    rw [if_neg (by simp), if_pos ⟨by simp, rfl⟩]
    rfl
  · rw [if_pos ⟨by simp, by omega, by omega, by simp⟩, Int.toNat_natCast, flatten_one]
theorem eq_rep (n : Nat) {s : Str} (h : PyData.strOk s = true) : eqD (.lst (List.replicate n (.str s))) (.lst (List.replicate n (.str s))) = .ok (.bl true) := by
  have := emb_S.lst.eqD (by decide) (List.replicate n ⟨s, h⟩) (List.replicate n ⟨s, h⟩)
  simpa [SK] using this
/-! ### sayings -/
structure Say where
  w : Str
  a : Nat
  b : Nat
def sayD (s : Say) : D := .tup [.str s.w, .int s.a, .int s.b]
def isWd (w : Str) : Prop := w = "ahead" ∨ w = "like" ∨ w = "no later"
structure Say.ok (n : Nat) (s : Say) : Prop where
  w : isWd s.w
  a : s.a < n
  b : s.b < n
  ne : s.a ≠ s.b
def isBl (r : R) (b : Bool) : Bool := match r with
  | .ok (.bl c) => c == b
  | _ => false
theorem isBl_eq {r : R} {b : Bool} (h : isBl r b = true) : r = .ok (.bl b) := by
  unfold isBl at h
  split at h
  · simp at h; rw [h]
  · cases h
theorem in_words {w : Str} (h : isWd w) : ninD (.str w) (.cst [.str "ahead", .str "like", .str "no later"]) = .ok (.bl false) := by
  rcases h with rfl | rfl | rfl <;> exact isBl_eq (by decide +kernel)
theorem word_ok {w : Str} (h : isWd w) : PyData.strOk w = true := by rcases h with rfl | rfl | rfl <;> decide +kernel
theorem word_ahead {w : Str} (h : isWd w) : eqD (.str w) (.str "ahead") = .ok (.bl (decide (w = "ahead"))) := eq_strK (word_ok h) (by decide +kernel)
theorem word_like {w : Str} (h : isWd w) : eqD (.str w) (.str "like") = .ok (.bl (decide (w = "like"))) := eq_strK (word_ok h) (by decide +kernel)
theorem all_true {α : Type} (L : List α) : allD [.lst (L.map fun _ => D.bl true)] = .ok (.bl true) := by
  have h := bls_map L (fun _ => true)
  simp only [allD, h]
  simp
theorem count_ok {n x : Nat} (h : x < n) : m_is_count [.int x, .int 0, .int ((n : Int) - 1)] = .ok (.bl true) := by
  rw [sp_countN rfl, cntN_int]
  simp
  omega
/-! edges -/
structure Edge where
  one : Nat
  other : Nat
  ah : Bool
  at_ : Nat
def edD (e : Edge) : D := .tup [.int e.one, .int e.other, .bl e.ah, .int e.at_]
def edOf (p : Say × Nat) : List Edge := ⟨p.1.a, p.1.b, decide (p.1.w = "ahead"), p.2⟩ :: if p.1.w = "like" then [⟨p.1.b, p.1.a, false, p.2⟩] else []
def edgs (L : List Say) : List Edge := L.zipIdx.flatMap edOf
theorem edOf_len (p : Say × Nat) : (edOf p).length ≤ 2 := by
  unfold edOf
  split <;> simp
theorem flat_le {α β : Type} {f : α → List β} {k : Nat} (h : ∀ x, (f x).length ≤ k) : ∀ l : List α, (l.flatMap f).length ≤ l.length * k
  | [] => by simp
  | x :: l => by
    rw [List.flatMap_cons, List.length_append, List.length_cons, Nat.add_mul, Nat.one_mul]
    have := h x
    have := flat_le h l
    omega
theorem edgs_len (L : List Say) : (edgs L).length ≤ L.length * 2 := by
  have := flat_le edOf_len L.zipIdx
  rw [List.length_zipIdx] at this
  exact this
/-! ### classes -/
def LI (q : List Int) : D := .lst (q.map .int)
def clsL (o : List Int) : List (List Int) := (List.range (maxL o + 1).toNat).map fun r => rowN r o
theorem rowsD_cls (o : List Int) : rowsD (maxL o + 1).toNat o = .lst ((clsL o).map LI) := by
  unfold rowsD clsL
  rw [List.map_map]
  rfl
theorem mem_rowN {r : Nat} {o : List Int} {x : Int} : x ∈ rowN r o ↔ ∃ i : Nat, i < o.length ∧ x = i ∧ v o i = r := by
  unfold rowN
  simp only [List.mem_map, List.mem_filter, decide_eq_true_eq]
  constructor
  · rintro ⟨⟨k, i⟩, ⟨hm, hk⟩, rfl⟩
    obtain ⟨h1, h2, h3⟩ := List.mem_zipIdx hm
    simp at h1 h2 h3
    exact ⟨i, by omega, rfl, by rw [v_at (by omega), ← h3]; exact hk⟩
  · rintro ⟨i, hi, rfl, hv⟩
    refine ⟨(o[i], i), ⟨List.mem_zipIdx_iff_getElem?.mpr (List.getElem?_eq_getElem hi), ?_⟩, rfl⟩
    rw [← v_at hi]
    exact hv
theorem rowN_nodup (r : Nat) (o : List Int) : (rowN r o).Nodup := by
  unfold rowN
  rw [List.Nodup, List.pairwise_map]
  have : (o.zipIdx).Pairwise fun a b => a.2 < b.2 := by
    rw [List.pairwise_iff_getElem]
    intro i j hi hj hij
    simp
    exact hij
  exact (this.sublist List.filter_sublist).imp fun h e => by omega
/-! of classes: what comes of rows -/
def itemO : D → Option Int
  | .int x => if 0 ≤ x ∧ x ≤ 5 then some x else none
  | _ => none
theorem itemO_some {d : D} {x : Int} (h : itemO d = some x) : d = .int x ∧ 0 ≤ x ∧ x ≤ 5 := by
  unfold itemO at h
  split at h
  · split at h
    · rename_i c; cases h; exact ⟨rfl, c⟩
    · cases h
  · cases h
theorem cnt_item (d : D) : cnt d = (itemO d).isSome := by
  unfold cnt itemO
  split
  · rename_i i
    by_cases c : 0 ≤ i ∧ i ≤ 5
    · rw [if_pos c]; simp [c]
    · rw [if_neg c]; simp; omega
  · rfl
abbrev FS := List Int × List Int
def go1 : List D → Int → FS → Option FS
  | [], _, s => some s
  | d :: r, i, s => match itemO d with
    | some x => if x ∈ s.1 then none else go1 r i (s.1 ++ [x], s.2 ++ [i])
    | none => none
def goR : List (List D) → Nat → FS → Option FS
  | [], _, s => some s
  | row :: R, i, s => (go1 row i s).bind (goR R (i + 1))
theorem go1_len : ∀ {r : List D} {i : Int} {s t : FS}, go1 r i s = some t → s.1.length = s.2.length → t.1.length = t.2.length ∧ t.1.length = s.1.length + r.length
  | [], _, s, t, h, e => by cases h; exact ⟨e, rfl⟩
  | d :: r, i, s, t, h, e => by
    unfold go1 at h
    split at h
    · split at h
      · cases h
      · obtain ⟨a, b⟩ := go1_len h (by simp [e])
        refine ⟨a, ?_⟩
        simp at b ⊢
        omega
    · cases h
theorem goR_app : ∀ (A B : List (List D)) (i : Nat) (s : FS), goR (A ++ B) i s = (goR A i s).bind (goR B (i + A.length))
  | [], B, i, s => rfl
  | row :: A, B, i, s => by
    show (go1 row i s).bind (goR (A ++ B) (i + 1)) = _
    cases h : go1 row i s with
    | none => simp [goR, h]
    | some t =>
      simp only [goR, h, Option.bind_some]
      rw [goR_app A B (i + 1) t, List.length_cons, show i + 1 + A.length = i + (A.length + 1) by omega]
def keyI (is : List Int) : List Key := is.map Sum.inl
theorem hasK_I (is : List Int) (x : Int) : hasK (keyI is) (Sum.inl x) = decide (x ∈ is) := by
  unfold hasK keyI
  rw [List.any_map, Bool.eq_iff_iff, List.any_eq_true, decide_eq_true_iff]
  constructor
  · rintro ⟨y, hy, e⟩
    have := of_decide_eq_true e
    cases this
    exact hy
  · exact fun h => ⟨x, h, decide_eq_true rfl⟩
def dctI (s : FS) : D := .dK (keyI s.1) (s.2.map .int)
def cG (rows : D) (s : FS) (a b c : Sl) : Gm := [.dat rows, .own (dctI s), a, b, c]
theorem ofc_inner {rows row : D} {i : Int} : ∀ (r : List D) (s : FS) (c : Sl), (∀ q, c ≠ .own q) → (∀ d ∈ r, (tyN d).isSome = true) → s.1.length + r.length ≤ 500 →
    match go1 r i s with
    | some t => ∃ c', (∀ q, c' ≠ .own q) ∧ forL [] (tgN 4) (sSeq (sIf true (eOr (eNot (eCall 3 m_is_count (aCons (eVar 4) (aCons (eC (.int 0)) (aCons (e2 subD (eC (.int 6)) (eC (.int 1))) aNil))))) (e2 dinD (eVar 4) (eVar 1))) (sRaise "BadOrder") sPass)
  (sPut 1 (vP (eVar 2)) false (eVar 4))) r (cG rows s (.dat (.int i)) (.dat row) c) = .nx (cG rows t (.dat (.int i)) (.dat row) c')
    | none => ∃ Γ, forL [] (tgN 4) (sSeq (sIf true (eOr (eNot (eCall 3 m_is_count (aCons (eVar 4) (aCons (eC (.int 0)) (aCons (e2 subD (eC (.int 6)) (eC (.int 1))) aNil))))) (e2 dinD (eVar 4) (eVar 1))) (sRaise "BadOrder") sPass)
  (sPut 1 (vP (eVar 2)) false (eVar 4))) r (cG rows s (.dat (.int i)) (.dat row) c) = .exc "BadOrder" Γ
  | [], s, c, hc, _, _ => ⟨c, hc, rfl⟩
  | d :: r, s, c, hc, ht, hz => by
    have hd := ht d List.mem_cons_self
    have hcnt := sp_count0 hd
    rw [cnt_item] at hcnt
    have e1 : tgN 4 d (cG rows s (.dat (.int i)) (.dat row) c) = some (cG rows s (.dat (.int i)) (.dat row) (.dat d)) := rfl
    unfold go1 forL
    rw [e1]
    simp only []
    cases hx : itemO d with
    | none =>
      rw [hx] at hcnt
      have : (sSeq (sIf true (eOr (eNot (eCall 3 m_is_count (aCons (eVar 4) (aCons (eC (.int 0)) (aCons (e2 subD (eC (.int 6)) (eC (.int 1))) aNil))))) (e2 dinD (eVar 4) (eVar 1))) (sRaise "BadOrder") sPass)
  (sPut 1 (vP (eVar 2)) false (eVar 4))) (cG rows s (.dat (.int i)) (.dat row) (.dat d)) = .exc "BadOrder" (cG rows s (.dat (.int i)) (.dat row) (.dat d)) := by
        rw [st_seq, st_if, tst_t]
        simp [cG, hcnt]
      simp only [this]
      exact ⟨_, rfl⟩
    | some x =>
      rw [hx] at hcnt
      obtain ⟨rfl, x0, x5⟩ := itemO_some hx
      have hdin : dinD (.int x) (dctI s) = .ok (.bl (decide (x ∈ s.1))) := by
        show Rg.ok (D.bl (hasK (keyI s.1) (Sum.inl x))) = _
        rw [hasK_I]
      by_cases c : x ∈ s.1
      · have : (sSeq (sIf true (eOr (eNot (eCall 3 m_is_count (aCons (eVar 4) (aCons (eC (.int 0)) (aCons (e2 subD (eC (.int 6)) (eC (.int 1))) aNil))))) (e2 dinD (eVar 4) (eVar 1))) (sRaise "BadOrder") sPass)
  (sPut 1 (vP (eVar 2)) false (eVar 4))) (cG rows s (.dat (.int i)) (.dat row) (.dat (.int x))) = .exc "BadOrder" (cG rows s (.dat (.int i)) (.dat row) (.dat (.int x))) := by
          rw [st_seq, st_if, tst_t]
          simp [cG, hcnt, hdin, c]
        simp only [this, if_pos c]
        exact ⟨_, rfl⟩
      · have hput : dPut (dctI s) (.int x) (.int i) = some (dctI (s.1 ++ [x], s.2 ++ [i])) := by
          unfold dPut dctI keyOf
          simp only []
          have h1 : (keyI s.1).length < sizeLine := by
            simp only [keyI, List.length_map, sizeLine_eq]
            simp only [List.length_cons] at hz
            omega
          rw [if_pos h1, hasK_I, decide_eq_false c]
          simp [keyI]
        have : (sSeq (sIf true (eOr (eNot (eCall 3 m_is_count (aCons (eVar 4) (aCons (eC (.int 0)) (aCons (e2 subD (eC (.int 6)) (eC (.int 1))) aNil))))) (e2 dinD (eVar 4) (eVar 1))) (sRaise "BadOrder") sPass)
  (sPut 1 (vP (eVar 2)) false (eVar 4))) (cG rows s (.dat (.int i)) (.dat row) (.dat (.int x))) = .nx (cG rows (s.1 ++ [x], s.2 ++ [i]) (.dat (.int i)) (.dat row) (.dat (.int x))) := by
          refine seq_step (Γ' := cG rows s (.dat (.int i)) (.dat row) (.dat (.int x))) ?_ ?_
          · rw [st_if, tst_t]
            simp [cG, hcnt, hdin, c]
          · unfold sPut
            simp [cG, hput]
        simp only [this, if_neg c]
        have ih := ofc_inner (rows := rows) (row := row) (i := i) r (s.1 ++ [x], s.2 ++ [i]) (.dat (.int x)) (fun q e => by cases e) (fun y hy => ht y (List.mem_cons_of_mem _ hy)) (by simp at hz ⊢; omega)
        exact ih

/-! ### all finer ones -/
theorem rowN_lt {r : Nat} {o : List Int} {x : Int} (h : x ∈ rowN r o) : 0 ≤ x ∧ x < o.length := by
  obtain ⟨i, h1, rfl, _⟩ := mem_rowN.mp h
  omega
theorem rowN_has {r : Nat} {o : List Int} {i : Nat} (hi : i < o.length) : (i : Int) ∈ rowN r o ↔ v o i = r := by
  rw [mem_rowN]
  constructor
  · rintro ⟨j, h1, h2, h3⟩
    have : i = j := by omega
    subst this
    exact h3
  · intro h
    exact ⟨i, hi, rfl, h⟩
theorem rowN_len {r : Nat} {o : List Int} : (rowN r o).length ≤ o.length := by
  unfold rowN
  rw [List.length_map]
  exact Nat.le_trans (List.length_filter_le _ _) (by simp)
/-- what a class's own order says of an item -/
def gOf (row own : List Int) (x : Int) : Int := v own (row.idxOf x)
theorem gOf_no {row own : List Int} {x : Int} (hl : own.length = row.length) (h : x ∉ row) : gOf row own x = 0 := by
  unfold gOf v
  rw [List.idxOf_eq_length h, ← hl]
  simp
def zpG (g : Int → Int) (q : List Int) : List (List Int) := q.zipIdx.map fun p => [p.1, g (p.2 : Nat)]
def stp (row own q : List Int) : List Int := tidy HT.lexLt (zpG (gOf row own) q)
theorem zpG_len {g : Int → Int} {q : List Int} : (zpG g q).length = q.length := by unfold zpG; simp
theorem zpG_at {g : Int → Int} {q : List Int} {i : Nat} (hi : i < q.length) : (zpG g q)[i]'(by rw [zpG_len]; exact hi) = [v q i, g i] := by
  unfold zpG
  simp [v_at hi]
theorem tidyG_lt {g : Int → Int} {q : List Int} {i j : Nat} (hi : i < q.length) (hj : j < q.length) : v (tidy HT.lexLt (zpG g q)) i < v (tidy HT.lexLt (zpG g q)) j ↔ v q i < v q j ∨ (v q i = v q j ∧ g i < g j) := by
  rw [tidy_lt linT (by rw [zpG_len]; exact hi) (by rw [zpG_len]; exact hj), zpG_at hi, zpG_at hj, HT.lexLt_cons, HT.lexLt_cons, HT.lexLt_nil_nil]
  by_cases c : v q i = v q j
  · rw [if_pos c]
    by_cases d : g i = g j
    · rw [if_pos d]
      constructor
      · intro h; cases h
      · intro h; omega
    · rw [if_neg d, decide_eq_true_iff]; omega
  · rw [if_neg c, decide_eq_true_iff]; omega
theorem tidyG_ord {g : Int → Int} {q : List Int} {n : Nat} (h : q.length = n) (h1 : 1 ≤ n) (h6 : n ≤ 6) : Ord n (tidy HT.lexLt (zpG g q)) := tidy_ord linT (by rw [zpG_len, h]) h1 h6
/-- finer ones in which the classes from c on stand as they were -/
structure InF (n : Nat) (o : List Int) (c : Nat) (q : List Int) : Prop where
  ord : Ord n q
  fin : Fin n q o
  like : ∀ i j, i < n → j < n → v o i = v o j → (c : Int) ≤ v o i → v q i = v q j
theorem InF.tri {n : Nat} {o : List Int} {c : Nat} {q : List Int} (h : InF n o c q) {i j : Nat} (hi : i < n) (hj : j < n) (e : v q i = v q j) : v o i = v o j := by
  have h1 := h.fin i j hi hj
  have h2 := h.fin j i hj hi
  omega
def grow (L : List (List Int)) (row : List Int) : List (List Int) := (evL row.length).flatMap fun own => L.map (stp row own)
section
variable {n : Nat} {o : List Int} {c : Nat}
theorem stp_lt {row own q : List Int} (hq : q.length = n) {i j : Nat} (hi : i < n) (hj : j < n) : v (stp row own q) i < v (stp row own q) j ↔ v q i < v q j ∨ (v q i = v q j ∧ gOf row own i < gOf row own j) := tidyG_lt (by omega) (by omega)
theorem stp_in (ho : Ord n o) {q own : List Int} (hl : own.length = (rowN c o).length) (hq : InF n o c q) : InF n o (c + 1) (stp (rowN c o) own q) := by
  refine ⟨tidyG_ord hq.ord.len ho.pos ho.le, fun i j hi hj h => (stp_lt hq.ord.len hi hj).mpr (.inl (hq.fin i j hi hj h)), fun i j hi hj e hc => ?_⟩
  have e1 := hq.like i j hi hj e (by omega)
  have g1 : gOf (rowN c o) own i = 0 := gOf_no hl fun m => by
    have := (rowN_has (by rw [ho.len]; exact hi)).mp m
    omega
  have g2 : gOf (rowN c o) own j = 0 := gOf_no hl fun m => by
    have := (rowN_has (by rw [ho.len]; exact hj)).mp m
    omega
  have a1 := (stp_lt (row := rowN c o) (own := own) hq.ord.len hi hj).mp
  have a2 := (stp_lt (row := rowN c o) (own := own) hq.ord.len hj hi).mp
  rw [g1, g2] at a1 a2
  omega
theorem stp_back (ho : Ord n o) {q own : List Int} (hl : own.length = (rowN c o).length) (hq : InF n o c q) {i j : Nat} (hi : i < n) (hj : j < n) :
    v q i < v q j ↔ v (stp (rowN c o) own q) i < v (stp (rowN c o) own q) j ∧ ¬ (v o i = c ∧ v o j = c) := by
  rw [stp_lt hq.ord.len hi hj]
  constructor
  · intro h
    refine ⟨.inl h, fun ⟨c1, c2⟩ => ?_⟩
    have := hq.like i j hi hj (by omega) (by omega)
    omega
  · rintro ⟨h | ⟨h1, h2⟩, h3⟩
    · exact h
    · exfalso
      have e := hq.tri hi hj h1
      have g1 : gOf (rowN c o) own i = 0 := gOf_no hl fun m => by
        have := (rowN_has (by rw [ho.len]; exact hi)).mp m
        omega
      have g2 : gOf (rowN c o) own j = 0 := gOf_no hl fun m => by
        have := (rowN_has (by rw [ho.len]; exact hj)).mp m
        omega
      omega
theorem row_at {k : Nat} (ho : Ord n o) (hk : k < (rowN c o).length) : ∃ i : Nat, i < n ∧ (rowN c o)[k] = (i : Int) ∧ v o i = c := by
  obtain ⟨i, h1, h2, h3⟩ := mem_rowN.mp (List.getElem_mem hk)
  exact ⟨i, by rw [← ho.len]; exact h1, h2, h3⟩
theorem stp_own (ho : Ord n o) {q own : List Int} (hl : own.length = (rowN c o).length) (hq : InF n o c q) {k l : Nat} (hk : k < (rowN c o).length) (hl' : l < (rowN c o).length) {i j : Nat} (hi : i < n) (hj : j < n) (ei : (rowN c o)[k] = (i : Int)) (ej : (rowN c o)[l] = (j : Int)) (ci : v o i = c) (cj : v o j = c) :
    v own k < v own l ↔ v (stp (rowN c o) own q) i < v (stp (rowN c o) own q) j := by
  have e1 := hq.like i j hi hj (by omega) (by omega)
  have g1 : gOf (rowN c o) own i = v own k := by unfold gOf; rw [← ei, (rowN_nodup c o).idxOf_getElem _ hk]
  have g2 : gOf (rowN c o) own j = v own l := by unfold gOf; rw [← ej, (rowN_nodup c o).idxOf_getElem _ hl']
  rw [stp_lt hq.ord.len hi hj, g1, g2]
  omega
theorem stp_inj (ho : Ord n o) {q q' own own' : List Int} (h1 : 1 ≤ (rowN c o).length) (hw : Ord (rowN c o).length own) (hw' : Ord (rowN c o).length own') (hq : InF n o c q) (hq' : InF n o c q')
    (e : stp (rowN c o) own q = stp (rowN c o) own' q') : q = q' ∧ own = own' := by
  refine ⟨Ord.unique hq.ord hq'.ord fun i j hi hj => ?_, Ord.unique hw hw' fun k l hk hl => ?_⟩
  · rw [stp_back ho hw.len hq hi hj, stp_back ho hw'.len hq' hi hj, e]
  · obtain ⟨i, hi, ei, ci⟩ := row_at ho hk
    obtain ⟨j, hj, ej, cj⟩ := row_at ho hl
    rw [stp_own ho hw.len hq hk hl hi hj ei ej ci cj, stp_own ho hw'.len hq' hk hl hi hj ei ej ci cj, e]
theorem stp_surj (ho : Ord n o) {r : List Int} (h1 : 1 ≤ (rowN c o).length) (hr : InF n o (c + 1) r) : ∃ own q, Ord (rowN c o).length own ∧ InF n o c q ∧ stp (rowN c o) own q = r := by
  have h6 : (rowN c o).length ≤ 6 := by have := @rowN_len c o; have := ho.len; have := ho.le; omega
  let w : Int → Int := fun x => if v o x.toNat = c then 0 else v r x.toNat
  have hQ : Ord n (tidy HT.lexLt (zpG w o)) := tidyG_ord ho.len ho.pos ho.le
  have Q : ∀ {i j : Nat}, i < n → j < n → (v (tidy HT.lexLt (zpG w o)) i < v (tidy HT.lexLt (zpG w o)) j ↔ v o i < v o j ∨ (v o i = v o j ∧ w i < w j)) := fun hi hj => tidyG_lt (by rw [ho.len]; exact hi) (by rw [ho.len]; exact hj)
  have wv : ∀ i : Nat, w i = if v o i = c then 0 else v r i := fun i => by simp only [w, Int.toNat_natCast]
  have hq : InF n o c (tidy HT.lexLt (zpG w o)) := by
    refine ⟨hQ, fun i j hi hj h => (Q hi hj).mpr (.inl h), fun i j hi hj e hc => ?_⟩
    have a1 := Q hi hj
    have a2 := Q hj hi
    rw [wv, wv] at a1 a2
    by_cases ec : v o i = c
    · rw [if_pos ec, if_pos (by omega)] at a1 a2
      omega
    · have := hr.like i j hi hj e (by omega)
      rw [if_neg ec, if_neg (by omega)] at a1 a2
      omega
  have hl : (tidy ltI ((rowN c o).map fun x => v r x.toNat)).length = (rowN c o).length := by rw [tidy_len, List.length_map]
  have hw : Ord (rowN c o).length (tidy ltI ((rowN c o).map fun x => v r x.toNat)) := tidy_ord linI (by rw [List.length_map]) h1 h6
  refine ⟨_, _, hw, hq, Ord.unique (stp_in ho hl hq).ord hr.ord fun i j hi hj => ?_⟩
  rw [stp_lt hQ.len hi hj]
  by_cases e : v o i = v o j
  · by_cases ec : v o i = c
    · have m1 : (i : Int) ∈ rowN c o := (rowN_has (by rw [ho.len]; exact hi)).mpr ec
      have m2 : (j : Int) ∈ rowN c o := (rowN_has (by rw [ho.len]; exact hj)).mpr (by omega)
      have l1 := List.idxOf_lt_length_of_mem m1
      have l2 := List.idxOf_lt_length_of_mem m2
      have g : gOf (rowN c o) (tidy ltI ((rowN c o).map fun x => v r x.toNat)) i < gOf (rowN c o) (tidy ltI ((rowN c o).map fun x => v r x.toNat)) j ↔ v r i < v r j := by
        unfold gOf
        rw [tidy_lt linI (by rw [List.length_map]; exact l1) (by rw [List.length_map]; exact l2), List.getElem_map, List.getElem_map, List.getElem_idxOf l1, List.getElem_idxOf l2]
        simp [ltI]
      have a1 := Q hi hj
      have a2 := Q hj hi
      rw [wv, wv, if_pos ec, if_pos (by omega)] at a1 a2
      rw [g]
      omega
    · have m1 : (i : Int) ∉ rowN c o := fun m => ec ((rowN_has (by rw [ho.len]; exact hi)).mp m)
      have m2 : (j : Int) ∉ rowN c o := fun m => ec (e.trans ((rowN_has (by rw [ho.len]; exact hj)).mp m))
      rw [gOf_no hl m1, gOf_no hl m2, Q hi hj, wv, wv, if_neg ec, if_neg (by omega)]
      omega
  · have q1 := Q hi hj
    have q2 := Q hj hi
    have r1 := hr.fin i j hi hj
    have r2 := hr.fin j i hj hi
    omega
theorem grow_ok (ho : Ord n o) (h1 : 1 ≤ (rowN c o).length) {L : List (List Int)} (nd : L.Nodup) (hm : ∀ q, q ∈ L ↔ InF n o c q) : (grow L (rowN c o)).Nodup ∧ ∀ q, q ∈ grow L (rowN c o) ↔ InF n o (c + 1) q := by
  have h6 : (rowN c o).length ≤ 6 := by have := @rowN_len c o; have := ho.len; have := ho.le; omega
  constructor
  · unfold grow
    rw [List.Nodup, List.pairwise_flatMap]
    constructor
    · intro own hw
      have hw := (mem_evL h1 h6).mp hw
      rw [List.pairwise_map]
      exact nd.imp_of_mem fun {a b} ha hb hne e => hne (stp_inj ho h1 hw hw ((hm a).mp ha) ((hm b).mp hb) e).1
    · refine (rise_nodup (rise_evL _)).imp_of_mem fun {a b} ha hb hne => ?_
      have ha := (mem_evL h1 h6).mp ha
      have hb := (mem_evL h1 h6).mp hb
      intro x hx y hy e
      obtain ⟨p, hp, rfl⟩ := List.mem_map.mp hx
      obtain ⟨q, hq, e2⟩ := List.mem_map.mp hy
      exact hne (stp_inj ho h1 ha hb ((hm p).mp hp) ((hm q).mp hq) (e.trans e2.symm)).2
  · intro q
    unfold grow
    rw [List.mem_flatMap]
    constructor
    · rintro ⟨own, hw, hq⟩
      have hw := (mem_evL h1 h6).mp hw
      obtain ⟨p, hp, rfl⟩ := List.mem_map.mp hq
      exact stp_in ho hw.len ((hm p).mp hp)
    · intro hq
      obtain ⟨own, p, hw, hp, e⟩ := stp_surj ho h1 hq
      exact ⟨own, (mem_evL h1 h6).mpr hw, List.mem_map.mpr ⟨p, (hm p).mpr hp, e⟩⟩
/-- the fold, after c classes -/
def finK (o : List Int) (c : Nat) : List (List Int) := (List.range c).foldl (fun L r => grow L (rowN r o)) [o]
theorem finK_succ : finK o (c + 1) = grow (finK o c) (rowN c o) := by
  unfold finK
  rw [List.range_succ, List.foldl_append]
  rfl
theorem row_pos (ho : Ord n o) (hc : (c : Int) ≤ maxL o) : 1 ≤ (rowN c o).length := by
  have : (c : Int) ∈ o := dense_all ho.dn (maxL o).toNat (maxL o) (maxL_mem ho.ne).1 (by have := (ho.lt (maxL_mem ho.ne).1).1; omega) c (by omega)
  obtain ⟨i, h1, h2⟩ := mem_v this
  exact List.length_pos_of_mem ((rowN_has h1).mpr h2)
theorem finK_ok (ho : Ord n o) : ∀ c : Nat, (c : Int) ≤ maxL o + 1 → (finK o c).Nodup ∧ ∀ q, q ∈ finK o c ↔ InF n o c q
  | 0, _ => by
    refine ⟨List.pairwise_singleton _ _, fun q => ?_⟩
    unfold finK
    rw [List.range_zero, List.foldl_nil, List.mem_singleton]
    constructor
    · rintro rfl
      exact ⟨ho, fin_refl, fun i j _ _ e _ => e⟩
    · intro h
      refine Ord.unique h.ord ho fun i j hi hj => ?_
      constructor
      · intro hlt
        have a := h.fin j i hj hi
        have b := h.like i j hi hj
        have := (ho.v hi).1
        omega
      · exact h.fin i j hi hj
  | c + 1, hc => by
    obtain ⟨h1, h2⟩ := finK_ok ho c (by omega)
    rw [finK_succ]
    exact grow_ok ho (row_pos ho (by omega)) h1 h2
noncomputable def fins (n : Nat) (o : List Int) : List (List Int) := (evL n).filter fun q => decide (Fin n q o)
theorem mem_fins (ho : Ord n o) {q : List Int} : q ∈ fins n o ↔ Ord n q ∧ Fin n q o := by
  unfold fins
  rw [List.mem_filter, mem_evL ho.pos ho.le, decide_eq_true_iff]
theorem rise_fins : Rise (fins n o) := (rise_evL n).sublist List.filter_sublist
theorem finK_end (ho : Ord n o) : (finK o (maxL o + 1).toNat).Nodup ∧ ∀ q, q ∈ finK o (maxL o + 1).toNat ↔ Ord n q ∧ Fin n q o := by
  have m0 := (ho.lt (maxL_mem ho.ne).1).1
  obtain ⟨h1, h2⟩ := finK_ok ho (maxL o + 1).toNat (by omega)
  refine ⟨h1, fun q => (h2 q).trans ⟨fun h => ⟨h.ord, h.fin⟩, fun h => ⟨h.1, h.2, fun i j hi hj e hc => ?_⟩⟩⟩
  have := (maxL_mem ho.ne).2 _ (v_mem (o := o) (i := i) (by rw [ho.len]; exact hi))
  omega
theorem finK_sort (ho : Ord n o) : sortL (finK o (maxL o + 1).toNat) = fins n o := by
  obtain ⟨h1, h2⟩ := finK_end ho
  exact rise_ext (sortL_rise h1) rise_fins fun z => ((sortL_perm _).mem_iff.trans (h2 z)).trans (mem_fins ho).symm
theorem evL_len6 {n : Nat} (h1 : 1 ≤ n) (h6 : n ≤ 6) : (evL n).length ≤ 46656 := by rw [← evP_is h1 h6]; exact evP_len h6 (Nat.le_refl _)
theorem finK_len (ho : Ord n o) {c : Nat} (hc : (c : Int) ≤ maxL o + 1) : (finK o c).length ≤ 46656 := by
  obtain ⟨h1, h2⟩ := finK_ok ho c hc
  refine Nat.le_trans (nodup_len h1 fun q hq => (mem_evL ho.pos ho.le).mpr ((h2 q).mp hq).ord) ?_
  rw [← evP_is ho.pos ho.le]
  exact evP_len ho.le (Nat.le_refl _)
end
/-! its walk -/
theorem keyI_app (a b : List Int) : keyI (a ++ b) = keyI a ++ keyI b := by simp [keyI]
theorem mrg_pairs : ∀ (row own r0 o0 : List Int), row.length = own.length → (r0 ++ row).Nodup → dMrg ((row.zip own).map fun p => .tup [.int p.1, .int p.2]) (keyI r0) (o0.map .int) = some (keyI (r0 ++ row), (o0 ++ own).map .int)
  | [], [], r0, o0, _, _ => by unfold dMrg; simp
  | [], _ :: _, _, _, h, _ => by simp at h
  | _ :: _, [], _, _, h, _ => by simp at h
  | x :: row, y :: own, r0, o0, h, nd => by
    have hx : x ∉ r0 := fun m => by
      have := (List.nodup_append.mp nd).2.2 x m x List.mem_cons_self
      exact this rfl
    have hk : hasK (keyI r0) (Sum.inl x) = false := by rw [hasK_I, decide_eq_false hx]
    rw [List.zip_cons_cons, List.map_cons]
    unfold dMrg
    simp only [keyOf, hk]
    have := mrg_pairs row own (r0 ++ [x]) (o0 ++ [y]) (by simpa using h) (by rw [List.append_assoc]; exact nd)
    rw [keyI_app, List.map_append] at this
    simpa [keyI] using this
theorem look_I : ∀ (row own : List Int) (x : Int), row.length = own.length → (lookD (keyI row) (own.map D.int) (Sum.inl x)).getD (.int 0) = .int (gOf row own x)
  | [], [], x, _ => by unfold lookD; simp [keyI, gOf, v]
  | [], _ :: _, _, h => by simp at h
  | _ :: _, [], _, h => by simp at h
  | r :: row, y :: own, x, h => by
    have ih := look_I row own x (by simpa using h)
    simp only [keyI, List.map_cons] at ih ⊢
    unfold lookD
    by_cases c : r = x
    · subst c
      simp [gOf, v]
    · have c' : ¬ (Sum.inl r : Key) = Sum.inl x := fun e => c (by cases e; rfl)
      rw [if_neg c', ih]
      unfold gOf v
      rw [List.idxOf_cons]
      have : (r == x) = false := by simp [c]
      rw [this]
      simp
theorem dict_I {row own : List Int} (hl : row.length = own.length) (nd : row.Nodup) : dictD [.lst ((row.zip own).map fun p => .tup [.int p.1, .int p.2])] = .ok (.dK (keyI row) (own.map .int)) := by
  have := mrg_pairs row own [] [] hl (by simpa using nd)
  have e : keyI [] = [] := rfl
  rw [List.nil_append, List.nil_append, e, List.map_nil] at this
  unfold dictD
  simp only [this]
theorem zip_IT (row own : List Int) : zipD [LI row, T own] = .ok (.lst ((row.zip own).map fun p => .tup [.int p.1, .int p.2])) := by
  unfold LI T zipD
  simp [seqD, List.zip_map, List.map_map, Function.comp_def]
@[simp] theorem ev_get (fo fk fz : Gm → R) (Γ : Gm) : eGet fo fk fz Γ = (fo Γ).bind fun d => if isDct d then (fk Γ).bind fun k => (fz Γ).bind fun z => getD2 d k z else .bad := id rfl
theorem get_I {row own : List Int} (hl : row.length = own.length) (x : Int) : getD2 (.dK (keyI row) (own.map .int)) (.int x) (.int 0) = .ok (.int (gOf row own x)) := by
  unfold getD2
  simp only [keyOf, look_I row own x hl]
def fiE : Gm → R := eCall 1 m_tidied (aCons (eLc [7, 8] (iEn (aCons (eVar 6) aNil)) (tgT 2 (tgCons (tgN 7) (tgCons (tgN 8) tgNil))) (eC (.bl true)) (eTup (aCons (eVar 8) (aCons (eGet (eVar 5) (eVar 7) (eC (.int 0))) aNil)))) aNil)
theorem sp_stp {row own q : List Int} (h1 : 1 ≤ q.length) (h6 : q.length ≤ 6) (hq : ∀ x ∈ q, 0 ≤ x) (hw : ∀ x ∈ own, 0 ≤ x) (hl : row.length = own.length) {s0D s1D s2D s4D : D} :
    fiE [.dat s0D, .dat s1D, .dat s2D, .no, .dat s4D, .dat (.dK (keyI row) (own.map .int)), .dat (T q), .no, .no] = .ok (T (stp row own q)) := by
  have hen : iEn (aCons (eVar 6) aNil) [.dat s0D, .dat s1D, .dat s2D, .no, .dat s4D, .dat (.dK (keyI row) (own.map .int)), .dat (T q), .no, .no] = .ok (q.zipIdx.map fun p => .tup [.int (p.2 : Nat), .int p.1]) := by
    have := enumL_map D.int q 0
    simp [T, this]
  have key := lc_of (vs := [7, 8]) (t := tgT 2 (tgCons (tgN 7) (tgCons (tgN 8) tgNil))) (fe := eTup (aCons (eVar 8) (aCons (eGet (eVar 5) (eVar 7) (eC (.int 0))) aNil))) (l := q.zipIdx) (f := fun p : Int × Nat => D.tup [.int (p.2 : Nat), .int p.1]) (h := fun p => T [p.1, gOf row own (p.2 : Nat)]) hen (by simp; omega) fun p hp =>
    ⟨[.dat s0D, .dat s1D, .dat s2D, .no, .dat s4D, .dat (.dK (keyI row) (own.map .int)), .dat (T q), .dat (.int (p.2 : Nat)), .dat (.int p.1)], rfl, by simp [isDct, get_I hl]; rfl⟩
  have key2 : (q.zipIdx.map fun p => T [p.1, gOf row own (p.2 : Nat)]) = (zpG (gOf row own) q).map T := by unfold zpG; rw [List.map_map]; rfl
  rw [key2] at key
  have g0 : ∀ x, 0 ≤ gOf row own x := fun x => by
    unfold gOf
    by_cases c : row.idxOf x < own.length
    · exact hw _ (v_mem c)
    · unfold v
      rw [List.getD_eq_getElem?_getD, List.getElem?_eq_none (by omega)]
      exact Int.le_refl _
  have zl : (zpG (gOf row own) q).length = q.length := zpG_len
  have ht := sp_tidiedP (rows := zpG (gOf row own) q) (fun e => by rw [e] at zl; simp at zl; omega) (by
    have key : ∀ r ∈ zpG (gOf row own) q, r.length = 2 ∧ ∀ i ∈ r, 0 ≤ i := fun r hr => by
      obtain ⟨p, hp, rfl⟩ := List.mem_map.mp hr
      refine ⟨rfl, fun i hi => ?_⟩
      simp only [List.mem_cons, List.not_mem_nil, or_false] at hi
      rcases hi with e | e
      · rw [e]; exact hq _ (List.fst_mem_of_mem_zipIdx hp)
      · rw [e]; exact g0 _
    generalize zpG (gOf row own) q = rows at key
    cases rows with
    | nil => rfl
    | cons r rs =>
      unfold okT
      rw [Bool.and_eq_true, decide_eq_true_eq, List.all_eq_true]
      refine ⟨by rw [(key r List.mem_cons_self).1]; omega, fun q hq => ?_⟩
      rw [Bool.and_eq_true, decide_eq_true_eq, List.all_eq_true]
      exact ⟨(key q hq).1.trans (key r List.mem_cons_self).1.symm, fun i hi => decide_eq_true ((key q hq).2 i hi)⟩) (by omega)
  unfold fiE
  rw [ev_call, ev_cons, key]
  simp [ht, stp]
def fiIn : Gm → O := sSeq (sSet 5 (vP (eB dictD (aCons (eLZ (aCons (eVar 2) (aCons (eVar 4) aNil))) aNil)))) (sExt 3 (vP (eLc [6] (iSeq (eVar 1)) (tgN 6) (eC (.bl true)) fiE)))
theorem fi_inner {n : Nat} {o row own : List Int} {L M : List (List Int)} (hL : ∀ q ∈ L, Ord n q) (hw : Ord row.length own) (nd : row.Nodup) (hz : L.length ≤ 46656) (hm : M.length + L.length ≤ 46656) :
    fiIn [.dat (T o), .dat (.lst (L.map T)), .dat (LI row), .own (.lst (M.map T)), .dat (T own), .no, .no, .no, .no] =
      .nx [.dat (T o), .dat (.lst (L.map T)), .dat (LI row), .own (.lst ((M ++ L.map (stp row own)).map T)), .dat (T own), .dat (.dK (keyI row) (own.map .int)), .no, .no, .no] := by
  have hs : (50000 : Nat) ≤ sizeLine := by rw [sizeLine_eq]; omega
  refine seq_step (Γ' := [.dat (T o), .dat (.lst (L.map T)), .dat (LI row), .own (.lst (M.map T)), .dat (T own), .dat (.dK (keyI row) (own.map .int)), .no, .no, .no]) ?_ ?_
  · simp [zip_IT, dict_I hw.len.symm nd]
  · have hlc : eLc [6] (iSeq (eVar 1)) (tgN 6) (eC (.bl true)) fiE [.dat (T o), .dat (.lst (L.map T)), .dat (LI row), .own (.lst (M.map T)), .dat (T own), .dat (.dK (keyI row) (own.map .int)), .no, .no, .no] = .ok (.lst ((L.map (stp row own)).map T)) := by
      rw [List.map_map]
      refine lc_ofG (f := T) (by simp) (by omega) fun q hq => ⟨[.dat (T o), .dat (.lst (L.map T)), .dat (LI row), .no, .dat (T own), .dat (.dK (keyI row) (own.map .int)), .dat (T q), .no, .no], rfl, ?_⟩
      have hq := hL q hq
      exact sp_stp (by rw [hq.len]; exact hq.pos) (by rw [hq.len]; exact hq.le) (fun x hx => (hq.lt hx).1) (fun x hx => (hw.lt hx).1) hw.len.symm
    have := st_ext (i := 3) (ds0 := M.map T) (ds := M.map T) rfl ((ev_vP _ _).trans (congrArg (fun r : R => r.bind fun d => Rg.ok (d, _)) hlc)) rfl (by simp; omega)
    refine this.trans ?_
    rw [List.map_append]
    rfl
theorem len_LI (row : List Int) : lenD [LI row] = .ok (.int row.length) := by simp [LI, lenD]
theorem grow_len (L : List (List Int)) (row : List Int) : (grow L row).length = (evL row.length).length * L.length := by
  unfold grow
  exact flatMap_len (fun own => by rw [List.length_map]) _
/-! ### things and keys -/
structure ThOk (F : Nat) (L : List (List Int)) : Prop where
  pos : 1 ≤ L.length
  le : L.length ≤ 6
  f1 : 1 ≤ F
  f4 : F ≤ 4
  len : ∀ t ∈ L, t.length = F
  bd : ∀ t ∈ L, ∀ x ∈ t, -1000000 ≤ x ∧ x ≤ 1000000
abbrev Ky := Nat × Bool
def KD (k : Ky) : D := .tup [.int k.1, .bl k.2]
structure KyOk (F : Nat) (K : List Ky) : Prop where
  le : K.length ≤ 6
  lt : ∀ k ∈ K, k.1 < F
def wor (t : List Int) (k : Ky) : Int := if k.2 then v t k.1 else 0 - v t k.1
def rk (K : List Ky) (t : List Int) : List Int := K.map (wor t)
def rnk (L : List (List Int)) (K : List Ky) : List Int := tidy HT.lexLt (L.map (rk K))
theorem ThOk.ne {F : Nat} {L : List (List Int)} (h : ThOk F L) : L ≠ [] := fun e => by have := h.pos; rw [e] at this; simp at this
theorem ix_K0 (k : Ky) : ixD (KD k) (.int 0) = .ok (.int k.1) := ix_tup (ds := [.int (k.1 : Int), .bl k.2]) (i := 0) (by simp)
theorem ix_K1 (k : Ky) : ixD (KD k) (.int 1) = .ok (.bl k.2) := ix_tup (ds := [.int (k.1 : Int), .bl k.2]) (i := 1) (by simp)
theorem okU_rk (K : List Ky) : ∀ L : List (List Int), okU (L.map (rk K)) = true
  | [] => rfl
  | t :: L => by
    unfold okU
    rw [List.map_cons]
    simp only [List.all_eq_true, decide_eq_true_eq]
    intro q hq
    obtain ⟨r, _, rfl⟩ := List.mem_map.mp hq
    simp [rk]
theorem sub_wor {F : Nat} {t : List Int} (ht : t.length = F) {k : Ky} (hk : k.1 < F) : (B3 (.bl k.2) (ixD (T t) (.int (k.1 : Nat))) ((ixD (T t) (.int (k.1 : Nat))).bind fun e => subD (.int 0) e)) = .ok (.int (wor t k)) := by
  have := ix_T (o := t) (i := k.1) (by omega)
  rw [this]
  unfold wor
  cases k.2 <;> simp
/-! what is told of a thing, of a key -/
def thO (F : Nat) (d : D) : Prop := ∃ t : List Int, d = T t ∧ t.length = F ∧ 1 ≤ F ∧ F ≤ 4 ∧ ∀ x ∈ t, -1000000 ≤ x ∧ x ≤ 1000000
section
variable {F : Nat} {L : List (List Int)} {K : List Ky} {t0 : List Int} {r : List D} {kd : D}
/-- what all of a thing's worths are let by for -/
theorem nt_all {ds : List D} {d0 : D} {kd x : D} (hd : ∀ d ∈ ds, (tyN d).isSome = true) (hl : ds.length ≤ 900) : eB allD (aCons (eLc [4] (iSeq (eVar 2)) (tgN 4) (eC (.bl true)) (eCall 3 m_is_count (aCons (eVar 4) (aCons (e2 subD (eC (.int 0)) (eC (.int 1000000))) (aCons (eC (.int 1000000)) aNil))))) aNil) [.dat d0, .dat kd, .dat (.tup ds), .no, .no] = .ok (.bl (ds.all (cntN (-1000000) 1000000))) := by
  refine B1_ok (a := .lst (ds.map fun d => .bl (cntN (-1000000) 1000000 d))) ?_ (all_bl _ _)
  refine (lc_of (l := ds) (f := fun d => d) (h := fun d => .bl (cntN (-1000000) 1000000 d)) (by simp) (by omega) fun d hdm => ⟨[.dat d0, .dat kd, .dat (.tup ds), .no, .dat d], rfl, ?_⟩)
  have := sp_countN (lo := -1000000) (hi := 1000000) (hd d hdm)
  simp [this]
end

/-! ### what is told, kept -/
def kps (o : List Int) (s : Say) : Bool := if s.w = "ahead" then decide (v o s.a < v o s.b) else if s.w = "like" then decide (v o s.a = v o s.b) else decide (v o s.a ≤ v o s.b)
def Kps (o : List Int) (L : List Say) : Bool := L.all (kps o)
def b01 (b : Bool) : Int := if b then 1 else 0
/-- ranks that keep all steps -/
def Sat (f : Nat → Int) (E : List Edge) : Prop := ∀ e ∈ E, f e.one + b01 e.ah ≤ f e.other
theorem mem_edgs {L : List Say} {e : Edge} : e ∈ edgs L ↔ ∃ s, L[e.at_]? = some s ∧ ((e.one = s.a ∧ e.other = s.b ∧ e.ah = decide (s.w = "ahead")) ∨ (s.w = "like" ∧ e.one = s.b ∧ e.other = s.a ∧ e.ah = false)) := by
  unfold edgs
  rw [List.mem_flatMap]
  constructor
  · rintro ⟨⟨s, i⟩, hp, he⟩
    have hs := List.mem_zipIdx_iff_getElem?.mp hp
    unfold edOf at he
    rcases List.mem_cons.mp he with rfl | he
    · exact ⟨s, hs, .inl ⟨rfl, rfl, rfl⟩⟩
    · split at he
      · rename_i c
        rw [List.mem_singleton] at he
        subst he
        exact ⟨s, hs, .inr ⟨c, rfl, rfl, rfl⟩⟩
      · cases he
  · rintro ⟨s, hs, h⟩
    refine ⟨(s, e.at_), List.mem_zipIdx_iff_getElem?.mpr hs, ?_⟩
    unfold edOf
    obtain ⟨one, other, ah, at_⟩ := e
    rcases h with ⟨rfl, rfl, rfl⟩ | ⟨c, rfl, rfl, rfl⟩
    · exact List.mem_cons_self
    · rw [if_pos c]
      simp
theorem kps_sat {o : List Int} {L : List Say} (hw : ∀ s ∈ L, isWd s.w) : Kps o L = true ↔ Sat (v o) (edgs L) := by
  unfold Kps
  rw [List.all_eq_true]
  constructor
  · intro h e he
    obtain ⟨s, hs, hh⟩ := mem_edgs.mp he
    have hk := h s (List.mem_of_getElem? hs)
    unfold kps at hk
    rcases hh with ⟨h1, h2, h3⟩ | ⟨h0, h1, h2, h3⟩
    · rw [h1, h2, h3]
      by_cases c : s.w = "ahead"
      · rw [if_pos c, decide_eq_true_iff] at hk
        simp only [c, decide_true, b01, if_true]
        omega
      · rw [if_neg c] at hk
        simp only [c, decide_false, b01]
        split at hk <;> rw [decide_eq_true_iff] at hk <;> simp <;> omega
    · rw [h1, h2, h3]
      have c : ¬ s.w = "ahead" := fun z => by rw [h0] at z; exact absurd z (by decide +kernel)
      rw [if_neg c, if_pos h0, decide_eq_true_iff] at hk
      simp only [b01]
      simp
      omega
  · intro h s hs
    obtain ⟨i, hi, rfl⟩ := List.getElem_of_mem hs
    have hg : L[i]? = some L[i] := List.getElem?_eq_getElem hi
    have e1 := h ⟨L[i].a, L[i].b, decide (L[i].w = "ahead"), i⟩ (mem_edgs.mpr ⟨L[i], hg, .inl ⟨rfl, rfl, rfl⟩⟩)
    unfold kps
    by_cases c : L[i].w = "ahead"
    · rw [if_pos c, decide_eq_true_iff]
      simp only [c, decide_true, b01, if_true] at e1
      omega
    · rw [if_neg c]
      simp only [c, decide_false, b01] at e1
      simp at e1
      by_cases c2 : L[i].w = "like"
      · have e2 := h ⟨L[i].b, L[i].a, false, i⟩ (mem_edgs.mpr ⟨L[i], hg, .inr ⟨c2, rfl, rfl, rfl⟩⟩)
        simp only [b01] at e2
        simp at e2
        rw [if_pos c2, decide_eq_true_iff]
        omega
      · rw [if_neg c2, decide_eq_true_iff]
        omega
theorem edgs_lt {n : Nat} {L : List Say} (hL : ∀ s ∈ L, s.ok n) {e : Edge} (he : e ∈ edgs L) : e.one < n ∧ e.other < n ∧ e.one ≠ e.other ∧ e.at_ < L.length := by
  obtain ⟨s, hs, hh⟩ := mem_edgs.mp he
  have ok := hL s (List.mem_of_getElem? hs)
  have hi := (List.getElem?_eq_some_iff.mp hs).1
  have := ok.a
  have := ok.b
  have := ok.ne
  rcases hh with ⟨h1, h2, _⟩ | ⟨_, h1, h2, _⟩
  · exact ⟨by omega, by omega, by omega, hi⟩
  · exact ⟨by omega, by omega, by omega, hi⟩
/-! ### levels, in plain -/
def lstep (s : List Int × Bool) (e : Edge) : List Int × Bool := if v s.1 e.other < v s.1 e.one + b01 e.ah then (s.1.set e.other (v s.1 e.one + b01 e.ah), false) else s
def lpass (E : List Edge) (row : List Int) : List Int × Bool := E.foldl lstep (row, true)
def levelsP (E : List Edge) : Nat → List Int → Option (List Int)
  | 0, _ => none
  | k + 1, row => if (lpass E row).2 = true then some (lpass E row).1 else levelsP E k (lpass E row).1
theorem v_set {row : List Int} {i j : Nat} {x : Int} (hi : i < row.length) : v (row.set i x) j = if j = i then x else v row j := by
  unfold v
  rw [List.getD_eq_getElem?_getD, List.getD_eq_getElem?_getD]
  by_cases c : j = i
  · subst c
    rw [if_pos rfl, List.getElem?_set_self hi]
    rfl
  · rw [if_neg c, List.getElem?_set_ne (fun z => c z.symm)]
theorem sum_set : ∀ {row : List Int} {i : Nat} {x : Int}, i < row.length → (row.set i x).sum = row.sum - v row i + x
  | [], _, _, h => by simp at h
  | y :: row, 0, x, _ => by simp [v]; omega
  | y :: row, i + 1, x, h => by
    have := sum_set (row := row) (i := i) (x := x) (by simpa using h)
    simp only [List.set_cons_succ, List.sum_cons, this]
    have : v (y :: row) (i + 1) = v row i := by simp [v]
    rw [this]
    omega
structure LInv (n : Nat) (r0 : List Int) (s : List Int × Bool) : Prop where
  len : s.1.length = n
  up : ∀ i, v r0 i ≤ v s.1 i
  same : s.2 = true → s.1 = r0
  sum : s.2 = false → r0.sum + 1 ≤ s.1.sum
  sum0 : r0.sum ≤ s.1.sum
theorem lfold {n : Nat} {r0 : List Int} : ∀ (E : List Edge), (∀ e ∈ E, e.one < n ∧ e.other < n) → ∀ (s : List Int × Bool), LInv n r0 s →
    LInv n r0 (E.foldl lstep s) ∧ ((E.foldl lstep s).2 = true → s.2 = true ∧ Sat (v r0) E) ∧ ∀ f : Nat → Int, Sat f E → (∀ i, i < n → v s.1 i ≤ f i) → ∀ i, i < n → v (E.foldl lstep s).1 i ≤ f i
  | [], _, s, I => ⟨I, fun h => ⟨h, fun e he => by cases he⟩, fun f _ h => h⟩
  | e :: E, hE, s, I => by
    obtain ⟨h1, h2⟩ := hE e List.mem_cons_self
    have hl := I.len
    rw [List.foldl_cons]
    by_cases c : v s.1 e.other < v s.1 e.one + b01 e.ah
    · have es : lstep s e = (s.1.set e.other (v s.1 e.one + b01 e.ah), false) := if_pos c
      have hs := sum_set (row := s.1) (i := e.other) (x := v s.1 e.one + b01 e.ah) (by omega)
      have hsum0 := I.sum0
      have I' : LInv n r0 (lstep s e) := by
        rw [es]
        refine ⟨by rw [List.length_set]; exact hl, fun i => ?_, fun z => (nomatch z), fun _ => ?_, ?_⟩
        · have := I.up i
          show v r0 i ≤ v (s.1.set e.other _) i
          rw [v_set (by omega)]
          split
          · rename_i z; subst z; omega
          · exact this
        · show r0.sum + 1 ≤ (s.1.set e.other _).sum
          rw [hs]; omega
        · show r0.sum ≤ (s.1.set e.other _).sum
          rw [hs]; omega
      obtain ⟨a1, a2, a3⟩ := lfold E (fun x hx => hE x (List.mem_cons_of_mem _ hx)) (lstep s e) I'
      refine ⟨a1, fun h => ?_, fun f hf hb => a3 f (fun x hx => hf x (List.mem_cons_of_mem _ hx)) fun i hi => ?_⟩
      · have := (a2 h).1
        rw [es] at this
        cases this
      · rw [es]
        show v (s.1.set e.other _) i ≤ f i
        rw [v_set (by omega)]
        have h3 := hf e List.mem_cons_self
        split
        · rename_i z
          have := hb e.one h1
          rw [z]
          omega
        · exact hb i hi
    · have es : lstep s e = s := if_neg c
      rw [es]
      obtain ⟨a1, a2, a3⟩ := lfold E (fun x hx => hE x (List.mem_cons_of_mem _ hx)) s I
      refine ⟨a1, fun h => ⟨(a2 h).1, fun x hx => ?_⟩, fun f hf hb => a3 f (fun x hx => hf x (List.mem_cons_of_mem _ hx)) hb⟩
      rcases List.mem_cons.mp hx with rfl | hx
      · rw [I.same (a2 h).1] at c
        omega
      · exact (a2 h).2 x hx
theorem linv0 {n : Nat} {row : List Int} (h : row.length = n) : LInv n row (row, true) := ⟨h, fun _ => Int.le_refl _, fun _ => rfl, fun z => (nomatch z), Int.le_refl _⟩
theorem sum_bound {n : Nat} : ∀ {row : List Int} {m : Int}, row.length = n → (∀ x ∈ row, x ≤ m) → row.sum ≤ n * m := by
  intro row m h hb
  induction row generalizing n with
  | nil => subst h; simp
  | cons x row ih =>
    subst h
    have h1 := hb x List.mem_cons_self
    have h2 := ih rfl fun y hy => hb y (List.mem_cons_of_mem _ hy)
    rw [List.sum_cons, List.length_cons]
    have : ((row.length + 1 : Nat) : Int) * m = (row.length : Int) * m + m := by rw [Int.natCast_add, Int.add_mul]; simp
    rw [this]
    omega
section
variable {n : Nat} {E : List Edge}
/-- a row that all steps keep is found, where one there is; and it is least -/
theorem levels_some (hE : ∀ e ∈ E, e.one < n ∧ e.other < n) {m : Int} : ∀ (k : Nat) (row : List Int), row.length = n → (∃ f, Sat f E ∧ (∀ i, i < n → v row i ≤ f i) ∧ ∀ i, i < n → f i ≤ m) → n * m < row.sum + k → ∃ r, levelsP E k row = some r
  | 0, row, hl, ⟨f, _, h2, h3⟩, hk => by
    exfalso
    have : row.sum ≤ n * m := sum_bound hl fun x hx => by
      obtain ⟨i, hi, rfl⟩ := mem_v hx
      exact Int.le_trans (h2 i (by omega)) (h3 i (by omega))
    omega
  | k + 1, row, hl, ⟨f, h1, h2, h3⟩, hk => by
    obtain ⟨a1, a2, a3⟩ := lfold E hE (row, true) (linv0 hl)
    unfold levelsP
    by_cases c : (lpass E row).2 = true
    · rw [if_pos c]
      exact ⟨_, rfl⟩
    · rw [if_neg c]
      refine levels_some hE k _ a1.len ⟨f, h1, a3 f h1 h2, h3⟩ ?_
      have := a1.sum (by simpa [lpass] using c)
      show n * m < (lpass E row).1.sum + k
      have e : (lpass E row).1 = (E.foldl lstep (row, true)).1 := rfl
      rw [e]
      omega
theorem levels_is (hE : ∀ e ∈ E, e.one < n ∧ e.other < n) : ∀ (k : Nat) (row r : List Int), row.length = n → levelsP E k row = some r → r.length = n ∧ Sat (v r) E ∧ (∀ i, v row i ≤ v r i) ∧ ∀ f : Nat → Int, Sat f E → (∀ i, i < n → v row i ≤ f i) → ∀ i, i < n → v r i ≤ f i
  | 0, _, _, _, h => by cases h
  | k + 1, row, r, hl, h => by
    obtain ⟨a1, a2, a3⟩ := lfold E hE (row, true) (linv0 hl)
    unfold levelsP at h
    by_cases c : (lpass E row).2 = true
    · rw [if_pos c] at h
      injection h with h
      subst h
      have e := a1.same c
      have e' : (lpass E row).1 = row := e
      rw [e']
      exact ⟨hl, (a2 c).2, fun _ => Int.le_refl _, fun f _ h => h⟩
    · rw [if_neg c] at h
      obtain ⟨b1, b2, b3, b4⟩ := levels_is hE k _ r a1.len h
      exact ⟨b1, b2, fun i => Int.le_trans (a1.up i) (b3 i), fun f hf hb => b4 f hf (a3 f hf hb)⟩
end
/-- what found_order tells -/
def foundP (n : Nat) (L : List Say) : Option (List Int) := (levelsP (edgs L) (n * (n + 1)) (List.replicate n 0)).map (tidy ltI)
section
variable {n : Nat} {L : List Say}
theorem v_rep {i : Nat} : v (List.replicate n (0 : Int)) i = 0 := by
  unfold v
  rw [List.getD_eq_getElem?_getD, List.getElem?_replicate]
  split <;> rfl
theorem found_fit (h1 : 1 ≤ n) (h6 : n ≤ 6) (hL : ∀ s ∈ L, s.ok n) {t : List Int} (h : foundP n L = some t) : Ord n t ∧ Kps t L = true ∧ ∀ o, Ord n o → Kps o L = true → ∀ i, i < n → v t i ≤ v o i := by
  have hE : ∀ e ∈ edgs L, e.one < n ∧ e.other < n := fun e he => ⟨(edgs_lt hL he).1, (edgs_lt hL he).2.1⟩
  unfold foundP at h
  obtain ⟨r, hr, rfl⟩ := Option.map_eq_some_iff.mp h
  obtain ⟨b1, b2, b3, b4⟩ := levels_is hE _ _ r List.length_replicate hr
  have ho : Ord n (tidy ltI r) := tidy_ord linI b1 h1 h6
  have lt : ∀ i j, i < n → j < n → (v (tidy ltI r) i < v (tidy ltI r) j ↔ v r i < v r j) := fun i j hi hj => by
    rw [tidy_lt linI (by omega) (by omega), v_at (by omega), v_at (by omega)]
    simp [ltI]
  refine ⟨ho, (kps_sat fun s hs => (hL s hs).w).mpr fun e he => ?_, fun o oo hk i hi => ?_⟩
  · obtain ⟨q1, q2⟩ := hE e he
    have := b2 e he
    have l1 := lt e.one e.other q1 q2
    have l2 := lt e.other e.one q2 q1
    unfold b01 at this ⊢
    split <;> rename_i c <;> simp only [c, if_true] at this <;> (try simp at this) <;> omega
  · have hr0 : ∀ x ∈ r, 0 ≤ x := fun x hx => by
      obtain ⟨j, hj, rfl⟩ := mem_v hx
      have := b3 j
      rw [v_rep] at this
      exact this
    have d1 := dense_le ho.dn (by rw [ho.len, b1]) hr0 (fun i j hi hj hh => (lt i j (by rw [← ho.len]; exact hi) (by rw [← ho.len]; exact hj)).mp hh) (v (tidy ltI r) i).toNat i (by rw [ho.len]; exact hi) (by have := (ho.v hi).1; omega)
    have d2 := b4 (v o) ((kps_sat fun s hs => (hL s hs).w).mp hk) (fun j hj => by rw [v_rep]; exact (oo.v hj).1) i hi
    omega
theorem found_ex (hL : ∀ s ∈ L, s.ok n) {o : List Int} (ho : Ord n o) (hk : Kps o L = true) : ∃ t, foundP n L = some t := by
  have hE : ∀ e ∈ edgs L, e.one < n ∧ e.other < n := fun e he => ⟨(edgs_lt hL he).1, (edgs_lt hL he).2.1⟩
  have h1 := ho.pos
  obtain ⟨r, hr⟩ := levels_some hE (m := (n : Int) - 1) (n * (n + 1)) (List.replicate n 0) List.length_replicate ⟨v o, (kps_sat fun s hs => (hL s hs).w).mp hk, fun i hi => by rw [v_rep]; exact (ho.v hi).1, fun i hi => by have := (ho.v hi).2; omega⟩ (by
    have e : (List.replicate n (0 : Int)).sum = 0 := by simp
    rw [e]
    have e2 : ((n * (n + 1) : Nat) : Int) = (n : Int) * n + n := by push_cast; rw [Int.mul_add]; simp
    have e3 : (n : Int) * ((n : Int) - 1) = (n : Int) * n - n := by rw [Int.mul_sub]; simp
    rw [e2, e3]
    omega)
  exact ⟨tidy ltI r, by unfold foundP; rw [hr]; rfl⟩
end
/-! its walk -/
theorem put_ok {i : Nat} {h : Gm → Rg (D × Gm)} {b : Bool} {f : Gm → R} {Γ Γ1 : Gm} {d d0 k d1 : D} (hh : h Γ = .ok (d, Γ1)) (h0 : Γ1[i]? = some (.own d0)) (hk : tst b f Γ1 = .ok k) (hp : dPut d0 k d = some d1) : sPut i h b f Γ = .nx (Γ1.set i (.own d1)) := by
  unfold sPut
  simp only [hh, Rg.toS_ok, h0, hk, hp]
theorem ix_ed (e : Edge) : ixD (edD e) (.int 2) = .ok (.bl e.ah) := ix_tup (ds := [.int (e.one : Int), .int e.other, .bl e.ah, .int e.at_]) (i := 2) (by simp)
theorem put_L {row : List Int} {i : Nat} {x : Int} (h : i < row.length) : dPut (.lst (row.map .int)) (.int (i : Int)) (.int x) = some (.lst ((row.set i x).map .int)) := by
  have e : dPut (.lst (row.map .int)) (.int (i : Int)) (.int x) = (ixN (row.map D.int).length (i : Int)).map fun j => .lst ((row.map D.int).set j (.int x)) := rfl
  rw [e, ixN_nat (by rw [List.length_map]; exact h)]
  simp [List.map_set]
def lvB : Gm → O := sIf true (e2 ltD (e2 ixD (eVar 2) (eVar 6)) (e2 addD (e2 ixD (eVar 2) (eVar 5)) (eB intD (aCons (eVar 7) aNil)))) (sSeq (sPut 2 (vF (e2 addD (e2 ixD (eVar 2) (eVar 5)) (eB intD (aCons (eVar 7) aNil)))) false (eVar 6))
  (sSet 4 (vP (eC (.bl false))))) sPass
section
variable {n : Nat} {L : List Say} {tn : D}
theorem lv_step {s : List Int × Bool} (hl : s.1.length = n) {e : Edge} (h1 : e.one < n) (h2 : e.other < n) : lvB [.dat (.int (n : Int)), .dat (.lst (L.map sayD)), .own (.lst (s.1.map .int)), .dat tn, .dat (.bl s.2), .dat (.int (e.one : Nat)), .dat (.int (e.other : Nat)), .dat (.bl e.ah), .dat (.int (e.at_ : Nat))] =
    .nx [.dat (.int (n : Int)), .dat (.lst (L.map sayD)), .own (.lst ((lstep s e).1.map .int)), .dat tn, .dat (.bl (lstep s e).2), .dat (.int (e.one : Nat)), .dat (.int (e.other : Nat)), .dat (.bl e.ah), .dat (.int (e.at_ : Nat))] := by
  have i1 := ix_L (o := s.1) (i := e.one) (by omega)
  have i2 := ix_L (o := s.1) (i := e.other) (by omega)
  have hb : intD [.bl e.ah] = .ok (.int (b01 e.ah)) := rfl
  have hc : tst true (e2 ltD (e2 ixD (eVar 2) (eVar 6)) (e2 addD (e2 ixD (eVar 2) (eVar 5)) (eB intD (aCons (eVar 7) aNil)))) [.dat (.int (n : Int)), .dat (.lst (L.map sayD)), .own (.lst (s.1.map .int)), .dat tn, .dat (.bl s.2), .dat (.int (e.one : Nat)), .dat (.int (e.other : Nat)), .dat (.bl e.ah), .dat (.int (e.at_ : Nat))] = .ok (.bl (decide (v s.1 e.other < v s.1 e.one + b01 e.ah))) := by
    rw [tst_t]
    simp only [unown_own', unown_dat', unown_nil, ev_2, ev_var, ev_B, ev_cons, ev_nil, List.getElem?_cons_succ, List.getElem?_cons_zero, slR_dat, Rg.bind_ok, i1, i2, hb, add_int, lt_int]
  unfold lvB
  rw [st_if, hc, ifB_bl]
  unfold lstep
  by_cases c : v s.1 e.other < v s.1 e.one + b01 e.ah
  · rw [decide_eq_true c, if_pos rfl, if_pos c]
    refine seq_step (Γ' := [.dat (.int (n : Int)), .dat (.lst (L.map sayD)), .own (.lst ((s.1.set e.other (v s.1 e.one + b01 e.ah)).map .int)), .dat tn, .dat (.bl s.2), .dat (.int (e.one : Nat)), .dat (.int (e.other : Nat)), .dat (.bl e.ah), .dat (.int (e.at_ : Nat))]) ?_ (by simp)
    refine put_ok (Γ1 := [.dat (.int (n : Int)), .dat (.lst (L.map sayD)), .own (.lst (s.1.map .int)), .dat tn, .dat (.bl s.2), .dat (.int (e.one : Nat)), .dat (.int (e.other : Nat)), .dat (.bl e.ah), .dat (.int (e.at_ : Nat))]) (d := .int (v s.1 e.one + b01 e.ah)) (d0 := .lst (s.1.map .int)) (k := .int (e.other : Nat)) ?_ rfl (by rw [tst_f]; rfl) (put_L (by omega))
    simp only [ev_vF, unown_own', unown_dat', unown_nil, ev_2, ev_var, ev_B, ev_cons, ev_nil, List.getElem?_cons_succ, List.getElem?_cons_zero, slR_dat, Rg.bind_ok, i1, hb, add_int]
    rfl
  · rw [decide_eq_false c, if_neg Bool.false_ne_true, if_neg c]
    rfl
end

/-! ### keeps, fits -/
theorem kps_code {o : List Int} {s : Say} (hw : isWd s.w) : kps o s = !(decide (0 < sg (v o s.a) (v o s.b)) || (decide (s.w = "ahead") && decide (sg (v o s.a) (v o s.b) = 0)) || (decide (s.w = "like") && !decide (sg (v o s.a) (v o s.b) = 0))) := by
  have n1 : ¬ (("like" : Str) = "ahead") := by decide +kernel
  have n2 : ¬ (("no later" : Str) = "ahead") := by decide +kernel
  have n3 : ¬ (("no later" : Str) = "like") := by decide +kernel
  have n4 : ¬ (("ahead" : Str) = "like") := by decide +kernel
  unfold kps
  rcases sg_cases (v o s.a) (v o s.b) with ⟨c, e⟩ | ⟨c, e⟩ | ⟨c, e⟩ <;> rw [e] <;> rcases hw with h | h | h <;> rw [h] <;> simp [n1, n2, n3, n4] <;> omega
section
variable {n : Nat} {L : List Say} {o : List Int}
theorem fit_rows (h1 : 1 ≤ n) (h6 : n ≤ 6) (hL : ∀ s ∈ L, s.ok n) {vs : List Nat} {fi : Gm → Rg (List D)} {t : Tg} {ft fe : Gm → R} {Γ : Gm} {h : List Int → D} (e : fi Γ = .ok ((evL n).map T)) (H : ∀ o, Ord n o → ∃ Γ1, t (T o) (killAll vs (hideOwn Γ)) = some Γ1 ∧ ft Γ1 = .ok (.bl (Kps o L)) ∧ fe Γ1 = .ok (h o)) :
    eLc vs fi t ft fe Γ = .ok (.lst (((evL n).filter fun o => Kps o L).map h)) := by
  have hl := evL_len6 h1 h6
  have hs : (50000 : Nat) ≤ sizeLine := by rw [sizeLine_eq]; omega
  refine lc_ofFG (f := T) e (by omega) fun o ho => ?_
  obtain ⟨Γ1, a, b, c⟩ := H o ((mem_evL h1 h6).mp ho)
  exact ⟨Γ1, a, b, fun _ => c⟩
/-- what all that fit say of two items -/
def surP (n : Nat) (L : List Say) (i j : Nat) : List Int := nubS ltI (((evL n).filter fun o => Kps o L).map fun o => sg (v o i) (v o j))
theorem sg_three (x y : Int) : sg x y ∈ [-1, 0, 1] := by
  rcases sg_cases x y with ⟨_, e⟩ | ⟨_, e⟩ | ⟨_, e⟩ <;> rw [e] <;> simp
theorem sur_len {i j : Nat} : (surP n L i j).length ≤ 3 := by
  refine nodup_len (m := [-1, 0, 1]) (pw_nodup linI (nubS_pw linI _)) fun x hx => ?_
  obtain ⟨o, _, rfl⟩ := List.mem_map.mp ((mem_nubS linI _).mp hx)
  exact sg_three _ _
theorem evL_541 (h5 : n ≤ 5) : (evL n).length < 1000 := by
  have : ∀ n, n ≤ 5 → (evL n).length < 1000 := by decide +kernel
  exact this n h5
end
/-! ### ways along the steps -/
inductive Pth (E : List Edge) : Nat → List Nat → Nat → Prop
  | nil (x : Nat) : Pth E x [] x
  | snoc {x y : Nat} {q : List Nat} {e : Edge} : Pth E x q y → e ∈ E → e.one = y → Pth E x (q ++ [e.at_]) e.other
section
variable {E : List Edge}
theorem Pth.trans {x y z : Nat} {p q : List Nat} (h : Pth E x p y) (k : Pth E y q z) : Pth E x (p ++ q) z := by
  induction k with
  | nil => rw [List.append_nil]; exact h
  | snoc a b c ih => rw [← List.append_assoc]; exact .snoc ih b c
theorem Pth.sat {f : Nat → Int} (hf : Sat f E) {x y : Nat} {q : List Nat} (h : Pth E x q y) : f x ≤ f y := by
  induction h with
  | nil => omega
  | snoc a b c ih =>
    have := hf _ b
    rw [c] at this
    unfold b01 at this
    split at this <;> omega
def Rch (E : List Edge) (x y : Nat) : Prop := ∃ q, Pth E x q y
theorem Rch.refl (x : Nat) : Rch E x x := ⟨[], .nil x⟩
theorem Rch.trans {x y z : Nat} (h : Rch E x y) (k : Rch E y z) : Rch E x z := ⟨_, h.choose_spec.trans k.choose_spec⟩
theorem Rch.edge {e : Edge} (h : e ∈ E) : Rch E e.one e.other := ⟨_, .snoc (.nil e.one) h rfl⟩
theorem filter_lt {α : Type} {p q : α → Bool} : ∀ {l : List α}, (∀ x ∈ l, p x = true → q x = true) → (l.filter p).length ≤ (l.filter q).length ∧ ((∃ x ∈ l, q x = true ∧ p x = false) → (l.filter p).length + 1 ≤ (l.filter q).length)
  | [], _ => ⟨Nat.le_refl _, fun ⟨x, h, _⟩ => by cases h⟩
  | x :: l, h => by
    obtain ⟨a, b⟩ := filter_lt (l := l) fun y hy => h y (List.mem_cons_of_mem _ hy)
    have hx := h x List.mem_cons_self
    rw [List.filter_cons, List.filter_cons]
    cases hp : p x with
    | true =>
      rw [hx hp]
      simp only [if_true, List.length_cons]
      refine ⟨by omega, fun ⟨y, hy, h1, h2⟩ => ?_⟩
      rcases List.mem_cons.mp hy with rfl | hy
      · rw [hp] at h2; cases h2
      · have := b ⟨y, hy, h1, h2⟩
        omega
    | false =>
      cases hq : q x with
      | true =>
        simp only [if_true, List.length_cons]
        exact ⟨by simp; omega, fun _ => by simp; omega⟩
      | false =>
        refine ⟨by simpa using a, fun ⟨y, hy, h1, h2⟩ => ?_⟩
        rcases List.mem_cons.mp hy with rfl | hy
        · rw [hq] at h1; cases h1
        · simpa using b ⟨y, hy, h1, h2⟩
open Classical in
noncomputable def hgt (n : Nat) (E : List Edge) (i : Nat) : Int := (((List.range n).filter fun j => decide (Rch E j i ∧ ¬ Rch E i j)).length : Nat)
open Classical in
/-- no ahead in a ring: there are ranks that all steps keep -/
theorem hgt_sat {n : Nat} (hE : ∀ e ∈ E, e.one < n ∧ e.other < n) (h : ∀ e ∈ E, e.ah = true → ¬ Rch E e.other e.one) : Sat (hgt n E) E := fun e he => by
  have hed := Rch.edge he
  have sub : ∀ j ∈ List.range n, decide (Rch E j e.one ∧ ¬ Rch E e.one j) = true → decide (Rch E j e.other ∧ ¬ Rch E e.other j) = true := fun j _ hj => by
    obtain ⟨a, b⟩ := of_decide_eq_true hj
    exact decide_eq_true ⟨a.trans hed, fun z => b (hed.trans z)⟩
  obtain ⟨a, b⟩ := filter_lt sub
  unfold hgt b01
  cases hh : e.ah with
  | false => simp only [Bool.false_eq_true, if_false]; omega
  | true =>
    have := b ⟨e.one, List.mem_range.mpr (hE e he).1, decide_eq_true ⟨hed, h e he hh⟩, decide_eq_false fun z => z.2 (Rch.refl _)⟩
    simp only [if_true]
    omega
theorem fit_of {n : Nat} {L : List Say} (h1 : 1 ≤ n) (h6 : n ≤ 6) (hL : ∀ s ∈ L, s.ok n) (h : ∀ e ∈ edgs L, e.ah = true → ¬ Rch (edgs L) e.other e.one) : ∃ o, Ord n o ∧ Kps o L = true := by
  have hE : ∀ e ∈ edgs L, e.one < n ∧ e.other < n := fun e he => ⟨(edgs_lt hL he).1, (edgs_lt hL he).2.1⟩
  have hs := hgt_sat hE h
  have hl : ((List.range n).map (hgt n (edgs L))).length = n := by rw [List.length_map, List.length_range]
  have hv : ∀ i, i < n → v ((List.range n).map (hgt n (edgs L))) i = hgt n (edgs L) i := fun i hi => by
    rw [v_at (by omega), List.getElem_map, List.getElem_range]
  refine ⟨tidy ltI ((List.range n).map (hgt n (edgs L))), tidy_ord linI hl h1 h6, (kps_sat fun s hs => (hL s hs).w).mpr fun e he => ?_⟩
  obtain ⟨q1, q2⟩ := hE e he
  have := hs e he
  have lt : ∀ i j, i < n → j < n → (v (tidy ltI ((List.range n).map (hgt n (edgs L)))) i < v (tidy ltI ((List.range n).map (hgt n (edgs L)))) j ↔ hgt n (edgs L) i < hgt n (edgs L) j) := fun i j hi hj => by
    rw [tidy_lt linI (by omega) (by omega), ← v_at (by omega), ← v_at (by omega), hv i hi, hv j hj]
    simp [ltI]
  have l1 := lt e.one e.other q1 q2
  have l2 := lt e.other e.one q2 q1
  unfold b01 at this ⊢
  split <;> rename_i c <;> simp only [c, if_true] at this <;> (try simp at this) <;> omega
end
/-! ### going out from a spot, layer by layer -/
abbrev BS := List (Nat × List Nat)
def bstep (c : Nat) (p : List Nat) (S : BS) (e : Edge) : BS := if e.one = c ∧ e.other ∉ S.map Prod.fst then S ++ [(e.other, p ++ [e.at_])] else S
def bpass (E : List Edge) (S : BS) (at_ : Nat) : BS := match S[at_]? with
  | some x => E.foldl (bstep x.1 x.2) S
  | none => S
def bfs (E : List Edge) : Nat → Nat → BS → BS
  | 0, _, S => S
  | k + 1, at_, S => if at_ < S.length then bfs E k (at_ + 1) (bpass E S at_) else S
structure BI (n : Nat) (E : List Edge) (s0 p0 : Nat) (S : BS) : Prop where
  nd : (S.map Prod.fst).Nodup
  lt : ∀ x ∈ S, x.1 < n
  pth : ∀ x ∈ S, ∃ q, x.2 = p0 :: q ∧ Pth E s0 q x.1
  hd : S[0]? = some (s0, [p0])
  ln : ∀ x ∈ S, x.2.length ≤ S.length
section
variable {n : Nat} {E : List Edge} {s0 p0 : Nat}
theorem bi_step (hE : ∀ e ∈ E, e.one < n ∧ e.other < n) {S : BS} (I : BI n E s0 p0 S) {c : Nat} {p : List Nat} (hc : (c, p) ∈ S) {e : Edge} (he : e ∈ E) : BI n E s0 p0 (bstep c p S e) ∧ (∃ R, bstep c p S e = S ++ R) ∧ (e.one = c → e.other ∈ (bstep c p S e).map Prod.fst) := by
  unfold bstep
  by_cases h : e.one = c ∧ e.other ∉ S.map Prod.fst
  · rw [if_pos h]
    refine ⟨⟨?_, fun x hx => ?_, fun x hx => ?_, ?_, fun x hx => ?_⟩, ⟨_, rfl⟩, fun _ => by simp⟩
    · rw [List.map_append]
      refine List.nodup_append.mpr ⟨I.nd, by simp, fun a ha b hb => ?_⟩
      simp at hb
      subst hb
      intro z
      subst z
      exact h.2 ha
    · rcases List.mem_append.mp hx with hx | hx
      · exact I.lt x hx
      · rw [List.mem_singleton] at hx; subst hx; exact (hE e he).2
    · rcases List.mem_append.mp hx with hx | hx
      · exact I.pth x hx
      · rw [List.mem_singleton] at hx
        subst hx
        obtain ⟨q, e1, e2⟩ := I.pth (c, p) hc
        exact ⟨q ++ [e.at_], by show p ++ _ = _; rw [show p = p0 :: q from e1]; rfl, .snoc e2 he h.1⟩
    · have := I.hd
      rw [List.getElem?_append_left (by cases S with | nil => simp at this | cons a S => simp)]
      exact this
    · rw [List.length_append, List.length_singleton]
      rcases List.mem_append.mp hx with hx | hx
      · have := I.ln x hx
        omega
      · rw [List.mem_singleton] at hx
        subst hx
        have := I.ln (c, p) hc
        rw [List.length_append, List.length_singleton]
        exact Nat.succ_le_succ this
  · rw [if_neg h]
    refine ⟨I, ⟨[], by simp⟩, fun z => ?_⟩
    by_cases q : e.other ∈ S.map Prod.fst
    · exact q
    · exact absurd ⟨z, q⟩ h
theorem bi_fold (hE : ∀ e ∈ E, e.one < n ∧ e.other < n) {c : Nat} {p : List Nat} : ∀ (F : List Edge) (S : BS), (∀ e ∈ F, e ∈ E) → BI n E s0 p0 S → (c, p) ∈ S → BI n E s0 p0 (F.foldl (bstep c p) S) ∧ (∃ R, F.foldl (bstep c p) S = S ++ R) ∧ ∀ e ∈ F, e.one = c → e.other ∈ (F.foldl (bstep c p) S).map Prod.fst
  | [], S, _, I, _ => ⟨I, ⟨[], by simp⟩, fun e he => by cases he⟩
  | e :: F, S, hF, I, hc => by
    obtain ⟨a1, ⟨R, a2⟩, a3⟩ := bi_step hE I hc (hF e List.mem_cons_self)
    obtain ⟨b1, ⟨R', b2⟩, b3⟩ := bi_fold hE F (bstep c p S e) (fun x hx => hF x (List.mem_cons_of_mem _ hx)) a1 (by rw [a2]; exact List.mem_append_left _ hc)
    rw [List.foldl_cons]
    refine ⟨b1, ⟨R ++ R', by rw [b2, a2, List.append_assoc]⟩, fun x hx hxc => ?_⟩
    rcases List.mem_cons.mp hx with rfl | hx
    · rw [b2, List.map_append]
      exact List.mem_append_left _ (a3 hxc)
    · exact b3 x hx hxc
theorem bi_len {S : BS} (I : BI n E s0 p0 S) : S.length ≤ n := by
  have := nodup_len I.nd (m := List.range n) fun x hx => by
    obtain ⟨y, hy, rfl⟩ := List.mem_map.mp hx
    exact List.mem_range.mpr (I.lt y hy)
  rw [List.length_map, List.length_range] at this
  exact this
/-- closed under the steps from the first at_ spots -/
def Cl (E : List Edge) (S : BS) (at_ : Nat) : Prop := ∀ j x, j < at_ → S[j]? = some x → ∀ e ∈ E, e.one = x.1 → e.other ∈ S.map Prod.fst
theorem bfs_ok (hE : ∀ e ∈ E, e.one < n ∧ e.other < n) : ∀ (k at_ : Nat) (S : BS), BI n E s0 p0 S → Cl E S at_ → at_ ≤ S.length → n < at_ + k → BI n E s0 p0 (bfs E k at_ S) ∧ Cl E (bfs E k at_ S) (bfs E k at_ S).length
  | 0, at_, S, I, _, h1, h2 => by have := bi_len I; omega
  | k + 1, at_, S, I, hc, h1, h2 => by
    unfold bfs
    by_cases c : at_ < S.length
    · rw [if_pos c]
      have hx : S[at_]? = some S[at_] := List.getElem?_eq_getElem c
      have hp : bpass E S at_ = E.foldl (bstep S[at_].1 S[at_].2) S := by unfold bpass; rw [hx]
      obtain ⟨a1, ⟨R, a2⟩, a3⟩ := bi_fold hE E S (fun e he => he) I (c := S[at_].1) (p := S[at_].2) (List.getElem_mem c)
      rw [hp]
      refine bfs_ok hE k (at_ + 1) _ a1 (fun j x hj hjx e he hone => ?_) (by rw [a2, List.length_append]; omega) (by omega)
      rw [a2, List.getElem?_append_left (by omega)] at hjx
      by_cases q : j = at_
      · subst q
        rw [hx] at hjx
        cases hjx
        exact a3 e he hone
      · rw [a2, List.map_append]
        exact List.mem_append_left _ (hc j x (by omega) hjx e he hone)
    · rw [if_neg c]
      have : at_ = S.length := by omega
      subst this
      exact ⟨I, hc⟩
theorem bi_start {s0 : Nat} (h : s0 < n) : BI n E s0 p0 [(s0, [p0])] := ⟨by simp, fun x hx => by rw [List.mem_singleton] at hx; subst hx; exact h, fun x hx => by
  rw [List.mem_singleton] at hx
  subst hx
  exact ⟨[], rfl, .nil s0⟩, rfl, fun x hx => by rw [List.mem_singleton] at hx; subst hx; simp⟩
theorem cl_zero {S : BS} : Cl E S 0 := fun j x hj => by omega
theorem cl_reach {S : BS} (I : BI n E s0 p0 S) (hc : Cl E S S.length) {x : Nat} {q : List Nat} (h : Pth E s0 q x) : x ∈ S.map Prod.fst := by
  induction h with
  | nil =>
    have := List.mem_of_getElem? I.hd
    exact List.mem_map.mpr ⟨_, this, rfl⟩
  | snoc a b c ih =>
    obtain ⟨y, hy, e⟩ := List.mem_map.mp ih
    obtain ⟨j, hj, rfl⟩ := List.getElem_of_mem hy
    exact hc j _ hj (List.getElem?_eq_getElem hj) _ b (by rw [c]; exact e.symm)
end

@[simp] theorem ev_disp (fs : Gm → Rg (List D)) (Γ : Gm) : eDisp fs Γ = (fs Γ).bind dispD := id rfl
@[simp] theorem ev_ppNil (Γ : Gm) : ppNil Γ = .ok [] := id rfl
@[simp] theorem ev_ppCons (fk fv : Gm → R) (fs : Gm → Rg (List D)) (Γ : Gm) : ppCons fk fv fs Γ = (fk Γ).bind fun k => (fv Γ).bind fun v => (fs Γ).bind fun ds => .ok (.tup [k, v] :: ds) := id rfl
/-! ### rows of places, by spots -/
def NL (q : List Nat) : D := .lst (q.map fun i : Nat => .int (i : Int))
theorem NL_int (q : List Nat) : NL q = .lst ((q.map fun i : Nat => (i : Int)).map .int) := by unfold NL; rw [List.map_map]; rfl
def rowsB (S : BS) : D := .dK (keyI (S.map fun x => (x.1 : Int))) (S.map fun x => NL x.2)
def spotsB (S : BS) : D := .lst (S.map fun x => D.int (x.1 : Int))
theorem mem_casts {S : BS} {i : Nat} : ((i : Nat) : Int) ∈ S.map (fun x => (x.1 : Int)) ↔ i ∈ S.map Prod.fst := by
  simp only [List.mem_map]
  constructor
  · rintro ⟨x, hx, e⟩
    exact ⟨x, hx, by omega⟩
  · rintro ⟨x, hx, e⟩
    exact ⟨x, hx, by rw [e]⟩
theorem look_B : ∀ (S : BS) (c : Nat), lookD (keyI (S.map fun x => (x.1 : Int))) (S.map fun x => NL x.2) (Sum.inl (c : Int)) = (S.lookup c).map NL
  | [], c => by unfold lookD; rfl
  | (d, p) :: S, c => by
    have ih := look_B S c
    simp only [keyI, List.map_cons, List.map_map] at ih ⊢
    unfold lookD
    rw [List.lookup_cons]
    by_cases h : c = d
    · subst h
      simp
    · have h' : ¬ (Sum.inl (d : Int) : Key) = Sum.inl (c : Int) := fun e => by
        injection e with e
        exact h (by omega)
      rw [if_neg h']
      have : (c == d) = false := by simp [h]
      rw [this]
      simpa [keyI] using ih
theorem lookup_mem : ∀ {S : BS} {c : Nat} {p : List Nat}, (S.map Prod.fst).Nodup → (c, p) ∈ S → S.lookup c = some p
  | (d, q) :: S, c, p, nd, h => by
    rw [List.lookup_cons]
    rw [List.map_cons, List.nodup_cons] at nd
    rcases List.mem_cons.mp h with h | h'
    · cases h
      simp
    · have : c ≠ d := fun e => by
        subst e
        exact nd.1 (List.mem_map.mpr ⟨_, h', rfl⟩)
      have e : (c == d) = false := by simp [this]
      rw [e]
      exact lookup_mem nd.2 h'
theorem lookup_is : ∀ {S : BS} {c : Nat} {p : List Nat}, S.lookup c = some p → (c, p) ∈ S
  | [], _, _, h => by simp at h
  | (d, q) :: S, c, p, h => by
    rw [List.lookup_cons] at h
    by_cases e : c = d
    · subst e
      simp at h
      subst h
      exact List.mem_cons_self
    · have e : (c == d) = false := by simp [e]
      rw [e] at h
      exact List.mem_cons_of_mem _ (lookup_is h)
theorem ix_B {S : BS} {c : Nat} {p : List Nat} (h : S.lookup c = some p) : ixD (rowsB S) (.int (c : Int)) = .ok (NL p) := by
  have e : ixD (rowsB S) (.int (c : Int)) = optR (lookD (keyI (S.map fun x => (x.1 : Int))) (S.map fun x => NL x.2) (Sum.inl (c : Int))) := rfl
  rw [e, look_B, h]
  rfl
theorem nin_B (S : BS) (i : Nat) : dninD (.int (i : Int)) (rowsB S) = .ok (.bl (!decide (i ∈ S.map Prod.fst))) := by
  have e : dninD (.int (i : Int)) (rowsB S) = .ok (.bl (!hasK (keyI (S.map fun x => (x.1 : Int))) (Sum.inl (i : Int)))) := rfl
  rw [e, hasK_I]
  congr 3
  rw [Bool.eq_iff_iff, decide_eq_true_iff, decide_eq_true_iff]
  exact mem_casts
theorem put_B {S : BS} {i : Nat} {q : List Nat} (h : i ∉ S.map Prod.fst) (hl : S.length < 1000) : dPut (rowsB S) (.int (i : Int)) (NL q) = some (rowsB (S ++ [(i, q)])) := by
  have e : dPut (rowsB S) (.int (i : Int)) (NL q) = if (keyI (S.map fun x => (x.1 : Int))).length < sizeLine then some (if hasK (keyI (S.map fun x => (x.1 : Int))) (Sum.inl (i : Int)) = true then .dK (keyI (S.map fun x => (x.1 : Int))) (setV (Sum.inl (i : Int)) (NL q) (keyI (S.map fun x => (x.1 : Int))) (S.map fun x => NL x.2)) else .dK (keyI (S.map fun x => (x.1 : Int)) ++ [Sum.inl (i : Int)]) ((S.map fun x => NL x.2) ++ [NL q])) else none := rfl
  have hs := lt_size hl
  rw [e, hasK_I, decide_eq_false (fun z => h (mem_casts.mp z)), if_pos (by simpa [keyI] using hs), if_neg Bool.false_ne_true]
  simp [rowsB, keyI]
def keyLt (q b : List Nat) : Bool := if q.length = b.length then (if q = b then false else HT.lexLt (q.map fun i : Nat => (i : Int)) (b.map fun i : Nat => (i : Int))) else decide (q.length < b.length)
theorem alike_any : ∀ a b : List Int, PySem.W.alikeAll (a.map PyData.int) (b.map PyData.int) = true
  | [], _ => by simp [PySem.W.alikeAll]
  | x :: a, y :: b => by simp [PySem.W.alikeAll, PySem.W.alike, alike_any a b]
  | x :: a, [] => by simp [PySem.W.alikeAll]
theorem nats_inj {q b : List Nat} : (q.map fun i : Nat => (i : Int)) = (b.map fun i : Nat => (i : Int)) ↔ q = b := by
  constructor
  · intro h
    induction q generalizing b with
    | nil => cases b with
      | nil => rfl
      | cons y b => cases h
    | cons x q ih => cases b with
      | nil => cases h
      | cons y b =>
        simp only [List.map_cons, List.cons.injEq] at h
        rw [ih h.2]
        congr 1
        omega
  · intro h; rw [h]
theorem toPy_NL (q : List Nat) : (NL q).toPy = .list ((q.map fun i : Nat => (i : Int)).map .int) := by
  rw [NL_int]
  simp only [D.toPy, toPys_map, List.map_map]
  rfl
theorem emb_NL : Emb NL 2 := ⟨fun x y => by
    have := (emb_int.lst).eq (x.map fun i : Nat => (i : Int)) (y.map fun i : Nat => (i : Int))
    rw [NL_int, NL_int]
    exact this.trans nats_inj, fun x => by rw [NL_int]; exact emb_int.lst.lay _, fun x => by rw [NL_int]; exact emb_int.lst.dep _⟩
theorem lt_key (q b : List Nat) : ltDD (.tup [.int q.length, NL q]) (.tup [.int b.length, NL b]) = .ok (.bl (keyLt q b)) := by
  have lq := emb_NL.lay q
  have lb := emb_NL.lay b
  have dq := emb_NL.dep q
  have al : PySem.W.alike (NL q).toPy (NL b).toPy = true := by rw [toPy_NL, toPy_NL]; simp only [PySem.W.alike]; exact alike_any _ _
  have ok : cmpOk (.tup [.int q.length, NL q]) (.tup [.int b.length, NL b]) = true := by
    unfold cmpOk
    simp only [D.toPy, D.toPys, PySem.W.alike, PySem.W.alikeAll, al, isNoneP, PyData.canLay0, PyData.canLayAll0, lq, lb, PyData.depth, PyData.depthAll, Bool.and_true, Bool.true_and, Bool.not_false, decide_eq_true_eq]
    omega
  unfold ltDD
  rw [if_pos ok]
  refine congrArg (fun z => Rg.ok (D.bl z)) ?_
  simp only [D.toPy, D.toPys]
  rw [PySem.W.dataLt_pair (by simp [PySem.W.alike]) al, PySem.W.dataLt_int]
  have e1 : (PyData.eqv (PyData.int (q.length : Int)) (PyData.int (b.length : Int)) = true) = (q.length = b.length) := by simp [PyData.eqv]; omega
  have e2 : (PyData.eqv (NL q).toPy (NL b).toPy = true) = (q = b) := propext (emb_NL.eq _ _)
  have e3 : PySem.W.dataLt (NL q).toPy (NL b).toPy = HT.lexLt (q.map fun i : Nat => (i : Int)) (b.map fun i : Nat => (i : Int)) := by
    rw [toPy_NL, toPy_NL, PySem.W.dataLt_list]
    exact row_lex _ _
  simp only [e1, e2, e3]
  unfold keyLt
  have e4 : decide ((q.length : Int) < b.length) = decide (q.length < b.length) := by rw [Bool.eq_iff_iff, decide_eq_true_iff, decide_eq_true_iff]; omega
  rw [e4]
/-! ### bar, in plain -/
def ringP (E : List Edge) (e : Edge) : Option (List Nat) := (bfs E 100 0 [(e.other, [e.at_])]).lookup e.one
def updB (best r : Option (List Nat)) : Option (List Nat) := match r, best with
  | none, b => b
  | some q, none => some q
  | some q, some b => if keyLt q b then some q else some b
def barP (E : List Edge) : Option (List Nat) := (E.filter (·.ah)).foldl (fun b e => updB b (ringP E e)) none
def bestD : Option (List Nat) → D
  | none => .non
  | some q => NL q
def brB : Gm → O := sIf true (eAnd (e2 eqD (eVar 7) (e2 ixD (eVar 5) (eVar 6))) (e2 dninD (eVar 8) (eVar 4))) (sSeq (sPut 4 (vF (e2 addD (e2 ixD (eVar 4) (eVar 7)) (eLst (aCons (eVar 10) aNil)))) false (eVar 8))
  (sApp 5 (vP (eVar 8)))) sPass
section
variable {n : Nat} {L : List Say} {bd : D} {f : Edge} {s0 p0 : Nat}
theorem br_step {S : BS} {a : Nat} {c : Nat} {p : List Nat} (nd : (S.map Prod.fst).Nodup) (hl : S.length ≤ 6) (hp : p.length ≤ 900) (ha : S[a]? = some (c, p)) {e : Edge} : brB [.dat (.int (n : Int)), .dat (.lst (L.map sayD)), .dat bd, .dat (edD f), .own (rowsB S), .own (spotsB S), .dat (.int (a : Nat)), .dat (.int (e.one : Nat)), .dat (.int (e.other : Nat)), .dat (.bl e.ah), .dat (.int (e.at_ : Nat)), .no, .no] =
    .nx [.dat (.int (n : Int)), .dat (.lst (L.map sayD)), .dat bd, .dat (edD f), .own (rowsB (bstep c p S e)), .own (spotsB (bstep c p S e)), .dat (.int (a : Nat)), .dat (.int (e.one : Nat)), .dat (.int (e.other : Nat)), .dat (.bl e.ah), .dat (.int (e.at_ : Nat)), .no, .no] := by
  have hal : a < S.length := (List.getElem?_eq_some_iff.mp ha).1
  have hx : ixD (spotsB S) (.int (a : Int)) = .ok (.int (c : Int)) := by
    have := ix_lst (ds := S.map fun x => D.int (x.1 : Int)) (i := a) (by simpa using hal)
    have e2 : S[a] = (c, p) := by rw [List.getElem?_eq_getElem hal] at ha; exact Option.some.inj ha
    rw [List.getElem_map, e2] at this
    exact this
  have hn := nin_B S e.other
  have hcond : tst true (eAnd (e2 eqD (eVar 7) (e2 ixD (eVar 5) (eVar 6))) (e2 dninD (eVar 8) (eVar 4))) [.dat (.int (n : Int)), .dat (.lst (L.map sayD)), .dat bd, .dat (edD f), .own (rowsB S), .own (spotsB S), .dat (.int (a : Nat)), .dat (.int (e.one : Nat)), .dat (.int (e.other : Nat)), .dat (.bl e.ah), .dat (.int (e.at_ : Nat)), .no, .no] = .ok (.bl (decide (e.one = c ∧ e.other ∉ S.map Prod.fst))) := by
    rw [tst_t]
    simp only [unown_own', unown_dat', unown_no, unown_nil, ev_and, ev_2, ev_var, List.getElem?_cons_succ, List.getElem?_cons_zero, slR_dat, Rg.bind_ok, hx, eq_int, hn, B3_bl]
    by_cases c1 : e.one = c
    · by_cases c2 : e.other ∈ S.map Prod.fst
      · simp [c1, c2]
      · simp [c1, c2]
    · have : ¬ ((e.one : Int) = (c : Int)) := by omega
      simp [c1, this]
  unfold brB
  rw [st_if, hcond, ifB_bl]
  unfold bstep
  by_cases h : e.one = c ∧ e.other ∉ S.map Prod.fst
  · rw [decide_eq_true h, if_pos rfl, if_pos h]
    have hlk : S.lookup e.one = some p := by rw [h.1]; exact lookup_mem nd (List.mem_of_getElem? ha)
    have hix := ix_B hlk
    have hadd : addD (NL p) (.lst [.int (e.at_ : Int)]) = .ok (NL (p ++ [e.at_])) := by
      unfold NL
      rw [List.map_append]
      exact if_pos (small (by simp; omega))
    have l1 : ∀ q : D, lstD [q] = .ok (.lst [q]) := fun q => lstD_small (by simp)
    refine seq_step (Γ' := [.dat (.int (n : Int)), .dat (.lst (L.map sayD)), .dat bd, .dat (edD f), .own (rowsB (S ++ [(e.other, p ++ [e.at_])])), .own (spotsB S), .dat (.int (a : Nat)), .dat (.int (e.one : Nat)), .dat (.int (e.other : Nat)), .dat (.bl e.ah), .dat (.int (e.at_ : Nat)), .no, .no]) ?_ ?_
    · refine put_ok (Γ1 := [.dat (.int (n : Int)), .dat (.lst (L.map sayD)), .dat bd, .dat (edD f), .own (rowsB S), .own (spotsB S), .dat (.int (a : Nat)), .dat (.int (e.one : Nat)), .dat (.int (e.other : Nat)), .dat (.bl e.ah), .dat (.int (e.at_ : Nat)), .no, .no]) (d := NL (p ++ [e.at_])) (d0 := rowsB S) (k := .int (e.other : Nat)) ?_ rfl (by rw [tst_f]; rfl) (put_B h.2 (by omega))
      simp only [ev_vF, unown_own', unown_dat', unown_no, unown_nil, ev_2, ev_var, ev_lst, ev_cons, ev_nil, List.getElem?_cons_succ, List.getElem?_cons_zero, slR_dat, Rg.bind_ok, hix, l1, hadd]
      have hfl : flatItems (NL (p ++ [e.at_])) = true := by rw [NL_int, flatI_lst]; exact flats_ints _
      rw [hfl, if_pos rfl]
    · have : S.length < 1000 := by omega
      unfold spotsB
      rw [List.map_append]
      simp [st_app', this]
  · rw [decide_eq_false h, if_neg Bool.false_ne_true, if_neg h]
    rfl
theorem get_B (S : BS) (c : Nat) : getD2 (rowsB S) (.int (c : Int)) .non = .ok (bestD (S.lookup c)) := by
  have e : getD2 (rowsB S) (.int (c : Int)) .non = .ok ((lookD (keyI (S.map fun x => (x.1 : Int))) (S.map fun x => NL x.2) (Sum.inl (c : Int))).getD .non) := rfl
  rw [e, look_B]
  cases S.lookup c <;> rfl
end

/-! ### what bar is -/
section
variable {n : Nat} {E : List Edge}
theorem ring_is (hE : ∀ e ∈ E, e.one < n ∧ e.other < n) (h6 : n ≤ 6) {e : Edge} (he : e ∈ E) {p : List Nat} (h : ringP E e = some p) : ∃ q, p = e.at_ :: q ∧ Pth E e.other q e.one := by
  have I := (bfs_ok hE 100 0 _ (bi_start (p0 := e.at_) (hE e he).2) cl_zero (by simp) (by omega)).1
  exact I.pth _ (lookup_is h)
theorem ring_ex (hE : ∀ e ∈ E, e.one < n ∧ e.other < n) (h6 : n ≤ 6) {e : Edge} (he : e ∈ E) (h : Rch E e.other e.one) : ∃ p, ringP E e = some p := by
  obtain ⟨I, hc⟩ := bfs_ok hE 100 0 _ (bi_start (p0 := e.at_) (hE e he).2) cl_zero (by simp) (by omega)
  obtain ⟨q, hq⟩ := h
  have hm := cl_reach I hc hq
  obtain ⟨x, hx, e1⟩ := List.mem_map.mp hm
  refine ⟨x.2, ?_⟩
  have : (e.one, x.2) ∈ bfs E 100 0 [(e.other, [e.at_])] := by rw [← e1]; exact hx
  exact lookup_mem I.nd this
theorem upd_fold : ∀ (F : List Edge) (b : Option (List Nat)), (F.foldl (fun b e => updB b (ringP E e)) b = none → b = none ∧ ∀ e ∈ F, ringP E e = none) ∧ ∀ p, F.foldl (fun b e => updB b (ringP E e)) b = some p → b = some p ∨ ∃ e ∈ F, ringP E e = some p
  | [], b => ⟨fun h => ⟨h, fun e he => by cases he⟩, fun p h => .inl h⟩
  | e :: F, b => by
    obtain ⟨h1, h2⟩ := upd_fold F (updB b (ringP E e))
    rw [List.foldl_cons]
    constructor
    · intro h
      obtain ⟨a, c⟩ := h1 h
      have hr : ringP E e = none := by
        cases hr : ringP E e with
        | none => rfl
        | some q =>
          rw [hr] at a
          cases b with
          | none => cases a
          | some b => unfold updB at a; simp only [] at a; split at a <;> cases a
      rw [hr] at a
      refine ⟨?_, fun x hx => ?_⟩
      · cases b with
        | none => rfl
        | some b => cases a
      · rcases List.mem_cons.mp hx with rfl | hx
        · exact hr
        · exact c x hx
    · intro p h
      rcases h2 p h with h | ⟨x, hx, h⟩
      · cases hr : ringP E e with
        | none =>
          rw [hr] at h
          exact .inl (by cases b <;> exact h)
        | some q =>
          rw [hr] at h
          cases b with
          | none => exact .inr ⟨e, List.mem_cons_self, by rw [hr]; exact h⟩
          | some b =>
            unfold updB at h
            simp only [] at h
            split at h
            · exact .inr ⟨e, List.mem_cons_self, by rw [hr]; exact h⟩
            · exact .inl h
      · exact .inr ⟨x, List.mem_cons_of_mem _ hx, h⟩
theorem bar_none (hE : ∀ e ∈ E, e.one < n ∧ e.other < n) (h6 : n ≤ 6) : barP E = none ↔ ∀ e ∈ E, e.ah = true → ¬ Rch E e.other e.one := by
  unfold barP
  constructor
  · intro h e he ha hr
    obtain ⟨p, hp⟩ := ring_ex hE h6 he hr
    have := ((upd_fold _ _).1 h).2 e (List.mem_filter.mpr ⟨he, ha⟩)
    rw [hp] at this
    cases this
  · intro h
    cases hb : (E.filter (·.ah)).foldl (fun b e => updB b (ringP E e)) none with
    | none => rfl
    | some p =>
      rcases (upd_fold _ _).2 p hb with h1 | ⟨e, he, hp⟩
      · cases h1
      · obtain ⟨he, ha⟩ := List.mem_filter.mp he
        obtain ⟨q, _, hq⟩ := ring_is hE h6 he hp
        exact absurd ⟨q, hq⟩ (h e he ha)
theorem bar_some (hE : ∀ e ∈ E, e.one < n ∧ e.other < n) (h6 : n ≤ 6) {p : List Nat} (h : barP E = some p) : ∃ e ∈ E, e.ah = true ∧ ∃ q, p = e.at_ :: q ∧ Pth E e.other q e.one := by
  unfold barP at h
  rcases (upd_fold _ _).2 p h with h1 | ⟨e, he, hp⟩
  · cases h1
  · obtain ⟨he, ha⟩ := List.mem_filter.mp he
    exact ⟨e, he, ha, ring_is hE h6 he hp⟩
end
/-! ### is_bar -/
def leadP (s : Say) (x : Nat) : Option Nat := if x = s.a then some s.b else if s.w = "like" ∧ x = s.b then some s.a else none
def walk1 (L : List Say) (sp : Option Nat) (i : Nat) : Option Nat := match sp, L[i]? with
  | some x, some s => leadP s x
  | _, _ => none
def walkP (L : List Say) (row : List Nat) (x : Nat) : Option Nat := row.foldl (walk1 L) (some x)
def aheadAt (L : List Say) (i : Nat) : Bool := match L[i]? with
  | some s => decide (s.w = "ahead")
  | none => false
def isbP (L : List Say) (row : List Nat) : Bool := row.any (aheadAt L) && match (row.head?).bind (fun i => L[i]?) with
  | some s => decide (walkP L row s.a = some s.a) || decide (walkP L row s.b = some s.b)
  | none => false
def spD : Option Nat → D
  | none => .non
  | some x => .int (x : Int)
section
variable {n : Nat} {L : List Say}
theorem ix_say {i : Nat} {s : Say} (h : L[i]? = some s) : ixD (.lst (L.map sayD)) (.int (i : Int)) = .ok (sayD s) := by
  have hi := (List.getElem?_eq_some_iff.mp h).1
  have := ix_lst (ds := L.map sayD) (i := i) (by simpa using hi)
  rw [this, List.getElem_map]
  rw [List.getElem?_eq_getElem hi] at h
  rw [Option.some.inj h]
/-- a way along the steps, walked -/
theorem pth_walk (hL : ∀ s ∈ L, s.ok n) {x y : Nat} {q : List Nat} (h : Pth (edgs L) x q y) : q.foldl (walk1 L) (some x) = some y := by
  induction h with
  | nil => rfl
  | snoc a b c ih =>
    rename_i y0 q0 e0
    rw [List.foldl_append, ih]
    obtain ⟨s, hs, hh⟩ := mem_edgs.mp b
    have ok := hL s (List.mem_of_getElem? hs)
    have hne := ok.ne
    show walk1 L (some y0) e0.at_ = _
    unfold walk1
    rw [hs]
    simp only []
    unfold leadP
    rcases hh with ⟨h1, h2, _⟩ | ⟨h0, h1, h2, _⟩
    · rw [if_pos (by omega), h2]
    · rw [if_neg (by omega), if_pos ⟨h0, by omega⟩, h2]
theorem pth_lt (hL : ∀ s ∈ L, s.ok n) {x y : Nat} {q : List Nat} (h : Pth (edgs L) x q y) : ∀ i ∈ q, i < L.length := by
  induction h with
  | nil => intro i hi; cases hi
  | snoc a b c ih =>
    intro i hi
    rcases List.mem_append.mp hi with hi | hi
    · exact ih i hi
    · rw [List.mem_singleton] at hi
      subst hi
      exact (edgs_lt hL b).2.2.2
theorem ring_isb (hL : ∀ s ∈ L, s.ok n) {e : Edge} (he : e ∈ edgs L) (ha : e.ah = true) {q : List Nat} (h : Pth (edgs L) e.other q e.one) : isbP L (e.at_ :: q) = true := by
  obtain ⟨s, hs, hh⟩ := mem_edgs.mp he
  rcases hh with ⟨h1, h2, h3⟩ | ⟨_, _, _, h3⟩
  · rw [ha] at h3
    have hw : walkP L (e.at_ :: q) s.a = some s.a := by
      unfold walkP
      rw [List.foldl_cons]
      have : walk1 L (some s.a) e.at_ = some e.other := by
        unfold walk1
        rw [hs]
        simp only []
        unfold leadP
        rw [if_pos rfl, h2]
      rw [this, pth_walk hL h, h1]
    unfold isbP
    have ha' : aheadAt L e.at_ = true := by unfold aheadAt; rw [hs]; exact h3.symm
    simp [hs, hw, ha']
  · rw [ha] at h3
    cases h3
end

/-! ### the shortest, the first of several -/
abbrev cast (q : List Nat) : List Int := q.map fun i : Nat => (i : Int)
theorem key_iff {q b : List Nat} : keyLt q b = true ↔ q.length < b.length ∨ (q.length = b.length ∧ HT.lexLt (cast q) (cast b) = true) := by
  unfold keyLt
  by_cases h : q.length = b.length
  · rw [if_pos h]
    by_cases e : q = b
    · subst e
      rw [if_pos rfl]
      constructor
      · intro z; cases z
      · rintro (z | ⟨_, z⟩)
        · omega
        · rw [lex_irr] at z; cases z
    · rw [if_neg e]
      constructor
      · intro z; exact .inr ⟨h, z⟩
      · rintro (z | ⟨_, z⟩)
        · omega
        · exact z
  · rw [if_neg h, decide_eq_true_iff]
    constructor
    · exact .inl
    · rintro (z | ⟨z, _⟩)
      · exact z
      · exact absurd z h
theorem key_irr (q : List Nat) : ¬ keyLt q q = true := fun h => by
  rcases key_iff.mp h with z | ⟨_, z⟩
  · omega
  · rw [lex_irr] at z; cases z
theorem key_tr {a b c : List Nat} (h1 : keyLt a b = true) (h2 : keyLt b c = true) : keyLt a c = true := by
  rw [key_iff] at h1 h2 ⊢
  rcases h1 with z1 | ⟨e1, z1⟩ <;> rcases h2 with z2 | ⟨e2, z2⟩
  · exact .inl (by omega)
  · exact .inl (by omega)
  · exact .inl (by omega)
  · exact .inr ⟨by omega, lex_tr _ _ _ z1 z2⟩
theorem key_eq {a b : List Nat} (h1 : ¬ keyLt a b = true) (h2 : ¬ keyLt b a = true) : a = b := by
  rw [key_iff] at h1 h2
  have hl : a.length = b.length := by
    by_cases c : a.length < b.length
    · exact absurd (.inl c) h1
    · by_cases d : b.length < a.length
      · exact absurd (.inl d) h2
      · omega
  have e1 : HT.lexLt (cast a) (cast b) = false := by
    cases h : HT.lexLt (cast a) (cast b) with
    | false => rfl
    | true => exact absurd (.inr ⟨hl, h⟩) h1
  have e2 : HT.lexLt (cast b) (cast a) = false := by
    cases h : HT.lexLt (cast b) (cast a) with
    | false => rfl
    | true => exact absurd (.inr ⟨hl.symm, h⟩) h2
  exact nats_inj.mp (lex_eq _ _ e1 e2)
/-- no less -/
def kLe (a b : List Nat) : Prop := ¬ keyLt b a = true
theorem kLe_lt {a b c : List Nat} (h1 : kLe a b) (h2 : keyLt b c = true) : keyLt a c = true := by
  by_cases h : keyLt a b = true
  · exact key_tr h h2
  · rw [key_eq h h1]; exact h2
theorem lt_kLe {a b c : List Nat} (h1 : keyLt a b = true) (h2 : kLe b c) : keyLt a c = true := by
  by_cases h : keyLt b c = true
  · exact key_tr h1 h
  · rw [← key_eq h h2]; exact h1
theorem kLe_tr {a b c : List Nat} (h1 : kLe a b) (h2 : kLe b c) : kLe a c := fun h => by
  exact key_irr _ (kLe_lt h2 (kLe_lt (a := c) (b := c) (c := b) (key_irr c) (lt_kLe h h1)))
theorem lt_le {a b : List Nat} (h : keyLt a b = true) : kLe a b := fun z => key_irr _ (key_tr h z)
theorem snoc_lt {A B : List Nat} {a b : Nat} (h : keyLt B A = true) : keyLt (B ++ [b]) (A ++ [a]) = true := by
  rw [key_iff] at h ⊢
  simp only [List.length_append, List.length_singleton]
  rcases h with z | ⟨e, z⟩
  · exact .inl (by omega)
  · refine .inr ⟨by omega, ?_⟩
    unfold cast
    rw [List.map_append, List.map_append, lex_app (by simpa using e), if_neg (fun q => by
      have q2 : cast B = cast A := q
      rw [q2, lex_irr] at z
      cases z)]
    exact z
theorem snoc_same {A : List Nat} {a b : Nat} (h : b < a) : keyLt (A ++ [b]) (A ++ [a]) = true := by
  rw [key_iff]
  refine .inr ⟨by simp, ?_⟩
  unfold cast
  rw [List.map_append, List.map_append, lex_app rfl, if_pos rfl]
  simp only [List.map_cons, List.map_nil, HT.lexLt_cons]
  rw [if_neg (by omega)]
  exact decide_eq_true (by omega)
theorem snoc_le {A B : List Nat} {a b : Nat} (h : kLe B A) (hab : b ≤ a) : kLe (B ++ [b]) (A ++ [a]) := by
  by_cases c : keyLt B A = true
  · exact lt_le (snoc_lt c)
  · have e := key_eq c h
    subst e
    by_cases d : b = a
    · subst d; exact key_irr _
    · exact lt_le (snoc_same (by omega))
/-! ### spots in their turn -/
def SrtE (E : List Edge) : Prop := E.Pairwise fun e f => e.one = f.one → e.at_ < f.at_
structure PI (E : List Edge) (S : BS) (a : Nat) (l : List Edge) : Prop where
  inc : ∀ (i j : Nat) (x y : Nat × List Nat), i < j → S[i]? = some x → S[j]? = some y → keyLt x.2 y.2 = true
  par : ∀ (k : Nat) (y : Nat × List Nat), 0 < k → S[k]? = some y → ∃ (j : Nat) (x : Nat × List Nat) (e : Edge), S[j]? = some x ∧ e ∈ E ∧ e.one = x.1 ∧ e.other = y.1 ∧ y.2 = x.2 ++ [e.at_] ∧
    (∀ f ∈ E, f.one = x.1 → f.other = y.1 → e.at_ ≤ f.at_) ∧ (∀ (i : Nat) (z : Nat × List Nat), i < j → S[i]? = some z → ∀ f ∈ E, f.one = z.1 → f.other ≠ y.1) ∧ (j < a ∨ (j = a ∧ e ∈ l))
section
variable {n : Nat} {E : List Edge} {s0 p0 : Nat}
theorem get_app {S : BS} {y z : Nat × List Nat} {k : Nat} (h : (S ++ [y])[k]? = some z) : (k < S.length ∧ S[k]? = some z) ∨ (k = S.length ∧ z = y) := by
  by_cases c : k < S.length
  · rw [List.getElem?_append_left c] at h
    exact .inl ⟨c, h⟩
  · rw [List.getElem?_append_right (by omega)] at h
    by_cases d : k = S.length
    · subst d
      simp at h
      exact .inr ⟨rfl, h.symm⟩
    · rw [List.getElem?_singleton, if_neg (by omega)] at h
      cases h
theorem nd_at {S : BS} (nd : (S.map Prod.fst).Nodup) {i j : Nat} {x y : Nat × List Nat} (hi : S[i]? = some x) (hj : S[j]? = some y) (e : x.1 = y.1) : i = j := by
  have h1 : (S.map Prod.fst)[i]? = some x.1 := by rw [List.getElem?_map, hi]; rfl
  have h2 : (S.map Prod.fst)[j]? = some x.1 := by rw [List.getElem?_map, hj, e]; rfl
  have l1 := (List.getElem?_eq_some_iff.mp h1).1
  have l2 := (List.getElem?_eq_some_iff.mp h2).1
  have pw := List.pairwise_iff_getElem.mp nd
  rcases Nat.lt_trichotomy i j with q | q | q
  · exact absurd ((List.getElem?_eq_some_iff.mp h1).2.trans (List.getElem?_eq_some_iff.mp h2).2.symm) (pw i j l1 l2 q)
  · exact q
  · exact absurd ((List.getElem?_eq_some_iff.mp h2).2.trans (List.getElem?_eq_some_iff.mp h1).2.symm) (pw j i l2 l1 q)
/-- one step of a pass -/
theorem pi_step {S : BS} {a : Nat} {l r : List Edge} {e : Edge} (hs : SrtE E) (hE : E = l ++ e :: r) (I : BI n E s0 p0 S) (hc : Cl E S a) (hl : ∀ f ∈ l, ∀ x, S[a]? = some x → f.one = x.1 → f.other ∈ S.map Prod.fst) (J : PI E S a l) {c : Nat} {p : List Nat} (ha : S[a]? = some (c, p)) :
    PI E (bstep c p S e) a (l ++ [e]) := by
  have hal := (List.getElem?_eq_some_iff.mp ha).1
  have mono : ∀ (j : Nat) (e' : Edge), (j < a ∨ (j = a ∧ e' ∈ l)) → (j < a ∨ (j = a ∧ e' ∈ l ++ [e])) := fun j e' h => h.imp id fun ⟨q, m⟩ => ⟨q, List.mem_append_left _ m⟩
  unfold bstep
  by_cases h : e.one = c ∧ e.other ∉ S.map Prod.fst
  · rw [if_pos h]
    have up : ∀ {i : Nat} {z : Nat × List Nat}, S[i]? = some z → (S ++ [(e.other, p ++ [e.at_])])[i]? = some z := fun {i z} q => by
      rw [List.getElem?_append_left (List.getElem?_eq_some_iff.mp q).1]; exact q
    have heE : e ∈ E := by rw [hE]; simp
    have hnew : ∀ (i : Nat) (x : Nat × List Nat), S[i]? = some x → keyLt x.2 (p ++ [e.at_]) = true := fun i x hx => by
      by_cases c1 : i ≤ a
      · have h1 : x.2.length ≤ p.length := by
          by_cases c2 : i = a
          · subst c2; rw [ha] at hx; cases hx; exact Nat.le_refl _
          · have := J.inc i a x (c, p) (by omega) hx ha
            rcases key_iff.mp this with z | ⟨z, _⟩
            · exact Nat.le_of_lt z
            · exact Nat.le_of_eq z
        rw [key_iff]
        exact .inl (by simp; omega)
      · obtain ⟨j, y, f, hj, hf, h1, h2, h3, _, _, h6⟩ := J.par i x (by omega) hx
        rw [h3]
        rcases h6 with h6 | ⟨h6, h7⟩
        · exact snoc_lt (J.inc j a y (c, p) h6 hj ha)
        · subst h6
          rw [ha] at hj
          cases hj
          refine snoc_same ?_
          have hp := hs
          rw [hE] at hp
          exact (List.pairwise_append.mp hp).2.2 f h7 e List.mem_cons_self (by rw [h1, h.1])
    refine ⟨fun i j x y hij hi hj => ?_, fun k y hk hy => ?_⟩
    · rcases get_app hj with ⟨q1, q2⟩ | ⟨q1, q2⟩
      · rcases get_app hi with ⟨q3, q4⟩ | ⟨q3, q4⟩
        · exact J.inc i j x y hij q4 q2
        · omega
      · rcases get_app hi with ⟨q3, q4⟩ | ⟨q3, q4⟩
        · rw [q2]; exact hnew i x q4
        · omega
    · rcases get_app hy with ⟨q1, q2⟩ | ⟨q1, q2⟩
      · obtain ⟨j, x, f, h1, h2, h3, h4, h5, h6, h7, h8⟩ := J.par k y hk q2
        refine ⟨j, x, f, up h1, h2, h3, h4, h5, h6, fun i z hi hz => ?_, mono _ _ h8⟩
        rcases get_app hz with ⟨q3, q4⟩ | ⟨q3, q4⟩
        · exact h7 i z hi q4
        · have := (List.getElem?_eq_some_iff.mp h1).1
          omega
      · subst q2
        refine ⟨a, (c, p), e, up ha, heE, h.1, rfl, rfl, fun f hf h1 h2 => ?_, fun i z hi hz f hf h1 h2 => ?_, .inr ⟨rfl, by simp⟩⟩
        · rw [hE] at hf
          rcases List.mem_append.mp hf with hf | hf
          · exact absurd (by have := hl f hf _ ha h1; rw [h2] at this; exact this) h.2
          · rcases List.mem_cons.mp hf with rfl | hf
            · exact Nat.le_refl _
            · have hp := hs
              rw [hE] at hp
              exact Nat.le_of_lt ((List.pairwise_cons.mp (List.pairwise_append.mp hp).2.1).1 f hf (by rw [h.1]; exact h1.symm))
        · rcases get_app hz with ⟨q3, q4⟩ | ⟨q3, q4⟩
          · have := hc i z hi q4 f hf h1
            rw [h2] at this
            exact h.2 this
          · omega
  · rw [if_neg h]
    exact ⟨J.inc, fun k y hk hy => by
      obtain ⟨j, x, f, h1, h2, h3, h4, h5, h6, h7, h8⟩ := J.par k y hk hy
      exact ⟨j, x, f, h1, h2, h3, h4, h5, h6, h7, mono _ _ h8⟩⟩
theorem pi_fold (hs : SrtE E) (hE0 : ∀ e ∈ E, e.one < n ∧ e.other < n) {a c : Nat} {p : List Nat} : ∀ (r l : List Edge) (S : BS), E = l ++ r → BI n E s0 p0 S → Cl E S a → (∀ f ∈ l, ∀ x, S[a]? = some x → f.one = x.1 → f.other ∈ S.map Prod.fst) → PI E S a l → S[a]? = some (c, p) → PI E (r.foldl (bstep c p) S) a E
  | [], l, S, hE, _, _, _, J, _ => by
    rw [List.append_nil] at hE
    rw [hE] at *
    exact J
  | e :: r, l, S, hE, I, hc, hl, J, ha => by
    have heE : e ∈ E := by rw [hE]; simp
    obtain ⟨b1, ⟨R, b2⟩, b3⟩ := bi_step hE0 I (List.mem_of_getElem? ha) heE
    have ha' : (bstep c p S e)[a]? = some (c, p) := by rw [b2, List.getElem?_append_left (List.getElem?_eq_some_iff.mp ha).1]; exact ha
    have hsub : ∀ z, z ∈ S.map Prod.fst → z ∈ (bstep c p S e).map Prod.fst := fun z hz => by rw [b2, List.map_append]; exact List.mem_append_left _ hz
    rw [List.foldl_cons]
    refine pi_fold hs hE0 r (l ++ [e]) (bstep c p S e) (by rw [hE]; simp) b1 (fun j x hj hx f hf h1 => ?_) (fun f hf x hx h1 => ?_) (pi_step hs hE I hc hl J ha) ha'
    · have hjl : j < S.length := by have := (List.getElem?_eq_some_iff.mp ha).1; omega
      rw [b2, List.getElem?_append_left hjl] at hx
      exact hsub _ (hc j x hj hx f hf h1)
    · rw [ha'] at hx
      cases hx
      rcases List.mem_append.mp hf with hf | hf
      · exact hsub _ (hl f hf _ ha h1)
      · rw [List.mem_singleton] at hf
        subst hf
        exact b3 h1
theorem pi_bfs (hs : SrtE E) (hE0 : ∀ e ∈ E, e.one < n ∧ e.other < n) : ∀ (k a : Nat) (S : BS), BI n E s0 p0 S → Cl E S a → a ≤ S.length → n < a + k → PI E S a [] → PI E (bfs E k a S) (bfs E k a S).length []
  | 0, a, S, I, _, h1, h2, _ => by have := bi_len I; omega
  | k + 1, a, S, I, hc, h1, h2, J => by
    unfold bfs
    by_cases c : a < S.length
    · rw [if_pos c]
      have hx : S[a]? = some S[a] := List.getElem?_eq_getElem c
      have hp : bpass E S a = E.foldl (bstep S[a].1 S[a].2) S := by unfold bpass; rw [hx]
      obtain ⟨a1, ⟨R, a2⟩, a3⟩ := bi_fold hE0 E S (fun e he => he) I (c := S[a].1) (p := S[a].2) (List.getElem_mem c)
      have J' := pi_fold hs hE0 E [] S rfl I hc (fun f hf => by cases hf) J (c := S[a].1) (p := S[a].2) hx
      rw [hp]
      refine pi_bfs hs hE0 k (a + 1) _ a1 (fun j x hj hjx e he hone => ?_) (by rw [a2, List.length_append]; omega) (by omega) ⟨J'.inc, fun m y hm hy => ?_⟩
      · rw [a2, List.getElem?_append_left (by omega)] at hjx
        by_cases q : j = a
        · subst q
          rw [hx] at hjx
          cases hjx
          exact a3 e he hone
        · rw [a2, List.map_append]
          exact List.mem_append_left _ (hc j x (by omega) hjx e he hone)
      · obtain ⟨j, x, f, h1, h2, h3, h4, h5, h6, h7, h8⟩ := J'.par m y hm hy
        exact ⟨j, x, f, h1, h2, h3, h4, h5, h6, h7, .inl (by rcases h8 with h8 | ⟨h8, _⟩ <;> omega)⟩
    · rw [if_neg c]
      have : a = S.length := by omega
      subst this
      exact J
/-- each spot's row is the least way there -/
theorem bfs_least (hs : SrtE E) (hE0 : ∀ e ∈ E, e.one < n ∧ e.other < n) (h6 : n ≤ 6) (hs0 : s0 < n) {q : List Nat} {x : Nat} (h : Pth E s0 q x) : ∃ P, (x, P) ∈ bfs E 100 0 [(s0, [p0])] ∧ kLe P (p0 :: q) := by
  obtain ⟨I, hc⟩ := bfs_ok hE0 100 0 _ (bi_start (p0 := p0) (E := E) hs0) cl_zero (by simp) (by omega)
  have J := pi_bfs hs hE0 100 0 _ (bi_start (p0 := p0) (E := E) hs0) cl_zero (by simp) (by omega) ⟨fun i j x y hij hi hj => by
    have l1 := (List.getElem?_eq_some_iff.mp hj).1
    simp at l1
    omega, fun k y hk hy => by
    have l1 := (List.getElem?_eq_some_iff.mp hy).1
    simp at l1
    omega⟩
  generalize bfs E 100 0 [(s0, [p0])] = S at I hc J
  induction h with
  | nil => exact ⟨[p0], List.mem_of_getElem? I.hd, key_irr _⟩
  | snoc a b c ih =>
    rename_i y q' e
    obtain ⟨Py, hy, hle⟩ := ih
    obtain ⟨m, hm, ey⟩ := List.getElem_of_mem hy
    have hm' : S[m]? = some (y, Py) := by rw [List.getElem?_eq_getElem hm, ey]
    have hmem := hc m _ hm hm' e b c
    obtain ⟨z, hz, ez⟩ := List.mem_map.mp hmem
    obtain ⟨k, hk, ek⟩ := List.getElem_of_mem hz
    have hk' : S[k]? = some z := by rw [List.getElem?_eq_getElem hk, ek]
    refine ⟨z.2, by rw [← ez]; exact hz, ?_⟩
    by_cases k0 : k = 0
    · subst k0
      rw [I.hd] at hk'
      cases hk'
      refine lt_le (key_iff.mpr (.inl ?_))
      simp
    · obtain ⟨j, x, f, h1, h2, h3, h4, h5, h6', h7, _⟩ := J.par k z (by omega) hk'
      rw [h5]
      have hmj : ¬ m < j := fun hlt => h7 m (y, Py) hlt hm' e b c (by rw [← ez])
      show kLe _ ((p0 :: q') ++ [e.at_])
      by_cases q : j = m
      · subst q
        rw [hm'] at h1
        cases h1
        exact snoc_le hle (h6' e b c (by rw [← ez]))
      · exact lt_le (snoc_lt (lt_kLe (J.inc j m x (y, Py) (by omega) h1 hm') hle))
theorem fold_least : ∀ (F : List Edge) (b : Option (List Nat)) (p : List Nat), F.foldl (fun b e => updB b (ringP E e)) b = some p → (∀ r, b = some r → kLe p r) ∧ ∀ e ∈ F, ∀ r, ringP E e = some r → kLe p r
  | [], b, p, h => ⟨fun r hr => by rw [List.foldl_nil, hr] at h; cases h; exact key_irr _, fun e he => by cases he⟩
  | e :: F, b, p, h => by
    rw [List.foldl_cons] at h
    obtain ⟨h1, h2⟩ := fold_least F _ p h
    cases hr : ringP E e with
    | none =>
      have e1 : updB b (ringP E e) = b := by rw [hr]; cases b <;> rfl
      rw [e1] at h1
      refine ⟨h1, fun x hx r hrx => ?_⟩
      rcases List.mem_cons.mp hx with rfl | hx
      · rw [hr] at hrx; cases hrx
      · exact h2 x hx r hrx
    | some q =>
      rw [hr] at h1
      cases b with
      | none =>
        have hq : kLe p q := h1 q rfl
        refine ⟨fun r hz => (nomatch hz), fun x hx r hrx => ?_⟩
        rcases List.mem_cons.mp hx with rfl | hx
        · rw [hr] at hrx; cases hrx; exact hq
        · exact h2 x hx r hrx
      | some b =>
        by_cases c : keyLt q b = true
        · have hq : kLe p q := h1 q (by simp [updB, c])
          refine ⟨fun r hz => ?_, fun x hx r hrx => ?_⟩
          · cases hz
            exact kLe_tr hq (lt_le c)
          · rcases List.mem_cons.mp hx with rfl | hx
            · rw [hr] at hrx; cases hrx; exact hq
            · exact h2 x hx r hrx
        · have hb : kLe p b := h1 b (by simp [updB, c])
          refine ⟨fun r hz => ?_, fun x hx r hrx => ?_⟩
          · cases hz
            exact hb
          · rcases List.mem_cons.mp hx with rfl | hx
            · rw [hr] at hrx; cases hrx; exact kLe_tr hb c
            · exact h2 x hx r hrx
/-- the ring told is the least of all -/
theorem bar_least (hs : SrtE E) (hE0 : ∀ e ∈ E, e.one < n ∧ e.other < n) (h6 : n ≤ 6) {p : List Nat} (h : barP E = some p) {e : Edge} (he : e ∈ E) (ha : e.ah = true) {q : List Nat} (hq : Pth E e.other q e.one) : kLe p (e.at_ :: q) := by
  obtain ⟨P, hP, hle⟩ := bfs_least (p0 := e.at_) hs hE0 h6 (hE0 e he).2 hq
  have I := (bfs_ok hE0 100 0 _ (bi_start (p0 := e.at_) (E := E) (hE0 e he).2) cl_zero (by simp) (by omega)).1
  have hr : ringP E e = some P := lookup_mem I.nd hP
  exact kLe_tr ((fold_least _ none p h).2 e (List.mem_filter.mpr ⟨he, ha⟩) P hr) hle
theorem bar_len (hE0 : ∀ e ∈ E, e.one < n ∧ e.other < n) (h6 : n ≤ 6) {p : List Nat} (h : barP E = some p) : p.length ≤ n := by
  unfold barP at h
  rcases (upd_fold _ _).2 p h with h1 | ⟨e, he, hp⟩
  · cases h1
  · have I := (bfs_ok hE0 100 0 _ (bi_start (p0 := e.at_) (hE0 e (List.mem_filter.mp he).1).2) cl_zero (by simp) (by omega)).1
    have h1 := I.ln _ (lookup_is hp)
    have h2 := bi_len I
    have h3 : p.length ≤ (bfs E 100 0 [(e.other, [e.at_])]).length := h1
    omega
end
/-- the steps told stand rising -/
theorem edgs_srt {n : Nat} {L : List Say} (hL : ∀ s ∈ L, s.ok n) : SrtE (edgs L) := by
  unfold SrtE edgs
  rw [List.pairwise_flatMap]
  constructor
  · rintro ⟨s, i⟩ hp
    have hs : s ∈ L := by have := List.mem_zipIdx_iff_getElem?.mp hp; exact List.mem_of_getElem? this
    have hne := (hL s hs).ne
    unfold edOf
    split
    · refine List.pairwise_cons.mpr ⟨fun f hf h => ?_, List.pairwise_singleton _ _⟩
      rw [List.mem_singleton] at hf
      subst hf
      exact absurd h hne
    · exact List.pairwise_singleton _ _
  · have hat : ∀ (p : Say × Nat) (e : Edge), e ∈ edOf p → e.at_ = p.2 := fun p e he => by
      unfold edOf at he
      rcases List.mem_cons.mp he with rfl | he
      · rfl
      · split at he
        · rw [List.mem_singleton] at he; subst he; rfl
        · cases he
    have : (L.zipIdx).Pairwise fun a b => a.2 < b.2 := by
      rw [List.pairwise_iff_getElem]
      intro i j hi hj hij
      simp
      exact hij
    exact this.imp fun {a b} h x hx y hy _ => by rw [hat a x hx, hat b y hy]; exact h

end DL

set_option Elab.async false
set_option linter.all false
set_option maxRecDepth 100000
set_option maxHeartbeats 1000000
namespace DL
open PySem PySem.Spec PyProof.Rows L2 LamX
structure Vts (n : Nat) (V : List (List Int)) : Prop where
  n1 : 1 ≤ n
  n6 : n ≤ 6
  pos : 1 ≤ V.length
  le : V.length ≤ 40
  ord : ∀ o ∈ V, Ord n o
def csg (V : List (List Int)) (a b : Nat) : List Int := V.map fun o => sg (v o a) (v o b)
def cn (V : List (List Int)) (a b : Nat) (x : Int) : Nat := (csg V a b).count x
def tl3 (V : List (List Int)) (a b : Nat) : List Int := [(cn V a b (-1) : Int), (cn V a b 0 : Int), (cn V a b 1 : Int)]
def bt (V : List (List Int)) (a b : Nat) : Bool := decide (cn V a b 1 < cn V a b (-1))
def fpt (V : List (List Int)) (a b : Nat) : Int := 2 * (cn V a b (-1) : Int) + (cn V a b 0 : Int)
def pts (V : List (List Int)) (n a : Nat) : Int := (((List.range n).filter fun b => !decide (b = a)).map (fpt V a)).sum
def ptsL (V : List (List Int)) (n : Nat) : List Int := (List.range n).map (pts V n)
/-! ### plain -/
theorem csg_len (V : List (List Int)) (a b : Nat) : (csg V a b).length = V.length := by unfold csg; rw [List.length_map]
theorem cn_le (V : List (List Int)) (a b : Nat) (x : Int) : cn V a b x ≤ V.length := by
  have := List.count_le_length (a := x) (l := csg V a b)
  rw [csg_len] at this
  exact this
theorem sg_neg (x y : Int) : sg y x = - sg x y := by
  rcases sg_cases x y with ⟨h, e⟩ | ⟨h, e⟩ | ⟨h, e⟩ <;> rcases sg_cases y x with ⟨h', e'⟩ | ⟨h', e'⟩ | ⟨h', e'⟩ <;> omega
theorem sg3 (x y : Int) : sg x y = -1 ∨ sg x y = 0 ∨ sg x y = 1 := by
  rcases sg_cases x y with ⟨h, e⟩ | ⟨h, e⟩ | ⟨h, e⟩ <;> simp [e]
theorem cn_swap (V : List (List Int)) (a b : Nat) (x : Int) : cn V b a x = cn V a b (-x) := by
  unfold cn csg
  induction V with
  | nil => rfl
  | cons o V ih =>
    rw [List.map_cons, List.map_cons, List.count_cons, List.count_cons, ih, sg_neg (v o a) (v o b)]
    have : (-sg (v o a) (v o b) == x) = (sg (v o a) (v o b) == -x) := by
      rw [Bool.eq_iff_iff, beq_iff_eq, beq_iff_eq]
      omega
    rw [this]
theorem cn_all (V : List (List Int)) (a b : Nat) : cn V a b (-1) + cn V a b 0 + cn V a b 1 = V.length := by
  unfold cn csg
  induction V with
  | nil => rfl
  | cons o V ih =>
    simp only [List.map_cons, List.count_cons, List.length_cons]
    rcases sg3 (v o a) (v o b) with h | h | h <;> simp [h] <;> omega
theorem csg_sum (V : List (List Int)) (a b : Nat) : (csg V a b).sum = (cn V a b 1 : Int) - (cn V a b (-1) : Int) := by
  unfold cn csg
  induction V with
  | nil => rfl
  | cons o V ih =>
    simp only [List.map_cons, List.sum_cons, List.count_cons, ih]
    rcases sg3 (v o a) (v o b) with h | h | h <;> simp [h] <;> omega
theorem bt_asym {V : List (List Int)} {a b : Nat} (h : bt V a b = true) : bt V b a = false := by
  unfold bt at *
  rw [cn_swap V a b 1, cn_swap V a b (-1)]
  have := of_decide_eq_true h
  exact decide_eq_false (by simp only [Int.neg_neg]; omega)
theorem bt_self (V : List (List Int)) (a : Nat) : bt V a a = false := by
  cases h : bt V a a with
  | false => rfl
  | true => exact absurd h (by rw [bt_asym h]; exact Bool.false_ne_true)
theorem fpt_two (V : List (List Int)) (a b : Nat) : fpt V a b + fpt V b a = 2 * V.length := by
  unfold fpt
  rw [cn_swap V a b (-1), cn_swap V a b 0]
  have := cn_all V a b
  simp only [Int.neg_neg, Int.neg_zero]
  omega
theorem cn_perm {V U : List (List Int)} (h : V.Perm U) (a b : Nat) (x : Int) : cn V a b x = cn U a b x := by
  unfold cn csg
  exact (h.map _).count_eq x
theorem bt_perm {V U : List (List Int)} (h : V.Perm U) : bt V = bt U := by
  funext a b
  unfold bt
  rw [cn_perm h, cn_perm h]
theorem pts_perm {V U : List (List Int)} (h : V.Perm U) (n : Nat) : ptsL V n = ptsL U n := by
  unfold ptsL pts
  have : fpt V = fpt U := by
    funext a b
    unfold fpt
    rw [cn_perm h, cn_perm h]
  rw [this]
/-- the law's own sum of one item -/
def own1 (V : List (List Int)) (a b : Nat) : Int := (if a = b then 0 else 1) * fpt V a b
theorem own_pts (V : List (List Int)) (a : Nat) : ∀ l : List Nat, (l.map (own1 V a)).sum = ((l.filter fun b => !decide (b = a)).map (fpt V a)).sum
  | [] => rfl
  | b :: l => by
    rw [List.map_cons, List.sum_cons, own_pts V a l, List.filter_cons]
    unfold own1
    by_cases h : a = b
    · subst h
      simp
    · have h' : ¬ b = a := fun e => h e.symm
      simp [h, h']
theorem sum_rsucc (g : Nat → Int) (n : Nat) : ((List.range (n + 1)).map g).sum = ((List.range n).map g).sum + g n := by
  rw [List.range_succ, List.map_append, List.sum_append]
  simp
theorem all_pts (V : List (List Int)) : ∀ n : Nat, ((List.range n).map fun a => ((List.range n).map (own1 V a)).sum).sum = V.length * n * (n - 1)
  | 0 => by simp
  | n + 1 => by
    rw [sum_rsucc]
    have e1 : ((List.range n).map fun a => ((List.range (n + 1)).map (own1 V a)).sum).sum = ((List.range n).map fun a => ((List.range n).map (own1 V a)).sum).sum + ((List.range n).map fun a => own1 V a n).sum := by
      rw [← sum_add]
      exact congrArg List.sum (List.map_congr_left fun a _ => sum_rsucc (own1 V a) n)
    rw [e1, all_pts V n, sum_rsucc]
    have e2 : own1 V n n = 0 := by unfold own1; simp
    have e3 : ((List.range n).map fun a => own1 V a n).sum + ((List.range n).map (own1 V n)).sum = n * (2 * V.length) := by
      rw [← sum_add]
      have : (List.range n).map (fun a => own1 V a n + own1 V n a) = (List.range n).map fun _ => (2 * V.length : Int) := List.map_congr_left fun a ha => by
        have ha := List.mem_range.mp ha
        have := fpt_two V a n
        unfold own1
        rw [if_neg (by omega), if_neg (by omega)]
        omega
      rw [this, sum_const, List.length_range, Int.mul_comm]
    rw [e2]
    have e4 : ((V.length : Int) * ((n + 1 : Nat) : Int) * (((n + 1 : Nat) : Int) - 1)) = V.length * n * (n - 1) + n * (2 * V.length) := by
      have h1 : ((n + 1 : Nat) : Int) = (n : Int) + 1 := by omega
      rw [h1]
      generalize (V.length : Int) = L
      generalize (n : Int) = N
      have : N + 1 - 1 = N := by omega
      rw [this, Int.mul_add, Int.add_mul, Int.mul_sub]
      have a1 : N * (2 * L) = L * N + L * N := by
        rw [Int.mul_comm N (2 * L), Int.mul_assoc, Int.two_mul]
      have a2 : L * 1 * N = L * N := by rw [Int.mul_one]
      rw [a1, a2, Int.mul_one]
      omega
    rw [e4]
    omega
theorem sum_pts (V : List (List Int)) (n : Nat) : (ptsL V n).sum = V.length * n * (n - 1) := by
  rw [← all_pts V n]
  unfold ptsL pts
  exact congrArg List.sum (List.map_congr_left fun a _ => (own_pts V a (List.range n)).symm)
/-! ### walks -/
section
variable {n : Nat} {V : List (List Int)}
theorem Vts.lt (h : Vts n V) : V.length ≤ 1000 := by have := h.le; omega
theorem csg_D (V : List (List Int)) (a b : Nat) : (V.map fun o => D.int (sg (v o a) (v o b))) = (csg V a b).map .int := by
  unfold csg
  rw [List.map_map]
  rfl
theorem count_D (l : List Int) (x : Int) : countD (.lst (l.map .int)) [.int x] = .ok (.int (l.count x : Nat)) := by
  unfold countD
  simp only [intsOf_ints]
theorem sp_tally_of (h : Vts n V) {a b : Nat} (ha : a < n) (hb : b < n) : m_tally_of [.lst (V.map T), .int a, .int b] = .ok (T (tl3 V a b)) := by
  have e0 : gam0 5 [.lst (V.map T), .int a, .int b] = [.dat (.lst (V.map T)), .dat (.int (a : Int)), .dat (.int (b : Int)), .no, .no] := by simp [gam0, List.replicate]
  unfold m_tally_of runDef g_tally_of
  rw [e0]
  refine congrArg O.toR (seq_step (Γ' := [.dat (.lst (V.map T)), .dat (.int (a : Int)), .dat (.int (b : Int)), .dat (.lst ((csg V a b).map .int)), .no]) (set_ok (d := .lst ((csg V a b).map .int)) ?_ rfl) ?_ (o := .rt (T (tl3 V a b))))
  · rw [← csg_D]
    refine lc_of (f := T) (by simp) h.lt fun o ho => ⟨[.dat (.lst (V.map T)), .dat (.int (a : Int)), .dat (.int (b : Int)), .no, .dat (T o)], rfl, ?_⟩
    have := sp_sign (o := o) (i := a) (j := b) (by rw [(h.ord o ho).len]; exact ha) (by rw [(h.ord o ho).len]; exact hb)
    simp [this]
  · have t3 : ∀ p q r : D, tupD [p, q, r] = .ok (.tup [p, q, r]) := fun _ _ _ => if_pos (small (by simp))
    have c1 := count_D (csg V a b) (-1)
    have c2 := count_D (csg V a b) 0
    have c3 := count_D (csg V a b) 1
    refine ret_ok ?_
    have hty : isTy "list" (.lst ((csg V a b).map .int)) = true := rfl
    simp only [ev_tup, ev_cons, ev_nil, ev_mt, ev_var, ev_1, ev_c, List.getElem?_cons_succ, List.getElem?_cons_zero, slR_dat, Rg.bind_ok, hty, if_true, neg_int, c1, c2, c3, t3]
    rfl
theorem sp_need_rows (h : Vts n V) : m_need_rows [.lst (V.map T)] = .ok .non := by
  have e0 : gam0 2 [.lst (V.map T)] = [.dat (.lst (V.map T)), .no] := by simp [gam0, List.replicate]
  have hi : isiD "list" (.lst (V.map T)) = .ok (.bl true) := rfl
  have hl := len_rows' V
  have h1 := h.pos
  have h2 := h.le
  have hall : eB allD (aCons (eLc [1] (iSeq (eVar 0)) (tgN 1) (eC (.bl true)) (eCall 1 m_is_order (aCons (eVar 1) aNil))) aNil) [.dat (.lst (V.map T)), .no] = .ok (.bl true) := by
    refine B1_ok (a := .lst (V.map fun _ => .bl true)) ?_ (all_true _)
    refine lc_of (f := T) (by simp) h.lt fun o ho => ⟨[.dat (.lst (V.map T)), .dat (T o)], rfl, ?_⟩
    have := sp_is_order (h.ord o ho)
    simp [this]
  have hany : eB anyD (aCons (eLc [1] (iSeq (eVar 0)) (tgN 1) (eC (.bl true)) (e2 neD (eB lenD (aCons (eVar 1) aNil)) (eB lenD (aCons (e2 ixD (eVar 0) (eC (.int 0))) aNil)))) aNil) [.dat (.lst (V.map T)), .no] = .ok (.bl false) := by
    have hx := ix_rows (L := V) (i := 0) (by omega)
    have hx0 := (h.ord _ (List.getElem_mem (show 0 < V.length by omega))).len
    have := B1_ok (g := anyD) (fa := eLc [1] (iSeq (eVar 0)) (tgN 1) (eC (.bl true)) (e2 neD (eB lenD (aCons (eVar 1) aNil)) (eB lenD (aCons (e2 ixD (eVar 0) (eC (.int 0))) aNil)))) (Γ := [.dat (.lst (V.map T)), .no]) (a := .lst (V.map fun _ => .bl false)) (lc_of (f := T) (by simp) h.lt fun o ho => ⟨[.dat (.lst (V.map T)), .dat (T o)], rfl, by
      have hol := (h.ord o ho).len
      have hx' : ixD (.lst (V.map T)) (.int 0) = .ok (T V[0]) := hx
      simp [hx', hol, hx0]⟩) (any_bl V fun _ => false)
    rw [this]
    simp
  unfold m_need_rows runDef g_need_rows
  rw [e0]
  refine congrArg O.toR (seq_step (Γ' := [.dat (.lst (V.map T)), .no]) (chk ?_) (chk ?_) (o := .nx [.dat (.lst (V.map T)), .no]))
  · have c1 : (1 : Int) ≤ V.length := by omega
    have c2 : (V.length : Int) ≤ 40 := by omega
    refine or_no (by simp [hi]) (or_no ?_ (by rw [ev_not, hall]; rfl))
    simp only [ev_not, ev_chain, ev_B, ev_cons, ev_nil, ev_var, ev_c, List.getElem?_cons_succ, List.getElem?_cons_zero, slR_dat, Rg.bind_ok, hl, le_int, decide_eq_true c1, decide_eq_true c2, B3_bl, if_true, if_false, Bool.false_eq_true]
  · exact hany
theorem sp_need_item {o : List Int} {a : Nat} (h : a < o.length) : m_need_item [T o, .int a] = .ok .non := by
  have e0 : gam0 2 [T o, .int a] = [.dat (T o), .dat (.int (a : Int))] := by simp [gam0, List.replicate]
  have hc := count_ok h
  unfold m_need_item runDef g_need_item
  rw [e0]
  refine congrArg O.toR (chk ?_)
  simp [hc]
theorem sp_tally (h : Vts n V) {a b : Nat} (ha : a < n) (hb : b < n) : m_tally [.lst (V.map T), .int a, .int b] = .ok (T (tl3 V a b)) := by
  have e0 : gam0 3 [.lst (V.map T), .int a, .int b] = [.dat (.lst (V.map T)), .dat (.int (a : Int)), .dat (.int (b : Int))] := by simp [gam0, List.replicate]
  have hp := h.pos
  have hx : ixD (.lst (V.map T)) (.int 0) = .ok (T V[0]) := ix_rows (L := V) (i := 0) (by omega)
  have hx0 := (h.ord _ (List.getElem_mem (show 0 < V.length by omega))).len
  have h1 := sp_need_rows h
  have h2 := sp_need_item (o := V[0]) (a := a) (by omega)
  have h3 := sp_need_item (o := V[0]) (a := b) (by omega)
  have h4 := sp_tally_of h ha hb
  unfold m_tally runDef g_tally
  rw [e0]
  simp [h1, hx, h2, h3, h4]
theorem sp_beats (h : Vts n V) {a b : Nat} (ha : a < n) (hb : b < n) : m_beats [.lst (V.map T), .int a, .int b] = .ok (.bl (bt V a b)) := by
  have e0 : gam0 6 [.lst (V.map T), .int a, .int b] = [.dat (.lst (V.map T)), .dat (.int (a : Int)), .dat (.int (b : Int)), .no, .no, .no] := by simp [gam0, List.replicate]
  have h4 := sp_tally_of h ha hb
  have hst : sAsg (tgT 3 (tgCons (tgN 3) (tgCons (tgN 4) (tgCons (tgN 5) tgNil)))) (vP (eCall 3 m_tally_of (aCons (eVar 0) (aCons (eVar 1) (aCons (eVar 2) aNil))))) [.dat (.lst (V.map T)), .dat (.int (a : Int)), .dat (.int (b : Int)), .no, .no, .no] = .nx [.dat (.lst (V.map T)), .dat (.int (a : Int)), .dat (.int (b : Int)), .dat (.int (cn V a b (-1) : Nat)), .dat (.int (cn V a b 0 : Nat)), .dat (.int (cn V a b 1 : Nat))] := by
    unfold sAsg
    simp only [ev_vP, ev_call, ev_cons, ev_nil, ev_var, List.getElem?_cons_succ, List.getElem?_cons_zero, slR_dat, Rg.bind_ok, List.length_cons, List.length_nil, Nat.zero_add, Nat.reduceAdd, if_true, h4, Rg.toS_ok]
    rfl
  unfold m_beats runDef g_beats
  rw [e0, seq_step hst rfl]
  unfold bt
  simp
theorem sp__law_beats (h : Vts n V) {a b : Nat} (ha : a < n) (hb : b < n) : m__law_beats [.lst (V.map T), .int a, .int b] = .ok (.bl (bt V a b)) := by
  have e0 : gam0 4 [.lst (V.map T), .int a, .int b] = [.dat (.lst (V.map T)), .dat (.int (a : Int)), .dat (.int (b : Int)), .no] := by simp [gam0, List.replicate]
  have hl : eLc [3] (iSeq (eVar 0)) (tgN 3) (eC (.bl true)) (eCall 3 m__law_sign (aCons (eVar 3) (aCons (eVar 1) (aCons (eVar 2) aNil)))) [.dat (.lst (V.map T)), .dat (.int (a : Int)), .dat (.int (b : Int)), .no] = .ok (.lst ((csg V a b).map .int)) := by
    rw [← csg_D]
    refine lc_of (f := T) (by simp) h.lt fun o ho => ⟨[.dat (.lst (V.map T)), .dat (.int (a : Int)), .dat (.int (b : Int)), .dat (T o)], rfl, ?_⟩
    have := sp__law_sign (o := o) (i := a) (j := b) (by rw [(h.ord o ho).len]; exact ha) (by rw [(h.ord o ho).len]; exact hb)
    simp [this]
  have hs := sum_ints (csg V a b)
  have hc := csg_sum V a b
  unfold m__law_beats runDef g__law_beats
  rw [e0]
  refine congrArg O.toR (ret_ok (e2_ok (B1_ok hl hs) rfl ?_))
  rw [lt_int, hc]
  unfold bt
  refine congrArg (fun z => Rg.ok (D.bl z)) ?_
  rw [Bool.eq_iff_iff, decide_eq_true_iff, decide_eq_true_iff]
  omega
theorem len_first (h : Vts n V) : (eB lenD (aCons (e2 ixD (eVar 0) (eC (.int 0))) aNil)) = (eB lenD (aCons (e2 ixD (eVar 0) (eC (.int 0))) aNil)) ∧ ∀ Γ : Gm, Γ[0]? = some (.dat (.lst (V.map T))) → eB lenD (aCons (e2 ixD (eVar 0) (eC (.int 0))) aNil) Γ = .ok (.int n) := by
  refine ⟨rfl, fun Γ hΓ => ?_⟩
  have hp := h.pos
  have hx : ixD (.lst (V.map T)) (.int 0) = .ok (T V[0]) := ix_rows (L := V) (i := 0) (by omega)
  have hx0 := (h.ord _ (List.getElem_mem (show 0 < V.length by omega))).len
  simp [hΓ, hx, hx0]
theorem rng_first (h : Vts n V) {Γ : Gm} (hΓ : Γ[0]? = some (.dat (.lst (V.map T)))) : iRng (aCons (eB lenD (aCons (e2 ixD (eVar 0) (eC (.int 0))) aNil)) aNil) Γ = .ok ((List.range n).map fun r : Nat => .int (r : Int)) := by
  have hn := h.n6
  have hr := rng_N (n := n) (by omega)
  rw [ev_rng, ev_cons, (len_first h).2 Γ hΓ]
  simp only [Rg.bind_ok, ev_nil, hr]
theorem sp_points_of (h : Vts n V) : m_points_of [.lst (V.map T)] = .ok (.lst ((ptsL V n).map .int)) := by
  have e0 : gam0 8 [.lst (V.map T)] = [.dat (.lst (V.map T)), .no, .no, .no, .no, .no, .no, .no] := by simp [gam0, List.replicate]
  have hn := h.n6
  unfold m_points_of runDef g_points_of
  rw [e0]
  refine congrArg O.toR (seq_step (Γ' := [.dat (.lst (V.map T)), .own (.lst []), .no, .no, .no, .no, .no, .no]) (by simp) (seq_step (Γ' := [.dat (.lst (V.map T)), .own (.lst ((ptsL V n).map .int)), .no, .no, .no, .no, .no, .no]) ?_ (by simp)) (o := .rt (.lst ((ptsL V n).map .int))))
  rw [st_for (rng_first h rfl)]
  have key := for_list (ks := [2, 3]) (t := tgN 2) (F := sSeq (sSet 3 (vP (eLc [4] (iRng (aCons (eB lenD (aCons (e2 ixD (eVar 0) (eC (.int 0))) aNil)) aNil)) (tgN 4) (e2 neD (eVar 4) (eVar 2)) (eCall 3 m_tally_of (aCons (eVar 0) (aCons (eVar 2) (aCons (eVar 4) aNil)))))))
    (sApp 1 (vP (eB sumD (aCons (eLc [5, 6, 7] (iSeq (eVar 3)) (tgT 3 (tgCons (tgN 5) (tgCons (tgN 6) (tgCons (tgN 7) tgNil)))) (eC (.bl true)) (e2 addD (e2 mulD (eC (.int 2)) (eVar 5)) (eVar 6))) aNil))))) (f := fun r : Nat => .int (r : Int)) (S := fun p => [.dat (.lst (V.map T)), .own (.lst ((p.map (pts V n)).map .int)), .no, .no, .no, .no, .no, .no]) (l := List.range n) (pre := []) fun p a r e => by
    have ha : a < n := List.mem_range.mp (by rw [List.nil_append] at e; rw [e]; simp)
    have hpl : p.length < 1000 := by
      have := congrArg List.length e
      simp at this
      omega
    refine ⟨[.dat (.lst (V.map T)), .own (.lst ((p.map (pts V n)).map .int)), .dat (.int (a : Nat)), .no, .no, .no, .no, .no], [.dat (.lst (V.map T)), .own (.lst (((p ++ [a]).map (pts V n)).map .int)), .dat (.int (a : Nat)), .dat (.lst (((List.range n).filter fun b => !decide (b = a)).map fun b => T (tl3 V a b))), .no, .no, .no, .no], rfl, ?_, rfl⟩
    refine seq_step (Γ' := [.dat (.lst (V.map T)), .own (.lst ((p.map (pts V n)).map .int)), .dat (.int (a : Nat)), .dat (.lst (((List.range n).filter fun b => !decide (b = a)).map fun b => T (tl3 V a b))), .no, .no, .no, .no]) (set_ok (d := .lst (((List.range n).filter fun b => !decide (b = a)).map fun b => T (tl3 V a b))) ?_ rfl) ?_
    · refine lc_ofF (f := fun r : Nat => .int (r : Int)) (rng_first h rfl) (by rw [List.length_range]; omega) fun b hb => ⟨[.dat (.lst (V.map T)), .no, .dat (.int (a : Nat)), .no, .dat (.int (b : Nat)), .no, .no, .no], rfl, ?_, fun _ => ?_⟩
      · have cb : ((b : Int) = (a : Int)) = (b = a) := propext (by omega)
        simp [cb]
      · have := sp_tally_of h ha (List.mem_range.mp hb)
        simp [this]
    · have hlc : eLc [5, 6, 7] (iSeq (eVar 3)) (tgT 3 (tgCons (tgN 5) (tgCons (tgN 6) (tgCons (tgN 7) tgNil)))) (eC (.bl true)) (e2 addD (e2 mulD (eC (.int 2)) (eVar 5)) (eVar 6)) [.dat (.lst (V.map T)), .own (.lst ((p.map (pts V n)).map .int)), .dat (.int (a : Nat)), .dat (.lst (((List.range n).filter fun b => !decide (b = a)).map fun b => T (tl3 V a b))), .no, .no, .no, .no] = .ok (.lst ((((List.range n).filter fun b => !decide (b = a)).map (fpt V a)).map .int)) := by
        have hm2 : (((List.range n).filter fun b => !decide (b = a)).map (fpt V a)).map D.int = ((List.range n).filter fun b => !decide (b = a)).map fun b => D.int (fpt V a b) := by
          rw [List.map_map]
          rfl
        rw [hm2]
        have hfl := List.length_filter_le (fun b => !decide (b = a)) (List.range n)
        rw [List.length_range] at hfl
        refine lc_of (l := (List.range n).filter fun b => !decide (b = a)) (f := fun b => T (tl3 V a b)) (by simp) (by omega) fun b hb => ⟨[.dat (.lst (V.map T)), .no, .dat (.int (a : Nat)), .dat (.lst (((List.range n).filter fun b => !decide (b = a)).map fun b => T (tl3 V a b))), .no, .dat (.int (cn V a b (-1) : Nat)), .dat (.int (cn V a b 0 : Nat)), .dat (.int (cn V a b 1 : Nat))], rfl, ?_⟩
        have hc1 := cn_le V a b (-1)
        have hc2 := h.le
        have e64 : (2 : Nat) ^ (63 + 1) = 18446744073709551616 := by decide
        have hm : mulOk 2 (cn V a b (-1) : Int) = true := mulOk_of (a := 2) (b := 63) (by decide) (by rw [e64]; omega) (by decide)
        simp only [ev_2, ev_c, ev_var, List.getElem?_cons_succ, List.getElem?_cons_zero, slR_dat, Rg.bind_ok, mul_int hm, add_int]
        rfl
      have hs := sum_ints (((List.range n).filter fun b => !decide (b = a)).map (fpt V a))
      rw [st_app', ev_vP, B1_ok hlc hs]
      have hlen : ((p.map (pts V n)).map D.int).length < 1000 := by simpa using hpl
      simp only [List.getElem?_cons_succ, List.getElem?_cons_zero, isOwnL_own, Rg.bind_ok, Rg.toS_ok, appL_own hlen, List.map_append, List.map_singleton]
      rfl
  rw [List.map_nil, List.map_nil, List.nil_append] at key
  exact key
theorem sp_points (h : Vts n V) : m_points [.lst (V.map T)] = .ok (.lst ((ptsL V n).map .int)) := by
  have e0 : gam0 1 [.lst (V.map T)] = [.dat (.lst (V.map T))] := by simp [gam0, List.replicate]
  unfold m_points runDef g_points
  rw [e0]
  simp [sp_need_rows h, sp_points_of h]
theorem ptsL_len (V : List (List Int)) (n : Nat) : (ptsL V n).length = n := by unfold ptsL; rw [List.length_map, List.length_range]
theorem sp_by_points (h : Vts n V) : m_by_points [.lst (V.map T)] = .ok (T (tidy ltI ((ptsL V n).map fun p => 0 - p))) := by
  have e0 : gam0 2 [.lst (V.map T)] = [.dat (.lst (V.map T)), .no] := by simp [gam0, List.replicate]
  have hn := h.n6
  have hl := ptsL_len V n
  have hlc : eLc [1] (iSeq (eCall 1 m_points_of (aCons (eVar 0) aNil))) (tgN 1) (eC (.bl true)) (e2 subD (eC (.int 0)) (eVar 1)) [.dat (.lst (V.map T)), .no] = .ok (.lst (((ptsL V n).map fun p => 0 - p).map .int)) := by
    rw [List.map_map]
    exact lc_of (f := D.int) (by simp [sp_points_of h]) (by omega) fun p hp => ⟨[.dat (.lst (V.map T)), .dat (.int p)], rfl, by simp⟩
  unfold m_by_points runDef g_by_points
  rw [e0]
  refine congrArg O.toR (seq_step (Γ' := [.dat (.lst (V.map T)), .no]) (by simp [sp_need_rows h]) (ret_ok (c1_ok hlc (sp_tidiedL (by rw [List.length_map]; omega)))) (o := .rt (T (tidy ltI ((ptsL V n).map fun p => 0 - p)))))
/-! ### the winner -/
def wnC (V : List (List Int)) (n a : Nat) : Bool := (List.range n).all fun b => decide (b = a) || bt V a b
def winP (V : List (List Int)) (n : Nat) : Option Nat := (List.range n).find? (wnC V n)
def optI : Option Nat → D
  | some a => .int (a : Int)
  | none => .non
theorem wn_one {a b : Nat} (ha : a < n) (hb : b < n) (h1 : wnC V n a = true) (h2 : wnC V n b = true) : a = b := by
  unfold wnC at h1 h2
  rw [List.all_eq_true] at h1 h2
  have h1 := h1 b (List.mem_range.mpr hb)
  have h2 := h2 a (List.mem_range.mpr ha)
  by_cases e : a = b
  · exact e
  · have e' : ¬ b = a := fun z => e z.symm
    simp only [decide_eq_false e, decide_eq_false e', Bool.false_or] at h1 h2
    rw [bt_asym h1] at h2
    cases h2
theorem sp_winner (h : Vts n V) : m_winner [.lst (V.map T)] = .ok (optI (winP V n)) := by
  have e0 : gam0 4 [.lst (V.map T)] = [.dat (.lst (V.map T)), .no, .no, .no] := by simp [gam0, List.replicate]
  have hn := h.n6
  have hlr : lrngA [.int (n : Int)] = .ok (.lst ((List.range n).map fun r : Nat => .int (r : Int))) := by
    rw [lrng1 (by omega)]
    unfold rngD
    simp
  have hall : ∀ a, a < n → eB allD (aCons (eLc [3] (iSeq (eVar 1)) (tgN 3) (eC (.bl true)) (eOr (e2 eqD (eVar 3) (eVar 2)) (eCall 3 m_beats (aCons (eVar 0) (aCons (eVar 2) (aCons (eVar 3) aNil)))))) aNil) [.dat (.lst (V.map T)), .dat (.lst ((List.range n).map fun r : Nat => .int (r : Int))), .dat (.int (a : Nat)), .no] = .ok (.bl (wnC V n a)) := fun a ha => by
    refine B1_ok (a := .lst ((List.range n).map fun b => .bl (decide (b = a) || bt V a b))) ?_ (by rw [all_bl]; rfl)
    refine lc_of (f := fun r : Nat => .int (r : Int)) (by simp) (by rw [List.length_range]; omega) fun b hb => ⟨[.dat (.lst (V.map T)), .dat (.lst ((List.range n).map fun r : Nat => .int (r : Int))), .dat (.int (a : Nat)), .dat (.int (b : Nat))], rfl, ?_⟩
    have := sp_beats h ha (List.mem_range.mp hb)
    have cb : ((b : Int) = (a : Int)) = (b = a) := propext (by omega)
    by_cases c : b = a <;> simp [cb, c, this]
  have key : ∀ l : List Nat, (∀ a ∈ l, a < n) → forL [2] (tgN 2) (sIf false (eB allD (aCons (eLc [3] (iSeq (eVar 1)) (tgN 3) (eC (.bl true)) (eOr (e2 eqD (eVar 3) (eVar 2)) (eCall 3 m_beats (aCons (eVar 0) (aCons (eVar 2) (aCons (eVar 3) aNil)))))) aNil)) (sRet (vP (eVar 2))) sPass) (l.map fun r : Nat => .int (r : Int)) [.dat (.lst (V.map T)), .dat (.lst ((List.range n).map fun r : Nat => .int (r : Int))), .no, .no] =
      match l.find? (wnC V n) with
      | some a => .rt (.int (a : Int))
      | none => .nx [.dat (.lst (V.map T)), .dat (.lst ((List.range n).map fun r : Nat => .int (r : Int))), .no, .no] := fun l => by
    induction l with
    | nil => exact fun _ => rfl
    | cons a l ih =>
      intro hl
      have ha := hall a (hl a List.mem_cons_self)
      rw [List.map_cons]
      unfold forL
      simp only [tgN, List.set_cons_succ, List.set_cons_zero, st_if, tst_f, ha, ifB_bl, List.find?_cons]
      cases hw : wnC V n a with
      | true => simp
      | false =>
        have hk : killAll [2] [.dat (.lst (V.map T)), .dat (.lst ((List.range n).map fun r : Nat => .int (r : Int))), .dat (.int (a : Nat)), .no] = [.dat (.lst (V.map T)), .dat (.lst ((List.range n).map fun r : Nat => .int (r : Int))), .no, .no] := rfl
        simp only [Bool.false_eq_true, if_false, st_pass, hk]
        exact ih fun b hb => hl b (List.mem_cons_of_mem _ hb)
  unfold m_winner runDef g_winner
  rw [e0]
  refine congrArg O.toR (seq_step (Γ' := [.dat (.lst (V.map T)), .no, .no, .no]) (by simp [sp_need_rows h]) (seq_step (Γ' := [.dat (.lst (V.map T)), .dat (.lst ((List.range n).map fun r : Nat => .int (r : Int))), .no, .no]) (set_ok (d := .lst ((List.range n).map fun r : Nat => .int (r : Int))) ?_ rfl) ?_) (o := .rt (optI (winP V n))))
  · rw [ev_lrng, (len_first h).2 _ rfl, Rg.bind_ok, hlr]
  · have k := key (List.range n) fun a ha => List.mem_range.mp ha
    have hf := st_for (ks := [2]) (t := tgN 2) (F := sIf false (eB allD (aCons (eLc [3] (iSeq (eVar 1)) (tgN 3) (eC (.bl true)) (eOr (e2 eqD (eVar 3) (eVar 2)) (eCall 3 m_beats (aCons (eVar 0) (aCons (eVar 2) (aCons (eVar 3) aNil)))))) aNil)) (sRet (vP (eVar 2))) sPass) (fi := iSeq (eVar 1)) (Γ := [.dat (.lst (V.map T)), .dat (.lst ((List.range n).map fun r : Nat => .int (r : Int))), .no, .no]) (ds := (List.range n).map fun r : Nat => .int (r : Int)) (by simp)
    have hk : killAll [2] [.dat (.lst (V.map T)), .dat (.lst ((List.range n).map fun r : Nat => .int (r : Int))), .no, .no] = [.dat (.lst (V.map T)), .dat (.lst ((List.range n).map fun r : Nat => .int (r : Int))), .no, .no] := rfl
    rw [hk, k] at hf
    refine seq_at hf ?_
    unfold winP
    cases (List.range n).find? (wnC V n) <;> simp [optI]
end
end DL

set_option Elab.async false
set_option linter.all false
set_option maxRecDepth 100000
set_option maxHeartbeats 1000000
namespace DL
open PySem PySem.Spec PyProof.Rows L2 LamX
/-! ### the least by a given comparing -/
theorem minI_gen {α : Type} {f : α → D} {lt : α → α → Bool} (hlt : ∀ x y, PySem.W.dataLt (f x).toPy (f y).toPy = lt x y) (tr : ∀ x y z, lt y x = false → lt z y = false → lt z x = false) (as : ∀ x y, lt y x = true → lt x y = false) :
    ∀ (l : List α) (x : α), ∃ y ∈ x :: l, minI (f x) (l.map f) = f y ∧ ∀ z ∈ x :: l, lt z y = false
  | [], x => ⟨x, List.mem_cons_self, rfl, fun z hz => by
    rw [List.mem_singleton] at hz
    subst hz
    cases h : lt z z with
    | false => rfl
    | true => exact absurd (as _ _ h) (by rw [h]; exact fun e => by cases e)⟩
  | y :: l, x => by
    have hd := hlt y x
    have step : minI (f x) ((y :: l).map f) = minI (if PySem.W.dataLt (f y).toPy (f x).toPy = true then f y else f x) (l.map f) := rfl
    rw [step, hd]
    cases hc : lt y x with
    | true =>
      rw [if_pos rfl]
      obtain ⟨z, hz, e, hm⟩ := minI_gen hlt tr as l y
      refine ⟨z, List.mem_cons_of_mem _ hz, e, fun w hw => ?_⟩
      rcases List.mem_cons.mp hw with rfl | hw
      · exact tr _ _ _ (hm y List.mem_cons_self) (as _ _ hc)
      · exact hm w hw
    | false =>
      rw [if_neg Bool.false_ne_true]
      obtain ⟨z, hz, e, hm⟩ := minI_gen hlt tr as l x
      refine ⟨z, by rcases List.mem_cons.mp hz with rfl | hz <;> simp_all, e, fun w hw => ?_⟩
      rcases List.mem_cons.mp hw with rfl | hw
      · exact hm _ List.mem_cons_self
      · rcases List.mem_cons.mp hw with rfl | hw
        · exact tr _ _ _ (hm x List.mem_cons_self) hc
        · exact hm w (List.mem_cons_of_mem _ hw)
theorem min_gen {α : Type} {f : α → D} {lt : α → α → Bool} {k : Nat} (E : Emb f k) (hk : k ≤ 50) (hal : ∀ x y, PySem.W.alike (f x).toPy (f y).toPy = true) (hpl : ∀ x, isNonP (f x).toPy = false ∧ plainD (f x) = true) (hlt : ∀ x y, PySem.W.dataLt (f x).toPy (f y).toPy = lt x y) (tr : ∀ x y z, lt y x = false → lt z y = false → lt z x = false) (as : ∀ x y, lt y x = true → lt x y = false)
    {l : List α} (hne : l ≠ []) : ∃ y ∈ l, minDD [.lst (l.map f)] = .ok (f y) ∧ ∀ z ∈ l, lt z y = false := by
  cases l with
  | nil => exact absurd rfl hne
  | cons x l =>
    obtain ⟨y, hy, e, hm⟩ := minI_gen hlt tr as l x
    refine ⟨y, hy, ?_, hm⟩
    have ok : minOk ((x :: l).map f) = true := by
      unfold minOk
      simp only [Bool.and_eq_true, List.all_eq_true, decide_eq_true_eq, Bool.not_eq_true']
      refine ⟨⟨fun d hd e he => ?_, fun d hd => ?_⟩, ?_⟩
      · obtain ⟨a, ha, rfl⟩ := List.mem_map.mp hd
        obtain ⟨b, hb, rfl⟩ := List.mem_map.mp he
        exact hal a b
      · obtain ⟨a, ha, rfl⟩ := List.mem_map.mp hd
        exact ⟨⟨(hpl a).1, (hpl a).2⟩, E.lay a⟩
      · rw [← toPys_map]
        exact Nat.le_trans (E.deps (x :: l)) (by omega)
    rw [List.map_cons] at ok ⊢
    show (if minOk (f x :: l.map f) = true then Rg.ok (minI (f x) (l.map f)) else Rg.bad) = _
    rw [if_pos ok, e]
/-- a row with its length ahead -/
def lnD (q : List Nat) : D := .tup [.int q.length, NL q]
theorem plain_ints (o : List Int) : plainDs (o.map D.int) = true := by
  induction o with
  | nil => simp [plainDs]
  | cons a o ih => simp [plainDs, plainD, ih]
theorem emb_ln : Emb lnD 4 := ⟨fun x y => by
    have := emb_NL.eq x y
    simp only [lnD, D.toPy, D.toPys, PyData.eqv, PyData.eqvAll, Bool.and_eq_true, Bool.and_true]
    rw [show PyData.eqv (NL x).toPy (NL y).toPy = true ↔ x = y from this]
    constructor
    · exact fun h => h.2
    · rintro rfl; exact ⟨by simp, rfl⟩, fun x => by
    have := emb_NL.lay x
    simp [lnD, D.toPy, D.toPys, PyData.canLay0, PyData.canLayAll0, this], fun x => by
    have := emb_NL.dep x
    simp only [lnD, D.toPy, D.toPys, PyData.depth, PyData.depthAll]
    omega⟩
theorem lt_ln (q b : List Nat) : PySem.W.dataLt (lnD q).toPy (lnD b).toPy = keyLt q b := by
  have h := lt_key q b
  unfold ltDD at h
  split at h
  · exact D.bl.inj (Rg.ok.inj h)
  · cases h
theorem min_ln {l : List (List Nat)} (hne : l ≠ []) : ∃ y ∈ l, minDD [.lst (l.map lnD)] = .ok (lnD y) ∧ ∀ z ∈ l, y.length ≤ z.length := by
  obtain ⟨y, hy, e, h⟩ := min_gen (f := lnD) (lt := keyLt) emb_ln (by decide) (fun x y => by
      have al : PySem.W.alike (NL x).toPy (NL y).toPy = true := by rw [toPy_NL, toPy_NL]; simp only [PySem.W.alike]; exact alike_any _ _
      simp [lnD, D.toPy, D.toPys, PySem.W.alike, PySem.W.alikeAll, al]) (fun x => by
      refine ⟨by simp [lnD, D.toPy, isNonP], ?_⟩
      have := plain_ints (x.map fun i : Nat => (i : Int))
      unfold lnD
      rw [NL_int]
      simp only [plainD, plainDs, this, Bool.and_true]) lt_ln (fun x y z h1 h2 => by
      cases h : keyLt z x with
      | false => rfl
      | true => exact absurd h (kLe_tr (a := x) (b := y) (c := z) (by unfold kLe; rw [h1]; exact Bool.false_ne_true) (by unfold kLe; rw [h2]; exact Bool.false_ne_true))) (fun x y h => by
      cases h2 : keyLt x y with
      | false => rfl
      | true => exact absurd (key_tr h h2) (key_irr _)) hne
  refine ⟨y, hy, e, fun z hz => ?_⟩
  have := h z hz
  by_cases c : z.length < y.length
  · rw [key_iff.mpr (.inl c)] at this
    cases this
  · omega
/-! ### numbers sorted -/
def le_N (a b : Nat) : Bool := decide (a ≤ b)
theorem sort_NI (S : List Nat) : sortD [NL S] = .ok (NL (S.mergeSort le_N)) := by
  have ok : sortOk (S.map fun i : Nat => D.int (i : Int)) = true := by
    unfold sortOk
    simp only [Bool.and_eq_true, Bool.or_eq_true, List.all_eq_true]
    refine ⟨⟨fun d hd e he => ?_, .inr fun d hd => ?_⟩, fun d hd => ?_⟩
    · obtain ⟨a, ha, rfl⟩ := List.mem_map.mp hd
      obtain ⟨b, hb, rfl⟩ := List.mem_map.mp he
      simp [D.toPy, PySem.W.alike]
    · obtain ⟨a, ha, rfl⟩ := List.mem_map.mp hd
      rfl
    · obtain ⟨a, ha, rfl⟩ := List.mem_map.mp hd
      exact ⟨emb_int.lay _, decide_eq_true (Nat.le_trans (emb_int.dep _) (by decide))⟩
  unfold sortD NL
  simp only [ok, if_true]
  congr 2
  refine (List.map_mergeSort (f := fun i : Nat => D.int (i : Int)) fun a _ b _ => ?_).symm
  show le_N a b = !PySem.W.dataLt (PyData.int (b : Int)) (PyData.int (a : Int))
  rw [PySem.W.dataLt_int]
  unfold le_N
  rw [Bool.eq_iff_iff, decide_eq_true_iff, Bool.not_eq_true', decide_eq_false_iff_not]
  omega
theorem srt_is {n : Nat} {S : List Nat} (nd : S.Nodup) (h : ∀ i ∈ S, i < n) : S.mergeSort le_N = (List.range n).filter fun i => decide (i ∈ S) := by
  have pm := List.mergeSort_perm S le_N
  have hs := List.pairwise_mergeSort (le := le_N) (fun a b c h1 h2 => decide_eq_true (Nat.le_trans (of_decide_eq_true h1) (of_decide_eq_true h2))) (fun a b => by unfold le_N; rw [Bool.or_eq_true, decide_eq_true_iff, decide_eq_true_iff]; omega) S
  have hr : ((List.range n).filter fun i => decide (i ∈ S)).Pairwise fun a b => le_N a b = true := by
    refine List.Pairwise.filter _ (List.Pairwise.imp (fun h => decide_eq_true (Nat.le_of_lt h)) List.pairwise_lt_range)
  refine List.Perm.eq_of_pairwise (le := fun a b => le_N a b = true) (fun a b _ _ h1 h2 => Nat.le_antisymm (of_decide_eq_true h1) (of_decide_eq_true h2)) hs hr ?_
  refine pm.trans ((List.perm_ext_iff_of_nodup nd (List.Pairwise.filter _ List.nodup_range)).mpr fun i => ?_)
  rw [List.mem_filter, List.mem_range, decide_eq_true_iff]
  exact ⟨fun hi => ⟨h i hi, hi⟩, fun hi => hi.2⟩
/-! ### sets that nobody outside isn't beaten by -/
def Clo (V : List (List Int)) (n : Nat) (S : List Nat) : Prop := ∀ a ∈ S, ∀ b, b < n → bt V a b = false → b ∈ S
def nrm (n : Nat) (S : List Nat) : List Nat := (List.range n).filter fun i => decide (i ∈ S)
theorem mem_nrm {n i : Nat} {S : List Nat} : i ∈ nrm n S ↔ i < n ∧ i ∈ S := by
  unfold nrm
  rw [List.mem_filter, List.mem_range, decide_eq_true_iff]
theorem nrm_ext {n : Nat} {S R : List Nat} (h : ∀ i, i < n → (i ∈ S ↔ i ∈ R)) : nrm n S = nrm n R :=
  List.filter_congr fun i hi => by
    rw [Bool.eq_iff_iff, decide_eq_true_iff, decide_eq_true_iff]
    exact h i (List.mem_range.mp hi)
theorem nrm_len {n : Nat} {S R : List Nat} (h : ∀ i ∈ S, i < n → i ∈ R) : (nrm n S).length ≤ (nrm n R).length :=
  (filter_lt (l := List.range n) (p := fun i => decide (i ∈ S)) (q := fun i => decide (i ∈ R)) fun x hx hp => decide_eq_true (h x (of_decide_eq_true hp) (List.mem_range.mp hx))).1
theorem nrm_lt {n : Nat} {S R : List Nat} (h : ∀ i ∈ S, i < n → i ∈ R) {j : Nat} (hj : j < n) (h1 : j ∈ R) (h2 : j ∉ S) : (nrm n S).length < (nrm n R).length :=
  (filter_lt (l := List.range n) (p := fun i => decide (i ∈ S)) (q := fun i => decide (i ∈ R)) fun x hx hp => decide_eq_true (h x (of_decide_eq_true hp) (List.mem_range.mp hx))).2 ⟨j, List.mem_range.mpr hj, decide_eq_true h1, decide_eq_false h2⟩
theorem clo_nest {V : List (List Int)} {n : Nat} {S R : List Nat} (hS : Clo V n S) (hR : Clo V n R) : (∀ i ∈ S, i < n → i ∈ R) ∨ (∀ i ∈ R, i < n → i ∈ S) := by
  by_cases h : ∀ i ∈ S, i < n → i ∈ R
  · exact .inl h
  · refine .inr fun j hj hjn => ?_
    by_cases hjS : j ∈ S
    · exact hjS
    · exfalso
      have ⟨i, hi⟩ := Classical.not_forall.mp h
      have ⟨hiS, hi⟩ := Classical.not_imp.mp hi
      have ⟨hin, hiR⟩ := Classical.not_imp.mp hi
      cases hb : bt V i j with
      | false => exact hjS (hS i hiS j hjn hb)
      | true => exact hiR (hR j hj i hin (bt_asym hb))
structure Best (V : List (List Int)) (n : Nat) (B : List Nat) : Prop where
  nm : nrm n B = B
  ne : B ≠ []
  cl : Clo V n B
  le : ∀ S, Clo V n S → (∃ i ∈ S, i < n) → ∀ i ∈ B, i ∈ S
theorem Best.lt {V : List (List Int)} {n : Nat} {B : List Nat} (h : Best V n B) {i : Nat} (hi : i ∈ B) : i < n := by
  rw [← h.nm] at hi
  exact (mem_nrm.mp hi).1
theorem Best.uniq {V : List (List Int)} {n : Nat} {B C : List Nat} (h : Best V n B) (k : Best V n C) : B = C := by
  have some_of : ∀ {B : List Nat}, Best V n B → ∃ i ∈ B, i < n := fun {B} h => by
    cases hB : B with
    | nil => exact absurd hB h.ne
    | cons i r => exact ⟨i, List.mem_cons_self, h.lt (by rw [hB]; exact List.mem_cons_self)⟩
  rw [← h.nm, ← k.nm]
  exact nrm_ext fun i _ => ⟨h.le C k.cl (some_of k) i, k.le B h.cl (some_of h) i⟩
/-- of least length is least -/
theorem best_of {V : List (List Int)} {n : Nat} {B : List Nat} (nm : nrm n B = B) (ne : B ≠ []) (cl : Clo V n B) (h : ∀ S, nrm n S = S → Clo V n S → S ≠ [] → B.length ≤ S.length) : Best V n B := by
  refine ⟨nm, ne, cl, fun S hS ⟨i0, hi0, hn0⟩ => ?_⟩
  have hlt : ∀ i ∈ B, i < n := fun i hi => by rw [← nm] at hi; exact (mem_nrm.mp hi).1
  rcases clo_nest cl hS with h1 | h1
  · exact fun i hi => h1 i hi (hlt i hi)
  · intro i hi
    by_cases c : i ∈ S
    · exact c
    · exfalso
      have h2 := nrm_lt h1 (hlt i hi) hi c
      rw [nm] at h2
      have nn : nrm n (nrm n S) = nrm n S := nrm_ext fun j hj => by rw [mem_nrm]; exact ⟨fun z => z.2, fun z => ⟨hj, z⟩⟩
      have h3 := h (nrm n S) nn (fun a ha b hb hab => mem_nrm.mpr ⟨hb, hS a (mem_nrm.mp ha).2 b hb hab⟩) (fun e => by
        have : i0 ∈ nrm n S := mem_nrm.mpr ⟨hn0, hi0⟩
        rw [e] at this
        cases this)
      omega
/-! ### best_ones -/
section
variable {n : Nat} {V : List (List Int)}
def bext (V : List (List Int)) (n a : Nat) (S : List Nat) : List Nat := (List.range n).filter fun b => !decide (b ∈ S) && !bt V a b
structure SI (V : List (List Int)) (n one : Nat) (S : List Nat) (at_ : Nat) : Prop where
  nd : S.Nodup
  lt : ∀ i ∈ S, i < n
  ini : one ∈ S
  cl : ∀ j, j < at_ → ∀ a, S[j]? = some a → ∀ b, b < n → bt V a b = false → b ∈ S
  le : ∀ R, Clo V n R → one ∈ R → ∀ i ∈ S, i ∈ R
theorem si_step {one at_ : Nat} {S : List Nat} (I : SI V n one S at_) {a : Nat} (ha : S[at_]? = some a) : SI V n one (S ++ bext V n a S) (at_ + 1) := by
  have hme : ∀ {b}, b ∈ bext V n a S ↔ b < n ∧ b ∉ S ∧ bt V a b = false := fun {b} => by
    unfold bext
    rw [List.mem_filter, List.mem_range]
    simp
  refine ⟨?_, ?_, List.mem_append_left _ I.ini, ?_, ?_⟩
  · rw [List.nodup_append]
    refine ⟨I.nd, List.Pairwise.filter _ List.nodup_range, fun x hx y hy e => ?_⟩
    subst e
    exact (hme.mp hy).2.1 hx
  · intro i hi
    rcases List.mem_append.mp hi with hi | hi
    · exact I.lt i hi
    · exact (hme.mp hi).1
  · intro j hj c hc b hb hcb
    have hal := (List.getElem?_eq_some_iff.mp ha).1
    rw [List.getElem?_append_left (by omega)] at hc
    by_cases e : j < at_
    · exact List.mem_append_left _ (I.cl j e c hc b hb hcb)
    · have : j = at_ := by omega
      subst this
      rw [ha] at hc
      cases hc
      by_cases hbS : b ∈ S
      · exact List.mem_append_left _ hbS
      · exact List.mem_append_right _ (hme.mpr ⟨hb, hbS, hcb⟩)
  · intro R hR h1 i hi
    rcases List.mem_append.mp hi with hi | hi
    · exact I.le R hR h1 i hi
    · exact hR a (I.le R hR h1 a (List.mem_of_getElem? ha)) i (hme.mp hi).1 (hme.mp hi).2.2
theorem nd_len {n : Nat} {S : List Nat} (nd : S.Nodup) (h : ∀ i ∈ S, i < n) : S.length ≤ n := by
  have hl := (List.mergeSort_perm S le_N).length_eq
  rw [srt_is nd h] at hl
  have := List.length_filter_le (fun i => decide (i ∈ S)) (List.range n)
  rw [List.length_range] at this
  omega
def boB : Gm → O := sSeq (sExt 4 (vF (eLc [6] (iSeq (eVar 1)) (tgN 6) (eAnd (e2 ninD (eVar 6) (eVar 4)) (eNot (eCall 3 m_beats (aCons (eVar 0) (aCons (e2 ixD (eVar 4) (eVar 5)) (aCons (eVar 6) aNil)))))) (eVar 6))))
  (sSet 5 (vP (e2 addD (eVar 5) (eC (.int 1)))))
theorem in_NL (i : Nat) (S : List Nat) : inD (.int (i : Int)) (NL S) = .ok (.bl (decide (i ∈ S))) := by
  have h1 : eqOk (.int (i : Int)) = true := emb_int.ok (by decide) _
  have h2 : eqOk (NL S) = true := emb_NL.ok (by decide) S
  unfold NL at h2 ⊢
  simp only [inD, h1, h2, Bool.and_self, if_true]
  congr 2
  rw [Bool.eq_iff_iff, decide_eq_true_iff, List.any_eq_true]
  constructor
  · rintro ⟨d, hd, e⟩
    obtain ⟨r, hr, rfl⟩ := List.mem_map.mp hd
    have := (emb_int.eq (r : Int) (i : Int)).mp e
    have : r = i := by omega
    subst this
    exact hr
  · exact fun h => ⟨.int (i : Int), List.mem_map.mpr ⟨i, h, rfl⟩, (emb_int.eq _ _).mpr rfl⟩
theorem nin_NL (i : Nat) (S : List Nat) : ninD (.int (i : Int)) (NL S) = .ok (.bl (!decide (i ∈ S))) := by
  unfold ninD
  rw [in_NL]
  rfl
theorem ix_NL {S : List Nat} {j a : Nat} (h : S[j]? = some a) : ixD (NL S) (.int (j : Int)) = .ok (.int (a : Int)) := by
  obtain ⟨hj, e⟩ := List.getElem?_eq_some_iff.mp h
  have := ix_lst (ds := S.map fun i : Nat => D.int (i : Int)) (i := j) (by simpa using hj)
  rw [List.getElem_map, e] at this
  exact this
theorem len_NL (q : List Nat) : lenD [NL q] = .ok (.int q.length) := by simp [NL, lenD]
theorem bo_step (h : Vts n V) {one at_ a : Nat} {fo S : List Nat} (I : SI V n one S at_) (ha : S[at_]? = some a) : boB [.dat (.lst (V.map T)), .dat (NL (List.range n)), .dat (NL fo), .dat (.int (one : Nat)), .own (NL S), .dat (.int (at_ : Nat)), .no] = .nx [.dat (.lst (V.map T)), .dat (NL (List.range n)), .dat (NL fo), .dat (.int (one : Nat)), .own (NL (S ++ bext V n a S)), .dat (.int ((at_ + 1 : Nat) : Nat)), .no] := by
  have hn := h.n6
  have hlen := nd_len I.nd I.lt
  have hlt := I.lt a (List.mem_of_getElem? ha)
  have hlc : eLc [6] (iSeq (eVar 1)) (tgN 6) (eAnd (e2 ninD (eVar 6) (eVar 4)) (eNot (eCall 3 m_beats (aCons (eVar 0) (aCons (e2 ixD (eVar 4) (eVar 5)) (aCons (eVar 6) aNil)))))) (eVar 6) [.dat (.lst (V.map T)), .dat (NL (List.range n)), .dat (NL fo), .dat (.int (one : Nat)), .dat (NL S), .dat (.int (at_ : Nat)), .no] = .ok (NL (bext V n a S)) := by
    refine lc_ofF (f := fun r : Nat => .int (r : Int)) (h := fun r : Nat => .int (r : Int)) (p := fun b => !decide (b ∈ S) && !bt V a b) (by simp [NL]) (by rw [List.length_range]; omega) fun b hb => ⟨[.dat (.lst (V.map T)), .dat (NL (List.range n)), .dat (NL fo), .dat (.int (one : Nat)), .dat (NL S), .dat (.int (at_ : Nat)), .dat (.int (b : Nat))], rfl, ?_, fun _ => rfl⟩
    have h1 := nin_NL b S
    have h2 := ix_NL ha
    have h3 := sp_beats h hlt (List.mem_range.mp hb)
    simp only [ev_and, ev_2, ev_not, ev_call, ev_cons, ev_nil, ev_var, List.getElem?_cons_succ, List.getElem?_cons_zero, slR_dat, Rg.bind_ok, List.length_cons, List.length_nil, Nat.zero_add, Nat.reduceAdd, if_true, h1, h2, h3, B3_bl]
    cases decide (b ∈ S) <;> cases bt V a b <;> rfl
  have hfl : flatItems (NL (bext V n a S)) = true := by rw [NL_int, flatI_lst]; exact flats_ints _
  have hel : (bext V n a S).length ≤ n := by
    have := List.length_filter_le (fun b => !decide (b ∈ S) && !bt V a b) (List.range n)
    rw [List.length_range] at this
    exact this
  unfold boB
  refine seq_step (Γ' := [.dat (.lst (V.map T)), .dat (NL (List.range n)), .dat (NL fo), .dat (.int (one : Nat)), .own (NL (S ++ bext V n a S)), .dat (.int (at_ : Nat)), .no]) ?_ (by simp)
  rw [st_ext']
  have hun : unown [.dat (.lst (V.map T)), .dat (NL (List.range n)), .dat (NL fo), .dat (.int (one : Nat)), .own (NL S), .dat (.int (at_ : Nat)), .no] = [.dat (.lst (V.map T)), .dat (NL (List.range n)), .dat (NL fo), .dat (.int (one : Nat)), .dat (NL S), .dat (.int (at_ : Nat)), .no] := by simp only [unown_own', unown_dat', unown_no, unown_nil]
  have hown : (NL S) = .lst (S.map fun i : Nat => .int (i : Int)) := rfl
  rw [ev_vF, hun, hlc]
  simp only [List.getElem?_cons_succ, List.getElem?_cons_zero, Rg.bind_ok, hfl, if_true, Rg.toS_ok]
  show isOwnL (some (.own (.lst (S.map fun i : Nat => .int (i : Int))))) (extL (some (.own (.lst (S.map fun i : Nat => .int (i : Int))))) 4 _ (.lst ((bext V n a S).map fun i : Nat => .int (i : Int)))) = _
  rw [isOwnL_own, extL_own (by simp; omega)]
  unfold NL
  rw [List.map_append]
  rfl
theorem bo_while (h : Vts n V) {one : Nat} {fo : List Nat} : ∀ (k at_ : Nat) (S : List Nat), SI V n one S at_ → at_ ≤ S.length → n < at_ + k →
    ∃ S', whileN [] true (e2 ltD (eVar 5) (eB lenD (aCons (eVar 4) aNil))) boB k [.dat (.lst (V.map T)), .dat (NL (List.range n)), .dat (NL fo), .dat (.int (one : Nat)), .own (NL S), .dat (.int (at_ : Nat)), .no] = .nx [.dat (.lst (V.map T)), .dat (NL (List.range n)), .dat (NL fo), .dat (.int (one : Nat)), .own (NL S'), .dat (.int (S'.length : Nat)), .no] ∧ SI V n one S' S'.length
  | 0, at_, S, I, h1, h2 => by have := nd_len I.nd I.lt; omega
  | k + 1, at_, S, I, h1, h2 => by
    have hlen := len_NL S
    have hc : tst true (e2 ltD (eVar 5) (eB lenD (aCons (eVar 4) aNil))) [.dat (.lst (V.map T)), .dat (NL (List.range n)), .dat (NL fo), .dat (.int (one : Nat)), .own (NL S), .dat (.int (at_ : Nat)), .no] = .ok (.bl (decide (at_ < S.length))) := by
      rw [tst_t]
      simp only [unown_own', unown_dat', unown_no, unown_nil, ev_2, ev_var, ev_B, ev_cons, ev_nil, List.getElem?_cons_succ, List.getElem?_cons_zero, slR_dat, Rg.bind_ok, hlen, lt_int]
      refine congrArg (fun z => Rg.ok (D.bl z)) ?_
      rw [Bool.eq_iff_iff, decide_eq_true_iff, decide_eq_true_iff]
      omega
    by_cases c : at_ < S.length
    · have hx : S[at_]? = some S[at_] := List.getElem?_eq_getElem c
      rw [decide_eq_true c] at hc
      obtain ⟨S', h3, h4⟩ := bo_while h (one := one) (fo := fo) k (at_ + 1) (S ++ bext V n S[at_] S) (si_step I hx) (by rw [List.length_append]; omega) (by omega)
      refine ⟨S', ?_, h4⟩
      rw [while_step hc (bo_step h I hx)]
      exact h3
    · rw [decide_eq_false c] at hc
      have : at_ = S.length := by omega
      subst this
      exact ⟨S, while_end hc, I⟩
def boA : Gm → O := sSeq (sOwn 4 (vP (eLst (aCons (eVar 3) aNil))))
  (sSeq (sSet 5 (vP (eC (.int 0))))
  (sSeq (sWhile [] true (e2 ltD (eVar 5) (eB lenD (aCons (eVar 4) aNil))) boB 100)
  (sIf true (e2 ltD (eB lenD (aCons (eVar 4) aNil)) (eB lenD (aCons (eVar 2) aNil))) (sSet 2 (vF (eB sortD (aCons (eVar 4) aNil)))) sPass)))
/-- what was found among the first -/
structure FI (V : List (List Int)) (n : Nat) (fo : List Nat) (p : List Nat) : Prop where
  nm : nrm n fo = fo
  ne : fo ≠ []
  cl : Clo V n fo
  le : ∀ S, nrm n S = S → Clo V n S → (∃ i ∈ S, i ∈ p) → fo.length ≤ S.length
theorem bo_turn (h : Vts n V) {one : Nat} {fo p : List Nat} (h1 : one < n) (F : FI V n fo p) : ∃ fo' Γ2, boA [.dat (.lst (V.map T)), .dat (NL (List.range n)), .dat (NL fo), .dat (.int (one : Nat)), .no, .no, .no] = .nx Γ2 ∧ killAll [3, 4, 5] Γ2 = [.dat (.lst (V.map T)), .dat (NL (List.range n)), .dat (NL fo'), .no, .no, .no, .no] ∧ FI V n fo' (p ++ [one]) := by
  have hn := h.n6
  have I0 : SI V n one [one] 0 := ⟨by simp, fun i hi => by rw [List.mem_singleton] at hi; omega, List.mem_singleton_self _, fun j hj => by omega, fun R hR h1 i hi => by rw [List.mem_singleton] at hi; subst hi; exact h1⟩
  obtain ⟨S, hw, I⟩ := bo_while h (one := one) (fo := fo) 100 0 [one] I0 (by simp) (by omega)
  have hcl : Clo V n S := fun a ha b hb hab => by
    obtain ⟨j, hj, e⟩ := List.getElem_of_mem ha
    exact I.cl j hj a (by rw [List.getElem?_eq_getElem hj, e]) b hb hab
  have hsl := nd_len I.nd I.lt
  have hnl : (nrm n S).length = S.length := by
    have := (List.mergeSort_perm S le_N).length_eq
    rw [srt_is I.nd I.lt] at this
    exact this
  have hcn : Clo V n (nrm n S) := fun a ha b hb hab => mem_nrm.mpr ⟨hb, hcl a (mem_nrm.mp ha).2 b hb hab⟩
  have hmin : ∀ R, nrm n R = R → Clo V n R → one ∈ R → S.length ≤ R.length := fun R hR hcR ho => by
    rw [← hnl, ← hR]
    exact nrm_len fun i hi _ => I.le R hcR ho i hi
  have hl1 := len_NL S
  have hl2 := len_NL fo
  have l1 : lstD [.int (one : Int)] = .ok (.lst [.int (one : Int)]) := lstD_small (by simp)
  have pre : ∀ {Γ2 : Gm}, sIf true (e2 ltD (eB lenD (aCons (eVar 4) aNil)) (eB lenD (aCons (eVar 2) aNil))) (sSet 2 (vF (eB sortD (aCons (eVar 4) aNil)))) sPass [.dat (.lst (V.map T)), .dat (NL (List.range n)), .dat (NL fo), .dat (.int (one : Nat)), .own (NL S), .dat (.int (S.length : Nat)), .no] = .nx Γ2 → boA [.dat (.lst (V.map T)), .dat (NL (List.range n)), .dat (NL fo), .dat (.int (one : Nat)), .no, .no, .no] = .nx Γ2 := fun {Γ2} h => by
    unfold boA
    refine seq_step (Γ' := [.dat (.lst (V.map T)), .dat (NL (List.range n)), .dat (NL fo), .dat (.int (one : Nat)), .own (NL [one]), .no, .no]) (by simp [l1]; rfl) (seq_step (Γ' := [.dat (.lst (V.map T)), .dat (NL (List.range n)), .dat (NL fo), .dat (.int (one : Nat)), .own (NL [one]), .dat (.int ((0 : Nat) : Int)), .no]) (by simp) (seq_step hw h))
  have hc : tst true (e2 ltD (eB lenD (aCons (eVar 4) aNil)) (eB lenD (aCons (eVar 2) aNil))) [.dat (.lst (V.map T)), .dat (NL (List.range n)), .dat (NL fo), .dat (.int (one : Nat)), .own (NL S), .dat (.int (S.length : Nat)), .no] = .ok (.bl (decide (S.length < fo.length))) := by
    rw [tst_t]
    simp only [unown_own', unown_dat', unown_no, unown_nil, ev_2, ev_var, ev_B, ev_cons, ev_nil, List.getElem?_cons_succ, List.getElem?_cons_zero, slR_dat, Rg.bind_ok, hl1, hl2, lt_int]
    refine congrArg (fun z => Rg.ok (D.bl z)) ?_
    rw [Bool.eq_iff_iff, decide_eq_true_iff, decide_eq_true_iff]
    omega
  by_cases c : S.length < fo.length
  · rw [decide_eq_true c] at hc
    refine ⟨nrm n S, [.dat (.lst (V.map T)), .dat (NL (List.range n)), .dat (NL (nrm n S)), .dat (.int (one : Nat)), .own (NL S), .dat (.int (S.length : Nat)), .no], pre ?_, rfl, ?_⟩
    · rw [st_if, hc, ifB_bl, if_pos rfl]
      have hs := sort_NI S
      rw [srt_is I.nd I.lt] at hs
      have hun : unown [.dat (.lst (V.map T)), .dat (NL (List.range n)), .dat (NL fo), .dat (.int (one : Nat)), .own (NL S), .dat (.int (S.length : Nat)), .no] = [.dat (.lst (V.map T)), .dat (NL (List.range n)), .dat (NL fo), .dat (.int (one : Nat)), .dat (NL S), .dat (.int (S.length : Nat)), .no] := by simp only [unown_own', unown_dat', unown_no, unown_nil]
      have hfl : flatItems (NL (nrm n S)) = true := by rw [NL_int, flatI_lst]; exact flats_ints _
      have hs' : sortD [NL S] = .ok (NL (nrm n S)) := hs
      rw [st_set, ev_vF, hun, B1_ok (var_ok rfl) hs']
      simp only [Rg.bind_ok, hfl, if_true, Rg.toS_ok]
      rfl
    · refine ⟨nrm_ext fun j hj => by rw [mem_nrm]; exact ⟨fun z => z.2, fun z => ⟨hj, z⟩⟩, fun e => ?_, hcn, fun R hR hcR ⟨i, hi, hip⟩ => ?_⟩
      · have : one ∈ nrm n S := mem_nrm.mpr ⟨h1, I.ini⟩
        rw [e] at this
        cases this
      · rw [hnl]
        rcases List.mem_append.mp hip with hip | hip
        · have := F.le R hR hcR ⟨i, hi, hip⟩
          omega
        · rw [List.mem_singleton] at hip
          subst hip
          exact hmin R hR hcR hi
  · rw [decide_eq_false c] at hc
    refine ⟨fo, [.dat (.lst (V.map T)), .dat (NL (List.range n)), .dat (NL fo), .dat (.int (one : Nat)), .own (NL S), .dat (.int (S.length : Nat)), .no], pre ?_, rfl, F.nm, F.ne, F.cl, fun R hR hcR ⟨i, hi, hip⟩ => ?_⟩
    · rw [st_if, hc, ifB_bl, if_neg Bool.false_ne_true]
      rfl
    · rcases List.mem_append.mp hip with hip | hip
      · exact F.le R hR hcR ⟨i, hi, hip⟩
      · rw [List.mem_singleton] at hip
        subst hip
        have := hmin R hR hcR hi
        omega
theorem bo_loop (h : Vts n V) : ∀ (l p fo : List Nat), (∀ i ∈ l, i < n) → FI V n fo p → ∃ fo', forL [3, 4, 5] (tgN 3) boA (l.map fun r : Nat => .int (r : Int)) [.dat (.lst (V.map T)), .dat (NL (List.range n)), .dat (NL fo), .no, .no, .no, .no] = .nx [.dat (.lst (V.map T)), .dat (NL (List.range n)), .dat (NL fo'), .no, .no, .no, .no] ∧ FI V n fo' (p ++ l)
  | [], p, fo, _, F => ⟨fo, rfl, by rw [List.append_nil]; exact F⟩
  | one :: l, p, fo, hl, F => by
    obtain ⟨f1, Γ2, a1, a2, a3⟩ := bo_turn h (hl one List.mem_cons_self) F
    obtain ⟨f2, b1, b2⟩ := bo_loop h l (p ++ [one]) f1 (fun i hi => hl i (List.mem_cons_of_mem _ hi)) a3
    refine ⟨f2, ?_, by rw [List.append_assoc] at b2; exact b2⟩
    rw [List.map_cons]
    unfold forL
    simp only [tgN, List.set_cons_succ, List.set_cons_zero, a1, a2]
    exact b1
theorem sp_best_ones (h : Vts n V) : ∃ B, m_best_ones [.lst (V.map T)] = .ok (NL B) ∧ Best V n B := by
  have e0 : gam0 7 [.lst (V.map T)] = [.dat (.lst (V.map T)), .no, .no, .no, .no, .no, .no] := by simp [gam0, List.replicate]
  have hn := h.n6
  have hn1 := h.n1
  have hlr : lrngA [.int (n : Int)] = .ok (NL (List.range n)) := by
    rw [lrng1 (by omega)]
    unfold rngD NL
    simp
  have F0 : FI V n (List.range n) [] := ⟨by
      unfold nrm
      rw [List.filter_eq_self]
      exact fun i hi => decide_eq_true hi, fun e => by
      have := congrArg List.length e
      rw [List.length_range] at this
      simp at this
      omega, fun a ha b hb _ => List.mem_range.mpr hb, fun S _ _ ⟨i, _, hi⟩ => by cases hi⟩
  obtain ⟨B, h1, h2⟩ := bo_loop h (List.range n) [] (List.range n) (fun i hi => List.mem_range.mp hi) F0
  refine ⟨B, ?_, best_of h2.nm h2.ne h2.cl fun S hS hc hne => ?_⟩
  · unfold m_best_ones runDef g_best_ones
    rw [e0]
    refine congrArg O.toR (seq_step (Γ' := [.dat (.lst (V.map T)), .no, .no, .no, .no, .no, .no]) (by simp [sp_need_rows h]) (seq_step (Γ' := [.dat (.lst (V.map T)), .dat (NL (List.range n)), .no, .no, .no, .no, .no]) (set_ok (d := NL (List.range n)) ?_ rfl) (seq_step (Γ' := [.dat (.lst (V.map T)), .dat (NL (List.range n)), .dat (NL (List.range n)), .no, .no, .no, .no]) (by simp) (seq_step (Γ' := [.dat (.lst (V.map T)), .dat (NL (List.range n)), .dat (NL B), .no, .no, .no, .no]) ?_ (by simp)))) (o := .rt (NL B)))
    · rw [ev_lrng, (len_first h).2 _ rfl, Rg.bind_ok, hlr]
    · rw [st_for (ds := (List.range n).map fun r : Nat => .int (r : Int)) (by simp [NL])]
      exact h1
  · cases hS' : S with
    | nil => exact absurd hS' hne
    | cons i r =>
      have hi : i ∈ nrm n S := by rw [hS, hS']; exact List.mem_cons_self
      rw [← hS']
      exact h2.le S hS hc ⟨i, (mem_nrm.mp hi).2, by rw [List.nil_append]; exact List.mem_range.mpr (mem_nrm.mp hi).1⟩
end
end DL

set_option Elab.async false
set_option linter.all false
set_option maxRecDepth 100000
set_option maxHeartbeats 1000000
namespace DL
open PySem PySem.Spec PyProof.Rows L2 LamX
/-! ### all lists that rise -/
def subs : Nat → List (List Nat)
  | 0 => [[]]
  | k + 1 => subs k ++ (subs k).map (· ++ [k])
theorem subs_head : ∀ k : Nat, ∃ r, subs k = [] :: r ∧ ∀ q ∈ r, q ≠ []
  | 0 => ⟨[], rfl, fun q hq => by cases hq⟩
  | k + 1 => by
    obtain ⟨r, h1, h2⟩ := subs_head k
    refine ⟨r ++ (subs k).map (· ++ [k]), by show subs k ++ (subs k).map (· ++ [k]) = _; rw [h1]; rfl, fun q hq => ?_⟩
    rcases List.mem_append.mp hq with hq | hq
    · exact h2 q hq
    · obtain ⟨p, _, rfl⟩ := List.mem_map.mp hq
      simp
theorem subs_len : ∀ k : Nat, (subs k).length = 2 ^ k
  | 0 => rfl
  | k + 1 => by
    show (subs k ++ (subs k).map (· ++ [k])).length = _
    rw [List.length_append, List.length_map, subs_len k, Nat.pow_succ]
    omega
theorem nrm_succ (k : Nat) (q : List Nat) : nrm (k + 1) q = nrm k q ++ if k ∈ q then [k] else [] := by
  unfold nrm
  rw [List.range_succ, List.filter_append]
  congr 1
  by_cases h : k ∈ q
  · rw [if_pos h, List.filter_cons, if_pos (decide_eq_true h)]
    rfl
  · rw [if_neg h, List.filter_cons, if_neg (by rw [decide_eq_false h]; exact Bool.false_ne_true)]
    rfl
theorem nrm_idem (k : Nat) (q : List Nat) : nrm k (nrm k q) = nrm k q := nrm_ext fun i hi => by
  rw [mem_nrm]
  exact ⟨fun z => z.2, fun z => ⟨hi, z⟩⟩
theorem mem_subs : ∀ {k : Nat} {q : List Nat}, q ∈ subs k ↔ nrm k q = q
  | 0, q => by
    show q ∈ [[]] ↔ [] = q
    rw [List.mem_singleton]
    exact eq_comm
  | k + 1, q => by
    show q ∈ subs k ++ (subs k).map (· ++ [k]) ↔ _
    rw [List.mem_append, nrm_succ]
    constructor
    · rintro (h | h)
      · have h' := mem_subs.mp h
        have hk : k ∉ q := fun z => by
          rw [← h'] at z
          have := (mem_nrm.mp z).1
          omega
        rw [if_neg hk, List.append_nil, h']
      · obtain ⟨r, hr, rfl⟩ := List.mem_map.mp h
        have h' := mem_subs.mp hr
        have e : nrm k (r ++ [k]) = nrm k r := nrm_ext fun i hi => by
          rw [List.mem_append, List.mem_singleton]
          exact ⟨fun z => z.elim id (fun z => by omega), .inl⟩
        rw [if_pos (by simp), e, h']
    · intro h
      by_cases hk : k ∈ q
      · rw [if_pos hk] at h
        refine .inr (List.mem_map.mpr ⟨nrm k q, mem_subs.mpr (nrm_idem k q), h⟩)
      · rw [if_neg hk, List.append_nil] at h
        exact .inl (mem_subs.mpr h)
section
variable {n : Nat} {V : List (List Int)}
def rstL (n : Nat) (q : List Nat) : List Nat := (List.range n).filter fun i => !decide (i ∈ q)
def lsg (V : List (List Int)) (n : Nat) (q : List Nat) (a : Nat) : Bool := !((rstL n q).filter fun b => !bt V a b).isEmpty
def gdB (V : List (List Int)) (n : Nat) (q : List Nat) : Bool := (q.filter (lsg V n q)).isEmpty
theorem gd_clo {q : List Nat} : gdB V n q = true ↔ Clo V n q := by
  unfold gdB
  rw [List.isEmpty_iff, List.filter_eq_nil_iff]
  have hl : ∀ a, ¬ lsg V n q a = true ↔ ∀ b, b < n → b ∉ q → bt V a b = true := fun a => by
    unfold lsg
    rw [Bool.not_eq_true', Bool.not_eq_false, List.isEmpty_iff, List.filter_eq_nil_iff]
    constructor
    · intro h b hb hq
      have := h b (by unfold rstL; rw [List.mem_filter, List.mem_range, decide_eq_false hq]; exact ⟨hb, rfl⟩)
      simpa using this
    · intro h b hb
      unfold rstL at hb
      rw [List.mem_filter, List.mem_range] at hb
      have := h b hb.1 (by simpa using hb.2)
      rw [this]
      exact Bool.false_ne_true
  constructor
  · intro h a ha b hb hab
    by_cases c : b ∈ q
    · exact c
    · have := (hl a).mp (h a ha) b hb c
      rw [hab] at this
      cases this
  · intro h a ha
    rw [hl]
    intro b hb hq
    cases hab : bt V a b with
    | true => rfl
    | false => exact absurd (h a ha b hb hab) hq
theorem add_NLs {R S : List (List Nat)} (h : R.length + S.length ≤ 900) : addD (.lst (R.map NL)) (.lst (S.map NL)) = .ok (.lst ((R ++ S).map NL)) := by
  rw [List.map_append]
  exact if_pos (small (by simp; omega))
theorem add_NL {p q : List Nat} (h : p.length + q.length ≤ 900) : addD (NL p) (NL q) = .ok (NL (p ++ q)) := by
  unfold NL
  rw [List.map_append]
  exact if_pos (small (by simp; omega))
theorem ne_nilN (S : List Nat) : neD (.lst (S.map fun _ => D.int 1)) (.lst []) = .ok (.bl (!S.isEmpty)) := by
  have h : eqOk (.lst (S.map fun _ => D.int 1)) = true := by
    have := eqOk_ints (S.map fun _ => (1 : Int))
    rw [List.map_map] at this
    exact this
  rw [ne_nil h, isEmpty_map]
theorem eq_nilN (S : List Nat) : eqD (.lst (S.map fun _ => D.int 1)) (.lst []) = .ok (.bl S.isEmpty) := by
  have h : eqOk (.lst (S.map fun _ => D.int 1)) = true := by
    have := eqOk_ints (S.map fun _ => (1 : Int))
    rw [List.map_map] at this
    exact this
  rw [eq_nil h, isEmpty_map]
def lastN : Nat → Sl
  | 0 => .no
  | k + 1 => .dat (.int (k : Nat))
@[simp] theorem hide_lastN (k : Nat) (Γ : Gm) : hideOwn (lastN k :: Γ) = lastN k :: hideOwn Γ := by cases k <;> rfl
@[simp] theorem unown_lastN (k : Nat) (Γ : Gm) : unown (lastN k :: Γ) = lastN k :: unown Γ := by cases k <;> rfl
theorem lb_rows (h6 : n ≤ 6) : sFor [] false (iRng (aCons (eVar 1) aNil)) (tgN 3) (sSet 2 (vP (e2 addD (eVar 2) (eLc [5] (iSeq (eVar 2)) (tgN 5) (eC (.bl true)) (e2 addD (eVar 5) (eLst (aCons (eVar 3) aNil))))))) [.dat (.lst (V.map T)), .dat (.int (n : Int)), .dat (.lst [NL []]), .no, .no, .no, .no, .no, .no] = .nx [.dat (.lst (V.map T)), .dat (.int (n : Int)), .dat (.lst ((subs n).map NL)), lastN n, .no, .no, .no, .no, .no] := by
  have hr := rng_N (n := n) (by omega)
  rw [st_for (ds := (List.range n).map fun r : Nat => .int (r : Int)) (by simp only [ev_rng, ev_cons, ev_var, ev_nil, List.getElem?_cons_succ, List.getElem?_cons_zero, slR_dat, Rg.bind_ok, hr])]
  have key := for_steps (ks := []) (t := tgN 3) (F := sSet 2 (vP (e2 addD (eVar 2) (eLc [5] (iSeq (eVar 2)) (tgN 5) (eC (.bl true)) (e2 addD (eVar 5) (eLst (aCons (eVar 3) aNil))))))) (S := fun k => [.dat (.lst (V.map T)), .dat (.int (n : Int)), .dat (.lst ((subs k).map NL)), lastN k, .no, .no, .no, .no, .no]) (ds := (List.range n).map fun r : Nat => .int (r : Int)) 0 fun j d hj => by
    obtain ⟨hjl, e⟩ := List.getElem?_eq_some_iff.mp hj
    rw [List.length_map, List.length_range] at hjl
    rw [List.getElem_map, List.getElem_range] at e
    subst e
    have hl := subs_len j
    have hp : 2 ^ j ≤ 2 ^ 5 := Nat.pow_le_pow_right (by decide) (by omega)
    have hp2 : (2 : Nat) ^ 5 = 32 := by decide
    rw [Nat.zero_add]
    refine ⟨[.dat (.lst (V.map T)), .dat (.int (n : Int)), .dat (.lst ((subs j).map NL)), .dat (.int (j : Nat)), .no, .no, .no, .no, .no], [.dat (.lst (V.map T)), .dat (.int (n : Int)), .dat (.lst ((subs (j + 1)).map NL)), .dat (.int (j : Nat)), .no, .no, .no, .no, .no], rfl, ?_, rfl⟩
    have hlc : eLc [5] (iSeq (eVar 2)) (tgN 5) (eC (.bl true)) (e2 addD (eVar 5) (eLst (aCons (eVar 3) aNil))) [.dat (.lst (V.map T)), .dat (.int (n : Int)), .dat (.lst ((subs j).map NL)), .dat (.int (j : Nat)), .no, .no, .no, .no, .no] = .ok (.lst (((subs j).map (· ++ [j])).map NL)) := by
      rw [List.map_map]
      refine lc_of (f := NL) (by simp) (by omega) fun q hq => ⟨[.dat (.lst (V.map T)), .dat (.int (n : Int)), .dat (.lst ((subs j).map NL)), .dat (.int (j : Nat)), .no, .dat (NL q), .no, .no, .no], rfl, ?_⟩
      have hql : q.length ≤ 6 := by
        have := mem_subs.mp hq
        rw [← this]
        have := List.length_filter_le (fun i => decide (i ∈ q)) (List.range j)
        rw [List.length_range] at this
        exact Nat.le_trans this (by omega)
      have l1 : lstD [.int (j : Int)] = .ok (NL [j]) := lstD_small (by simp)
      have := add_NL (p := q) (q := [j]) (by simp; omega)
      simp only [ev_2, ev_lst, ev_cons, ev_nil, ev_var, List.getElem?_cons_succ, List.getElem?_cons_zero, slR_dat, Rg.bind_ok, l1, this, Function.comp_apply]
    refine set_ok (d := .lst ((subs (j + 1)).map NL)) ?_ rfl
    exact e2_ok (var_ok rfl) hlc (add_NLs (by rw [List.length_map]; omega))
  have hk : killAll [] [.dat (.lst (V.map T)), .dat (.int (n : Int)), .dat (.lst [NL []]), .no, .no, .no, .no, .no, .no] = [.dat (.lst (V.map T)), .dat (.int (n : Int)), .dat (.lst [NL []]), .no, .no, .no, .no, .no, .no] := rfl
  rw [hk]
  have h0 : 0 + ((List.range n).map fun r : Nat => D.int (r : Int)).length = n := by rw [List.length_map, List.length_range, Nat.zero_add]
  rw [h0] at key
  exact key
def lbF : Gm → O := sSeq (sSet 6 (vP (eLc [3] (iRng (aCons (eVar 1) aNil)) (tgN 3) (e2 ninD (eVar 3) (eVar 5)) (eVar 3))))
  (sIf false (e2 eqD (eLc [7] (iSeq (eVar 5)) (tgN 7) (e2 neD (eLc [8] (iSeq (eVar 6)) (tgN 8) (eNot (eCall 3 m__law_beats (aCons (eVar 0) (aCons (eVar 7) (aCons (eVar 8) aNil))))) (eC (.int 1))) (eLst aNil)) (eC (.int 1))) (eLst aNil)) (sApp 4 (vP (eTup (aCons (eB lenD (aCons (eVar 5) aNil)) (aCons (eVar 5) aNil))))) sPass)
theorem lb_step (h : Vts n V) {q : List Nat} {A : List (List Nat)} (hq : nrm n q = q) (hA : A.length < 900) : ∃ d6, lbF [.dat (.lst (V.map T)), .dat (.int (n : Int)), .dat (.lst ((subs n).map NL)), lastN n, .own (.lst (A.map lnD)), .dat (NL q), .no, .no, .no] = .nx [.dat (.lst (V.map T)), .dat (.int (n : Int)), .dat (.lst ((subs n).map NL)), lastN n, .own (.lst ((A ++ if gdB V n q = true then [q] else []).map lnD)), .dat (NL q), .dat d6, .no, .no] := by
  have hn := h.n6
  have hr := rng_N (n := n) (by omega)
  have hlt : ∀ i ∈ q, i < n := fun i hi => by rw [← hq] at hi; exact (mem_nrm.mp hi).1
  have hql : q.length ≤ 6 := by
    rw [← hq]
    have := List.length_filter_le (fun i => decide (i ∈ q)) (List.range n)
    rw [List.length_range] at this
    exact Nat.le_trans this (by omega)
  have hrl : (rstL n q).length ≤ 6 := by
    have := List.length_filter_le (fun i => !decide (i ∈ q)) (List.range n)
    rw [List.length_range] at this
    exact Nat.le_trans this (by omega)
  refine ⟨NL (rstL n q), ?_⟩
  unfold lbF
  refine seq_step (Γ' := [.dat (.lst (V.map T)), .dat (.int (n : Int)), .dat (.lst ((subs n).map NL)), lastN n, .own (.lst (A.map lnD)), .dat (NL q), .dat (NL (rstL n q)), .no, .no]) (set_ok (d := NL (rstL n q)) ?_ rfl) ?_
  · refine lc_ofF (f := fun r : Nat => .int (r : Int)) (h := fun r : Nat => .int (r : Int)) (p := fun i => !decide (i ∈ q)) (by simp only [ev_rng, ev_cons, ev_var, ev_nil, List.getElem?_cons_succ, List.getElem?_cons_zero, slR_dat, Rg.bind_ok, hr]) (by rw [List.length_range]; omega) fun b hb => ⟨[.dat (.lst (V.map T)), .dat (.int (n : Int)), .dat (.lst ((subs n).map NL)), .dat (.int (b : Nat)), .no, .dat (NL q), .no, .no, .no], by simp only [hide_own', hide_dat', hide_lastN, hide_no, hide_nil]; rfl, ?_, fun _ => rfl⟩
    have := nin_NL b q
    simp [this]
  · have hin : ∀ a, a ∈ q → e2 neD (eLc [8] (iSeq (eVar 6)) (tgN 8) (eNot (eCall 3 m__law_beats (aCons (eVar 0) (aCons (eVar 7) (aCons (eVar 8) aNil))))) (eC (.int 1))) (eLst aNil) [.dat (.lst (V.map T)), .dat (.int (n : Int)), .dat (.lst ((subs n).map NL)), lastN n, .no, .dat (NL q), .dat (NL (rstL n q)), .dat (.int (a : Nat)), .no] = .ok (.bl (lsg V n q a)) := fun a ha => by
      have hl8 : eLc [8] (iSeq (eVar 6)) (tgN 8) (eNot (eCall 3 m__law_beats (aCons (eVar 0) (aCons (eVar 7) (aCons (eVar 8) aNil))))) (eC (.int 1)) [.dat (.lst (V.map T)), .dat (.int (n : Int)), .dat (.lst ((subs n).map NL)), lastN n, .no, .dat (NL q), .dat (NL (rstL n q)), .dat (.int (a : Nat)), .no] = .ok (.lst (((rstL n q).filter fun b => !bt V a b).map fun _ => .int 1)) := by
        refine lc_ofF (f := fun r : Nat => .int (r : Int)) (by simp [NL]) (by omega) fun b hb => ⟨[.dat (.lst (V.map T)), .dat (.int (n : Int)), .dat (.lst ((subs n).map NL)), lastN n, .no, .dat (NL q), .dat (NL (rstL n q)), .dat (.int (a : Nat)), .dat (.int (b : Nat))], by simp only [hide_own', hide_dat', hide_lastN, hide_no, hide_nil]; rfl, ?_, fun _ => rfl⟩
        have hb' : b < n := by
          unfold rstL at hb
          exact List.mem_range.mp (List.mem_filter.mp hb).1
        have := sp__law_beats h (hlt a ha) hb'
        simp only [ev_not, ev_call, ev_cons, ev_nil, ev_var, List.getElem?_cons_succ, List.getElem?_cons_zero, slR_dat, Rg.bind_ok, List.length_cons, List.length_nil, Nat.zero_add, Nat.reduceAdd, if_true, this]
        cases bt V a b <;> rfl
      exact e2_ok hl8 (by simp) (ne_nilN _)
    have hl7 : eLc [7] (iSeq (eVar 5)) (tgN 7) (e2 neD (eLc [8] (iSeq (eVar 6)) (tgN 8) (eNot (eCall 3 m__law_beats (aCons (eVar 0) (aCons (eVar 7) (aCons (eVar 8) aNil))))) (eC (.int 1))) (eLst aNil)) (eC (.int 1)) [.dat (.lst (V.map T)), .dat (.int (n : Int)), .dat (.lst ((subs n).map NL)), lastN n, .own (.lst (A.map lnD)), .dat (NL q), .dat (NL (rstL n q)), .no, .no] = .ok (.lst ((q.filter (lsg V n q)).map fun _ => .int 1)) :=
      lc_ofF (f := fun r : Nat => .int (r : Int)) (by simp [NL]) (by omega) fun a ha => ⟨[.dat (.lst (V.map T)), .dat (.int (n : Int)), .dat (.lst ((subs n).map NL)), lastN n, .no, .dat (NL q), .dat (NL (rstL n q)), .dat (.int (a : Nat)), .no], by simp only [hide_own', hide_dat', hide_lastN, hide_no, hide_nil]; rfl, hin a ha, fun _ => rfl⟩
    rw [st_if, tst_f, e2_ok hl7 (by simp) (eq_nilN _), ifB_bl]
    have hd : (q.filter (lsg V n q)).isEmpty = gdB V n q := rfl
    rw [hd]
    have hlen := len_NL q
    cases gdB V n q with
    | true =>
      have hAl : (A.map lnD).length < 1000 := by rw [List.length_map]; omega
      rw [if_pos rfl, if_pos rfl, List.map_append]
      simp only [st_app', ev_vP, ev_tup, ev_cons, ev_nil, ev_B, ev_var, List.getElem?_cons_succ, List.getElem?_cons_zero, slR_dat, Rg.bind_ok, hlen, tupD_two, isOwnL_own, Rg.toS_ok, appL_own hAl]
      rfl
    | false =>
      rw [if_neg Bool.false_ne_true, if_neg Bool.false_ne_true, List.append_nil]
      rfl
theorem lb_loop (h : Vts n V) (M : List (List Nat)) (hM : ∀ q ∈ M, nrm n q = q) (hl : M.length < 900) : forL [5, 6] (tgN 5) lbF (M.map NL) [.dat (.lst (V.map T)), .dat (.int (n : Int)), .dat (.lst ((subs n).map NL)), lastN n, .own (.lst (([] : List (List Nat)).map lnD)), .no, .no, .no, .no] = .nx [.dat (.lst (V.map T)), .dat (.int (n : Int)), .dat (.lst ((subs n).map NL)), lastN n, .own (.lst ((M.filter (gdB V n)).map lnD)), .no, .no, .no, .no] := by
  have key := for_list (ks := [5, 6]) (t := tgN 5) (F := lbF) (f := NL) (S := fun p => [.dat (.lst (V.map T)), .dat (.int (n : Int)), .dat (.lst ((subs n).map NL)), lastN n, .own (.lst ((p.filter (gdB V n)).map lnD)), .no, .no, .no, .no]) (l := M) (pre := []) fun p q r e => by
    have hq : q ∈ M := by rw [List.nil_append] at e; rw [e]; simp
    have hpl : p.length < 900 := by
      have := congrArg List.length e
      simp at this
      omega
    have hfl := List.length_filter_le (gdB V n) p
    have hfl2 : (p.filter (gdB V n)).length < 900 := Nat.lt_of_le_of_lt hfl hpl
    have e2 : (p ++ [q]).filter (gdB V n) = p.filter (gdB V n) ++ if gdB V n q = true then [q] else [] := by rw [List.filter_append, List.filter_cons, List.filter_nil]
    rw [e2]
    clear e e2 hfl hpl
    generalize p.filter (gdB V n) = A at hfl2
    obtain ⟨d6, hb⟩ := lb_step h (hM q hq) (A := A) hfl2
    exact ⟨[.dat (.lst (V.map T)), .dat (.int (n : Int)), .dat (.lst ((subs n).map NL)), lastN n, .own (.lst (A.map lnD)), .dat (NL q), .no, .no, .no], _, rfl, hb, rfl⟩
  exact key
theorem sp_law_best (h : Vts n V) : ∃ B, m__law_best [.lst (V.map T), .int n] = .ok (NL B) ∧ Best V n B := by
  have e0 : gam0 9 [.lst (V.map T), .int n] = [.dat (.lst (V.map T)), .dat (.int (n : Int)), .no, .no, .no, .no, .no, .no, .no] := by simp [gam0, List.replicate]
  have hn := h.n6
  have hn1 := h.n1
  obtain ⟨M, hM, hne⟩ := subs_head n
  have hMq : ∀ q ∈ M, nrm n q = q := fun q hq => mem_subs.mp (by rw [hM]; exact List.mem_cons_of_mem _ hq)
  have hl := subs_len n
  have hp : 2 ^ n ≤ 2 ^ 6 := Nat.pow_le_pow_right (by decide) hn
  have hp2 : (2 : Nat) ^ 6 = 64 := by decide
  have hMl : M.length + 1 = 2 ^ n := by rw [← hl, hM, List.length_cons]
  have hfull : List.range n ∈ M.filter (gdB V n) := by
    have h1 : nrm n (List.range n) = List.range n := by
      unfold nrm
      rw [List.filter_eq_self]
      exact fun i hi => decide_eq_true hi
    have h2 := mem_subs.mpr h1
    rw [hM] at h2
    refine List.mem_filter.mpr ⟨(List.mem_cons.mp h2).resolve_left fun e => ?_, gd_clo.mpr fun a _ b hb _ => List.mem_range.mpr hb⟩
    have := congrArg List.length e
    rw [List.length_range] at this
    simp at this
    omega
  obtain ⟨B, hB, hmin, hle⟩ := min_ln (l := M.filter (gdB V n)) (List.ne_nil_of_mem hfull)
  obtain ⟨hB1, hB2⟩ := List.mem_filter.mp hB
  refine ⟨B, ?_, best_of (hMq B hB1) (hne B hB1) (gd_clo.mp hB2) fun S hS hc hS0 => hle S (List.mem_filter.mpr ⟨?_, gd_clo.mpr hc⟩)⟩
  · have hloop := lb_loop h M hMq (by omega)
    unfold m__law_best runDef g__law_best
    rw [e0]
    refine congrArg O.toR (seq_step (Γ' := [.dat (.lst (V.map T)), .dat (.int (n : Int)), .dat (.lst [NL []]), .no, .no, .no, .no, .no, .no]) ?_ (seq_step (lb_rows hn) (seq_step (Γ' := [.dat (.lst (V.map T)), .dat (.int (n : Int)), .dat (.lst ((subs n).map NL)), lastN n, .own (.lst (([] : List (List Nat)).map lnD)), .no, .no, .no, .no]) (by simp) (seq_step (Γ' := [.dat (.lst (V.map T)), .dat (.int (n : Int)), .dat (.lst ((subs n).map NL)), lastN n, .own (.lst ((M.filter (gdB V n)).map lnD)), .no, .no, .no, .no]) ?_ ?_))) (o := .rt (NL B)))
    · refine set_ok (d := .lst [NL []]) ?_ rfl
      have l1 : lstD [.lst []] = .ok (.lst [.lst []]) := lstD_small (by simp)
      simp only [ev_lst, ev_cons, ev_nil, Rg.bind_ok, lstD_nil, l1]
      rfl
    · rw [st_for (ds := M.map NL) ?_]
      · exact hloop
      · rw [hM]
        simp only [ev_seq, ev_sl, ev_pat, ev_pno, ev_c, ev_var, List.getElem?_cons_succ, List.getElem?_cons_zero, slR_dat, Rg.bind_ok, intP, sl_lst, cut_from1, List.map_cons, List.drop_succ_cons, List.drop_zero, itD_lst]
    · have hx : ixD (lnD B) (.int 1) = .ok (NL B) := ix_tup (ds := [.int (B.length : Int), NL B]) (i := 1) (by simp)
      have hun : unown [.dat (.lst (V.map T)), .dat (.int (n : Int)), .dat (.lst ((subs n).map NL)), lastN n, .own (.lst ((M.filter (gdB V n)).map lnD)), .no, .no, .no, .no] = [.dat (.lst (V.map T)), .dat (.int (n : Int)), .dat (.lst ((subs n).map NL)), lastN n, .dat (.lst ((M.filter (gdB V n)).map lnD)), .no, .no, .no, .no] := by simp only [unown_own', unown_dat', unown_lastN, unown_no, unown_nil]
      rw [st_ret, ev_vB, hun, e2_ok (B1_ok (var_ok rfl) hmin) rfl hx]
      rfl
  · have := mem_subs.mpr hS
    rw [hM] at this
    exact (List.mem_cons.mp this).resolve_left hS0
end
end DL

set_option Elab.async false
set_option linter.all false
set_option maxRecDepth 100000
set_option maxHeartbeats 1000000
namespace DL
open PySem PySem.Spec PyProof.Rows L2 LamX
/-- a slot that may hold anything that is not the def's own -/
def sD : Option D → Sl
  | some d => .dat d
  | none => .no
@[simp] theorem hide_sD (o : Option D) (Γ : Gm) : hideOwn (sD o :: Γ) = sD o :: hideOwn Γ := by cases o <;> rfl
@[simp] theorem unown_sD (o : Option D) (Γ : Gm) : unown (sD o :: Γ) = sD o :: unown Γ := by cases o <;> rfl
/-! ### who leaves -/
def isF (o : List Int) (left : List Nat) (i : Nat) : Bool := (left.filter fun j => decide (v o j < v o i)).isEmpty
def cF (V : List (List Int)) (left : List Nat) (i : Nat) : Nat := (V.filter fun o => isF o left i).length
structure Pick (V : List (List Int)) (left : List Nat) (g : Nat) : Prop where
  mem : g ∈ left
  le : ∀ i ∈ left, cF V left g < cF V left i ∨ (cF V left g = cF V left i ∧ i ≤ g)
theorem Pick.uniq {V : List (List Int)} {left : List Nat} {g k : Nat} (h : Pick V left g) (h' : Pick V left k) : g = k := by
  have a := h.le k h'.mem
  have b := h'.le g h.mem
  omega
inductive Run (V : List (List Int)) : List Nat → List Nat → Prop
  | nil : Run V [] []
  | cons {left r : List Nat} {g : Nat} : Pick V left g → Run V (left.filter fun i => !decide (i = g)) r → Run V left (g :: r)
theorem Run.uniq {V : List (List Int)} {left r : List Nat} (h : Run V left r) : ∀ {s : List Nat}, Run V left s → r = s := by
  induction h with
  | nil =>
    intro s h
    cases h with
    | nil => rfl
    | cons p _ => exact absurd p.mem List.not_mem_nil
  | cons p _ ih =>
    intro s h
    cases h with
    | nil => exact absurd p.mem List.not_mem_nil
    | cons p2 r2 =>
      have e := p.uniq p2
      subst e
      rw [ih r2]
theorem Run.perm {V U : List (List Int)} (hp : V.Perm U) {left r : List Nat} (h : Run V left r) : Run U left r := by
  have hc : cF V = cF U := by
    funext left i
    unfold cF
    exact (hp.filter _).length_eq
  induction h with
  | nil => exact .nil
  | cons p _ ih =>
    refine .cons ⟨p.mem, ?_⟩ ih
    rw [← hc]
    exact p.le
/-- pairs of numbers, the least -/
def pI (p : Int × Int) : D := T [p.1, p.2]
theorem emb_pI : Emb pI 2 := ⟨fun x y => by
    unfold pI
    rw [emb_T.eq]
    obtain ⟨a, b⟩ := x
    obtain ⟨c, d⟩ := y
    simp, fun x => emb_T.lay _, fun x => emb_T.dep _⟩
def ltp (p q : Int × Int) : Bool := HT.lexLt [p.1, p.2] [q.1, q.2]
theorem ltp_iff {p q : Int × Int} : ltp p q = true ↔ p.1 < q.1 ∨ (p.1 = q.1 ∧ p.2 < q.2) := by
  unfold ltp
  rw [HT.lexLt_cons, HT.lexLt_cons]
  by_cases h : p.1 = q.1
  · by_cases h2 : p.2 = q.2
    · simp [h, h2, lex_irr]
    · simp [h, h2, lex_irr]
  · simp [h]
theorem min_pI {l : List (Int × Int)} (hne : l ≠ []) : ∃ y ∈ l, minDD [.lst (l.map pI)] = .ok (pI y) ∧ ∀ z ∈ l, ¬ (z.1 < y.1 ∨ (z.1 = y.1 ∧ z.2 < y.2)) := by
  obtain ⟨y, hy, e, h⟩ := min_gen (f := pI) (lt := ltp) emb_pI (by decide) (fun x y => by
      unfold pI
      rw [toPy_T, toPy_T]
      simp only [PySem.W.alike]
      exact alikeI _ _ rfl) (fun x => by
      refine ⟨by simp [pI, T, D.toPy, isNonP], ?_⟩
      have := plain_ints [x.1, x.2]
      unfold pI T
      simp only [plainD, this]) (fun x y => by
      unfold pI ltp
      rw [toPy_T, toPy_T, PySem.W.dataLt_tuple]
      exact rowLt_lex _ _) (fun x y z h1 h2 => by
      rw [Bool.eq_false_iff, Ne, ltp_iff] at h1 h2 ⊢
      omega) (fun x y h => by
      rw [ltp_iff] at h
      rw [Bool.eq_false_iff, Ne, ltp_iff]
      omega) hne
  refine ⟨y, hy, e, fun z hz hc => ?_⟩
  have := h z hz
  rw [ltp_iff.mpr hc] at this
  cases this
theorem pick_of {V : List (List Int)} {left : List Nat} (hne : left ≠ []) : ∃ g, Pick V left g ∧ minDD [.lst ((left.map fun i => ((cF V left i : Int), -(i : Int))).map pI)] = .ok (T [(cF V left g : Int), -(g : Int)]) := by
  obtain ⟨y, hy, e, h⟩ := min_pI (l := left.map fun i => ((cF V left i : Int), -(i : Int))) (fun z => hne (List.map_eq_nil_iff.mp z))
  obtain ⟨g, hg, rfl⟩ := List.mem_map.mp hy
  refine ⟨g, ⟨hg, fun i hi => ?_⟩, e⟩
  have := h _ (List.mem_map_of_mem hi)
  simp only [] at this
  omega
/-! ### counts by item -/
def ctD (left : List Nat) (c : Nat → Nat) : D := .dK (keyI (left.map fun i : Nat => (i : Int))) (left.map fun i => .int (c i : Nat))
theorem ct_congr {left : List Nat} {c d : Nat → Nat} (h : ∀ i ∈ left, c i = d i) : ctD left c = ctD left d := by
  unfold ctD
  congr 1
  exact List.map_congr_left fun i hi => by rw [h i hi]
theorem look_ct : ∀ (left : List Nat) (c : Nat → Nat) (i : Nat), i ∈ left → lookD (keyI (left.map fun i : Nat => (i : Int))) (left.map fun i => D.int (c i : Nat)) (Sum.inl (i : Int)) = some (.int (c i : Nat))
  | j :: left, c, i, h => by
    rw [List.map_cons, List.map_cons]
    show lookD (Sum.inl (j : Int) :: keyI (left.map fun i : Nat => (i : Int))) (_ :: _) _ = _
    unfold lookD
    by_cases e : j = i
    · subst e
      rw [if_pos rfl]
    · rw [if_neg (fun z => by injection z with z; omega)]
      exact look_ct left c i ((List.mem_cons.mp h).resolve_left fun z => e z.symm)
theorem ix_ct {left : List Nat} {c : Nat → Nat} {i : Nat} (h : i ∈ left) : ixD (ctD left c) (.int (i : Int)) = .ok (.int (c i : Nat)) := by
  have e : ixD (ctD left c) (.int (i : Int)) = optR (lookD (keyI (left.map fun i : Nat => (i : Int))) (left.map fun i => D.int (c i : Nat)) (Sum.inl (i : Int))) := rfl
  rw [e, look_ct left c i h]
  rfl
theorem set_ct (i : Nat) (d : D) (f : Nat → D) : ∀ left : List Nat, setV (Sum.inl (i : Int)) d (keyI (left.map fun i : Nat => (i : Int))) (left.map f) = left.map fun j => if j = i then d else f j
  | [] => rfl
  | j :: left => by
    rw [List.map_cons, List.map_cons, List.map_cons]
    show setV _ _ (Sum.inl (j : Int) :: keyI (left.map fun i : Nat => (i : Int))) (_ :: _) = _
    rw [setV_cons, set_ct i d f left]
    congr 1
    by_cases e : j = i
    · subst e
      rw [if_pos rfl, if_pos rfl]
    · rw [if_neg (fun z => by injection z with z; omega), if_neg e]
def inc (c : Nat → Nat) (i : Nat) : Nat → Nat := fun j => if j = i then c j + 1 else c j
theorem put_ct {left : List Nat} {c : Nat → Nat} {i : Nat} (h : i ∈ left) (hl : left.length < 1000) : dPut (ctD left c) (.int (i : Int)) (.int ((c i : Int) + 1)) = some (ctD left (inc c i)) := by
  have e : dPut (ctD left c) (.int (i : Int)) (.int ((c i : Int) + 1)) = if (keyI (left.map fun i : Nat => (i : Int))).length < sizeLine then some (if hasK (keyI (left.map fun i : Nat => (i : Int))) (Sum.inl (i : Int)) = true then .dK (keyI (left.map fun i : Nat => (i : Int))) (setV (Sum.inl (i : Int)) (.int ((c i : Int) + 1)) (keyI (left.map fun i : Nat => (i : Int))) (left.map fun i => .int (c i : Nat))) else .dK (keyI (left.map fun i : Nat => (i : Int)) ++ [Sum.inl (i : Int)]) ((left.map fun i => .int (c i : Nat)) ++ [.int ((c i : Int) + 1)])) else none := rfl
  have hs := lt_size hl
  have hm : ((i : Nat) : Int) ∈ left.map fun i : Nat => (i : Int) := List.mem_map.mpr ⟨i, h, rfl⟩
  rw [e, hasK_I, decide_eq_true hm, if_pos (by simpa [keyI] using hs), if_pos rfl, set_ct]
  unfold ctD
  congr 2
  refine List.map_congr_left fun j _ => ?_
  unfold inc
  by_cases e : j = i
  · subst e
    rw [if_pos rfl, if_pos rfl]
    rfl
  · rw [if_neg e, if_neg e]
theorem inc_fold (q : List Nat) : ∀ (c : Nat → Nat), q.Nodup → ∀ j, q.foldl inc c j = c j + if j ∈ q then 1 else 0 := by
  induction q with
  | nil => intro c _ j; simp
  | cons i q ih =>
    intro c nd j
    obtain ⟨n1, n2⟩ := List.nodup_cons.mp nd
    rw [List.foldl_cons, ih _ n2 j]
    unfold inc
    by_cases e : j = i
    · subst e
      rw [if_pos rfl, if_neg n1, if_pos List.mem_cons_self]
    · rw [if_neg e]
      by_cases m : j ∈ q
      · rw [if_pos m, if_pos (List.mem_cons_of_mem _ m)]
      · rw [if_neg m, if_neg (fun z => (List.mem_cons.mp z).elim e m)]
section
variable {n : Nat} {V : List (List Int)}
theorem zero_ct {left : List Nat} (nd : left.Nodup) : dictD [.lst (left.map fun i : Nat => .tup [.int (i : Int), .int 0])] = .ok (ctD left fun _ => 0) := by
  have h := dict_I (row := left.map fun i : Nat => (i : Int)) (own := left.map fun _ => 0) (by rw [List.length_map, List.length_map]) (List.Pairwise.map _ (fun a b h => by omega) nd)
  have e : ∀ l : List Nat, (((l.map fun i : Nat => (i : Int)).zip (l.map fun _ => (0 : Int))).map fun p => D.tup [.int p.1, .int p.2]) = l.map fun i : Nat => .tup [.int (i : Int), .int 0] := fun l => by
    induction l with
    | nil => rfl
    | cons i l ih => simp only [List.map_cons, List.zip_cons_cons, ih]
  rw [e] at h
  rw [h]
  unfold ctD
  rw [List.map_map]
  rfl
theorem min_isF {o : List Int} {left : List Nat} {i : Nat} (hi : i ∈ left) : decide (v o i = minL (left.map (v o))) = isF o left i := by
  have hne : left.map (v o) ≠ [] := List.ne_nil_of_mem (List.mem_map_of_mem hi)
  obtain ⟨m1, m2⟩ := minL_mem hne
  unfold isF
  rw [Bool.eq_iff_iff, decide_eq_true_iff, List.isEmpty_iff, List.filter_eq_nil_iff]
  constructor
  · intro h j hj
    have := m2 _ (List.mem_map_of_mem hj)
    rw [decide_eq_true_iff]
    omega
  · intro h
    obtain ⟨j, hj, e⟩ := List.mem_map.mp m1
    have h1 := h j hj
    rw [decide_eq_true_iff] at h1
    have h2 := m2 _ (List.mem_map_of_mem hi)
    omega
theorem sp_firsts_of {o : List Int} {left : List Nat} (ho : Ord n o) (hne : left ≠ []) (hl : ∀ i ∈ left, i < n) (h900 : left.length ≤ 900) : m_firsts_of [T o, NL left] = .ok (NL (left.filter (isF o left))) := by
  have e0 : gam0 4 [T o, NL left] = [.dat (T o), .dat (NL left), .no, .no] := by simp [gam0, List.replicate]
  have hix : ∀ i ∈ left, ixD (T o) (.int (i : Int)) = .ok (.int (v o i)) := fun i hi => ix_T (by rw [ho.len]; exact hl i hi)
  have h1 : eLc [3] (iSeq (eVar 1)) (tgN 3) (eC (.bl true)) (e2 ixD (eVar 0) (eVar 3)) [.dat (T o), .dat (NL left), .no, .no] = .ok (.lst ((left.map (v o)).map .int)) := by
    rw [List.map_map]
    exact lc_of (f := fun i : Nat => .int (i : Int)) (by simp [NL]) (by omega) fun i hi => ⟨[.dat (T o), .dat (NL left), .no, .dat (.int (i : Nat))], rfl, by simp [hix i hi]⟩
  have hm := mm1_L (g := minL) (o := left.map (v o)) (fun z => hne (List.map_eq_nil_iff.mp z))
  unfold m_firsts_of runDef g_firsts_of
  rw [e0]
  refine congrArg O.toR (seq_step (Γ' := [.dat (T o), .dat (NL left), .dat (.int (minL (left.map (v o)))), .no]) (set_ok (d := .int (minL (left.map (v o)))) (B1_ok h1 hm) rfl) (ret_ok ?_) (o := .rt (NL (left.filter (isF o left)))))
  refine lc_ofF (f := fun i : Nat => .int (i : Int)) (h := fun i : Nat => .int (i : Int)) (by simp [NL]) (by omega) fun i hi => ⟨[.dat (T o), .dat (NL left), .dat (.int (minL (left.map (v o)))), .dat (.int (i : Nat))], rfl, ?_, fun _ => rfl⟩
  rw [← min_isF hi]
  simp [hix i hi]
/-! ### runoff -/
def roP : Gm → O := sPut 3 (vF (e2 addD (e2 ixD (eVar 3) (eVar 5)) (eC (.int 1)))) false (eVar 5)
theorem ro_item {left found : List Nat} {c : Nat → Nat} {o : List Int} (h900 : left.length ≤ 900) : ∀ (q : List Nat) (c : Nat → Nat) (o5 : Option D), (∀ i ∈ q, i ∈ left) → ∃ o5' : Option D, forL [] (tgN 5) roP (q.map fun i : Nat => .int (i : Int)) [.dat (.lst (V.map T)), .dat (NL left), .own (NL found), .own (ctD left c), .dat (T o), sD o5, .no] = .nx [.dat (.lst (V.map T)), .dat (NL left), .own (NL found), .own (ctD left (q.foldl inc c)), .dat (T o), sD o5', .no] := fun q => by
  induction q with
  | nil => exact fun c o5 _ => ⟨o5, rfl⟩
  | cons i q ih =>
    intro c o5 hq
    have hi := hq i List.mem_cons_self
    have hst : roP [.dat (.lst (V.map T)), .dat (NL left), .own (NL found), .own (ctD left c), .dat (T o), .dat (.int (i : Nat)), .no] = .nx [.dat (.lst (V.map T)), .dat (NL left), .own (NL found), .own (ctD left (inc c i)), .dat (T o), .dat (.int (i : Nat)), .no] := by
      refine put_ok (Γ1 := [.dat (.lst (V.map T)), .dat (NL left), .own (NL found), .own (ctD left c), .dat (T o), .dat (.int (i : Nat)), .no]) (d := .int ((c i : Int) + 1)) (d0 := ctD left c) (k := .int (i : Nat)) ?_ rfl (by rw [tst_f]; rfl) (put_ct hi (by omega))
      have hx := ix_ct (c := c) hi
      simp only [ev_vF, unown_own', unown_dat', unown_no, unown_nil, ev_2, ev_var, ev_c, List.getElem?_cons_succ, List.getElem?_cons_zero, slR_dat, Rg.bind_ok, hx, add_int]
      rfl
    obtain ⟨o5', h2⟩ := ih (inc c i) (some (.int (i : Nat))) fun j hj => hq j (List.mem_cons_of_mem _ hj)
    refine ⟨o5', ?_⟩
    rw [List.map_cons]
    unfold forL
    have ht : tgN 5 (.int (i : Int)) [.dat (.lst (V.map T)), .dat (NL left), .own (NL found), .own (ctD left c), .dat (T o), sD o5, .no] = some [.dat (.lst (V.map T)), .dat (NL left), .own (NL found), .own (ctD left c), .dat (T o), .dat (.int (i : Nat)), .no] := rfl
    rw [ht]
    simp only [hst]
    exact h2
theorem ro_orders (hord : ∀ o ∈ V, Ord n o) {left found : List Nat} (nd : left.Nodup) (hne : left ≠ []) (hl : ∀ i ∈ left, i < n) (h900 : left.length ≤ 900) : ∀ (U p : List (List Int)) (o5 : Option D), (∀ o ∈ U, Ord n o) → ∃ o5' : Option D, forL [4] (tgN 4) (sFor [] false (iSeq (eCall 2 m_firsts_of (aCons (eVar 4) (aCons (eVar 1) aNil)))) (tgN 5) roP) (U.map T) [.dat (.lst (V.map T)), .dat (NL left), .own (NL found), .own (ctD left (cF p left)), .no, sD o5, .no] = .nx [.dat (.lst (V.map T)), .dat (NL left), .own (NL found), .own (ctD left (cF (p ++ U) left)), .no, sD o5', .no] := fun U => by
  induction U with
  | nil => exact fun p o5 _ => ⟨o5, by rw [List.append_nil]; rfl⟩
  | cons o U ih =>
    intro p o5 hU
    have ho := hU o List.mem_cons_self
    have hf := sp_firsts_of ho hne hl h900
    obtain ⟨o1, h1⟩ := ro_item (V := V) (found := found) (c := cF p left) (o := o) h900 (left.filter (isF o left)) (cF p left) o5 fun i hi => (List.mem_filter.mp hi).1
    have hct : ctD left ((left.filter (isF o left)).foldl inc (cF p left)) = ctD left (cF (p ++ [o]) left) := ct_congr fun i hi => by
      rw [inc_fold _ _ (List.Pairwise.filter _ nd)]
      unfold cF
      rw [List.filter_append, List.length_append, List.filter_cons, List.filter_nil]
      congr 1
      by_cases c : isF o left i = true
      · rw [if_pos (List.mem_filter.mpr ⟨hi, c⟩), if_pos c]
        rfl
      · rw [if_neg (fun z => c (List.mem_filter.mp z).2), if_neg c]
        rfl
    rw [hct] at h1
    obtain ⟨o2, h2⟩ := ih (p ++ [o]) o1 fun q hq => hU q (List.mem_cons_of_mem _ hq)
    refine ⟨o2, ?_⟩
    rw [List.map_cons]
    unfold forL
    have ht : tgN 4 (T o) [.dat (.lst (V.map T)), .dat (NL left), .own (NL found), .own (ctD left (cF p left)), .no, sD o5, .no] = some [.dat (.lst (V.map T)), .dat (NL left), .own (NL found), .own (ctD left (cF p left)), .dat (T o), sD o5, .no] := rfl
    have hb : sFor [] false (iSeq (eCall 2 m_firsts_of (aCons (eVar 4) (aCons (eVar 1) aNil)))) (tgN 5) roP [.dat (.lst (V.map T)), .dat (NL left), .own (NL found), .own (ctD left (cF p left)), .dat (T o), sD o5, .no] = .nx [.dat (.lst (V.map T)), .dat (NL left), .own (NL found), .own (ctD left (cF (p ++ [o]) left)), .dat (T o), sD o1, .no] := by
      rw [st_for (ds := (left.filter (isF o left)).map fun i : Nat => .int (i : Int)) (by simp only [ev_seq, ev_call, ev_cons, ev_nil, ev_var, List.getElem?_cons_succ, List.getElem?_cons_zero, slR_dat, Rg.bind_ok, List.length_cons, List.length_nil, Nat.zero_add, Nat.reduceAdd, if_true, hf]; rfl)]
      exact h1
    rw [ht]
    simp only [hb]
    rw [show p ++ o :: U = (p ++ [o]) ++ U by rw [List.append_assoc]; rfl]
    exact h2
end
end DL

set_option Elab.async false
set_option linter.all false
set_option maxRecDepth 100000
set_option maxHeartbeats 1000000
namespace DL
open PySem PySem.Spec PyProof.Rows L2 LamX
section
variable {n : Nat} {V : List (List Int)}
theorem ix_lastN (q : List Nat) (g : Nat) : ixD (NL (q ++ [g])) (.int (-1)) = .ok (.int (g : Int)) := by
  unfold NL
  rw [List.map_append]
  show optR (atI (q.map (fun i : Nat => D.int (i : Int)) ++ [D.int (g : Int)]) (-1)) = _
  rw [atI_last]
  rfl
theorem ne_nilNL (S : List Nat) : neD (NL S) (.lst []) = .ok (.bl (!S.isEmpty)) := by
  have h : eqOk (.lst (S.map fun i : Nat => D.int (i : Int))) = true := emb_NL.ok (by decide) S
  unfold NL
  rw [ne_nil h, isEmpty_map]
def roB : Gm → O := sSeq (sOwn 3 (vP (eB dictD (aCons (eLc [5] (iSeq (eVar 1)) (tgN 5) (eC (.bl true)) (eTup (aCons (eVar 5) (aCons (eC (.int 0)) aNil)))) aNil))))
  (sSeq (sFor [4] false (iSeq (eVar 0)) (tgN 4) (sFor [] false (iSeq (eCall 2 m_firsts_of (aCons (eVar 4) (aCons (eVar 1) aNil)))) (tgN 5) roP))
  (sSeq (sSet 6 (vB (eB minDD (aCons (eLc [5] (iSeq (eVar 1)) (tgN 5) (eC (.bl true)) (eTup (aCons (e2 ixD (eVar 3) (eVar 5)) (aCons (e2 subD (eC (.int 0)) (eVar 5)) aNil)))) aNil))))
  (sSeq (sApp 2 (vP (e2 subD (eC (.int 0)) (e2 ixD (eVar 6) (eC (.int 1))))))
  (sSet 1 (vF (eLc [5] (iSeq (eVar 1)) (tgN 5) (e2 neD (eVar 5) (e2 ixD (eVar 2) (e1 negD (eC (.int 1))))) (eVar 5)))))))
theorem ro_body (h : Vts n V) {left found : List Nat} {o5 : Option D} (nd : left.Nodup) (hne : left ≠ []) (hl : ∀ i ∈ left, i < n) (h900 : left.length ≤ 900) (hf : found.length ≤ 900) : ∃ (g : Nat) (Γ2 : Gm) (o5' : Option D), Pick V left g ∧ roB [.dat (.lst (V.map T)), .dat (NL left), .own (NL found), .no, .no, sD o5, .no] = .nx Γ2 ∧ killAll [3, 4, 6] Γ2 = [.dat (.lst (V.map T)), .dat (NL (left.filter fun i => !decide (i = g))), .own (NL (found ++ [g])), .no, .no, sD o5', .no] := by
  obtain ⟨g, hp, hmin⟩ := pick_of (V := V) hne
  obtain ⟨o1, h1⟩ := ro_orders (V := V) h.ord (found := found) nd hne hl h900 V [] o5 h.ord
  rw [List.nil_append] at h1
  have hc0 : ctD left (cF [] left) = ctD left fun _ => 0 := ct_congr fun i _ => rfl
  rw [hc0] at h1
  refine ⟨g, [.dat (.lst (V.map T)), .dat (NL (left.filter fun i => !decide (i = g))), .own (NL (found ++ [g])), .own (ctD left (cF V left)), .no, sD o1, .dat (T [(cF V left g : Int), -(g : Int)])], o1, hp, ?_, rfl⟩
  have t2 : ∀ p q : D, tupD [p, q] = .ok (.tup [p, q]) := fun _ _ => if_pos (small (by simp))
  unfold roB
  refine seq_step (Γ' := [.dat (.lst (V.map T)), .dat (NL left), .own (NL found), .own (ctD left fun _ => 0), .no, sD o5, .no]) ?_ (seq_step (Γ' := [.dat (.lst (V.map T)), .dat (NL left), .own (NL found), .own (ctD left (cF V left)), .no, sD o1, .no]) ?_ (seq_step (Γ' := [.dat (.lst (V.map T)), .dat (NL left), .own (NL found), .own (ctD left (cF V left)), .no, sD o1, .dat (T [(cF V left g : Int), -(g : Int)])]) ?_ (seq_step (Γ' := [.dat (.lst (V.map T)), .dat (NL left), .own (NL (found ++ [g])), .own (ctD left (cF V left)), .no, sD o1, .dat (T [(cF V left g : Int), -(g : Int)])]) ?_ ?_)))
  · have hlc : eLc [5] (iSeq (eVar 1)) (tgN 5) (eC (.bl true)) (eTup (aCons (eVar 5) (aCons (eC (.int 0)) aNil))) [.dat (.lst (V.map T)), .dat (NL left), .own (NL found), .no, .no, sD o5, .no] = .ok (.lst (left.map fun i : Nat => .tup [.int (i : Int), .int 0])) :=
      lc_of (f := fun i : Nat => .int (i : Int)) (by simp [NL]) (by omega) fun i hi => ⟨[.dat (.lst (V.map T)), .dat (NL left), .no, .no, .no, .dat (.int (i : Nat)), .no], by simp only [hide_own', hide_dat', hide_sD, hide_no, hide_nil]; rfl, by simp⟩
    rw [st_own, ev_vP, B1_ok hlc (zero_ct nd)]
    rfl
  · rw [st_for (ds := V.map T) (by simp)]
    exact h1
  · have hlc : eLc [5] (iSeq (eVar 1)) (tgN 5) (eC (.bl true)) (eTup (aCons (e2 ixD (eVar 3) (eVar 5)) (aCons (e2 subD (eC (.int 0)) (eVar 5)) aNil))) [.dat (.lst (V.map T)), .dat (NL left), .dat (NL found), .dat (ctD left (cF V left)), .no, sD o1, .no] = .ok (.lst ((left.map fun i => ((cF V left i : Int), -(i : Int))).map pI)) := by
      rw [List.map_map]
      refine lc_of (f := fun i : Nat => .int (i : Int)) (by simp [NL]) (by omega) fun i hi => ⟨[.dat (.lst (V.map T)), .dat (NL left), .dat (NL found), .dat (ctD left (cF V left)), .no, .dat (.int (i : Nat)), .no], by simp only [hide_own', hide_dat', hide_sD, hide_no, hide_nil]; rfl, ?_⟩
      have hx := ix_ct (c := cF V left) hi
      have hz : (0 : Int) - (i : Int) = -(i : Int) := by omega
      simp only [ev_tup, ev_cons, ev_nil, ev_2, ev_c, ev_var, List.getElem?_cons_succ, List.getElem?_cons_zero, slR_dat, Rg.bind_ok, hx, sub_int, t2, hz]
      rfl
    have hun : unown [.dat (.lst (V.map T)), .dat (NL left), .own (NL found), .own (ctD left (cF V left)), .no, sD o1, .no] = [.dat (.lst (V.map T)), .dat (NL left), .dat (NL found), .dat (ctD left (cF V left)), .no, sD o1, .no] := by simp only [unown_own', unown_dat', unown_sD, unown_no, unown_nil]
    rw [st_set, ev_vB, hun, B1_ok hlc hmin]
    simp only [Rg.bind_ok, flat_T, if_true, Rg.toS_ok]
    rfl
  · have hx : ixD (T [(cF V left g : Int), -(g : Int)]) (.int 1) = .ok (.int (-(g : Int))) := ix_tup (ds := [.int (cF V left g : Int), .int (-(g : Int))]) (i := 1) (by simp)
    have hz : (0 : Int) - -(g : Int) = (g : Int) := by omega
    have hfl : (found.map fun i : Nat => D.int (i : Int)).length < 1000 := by rw [List.length_map]; omega
    rw [st_app']
    show isOwnL (some (.own (.lst (found.map fun i : Nat => D.int (i : Int))))) _ = _
    rw [isOwnL_own]
    simp only [ev_vP, ev_2, ev_c, ev_var, List.getElem?_cons_succ, List.getElem?_cons_zero, slR_dat, Rg.bind_ok, hx, sub_int, hz, Rg.toS_ok]
    show appL (some (.own (.lst (found.map fun i : Nat => D.int (i : Int))))) 2 _ (.int (g : Int)) = _
    rw [appL_own hfl]
    unfold NL
    rw [List.map_append]
    rfl
  · have hun : unown [.dat (.lst (V.map T)), .dat (NL left), .own (NL (found ++ [g])), .own (ctD left (cF V left)), .no, sD o1, .dat (T [(cF V left g : Int), -(g : Int)])] = [.dat (.lst (V.map T)), .dat (NL left), .dat (NL (found ++ [g])), .dat (ctD left (cF V left)), .no, sD o1, .dat (T [(cF V left g : Int), -(g : Int)])] := by simp only [unown_own', unown_dat', unown_sD, unown_no, unown_nil]
    have hlc : eLc [5] (iSeq (eVar 1)) (tgN 5) (e2 neD (eVar 5) (e2 ixD (eVar 2) (e1 negD (eC (.int 1))))) (eVar 5) [.dat (.lst (V.map T)), .dat (NL left), .dat (NL (found ++ [g])), .dat (ctD left (cF V left)), .no, sD o1, .dat (T [(cF V left g : Int), -(g : Int)])] = .ok (NL (left.filter fun i => !decide (i = g))) := by
      refine lc_ofF (f := fun i : Nat => .int (i : Int)) (h := fun i : Nat => .int (i : Int)) (by simp [NL]) (by omega) fun i hi => ⟨[.dat (.lst (V.map T)), .dat (NL left), .dat (NL (found ++ [g])), .dat (ctD left (cF V left)), .no, .dat (.int (i : Nat)), .dat (T [(cF V left g : Int), -(g : Int)])], by simp only [hide_own', hide_dat', hide_sD, hide_no, hide_nil]; rfl, ?_, fun _ => rfl⟩
      have hx := ix_lastN found g
      have ci : ((i : Int) = (g : Int)) = (i = g) := propext (by omega)
      simp only [ev_2, ev_1, ev_c, ev_var, List.getElem?_cons_succ, List.getElem?_cons_zero, slR_dat, Rg.bind_ok, neg_int, hx, ne_int, ci]
    have hfl : flatItems (NL (left.filter fun i => !decide (i = g))) = true := by rw [NL_int, flatI_lst]; exact flats_ints _
    rw [st_set, ev_vF, hun, hlc]
    simp only [Rg.bind_ok, hfl, if_true, Rg.toS_ok]
    rfl
theorem flt_lt {left : List Nat} {g : Nat} (hg : g ∈ left) : (left.filter fun i => !decide (i = g)).length < left.length := by
  have h := (filter_lt (l := left) (p := fun i => !decide (i = g)) (q := fun _ => true) fun x _ _ => rfl).2 ⟨g, hg, rfl, by simp⟩
  have e : left.filter (fun _ => true) = left := List.filter_eq_self.mpr fun _ _ => rfl
  rw [e] at h
  omega
theorem ro_while (h : Vts n V) : ∀ (k : Nat) (left found : List Nat) (o5 : Option D), left.Nodup → (∀ i ∈ left, i < n) → left.length < k → left.length ≤ 100 → found.length + left.length ≤ 100 → ∃ (r : List Nat) (o5' : Option D), whileN [3, 4, 6] false (e2 neD (eVar 1) (eLst aNil)) roB k [.dat (.lst (V.map T)), .dat (NL left), .own (NL found), .no, .no, sD o5, .no] = .nx [.dat (.lst (V.map T)), .dat (NL []), .own (NL (found ++ r)), .no, .no, sD o5', .no] ∧ Run V left r := fun k => by
  induction k with
  | zero => intro left found o5 _ _ hk; omega
  | succ k ih =>
    intro left found o5 nd hl hk h100 hs
    have hc : tst false (e2 neD (eVar 1) (eLst aNil)) [.dat (.lst (V.map T)), .dat (NL left), .own (NL found), .no, .no, sD o5, .no] = .ok (.bl (!left.isEmpty)) := by
      have := ne_nilNL left
      rw [tst_f]
      simp only [ev_2, ev_var, ev_lst, ev_nil, List.getElem?_cons_succ, List.getElem?_cons_zero, slR_dat, Rg.bind_ok, lstD_nil, this]
    by_cases c : left = []
    · subst c
      refine ⟨[], o5, ?_, .nil⟩
      rw [while_end hc, List.append_nil]
    · have hie : left.isEmpty = false := by cases left with
        | nil => exact absurd rfl c
        | cons a b => rfl
      rw [hie] at hc
      obtain ⟨g, Γ2, o1, hp, hb, hkl⟩ := ro_body h (o5 := o5) nd c hl (by omega) (show found.length ≤ 900 by omega)
      have hlt := flt_lt hp.mem
      obtain ⟨r, o2, hw, hr⟩ := ih (left.filter fun i => !decide (i = g)) (found ++ [g]) o1 (List.Pairwise.filter _ nd) (fun i hi => hl i (List.mem_filter.mp hi).1) (by omega) (by omega) (by rw [List.length_append, List.length_singleton]; omega)
      refine ⟨g :: r, o2, ?_, .cons hp hr⟩
      rw [while_step hc hb, hkl, hw, List.append_assoc]
      rfl
theorem sp_runoff (h : Vts n V) : ∃ r, m_runoff [.lst (V.map T)] = .ok (NL r) ∧ Run V (List.range n) r := by
  have e0 : gam0 7 [.lst (V.map T)] = [.dat (.lst (V.map T)), .no, .no, .no, .no, .no, .no] := by simp [gam0, List.replicate]
  have hn := h.n6
  have hlr : lrngA [.int (n : Int)] = .ok (NL (List.range n)) := by
    rw [lrng1 (by omega)]
    unfold rngD NL
    simp
  obtain ⟨r, o5, hw, hr⟩ := ro_while h 100 (List.range n) [] none List.nodup_range (fun i hi => List.mem_range.mp hi) (by rw [List.length_range]; omega) (by rw [List.length_range]; omega) (by rw [List.length_range, List.length_nil]; omega)
  rw [List.nil_append] at hw
  have hw : sWhile [3, 4, 6] false (e2 neD (eVar 1) (eLst aNil)) roB 100 [.dat (.lst (V.map T)), .dat (NL (List.range n)), .own (NL []), .no, .no, .no, .no] = .nx [.dat (.lst (V.map T)), .dat (NL []), .own (NL r), .no, .no, sD o5, .no] := hw
  refine ⟨r, ?_, hr⟩
  unfold m_runoff runDef g_runoff
  rw [e0]
  refine congrArg O.toR (seq_step (Γ' := [.dat (.lst (V.map T)), .no, .no, .no, .no, .no, .no]) (by simp [sp_need_rows h]) (seq_step (Γ' := [.dat (.lst (V.map T)), .dat (NL (List.range n)), .no, .no, .no, .no, .no]) (set_ok (d := NL (List.range n)) ?_ rfl) (seq_step (Γ' := [.dat (.lst (V.map T)), .dat (NL (List.range n)), .own (NL []), .no, .no, .no, .no]) (by simp; rfl) (seq_step (Γ' := [.dat (.lst (V.map T)), .dat (NL []), .own (NL r), .no, .no, sD o5, .no]) hw ?_))) (o := .rt (NL r)))
  · rw [ev_lrng, (len_first h).2 _ rfl, Rg.bind_ok, hlr]
  · have hun : unown [.dat (.lst (V.map T)), .dat (NL []), .own (NL r), .no, .no, sD o5, .no] = [.dat (.lst (V.map T)), .dat (NL []), .dat (NL r), .no, .no, sD o5, .no] := by simp only [unown_own', unown_dat', unown_sD, unown_no, unown_nil]
    rw [st_ret, ev_vB, hun]
    rfl
/-! ### the law's own -/
theorem flt_two {α : Type} (p : α → Bool) : ∀ l : List α, (l.filter p).length + (l.filter fun x => !p x).length = l.length
  | [] => rfl
  | x :: l => by
    have := flt_two p l
    rw [List.filter_cons, List.filter_cons]
    cases p x <;> simp <;> omega
theorem rst_len {found : List Nat} (nd : found.Nodup) (hl : ∀ i ∈ found, i < n) : found.length + (rstL n found).length = n := by
  have h1 := flt_two (fun i => decide (i ∈ found)) (List.range n)
  rw [List.length_range] at h1
  have h2 := (List.mergeSort_perm found le_N).length_eq
  rw [srt_is nd hl] at h2
  have h3 : (List.range n).filter (fun x => !decide (x ∈ found)) = rstL n found := rfl
  rw [h3] at h1
  omega
theorem rst_snoc (found : List Nat) (g : Nat) : rstL n (found ++ [g]) = (rstL n found).filter fun i => !decide (i = g) := by
  unfold rstL
  rw [List.filter_filter]
  refine List.filter_congr fun i _ => ?_
  rw [Bool.eq_iff_iff]
  simp [and_comm]
def lrI : Gm → O := sSeq (sSet 6 (vP (eLc [7] (iSeq (eVar 0)) (tgN 7) (e2 eqD (eLc [8] (iSeq (eVar 3)) (tgN 8) (e2 ltD (e2 ixD (eVar 7) (eVar 8)) (e2 ixD (eVar 7) (eVar 5))) (eC (.int 1))) (eLst aNil)) (eC (.int 1)))))
  (sApp 4 (vP (eTup (aCons (eB lenD (aCons (eVar 6) aNil)) (aCons (e2 subD (eC (.int 0)) (eVar 5)) aNil)))))
theorem lr_item (h : Vts n V) {left found : List Nat} {M : List (Int × Int)} {i : Nat} (hl : ∀ j ∈ left, j < n) (h900 : left.length ≤ 900) (hi : i ∈ left) (hM : M.length < 900) : lrI [.dat (.lst (V.map T)), .dat (.int (n : Int)), .own (NL found), .dat (NL left), .own (.lst (M.map pI)), .dat (.int (i : Nat)), .no, .no, .no] = .nx [.dat (.lst (V.map T)), .dat (.int (n : Int)), .own (NL found), .dat (NL left), .own (.lst ((M ++ [((cF V left i : Int), -(i : Int))]).map pI)), .dat (.int (i : Nat)), .dat (.lst ((V.filter fun o => isF o left i).map fun _ => .int 1)), .no, .no] := by
  have t2 : ∀ p q : D, tupD [p, q] = .ok (.tup [p, q]) := fun _ _ => if_pos (small (by simp))
  unfold lrI
  refine seq_step (Γ' := [.dat (.lst (V.map T)), .dat (.int (n : Int)), .own (NL found), .dat (NL left), .own (.lst (M.map pI)), .dat (.int (i : Nat)), .dat (.lst ((V.filter fun o => isF o left i).map fun _ => .int 1)), .no, .no]) (set_ok (d := .lst ((V.filter fun o => isF o left i).map fun _ => .int 1)) ?_ rfl) ?_
  · refine lc_ofF (f := T) (by simp) h.lt fun o ho => ⟨[.dat (.lst (V.map T)), .dat (.int (n : Int)), .no, .dat (NL left), .no, .dat (.int (i : Nat)), .no, .dat (T o), .no], by simp only [hide_own', hide_dat', hide_no, hide_nil]; rfl, ?_, fun _ => rfl⟩
    have hol := (h.ord o ho).len
    have hlc : eLc [8] (iSeq (eVar 3)) (tgN 8) (e2 ltD (e2 ixD (eVar 7) (eVar 8)) (e2 ixD (eVar 7) (eVar 5))) (eC (.int 1)) [.dat (.lst (V.map T)), .dat (.int (n : Int)), .no, .dat (NL left), .no, .dat (.int (i : Nat)), .no, .dat (T o), .no] = .ok (.lst ((left.filter fun j => decide (v o j < v o i)).map fun _ => .int 1)) := by
      refine lc_ofF (f := fun i : Nat => .int (i : Int)) (by simp [NL]) (by omega) fun j hj => ⟨[.dat (.lst (V.map T)), .dat (.int (n : Int)), .no, .dat (NL left), .no, .dat (.int (i : Nat)), .no, .dat (T o), .dat (.int (j : Nat))], by simp only [hide_own', hide_dat', hide_no, hide_nil]; rfl, ?_, fun _ => rfl⟩
      have x1 := ix_T (o := o) (i := j) (by rw [hol]; exact hl j hj)
      have x2 := ix_T (o := o) (i := i) (by rw [hol]; exact hl i hi)
      simp only [ev_2, ev_var, List.getElem?_cons_succ, List.getElem?_cons_zero, slR_dat, Rg.bind_ok, x1, x2, lt_int]
    exact e2_ok hlc (by simp) (eq_nilN _)
  · have hl1 : (M.map pI).length < 1000 := by rw [List.length_map]; omega
    have hlen : lenD [.lst ((V.filter fun o => isF o left i).map fun _ => D.int 1)] = .ok (.int (cF V left i : Nat)) := by unfold cF; simp [lenD]
    have hz : (0 : Int) - (i : Int) = -(i : Int) := by omega
    rw [List.map_append]
    simp only [st_app', ev_vP, ev_tup, ev_cons, ev_nil, ev_B, ev_2, ev_c, ev_var, List.getElem?_cons_succ, List.getElem?_cons_zero, slR_dat, Rg.bind_ok, hlen, sub_int, hz, t2, isOwnL_own, Rg.toS_ok, appL_own hl1]
    rfl
theorem lr_items (h : Vts n V) {left found : List Nat} (hl : ∀ j ∈ left, j < n) (h900 : left.length ≤ 100) : ∀ (q : List Nat) (M : List (Int × Int)) (o5 : Option D), (∀ i ∈ q, i ∈ left) → M.length + q.length ≤ 100 → ∃ o5' : Option D, forL [6] (tgN 5) lrI (q.map fun i : Nat => .int (i : Int)) [.dat (.lst (V.map T)), .dat (.int (n : Int)), .own (NL found), .dat (NL left), .own (.lst (M.map pI)), sD o5, .no, .no, .no] = .nx [.dat (.lst (V.map T)), .dat (.int (n : Int)), .own (NL found), .dat (NL left), .own (.lst ((M ++ q.map fun i => ((cF V left i : Int), -(i : Int))).map pI)), sD o5', .no, .no, .no] := fun q => by
  induction q with
  | nil => exact fun M o5 _ _ => ⟨o5, by simp only [List.map_nil, List.append_nil]; rfl⟩
  | cons i q ih =>
    intro M o5 hq hM
    rw [List.length_cons] at hM
    have hb := lr_item h (found := found) (M := M) hl (by omega) (hq i List.mem_cons_self) (by omega)
    obtain ⟨o2, h2⟩ := ih (M ++ [((cF V left i : Int), -(i : Int))]) (some (.int (i : Nat))) (fun j hj => hq j (List.mem_cons_of_mem _ hj)) (by rw [List.length_append, List.length_singleton]; omega)
    refine ⟨o2, ?_⟩
    rw [List.map_cons]
    unfold forL
    have ht : tgN 5 (.int (i : Int)) [.dat (.lst (V.map T)), .dat (.int (n : Int)), .own (NL found), .dat (NL left), .own (.lst (M.map pI)), sD o5, .no, .no, .no] = some [.dat (.lst (V.map T)), .dat (.int (n : Int)), .own (NL found), .dat (NL left), .own (.lst (M.map pI)), .dat (.int (i : Nat)), .no, .no, .no] := rfl
    have hk : killAll [6] [.dat (.lst (V.map T)), .dat (.int (n : Int)), .own (NL found), .dat (NL left), .own (.lst ((M ++ [((cF V left i : Int), -(i : Int))]).map pI)), .dat (.int (i : Nat)), .dat (.lst ((V.filter fun o => isF o left i).map fun _ => .int 1)), .no, .no] = [.dat (.lst (V.map T)), .dat (.int (n : Int)), .own (NL found), .dat (NL left), .own (.lst ((M ++ [((cF V left i : Int), -(i : Int))]).map pI)), sD (some (.int (i : Nat))), .no, .no, .no] := rfl
    rw [ht]
    simp only [hb, hk]
    rw [h2, List.map_cons, List.append_assoc]
    rfl
def lrB : Gm → O := sSeq (sPO 3 4 false true (vF (eLc [5] (iRng (aCons (eVar 1) aNil)) (tgN 5) (e2 ninD (eVar 5) (eVar 2)) (eVar 5))) (vP (eLst aNil)))
  (sSeq (sFor [6] false (iSeq (eVar 3)) (tgN 5) lrI)
  (sApp 2 (vB (e2 subD (eC (.int 0)) (e2 ixD (eB minDD (aCons (eVar 4) aNil)) (eC (.int 1)))))))
theorem lr_body (h : Vts n V) {found : List Nat} {o5 : Option D} (hf : found.length ≤ 900) (hne : rstL n found ≠ []) : ∃ (g : Nat) (Γ2 : Gm) (o5' : Option D), Pick V (rstL n found) g ∧ lrB [.dat (.lst (V.map T)), .dat (.int (n : Int)), .own (NL found), .no, .no, sD o5, .no, .no, .no] = .nx Γ2 ∧ killAll [3, 4, 6] Γ2 = [.dat (.lst (V.map T)), .dat (.int (n : Int)), .own (NL (found ++ [g])), .no, .no, sD o5', .no, .no, .no] := by
  have hn := h.n6
  have hr := rng_N (n := n) (by omega)
  obtain ⟨g, hp, hmin⟩ := pick_of (V := V) hne
  have hl : ∀ i ∈ rstL n found, i < n := fun i hi => List.mem_range.mp (List.mem_filter.mp hi).1
  have hll : (rstL n found).length ≤ 6 := by
    have := List.length_filter_le (fun i => !decide (i ∈ found)) (List.range n)
    rw [List.length_range] at this
    exact Nat.le_trans this hn
  obtain ⟨o1, h1⟩ := lr_items h (found := found) hl (by omega) (rstL n found) [] o5 (fun i hi => hi) (by rw [List.length_nil]; omega)
  rw [List.nil_append] at h1
  have hlc : eLc [5] (iRng (aCons (eVar 1) aNil)) (tgN 5) (e2 ninD (eVar 5) (eVar 2)) (eVar 5) [.dat (.lst (V.map T)), .dat (.int (n : Int)), .dat (NL found), .no, .no, sD o5, .no, .no, .no] = .ok (NL (rstL n found)) := by
    refine lc_ofF (f := fun r : Nat => .int (r : Int)) (h := fun r : Nat => .int (r : Int)) (p := fun i => !decide (i ∈ found)) (by simp only [ev_rng, ev_cons, ev_var, ev_nil, List.getElem?_cons_succ, List.getElem?_cons_zero, slR_dat, Rg.bind_ok, hr]) (by rw [List.length_range]; omega) fun b hb => ⟨[.dat (.lst (V.map T)), .dat (.int (n : Int)), .dat (NL found), .no, .no, .dat (.int (b : Nat)), .no, .no, .no], by simp only [hide_own', hide_dat', hide_sD, hide_no, hide_nil]; rfl, ?_, fun _ => rfl⟩
    have := nin_NL b found
    simp only [ev_2, ev_var, List.getElem?_cons_succ, List.getElem?_cons_zero, slR_dat, Rg.bind_ok, this]
  generalize hleft : rstL n found = left at *
  refine ⟨g, [.dat (.lst (V.map T)), .dat (.int (n : Int)), .own (NL (found ++ [g])), .dat (NL left), .own (.lst ((left.map fun i => ((cF V left i : Int), -(i : Int))).map pI)), sD o1, .no, .no, .no], o1, hp, ?_, rfl⟩
  unfold lrB
  refine seq_step (Γ' := [.dat (.lst (V.map T)), .dat (.int (n : Int)), .own (NL found), .dat (NL left), .own (.lst (([] : List (Int × Int)).map pI)), sD o5, .no, .no, .no]) ?_ (seq_step (Γ' := [.dat (.lst (V.map T)), .dat (.int (n : Int)), .own (NL found), .dat (NL left), .own (.lst ((left.map fun i => ((cF V left i : Int), -(i : Int))).map pI)), sD o1, .no, .no, .no]) ?_ ?_)
  · have hun : unown [.dat (.lst (V.map T)), .dat (.int (n : Int)), .own (NL found), .no, .no, sD o5, .no, .no, .no] = [.dat (.lst (V.map T)), .dat (.int (n : Int)), .dat (NL found), .no, .no, sD o5, .no, .no, .no] := by simp only [unown_own', unown_dat', unown_sD, unown_no, unown_nil]
    have hfl : flatItems (NL left) = true := by rw [NL_int, flatI_lst]; exact flats_ints _
    unfold sPO
    rw [ev_vF, hun, hlc]
    simp only [Rg.bind_ok, hfl, if_true, Rg.toS_ok, ev_vP, ev_lst, ev_nil, lstD_nil]
    rfl
  · rw [st_for (ds := left.map fun i : Nat => .int (i : Int)) (by simp [NL])]
    exact h1
  · have hx : ixD (T [(cF V left g : Int), -(g : Int)]) (.int 1) = .ok (.int (-(g : Int))) := ix_tup (ds := [.int (cF V left g : Int), .int (-(g : Int))]) (i := 1) (by simp)
    have hz : (0 : Int) - -(g : Int) = (g : Int) := by omega
    have hfl : (found.map fun i : Nat => D.int (i : Int)).length < 1000 := by rw [List.length_map]; omega
    have hun : unown [.dat (.lst (V.map T)), .dat (.int (n : Int)), .own (NL found), .dat (NL left), .own (.lst ((left.map fun i => ((cF V left i : Int), -(i : Int))).map pI)), sD o1, .no, .no, .no] = [.dat (.lst (V.map T)), .dat (.int (n : Int)), .dat (NL found), .dat (NL left), .dat (.lst ((left.map fun i => ((cF V left i : Int), -(i : Int))).map pI)), sD o1, .no, .no, .no] := by simp only [unown_own', unown_dat', unown_sD, unown_no, unown_nil]
    have he : e2 subD (eC (.int 0)) (e2 ixD (eB minDD (aCons (eVar 4) aNil)) (eC (.int 1))) [.dat (.lst (V.map T)), .dat (.int (n : Int)), .dat (NL found), .dat (NL left), .dat (.lst ((left.map fun i => ((cF V left i : Int), -(i : Int))).map pI)), sD o1, .no, .no, .no] = .ok (.int (g : Int)) := by
      simp only [ev_2, ev_c, ev_B, ev_cons, ev_nil, ev_var, List.getElem?_cons_succ, List.getElem?_cons_zero, slR_dat, Rg.bind_ok, hmin, hx, sub_int, hz]
    rw [st_app']
    show isOwnL (some (.own (.lst (found.map fun i : Nat => D.int (i : Int))))) _ = _
    rw [isOwnL_own, ev_vB, hun, he]
    simp only [Rg.bind_ok, flat_int, if_true, Rg.toS_ok]
    show appL (some (.own (.lst (found.map fun i : Nat => D.int (i : Int))))) 2 _ (.int (g : Int)) = _
    rw [appL_own hfl]
    unfold NL
    rw [List.map_append]
    rfl
theorem lr_while (h : Vts n V) : ∀ (k : Nat) (found : List Nat) (o5 : Option D), found.Nodup → (∀ i ∈ found, i < n) → n < found.length + k → ∃ (r : List Nat) (o5' : Option D), whileN [3, 4, 6] true (e2 ltD (eB lenD (aCons (eVar 2) aNil)) (eVar 1)) lrB k [.dat (.lst (V.map T)), .dat (.int (n : Int)), .own (NL found), .no, .no, sD o5, .no, .no, .no] = .nx [.dat (.lst (V.map T)), .dat (.int (n : Int)), .own (NL (found ++ r)), .no, .no, sD o5', .no, .no, .no] ∧ Run V (rstL n found) r := fun k => by
  induction k with
  | zero =>
    intro found o5 nd hl hk
    have := rst_len nd hl
    omega
  | succ k ih =>
    intro found o5 nd hl hk
    have hn := h.n6
    have hrl := rst_len nd hl
    have hlen := len_NL found
    have hc : tst true (e2 ltD (eB lenD (aCons (eVar 2) aNil)) (eVar 1)) [.dat (.lst (V.map T)), .dat (.int (n : Int)), .own (NL found), .no, .no, sD o5, .no, .no, .no] = .ok (.bl (decide (found.length < n))) := by
      rw [tst_t]
      simp only [unown_own', unown_dat', unown_sD, unown_no, unown_nil, ev_2, ev_var, ev_B, ev_cons, ev_nil, List.getElem?_cons_succ, List.getElem?_cons_zero, slR_dat, Rg.bind_ok, hlen, lt_int]
      refine congrArg (fun z => Rg.ok (D.bl z)) ?_
      rw [Bool.eq_iff_iff, decide_eq_true_iff, decide_eq_true_iff]
      omega
    by_cases c : found.length < n
    · rw [decide_eq_true c] at hc
      have hne : rstL n found ≠ [] := fun e => by
        rw [e, List.length_nil] at hrl
        omega
      obtain ⟨g, Γ2, o1, hp, hb, hkl⟩ := lr_body h (o5 := o5) (show found.length ≤ 900 by omega) hne
      have hg := List.mem_filter.mp hp.mem
      have hgn := List.mem_range.mp hg.1
      have hgf : g ∉ found := by simpa using hg.2
      obtain ⟨r, o2, hw, hr⟩ := ih (found ++ [g]) o1 (by
          rw [List.nodup_append]
          refine ⟨nd, by simp, fun x hx y hy e => ?_⟩
          rw [List.mem_singleton] at hy
          subst hy
          subst e
          exact hgf hx) (fun i hi => by
          rcases List.mem_append.mp hi with hi | hi
          · exact hl i hi
          · rw [List.mem_singleton] at hi
            omega) (by rw [List.length_append, List.length_singleton]; omega)
      rw [rst_snoc] at hr
      refine ⟨g :: r, o2, ?_, .cons hp hr⟩
      rw [while_step hc hb, hkl, hw, List.append_assoc]
      rfl
    · rw [decide_eq_false c] at hc
      have he : rstL n found = [] := List.eq_nil_of_length_eq_zero (by omega)
      rw [he]
      refine ⟨[], o5, ?_, .nil⟩
      rw [while_end hc, List.append_nil]
theorem sp_law_runoff (h : Vts n V) : ∃ r, m__law_runoff [.lst (V.map T), .int n] = .ok (NL r) ∧ Run V (List.range n) r := by
  have e0 : gam0 9 [.lst (V.map T), .int n] = [.dat (.lst (V.map T)), .dat (.int (n : Int)), .no, .no, .no, .no, .no, .no, .no] := by simp [gam0, List.replicate]
  have hn := h.n6
  obtain ⟨r, o5, hw, hr⟩ := lr_while h 100 [] none List.nodup_nil (fun i hi => by cases hi) (by rw [List.length_nil]; omega)
  rw [List.nil_append] at hw
  have h0 : rstL n [] = List.range n := by
    unfold rstL
    rw [List.filter_eq_self]
    intro i _
    simp
  rw [h0] at hr
  have hw : sWhile [3, 4, 6] true (e2 ltD (eB lenD (aCons (eVar 2) aNil)) (eVar 1)) lrB 100 [.dat (.lst (V.map T)), .dat (.int (n : Int)), .own (NL []), .no, .no, .no, .no, .no, .no] = .nx [.dat (.lst (V.map T)), .dat (.int (n : Int)), .own (NL r), .no, .no, sD o5, .no, .no, .no] := hw
  refine ⟨r, ?_, hr⟩
  unfold m__law_runoff runDef g__law_runoff
  rw [e0]
  refine congrArg O.toR (seq_step (Γ' := [.dat (.lst (V.map T)), .dat (.int (n : Int)), .own (NL []), .no, .no, .no, .no, .no, .no]) (by simp; rfl) (seq_step (Γ' := [.dat (.lst (V.map T)), .dat (.int (n : Int)), .own (NL r), .no, .no, sD o5, .no, .no, .no]) hw ?_) (o := .rt (NL r)))
  have hun : unown [.dat (.lst (V.map T)), .dat (.int (n : Int)), .own (NL r), .no, .no, sD o5, .no, .no, .no] = [.dat (.lst (V.map T)), .dat (.int (n : Int)), .dat (NL r), .no, .no, sD o5, .no, .no, .no] := by simp only [unown_own', unown_dat', unown_sD, unown_no, unown_nil]
  rw [st_ret, ev_vB, hun]
  rfl
end
end DL

set_option Elab.async false
set_option linter.all false
set_option maxRecDepth 100000
set_option maxHeartbeats 1000000
namespace DL
open PySem PySem.Spec PyProof.Rows L2 LamX
section
variable {n : Nat} {V : List (List Int)}
/-! ### votes drawn -/
def voF : Gm → O := sSeq (sSet 4 (vP (eCall 2 m__law_drawn (aCons (eVar 0) (aCons (e2 addD (eC (.int 300)) (eVar 3)) aNil)))))
  (sIf true (eAnd (e2 eqD (e2 modD (eVar 4) (eC (.int 3))) (eC (.int 0))) (e2 neD (eVar 2) (eLst aNil))) (sApp 2 (vB (e2 ixD (eVar 2) (e2 modD (e2 fdivD (eVar 4) (eC (.int 8))) (eB lenD (aCons (eVar 2) aNil)))))) (sApp 2 (vP (eCall 2 m__law_order (aCons (e2 fdivD (eVar 4) (eC (.int 64))) (aCons (eVar 1) aNil))))))
theorem vo_step (n1 : 1 ≤ n) (n6 : n ≤ 6) {x : Int} (x0 : 0 ≤ x) (x1 : x < MQ) {A : List (List Int)} (hA : ∀ o ∈ A, Ord n o) (hl : A.length < 900) {j : Nat} (hj : j < 40) : ∃ (o : List Int) (d4 : D), Ord n o ∧ voF [.dat (.int x), .dat (.int (n : Int)), .own (.lst (A.map T)), .dat (.int (j : Nat)), .no] = .nx [.dat (.int x), .dat (.int (n : Int)), .own (.lst ((A ++ [o]).map T)), .dat (.int (j : Nat)), .dat d4] := by
  obtain ⟨y, hy, y0, y1⟩ := sp_drawn (c := x) (k := 300 + (j : Int)) (B := 128) (by decide) (q128 x0 x1) (by omega) (by omega)
  have p3 : (0 : Int) < 3 := by decide
  have p8 : (0 : Int) < 8 := by decide
  have p64 : (0 : Int) < 64 := by decide
  have l8 : (8 : Int).natAbs.log2 < 9000 := by decide
  have l64 : (64 : Int).natAbs.log2 < 9000 := by decide
  have hal : (A.map T).length < 1000 := by rw [List.length_map]; omega
  have hne : neD (.lst (A.map T)) (.lst []) = .ok (.bl (!A.isEmpty)) := by rw [ne_nil (eqOk_rows A), isEmpty_map]
  have hun : unown [.dat (.int x), .dat (.int (n : Int)), .own (.lst (A.map T)), .dat (.int (j : Nat)), .dat (.int y)] = [.dat (.int x), .dat (.int (n : Int)), .dat (.lst (A.map T)), .dat (.int (j : Nat)), .dat (.int y)] := by simp only [unown_own', unown_dat', unown_nil]
  have h4 : sSet 4 (vP (eCall 2 m__law_drawn (aCons (eVar 0) (aCons (e2 addD (eC (.int 300)) (eVar 3)) aNil)))) [.dat (.int x), .dat (.int (n : Int)), .own (.lst (A.map T)), .dat (.int (j : Nat)), .no] = .nx [.dat (.int x), .dat (.int (n : Int)), .own (.lst (A.map T)), .dat (.int (j : Nat)), .dat (.int y)] := by simp [hy]
  have hc : tst true (eAnd (e2 eqD (e2 modD (eVar 4) (eC (.int 3))) (eC (.int 0))) (e2 neD (eVar 2) (eLst aNil))) [.dat (.int x), .dat (.int (n : Int)), .own (.lst (A.map T)), .dat (.int (j : Nat)), .dat (.int y)] = .ok (.bl (decide (y % 3 = 0) && !A.isEmpty)) := by
    rw [tst_t, hun]
    simp only [ev_and, ev_2, ev_var, ev_c, ev_lst, ev_nil, List.getElem?_cons_succ, List.getElem?_cons_zero, slR_dat, Rg.bind_ok, mod_int p3, eq_int, lstD_nil, hne, B3_bl]
    by_cases c : y % 3 = 0 <;> simp [c]
  by_cases c : (decide (y % 3 = 0) && !A.isEmpty) = true
  · rw [c] at hc
    have hA0 : 0 < A.length := by
      cases A with
      | nil => simp at c
      | cons a b => simp
    have pA : (0 : Int) < A.length := by omega
    obtain ⟨z, hz⟩ := nat_of (x := y / 8 % A.length) (Int.emod_nonneg _ (by omega))
    have hzl : z < A.length := by
      have := Int.emod_lt_of_pos (y / 8) pA
      omega
    have hix := ix_rows (L := A) hzl
    have hlen := len_rows' A
    refine ⟨A[z], .int y, hA _ (List.getElem_mem hzl), seq_step h4 ?_⟩
    rw [st_if, hc, ifB_bl, if_pos rfl, st_app', ev_vB, hun]
    simp only [ev_2, ev_B, ev_cons, ev_nil, ev_var, ev_c, List.getElem?_cons_succ, List.getElem?_cons_zero, slR_dat, Rg.bind_ok, fdiv_int p8 l8, hlen, mod_int pA, hz, hix, flat_T, if_true, isOwnL_own, Rg.toS_ok, appL_own hal, List.map_append]
    rfl
  · have c' : (decide (y % 3 = 0) && !A.isEmpty) = false := by simpa using c
    rw [c'] at hc
    obtain ⟨o, ho, hoo⟩ := sp_order (x := y / 64) (n := n) (by omega) (by unfold MQ at *; omega) n1 n6
    refine ⟨o, .int y, hoo, seq_step h4 ?_⟩
    rw [st_if, hc, ifB_bl, if_neg Bool.false_ne_true, st_app']
    simp only [ev_vP, ev_call, ev_cons, ev_nil, ev_2, ev_var, ev_c, List.getElem?_cons_succ, List.getElem?_cons_zero, slR_dat, Rg.bind_ok, fdiv_int p64 l64, List.length_cons, List.length_nil, Nat.zero_add, Nat.reduceAdd, if_true, ho, isOwnL_own, Rg.toS_ok, appL_own hal, List.map_append]
    rfl
theorem vo_loop (n1 : 1 ≤ n) (n6 : n ≤ 6) {x : Int} (x0 : 0 ≤ x) (x1 : x < MQ) (l : List Nat) : ∀ A : List (List Int), (∀ j ∈ l, j < 40) → (∀ o ∈ A, Ord n o) → A.length + l.length ≤ 40 → ∃ B : List (List Int), forL [3, 4] (tgN 3) voF (l.map fun r : Nat => .int (r : Int)) [.dat (.int x), .dat (.int (n : Int)), .own (.lst (A.map T)), .no, .no] = .nx [.dat (.int x), .dat (.int (n : Int)), .own (.lst (B.map T)), .no, .no] ∧ (∀ o ∈ B, Ord n o) ∧ B.length = A.length + l.length := by
  induction l with
  | nil => exact fun A _ hA _ => ⟨A, rfl, hA, rfl⟩
  | cons j l ih =>
    intro A hj hA hl
    rw [List.length_cons] at hl
    obtain ⟨o, d4, ho, hb⟩ := vo_step n1 n6 x0 x1 hA (show A.length < 900 by omega) (hj j List.mem_cons_self)
    obtain ⟨B, h1, h2, h3⟩ := ih (A ++ [o]) (fun i hi => hj i (List.mem_cons_of_mem _ hi)) (fun q hq => by
      rcases List.mem_append.mp hq with hq | hq
      · exact hA q hq
      · rw [List.mem_singleton] at hq
        subst hq
        exact ho) (by rw [List.length_append, List.length_singleton]; omega)
    refine ⟨B, ?_, h2, by rw [h3, List.length_append, List.length_singleton, List.length_cons]; omega⟩
    have hk : killAll [3, 4] [.dat (.int x), .dat (.int (n : Int)), .own (.lst ((A ++ [o]).map T)), .dat (.int (j : Nat)), .dat d4] = [.dat (.int x), .dat (.int (n : Int)), .own (.lst ((A ++ [o]).map T)), .no, .no] := rfl
    rw [List.map_cons]
    unfold forL
    simp only [tgN, List.set_cons_succ, List.set_cons_zero, hb, hk]
    exact h1
theorem sp_votes (n1 : 1 ≤ n) (n6 : n ≤ 6) {x : Int} (x0 : 0 ≤ x) (x1 : x < MQ) : ∃ V, m__law_votes [.int x, .int n] = .ok (.lst (V.map T)) ∧ Vts n V := by
  have e0 : gam0 5 [.int x, .int n] = [.dat (.int x), .dat (.int (n : Int)), .no, .no, .no] := by simp [gam0, List.replicate]
  have p3 : (0 : Int) < 3 := by decide
  have p8 : (0 : Int) < 8 := by decide
  have l8 : (8 : Int).natAbs.log2 < 9000 := by decide
  obtain ⟨k, hk⟩ := nat_of (x := x / 8 % 3) (Int.emod_nonneg _ (by decide))
  have k3 : k < 3 := by have := Int.emod_lt_of_pos (x / 8) p3; omega
  have hd : ∃ m : Nat, ([D.int 3, .int 12, .int 40] : List D)[k]'(by simpa using k3) = .int m ∧ 0 < m ∧ m ≤ 40 := by
    rcases (by omega : k = 0 ∨ k = 1 ∨ k = 2) with rfl | rfl | rfl
    · exact ⟨3, rfl, by decide, by decide⟩
    · exact ⟨12, rfl, by decide, by decide⟩
    · exact ⟨40, rfl, by decide, by decide⟩
  obtain ⟨m, hm, m0, m40⟩ := hd
  have pm : (0 : Int) < m := by omega
  obtain ⟨r, hr⟩ := nat_of (x := 1 + x % m) (by have := Int.emod_nonneg x (b := (m : Int)) (by omega); omega)
  have hr1 : 1 ≤ r ∧ r ≤ 40 := by
    have := Int.emod_nonneg x (b := (m : Int)) (by omega)
    have := Int.emod_lt_of_pos x pm
    omega
  have hrn := rng_N (n := r) (by omega)
  have l3 : ∀ a b c : D, lstD [a, b, c] = .ok (.lst [a, b, c]) := fun _ _ _ => lstD_small (by simp)
  have hix := ix_lst (ds := [D.int 3, .int 12, .int 40]) (i := k) (by simpa using k3)
  rw [hm] at hix
  obtain ⟨V, h1, h2, h3⟩ := vo_loop n1 n6 x0 x1 (List.range r) [] (fun j hj => by have := List.mem_range.mp hj; omega) (fun o ho => by cases ho) (by rw [List.length_range, List.length_nil]; omega)
  rw [List.length_nil, List.length_range, Nat.zero_add] at h3
  refine ⟨V, ?_, n1, n6, by omega, by omega, h2⟩
  unfold m__law_votes runDef g__law_votes
  rw [e0]
  refine congrArg O.toR (seq_step (Γ' := [.dat (.int x), .dat (.int (n : Int)), .own (.lst (([] : List (List Int)).map T)), .no, .no]) (by simp) (seq_step (Γ' := [.dat (.int x), .dat (.int (n : Int)), .own (.lst (V.map T)), .no, .no]) ?_ ?_) (o := .rt (.lst (V.map T))))
  · rw [st_for (ds := (List.range r).map fun i : Nat => .int (i : Int)) (by simp only [ev_rng, ev_cons, ev_nil, ev_2, ev_c, ev_var, ev_lst, List.getElem?_cons_succ, List.getElem?_cons_zero, slR_dat, Rg.bind_ok, l3, fdiv_int p8 l8, mod_int p3, hk, hix, mod_int pm, add_int, hr, hrn])]
    exact h1
  · have hun : unown [.dat (.int x), .dat (.int (n : Int)), .own (.lst (V.map T)), .no, .no] = [.dat (.int x), .dat (.int (n : Int)), .dat (.lst (V.map T)), .no, .no] := by simp only [unown_own', unown_dat', unown_no, unown_nil]
    rw [st_ret, ev_vB, hun]
    rfl
end
/-! ### the law -/
section
variable {d : D} {k : Nat} {x : Int} {n : Nat} {V : List (List Int)} {o9 : Option D} {S : List Int}
theorem v_b1 (h : Vts n V) {a b : Nat} (ha : a < n) (hb : b < n) {acc : Int} : b1_law [.dat d, .dat (.int (k : Int)), .dat (.int x), .dat (.int (n : Int)), .dat (.lst (V.map T)), .dat (.lst (V.map T)), .own (.lst (S.map .int)), .dat (.int (a : Nat)), .dat (.int acc), .dat (.int (b : Nat)), .no, .no, .no, .no, .no, .no] = .nx [.dat d, .dat (.int (k : Int)), .dat (.int x), .dat (.int (n : Int)), .dat (.lst (V.map T)), .dat (.lst (V.map T)), .own (.lst (S.map .int)), .dat (.int (a : Nat)), .dat (.int (acc + own1 V a b)), .dat (.int (b : Nat)), .dat (.lst ((csg V a b).map .int)), .no, .no, .no, .no, .no] := by
  have c1 := count_D (csg V a b) (-1)
  have c2 := count_D (csg V a b) 0
  have c3 := count_D (csg V a b) 1
  have hty : isTy "list" (.lst ((csg V a b).map .int)) = true := rfl
  have t3 : ∀ p q r : D, tupD [p, q, r] = .ok (.tup [p, q, r]) := fun _ _ _ => if_pos (small (by simp))
  have ht := sp_tally h ha hb
  have hn1 := cn_le V a b (-1)
  have hn2 := cn_le V a b 0
  have hv := h.le
  have e64 : (2 : Nat) ^ (63 + 1) = 18446744073709551616 := by decide
  have e1 : (2 : Nat) ^ (1 + 1) = 4 := by decide
  have m1 : mulOk 2 (cn V a b (-1) : Int) = true := mulOk_of (a := 1) (b := 63) (by decide) (by rw [e64]; omega) (by decide)
  have m2 : mulOk (if a = b then 0 else 1) (fpt V a b) = true := mulOk_of (a := 1) (b := 63) (by rw [e1]; split <;> decide) (by unfold fpt; rw [e64]; omega) (by decide)
  unfold b1_law
  refine seq_step (Γ' := [.dat d, .dat (.int (k : Int)), .dat (.int x), .dat (.int (n : Int)), .dat (.lst (V.map T)), .dat (.lst (V.map T)), .own (.lst (S.map .int)), .dat (.int (a : Nat)), .dat (.int acc), .dat (.int (b : Nat)), .dat (.lst ((csg V a b).map .int)), .no, .no, .no, .no, .no]) (set_ok (d := .lst ((csg V a b).map .int)) ?_ rfl) (seq_step (Γ' := [.dat d, .dat (.int (k : Int)), .dat (.int x), .dat (.int (n : Int)), .dat (.lst (V.map T)), .dat (.lst (V.map T)), .own (.lst (S.map .int)), .dat (.int (a : Nat)), .dat (.int acc), .dat (.int (b : Nat)), .dat (.lst ((csg V a b).map .int)), .no, .no, .no, .no, .no]) (chk ?_) (set_ok (d := .int (acc + own1 V a b)) ?_ rfl))
  · rw [← csg_D]
    refine lc_of (f := T) (by simp) h.lt fun o ho => ⟨[.dat d, .dat (.int (k : Int)), .dat (.int x), .dat (.int (n : Int)), .dat (.lst (V.map T)), .dat (.lst (V.map T)), .no, .dat (.int (a : Nat)), .dat (.int acc), .dat (.int (b : Nat)), .no, .no, .no, .dat (T o), .no, .no], by simp only [hide_own', hide_dat', hide_no, hide_nil]; rfl, ?_⟩
    have := sp__law_sign (o := o) (i := a) (j := b) (by rw [(h.ord o ho).len]; exact ha) (by rw [(h.ord o ho).len]; exact hb)
    simp [this]
  · refine e2_ok (a := T (tl3 V a b)) (b := T (tl3 V a b)) ?_ ?_ (by rw [ne_T]; simp)
    · simp only [ev_call, ev_cons, ev_nil, ev_var, List.getElem?_cons_succ, List.getElem?_cons_zero, slR_dat, Rg.bind_ok, List.length_cons, List.length_nil, Nat.zero_add, Nat.reduceAdd, if_true, ht]
    · simp only [ev_tup, ev_cons, ev_nil, ev_mt, ev_var, ev_1, ev_c, List.getElem?_cons_succ, List.getElem?_cons_zero, slR_dat, Rg.bind_ok, hty, if_true, neg_int, c1, c2, c3, t3]
      rfl
  · have hb2 : ∀ z : Bool, intD [.bl z] = .ok (.int (if z then 1 else 0)) := fun z => rfl
    have cab : ((a : Int) = (b : Int)) = (a = b) := propext (by omega)
    have hif : (if (!decide (a = b)) = true then (1 : Int) else 0) = if a = b then 0 else 1 := by
      by_cases e : a = b <;> simp [e]
    have hcn1 : ((csg V a b).count (-1) : Nat) = cn V a b (-1) := rfl
    have hcn2 : ((csg V a b).count 0 : Nat) = cn V a b 0 := rfl
    rw [hcn1] at c1
    rw [hcn2] at c2
    have m2' : mulOk (if a = b then 0 else 1) (2 * (cn V a b (-1) : Int) + (cn V a b 0 : Int)) = true := m2
    simp only [ev_2, ev_B, ev_cons, ev_nil, ev_mt, ev_var, ev_1, ev_c, List.getElem?_cons_succ, List.getElem?_cons_zero, slR_dat, Rg.bind_ok, hty, if_true, neg_int, ne_int, cab, hb2, hif, c1, c2, mul_int m1, add_int, mul_int m2']
    rfl
theorem v_in (h : Vts n V) {a : Nat} (ha : a < n) (l : List Nat) : ∀ (acc : Int) (o9 : Option D), (∀ b ∈ l, b < n) → ∃ o9' : Option D, forL [10] (tgN 9) b1_law (l.map fun r : Nat => .int (r : Int)) [.dat d, .dat (.int (k : Int)), .dat (.int x), .dat (.int (n : Int)), .dat (.lst (V.map T)), .dat (.lst (V.map T)), .own (.lst (S.map .int)), .dat (.int (a : Nat)), .dat (.int acc), sD o9, .no, .no, .no, .no, .no, .no] = .nx [.dat d, .dat (.int (k : Int)), .dat (.int x), .dat (.int (n : Int)), .dat (.lst (V.map T)), .dat (.lst (V.map T)), .own (.lst (S.map .int)), .dat (.int (a : Nat)), .dat (.int (acc + (l.map (own1 V a)).sum)), sD o9', .no, .no, .no, .no, .no, .no] := by
  induction l with
  | nil =>
    intro acc o9 _
    refine ⟨o9, ?_⟩
    rw [List.map_nil, List.map_nil, List.sum_nil, Int.add_zero]
    rfl
  | cons b l ih =>
    intro acc o9 hl
    have hb := v_b1 (d := d) (k := k) (x := x) (S := S) h ha (hl b List.mem_cons_self) (acc := acc)
    obtain ⟨o', h2⟩ := ih (acc + own1 V a b) (some (.int (b : Nat))) fun i hi => hl i (List.mem_cons_of_mem _ hi)
    refine ⟨o', ?_⟩
    have hk : killAll [10] [.dat d, .dat (.int (k : Int)), .dat (.int x), .dat (.int (n : Int)), .dat (.lst (V.map T)), .dat (.lst (V.map T)), .own (.lst (S.map .int)), .dat (.int (a : Nat)), .dat (.int (acc + own1 V a b)), .dat (.int (b : Nat)), .dat (.lst ((csg V a b).map .int)), .no, .no, .no, .no, .no] = [.dat d, .dat (.int (k : Int)), .dat (.int x), .dat (.int (n : Int)), .dat (.lst (V.map T)), .dat (.lst (V.map T)), .own (.lst (S.map .int)), .dat (.int (a : Nat)), .dat (.int (acc + own1 V a b)), sD (some (.int (b : Nat))), .no, .no, .no, .no, .no, .no] := rfl
    have ht : tgN 9 (.int (b : Int)) [.dat d, .dat (.int (k : Int)), .dat (.int x), .dat (.int (n : Int)), .dat (.lst (V.map T)), .dat (.lst (V.map T)), .own (.lst (S.map .int)), .dat (.int (a : Nat)), .dat (.int acc), sD o9, .no, .no, .no, .no, .no, .no] = some [.dat d, .dat (.int (k : Int)), .dat (.int x), .dat (.int (n : Int)), .dat (.lst (V.map T)), .dat (.lst (V.map T)), .own (.lst (S.map .int)), .dat (.int (a : Nat)), .dat (.int acc), .dat (.int (b : Nat)), .no, .no, .no, .no, .no, .no] := rfl
    rw [List.map_cons]
    unfold forL
    rw [ht]
    simp only [hb, hk]
    rw [h2, List.map_cons, List.sum_cons, Int.add_assoc]
theorem v_b2 (h : Vts n V) {a : Nat} (ha : a < n) (hS : S.length < 900) : ∃ o9' : Option D, b2_law [.dat d, .dat (.int (k : Int)), .dat (.int x), .dat (.int (n : Int)), .dat (.lst (V.map T)), .dat (.lst (V.map T)), .own (.lst (S.map .int)), .dat (.int (a : Nat)), .no, sD o9, .no, .no, .no, .no, .no, .no] = .nx [.dat d, .dat (.int (k : Int)), .dat (.int x), .dat (.int (n : Int)), .dat (.lst (V.map T)), .dat (.lst (V.map T)), .own (.lst ((S ++ [pts V n a]).map .int)), .dat (.int (a : Nat)), .dat (.int (pts V n a)), sD o9', .no, .no, .no, .no, .no, .no] := by
  have hn := h.n6
  have hr := rng_N (n := n) (by omega)
  obtain ⟨o', h1⟩ := v_in (d := d) (k := k) (x := x) (S := S) h ha (List.range n) 0 o9 fun b hb => List.mem_range.mp hb
  rw [Int.zero_add, own_pts] at h1
  refine ⟨o', ?_⟩
  unfold b2_law
  refine seq_step (Γ' := [.dat d, .dat (.int (k : Int)), .dat (.int x), .dat (.int (n : Int)), .dat (.lst (V.map T)), .dat (.lst (V.map T)), .own (.lst (S.map .int)), .dat (.int (a : Nat)), .dat (.int 0), sD o9, .no, .no, .no, .no, .no, .no]) (by simp) (seq_step (Γ' := [.dat d, .dat (.int (k : Int)), .dat (.int x), .dat (.int (n : Int)), .dat (.lst (V.map T)), .dat (.lst (V.map T)), .own (.lst (S.map .int)), .dat (.int (a : Nat)), .dat (.int (pts V n a)), sD o', .no, .no, .no, .no, .no, .no]) ?_ ?_)
  · rw [st_for (ds := (List.range n).map fun r : Nat => .int (r : Int)) (by simp only [ev_rng, ev_cons, ev_nil, ev_var, List.getElem?_cons_succ, List.getElem?_cons_zero, slR_dat, Rg.bind_ok, hr])]
    exact h1
  · have hl : (S.map D.int).length < 1000 := by rw [List.length_map]; omega
    simp only [st_app', ev_vP, ev_var, List.getElem?_cons_succ, List.getElem?_cons_zero, slR_dat, Rg.bind_ok, isOwnL_own, Rg.toS_ok, appL_own hl, List.map_append]
    rfl
theorem forL_cons {ks : List Nat} {t : Tg} {F : Gm → O} {e : D} {r : List D} {Γ Γ1 Γ2 Γ3 : Gm} (h1 : t e Γ = some Γ1) (h2 : F Γ1 = .nx Γ2) (h3 : killAll ks Γ2 = Γ3) : forL ks t F (e :: r) Γ = forL ks t F r Γ3 := by
  conv => lhs; unfold forL
  rw [h1]
  simp only [h2, h3]
theorem v_scores (h : Vts n V) (l : List Nat) : ∀ (S : List Int) (o9 : Option D), (∀ a ∈ l, a < n) → S.length + l.length ≤ 100 → ∃ o9' : Option D, forL [7, 8, 10] (tgN 7) b2_law (l.map fun r : Nat => .int (r : Int)) [.dat d, .dat (.int (k : Int)), .dat (.int x), .dat (.int (n : Int)), .dat (.lst (V.map T)), .dat (.lst (V.map T)), .own (.lst (S.map .int)), .no, .no, sD o9, .no, .no, .no, .no, .no, .no] = .nx [.dat d, .dat (.int (k : Int)), .dat (.int x), .dat (.int (n : Int)), .dat (.lst (V.map T)), .dat (.lst (V.map T)), .own (.lst ((S ++ l.map (pts V n)).map .int)), .no, .no, sD o9', .no, .no, .no, .no, .no, .no] := by
  induction l with
  | nil =>
    intro S o9 _ _
    refine ⟨o9, ?_⟩
    rw [List.map_nil, List.map_nil, List.append_nil]
    rfl
  | cons a l ih =>
    intro S o9 hl hS
    rw [List.length_cons] at hS
    obtain ⟨o1, hb⟩ := v_b2 (d := d) (k := k) (x := x) (o9 := o9) (S := S) h (hl a List.mem_cons_self) (by omega)
    obtain ⟨o2, h2⟩ := ih (S ++ [pts V n a]) o1 (fun i hi => hl i (List.mem_cons_of_mem _ hi)) (by rw [List.length_append, List.length_singleton]; omega)
    refine ⟨o2, ?_⟩
    have hk : killAll [7, 8, 10] [.dat d, .dat (.int (k : Int)), .dat (.int x), .dat (.int (n : Int)), .dat (.lst (V.map T)), .dat (.lst (V.map T)), .own (.lst ((S ++ [pts V n a]).map .int)), .dat (.int (a : Nat)), .dat (.int (pts V n a)), sD o1, .no, .no, .no, .no, .no, .no] = [.dat d, .dat (.int (k : Int)), .dat (.int x), .dat (.int (n : Int)), .dat (.lst (V.map T)), .dat (.lst (V.map T)), .own (.lst ((S ++ [pts V n a]).map .int)), .no, .no, sD o1, .no, .no, .no, .no, .no, .no] := rfl
    have ht : tgN 7 (.int (a : Int)) [.dat d, .dat (.int (k : Int)), .dat (.int x), .dat (.int (n : Int)), .dat (.lst (V.map T)), .dat (.lst (V.map T)), .own (.lst (S.map .int)), .no, .no, sD o9, .no, .no, .no, .no, .no, .no] = some [.dat d, .dat (.int (k : Int)), .dat (.int x), .dat (.int (n : Int)), .dat (.lst (V.map T)), .dat (.lst (V.map T)), .own (.lst (S.map .int)), .dat (.int (a : Nat)), .no, sD o9, .no, .no, .no, .no, .no, .no] := rfl
    rw [List.map_cons, forL_cons ht hb hk, h2, List.map_cons, List.append_assoc, List.singleton_append]
/-! ### the winner, once more -/
theorem wn_nil (a : Nat) : ((List.range n).filter fun b => !decide (b = a) && !bt V a b).isEmpty = wnC V n a := by
  unfold wnC
  rw [Bool.eq_iff_iff, List.isEmpty_iff, List.filter_eq_nil_iff, List.all_eq_true]
  constructor
  · intro h b hb
    have := h b hb
    cases h1 : decide (b = a) <;> cases h2 : bt V a b <;> simp_all
  · intro h b hb
    have := h b hb
    cases h1 : decide (b = a) <;> cases h2 : bt V a b <;> simp_all
theorem eq_NLnil (S : List Nat) : eqD (NL S) (.lst []) = .ok (.bl S.isEmpty) := by
  have h : eqOk (.lst (S.map fun i : Nat => D.int (i : Int))) = true := emb_NL.ok (by decide) S
  unfold NL
  rw [eq_nil h, isEmpty_map]
theorem v_b3 (h : Vts n V) {a : Nat} (ha : a < n) {f : Option Nat} : b3_law [.dat d, .dat (.int (k : Int)), .dat (.int x), .dat (.int (n : Int)), .dat (.lst (V.map T)), .dat (.lst (V.map T)), .own (.lst (S.map .int)), .dat (.int (a : Nat)), .no, sD o9, .no, .dat (optI f), .no, .no, .no, .no] = .nx [.dat d, .dat (.int (k : Int)), .dat (.int x), .dat (.int (n : Int)), .dat (.lst (V.map T)), .dat (.lst (V.map T)), .own (.lst (S.map .int)), .dat (.int (a : Nat)), .no, sD o9, .no, .dat (optI (if wnC V n a = true then some a else f)), .no, .no, .no, .no] := by
  have hn := h.n6
  have hr := rng_N (n := n) (by omega)
  have hlc : eLc [9] (iRng (aCons (eVar 3) aNil)) (tgN 9) (eAnd (e2 neD (eVar 9) (eVar 7)) (eNot (eCall 3 m__law_beats (aCons (eVar 4) (aCons (eVar 7) (aCons (eVar 9) aNil)))))) (eVar 9) [.dat d, .dat (.int (k : Int)), .dat (.int x), .dat (.int (n : Int)), .dat (.lst (V.map T)), .dat (.lst (V.map T)), .own (.lst (S.map .int)), .dat (.int (a : Nat)), .no, sD o9, .no, .dat (optI f), .no, .no, .no, .no] = .ok (NL ((List.range n).filter fun b => !decide (b = a) && !bt V a b)) := by
    refine lc_ofF (f := fun r : Nat => .int (r : Int)) (h := fun r : Nat => .int (r : Int)) (p := fun b => !decide (b = a) && !bt V a b) (by simp only [ev_rng, ev_cons, ev_var, ev_nil, List.getElem?_cons_succ, List.getElem?_cons_zero, slR_dat, Rg.bind_ok, hr]) (by rw [List.length_range]; omega) fun b hb => ⟨[.dat d, .dat (.int (k : Int)), .dat (.int x), .dat (.int (n : Int)), .dat (.lst (V.map T)), .dat (.lst (V.map T)), .no, .dat (.int (a : Nat)), .no, .dat (.int (b : Nat)), .no, .dat (optI f), .no, .no, .no, .no], by simp only [hide_own', hide_dat', hide_sD, hide_no, hide_nil]; rfl, ?_, fun _ => rfl⟩
    have h1 := sp__law_beats h ha (List.mem_range.mp hb)
    have cb : ((b : Int) = (a : Int)) = (b = a) := propext (by omega)
    simp only [ev_and, ev_2, ev_not, ev_call, ev_cons, ev_nil, ev_var, List.getElem?_cons_succ, List.getElem?_cons_zero, slR_dat, Rg.bind_ok, List.length_cons, List.length_nil, Nat.zero_add, Nat.reduceAdd, if_true, h1, ne_int, cb, B3_bl]
    cases decide (b = a) <;> cases bt V a b <;> rfl
  have he := eq_NLnil ((List.range n).filter fun b => !decide (b = a) && !bt V a b)
  rw [wn_nil] at he
  unfold b3_law
  rw [st_if, tst_f, e2_ok hlc (by simp) he, ifB_bl]
  cases wnC V n a with
  | true => simp [optI]
  | false => rfl
theorem v_first (h : Vts n V) : forL [7] (tgN 7) b3_law ((List.range n).map fun r : Nat => .int (r : Int)) [.dat d, .dat (.int (k : Int)), .dat (.int x), .dat (.int (n : Int)), .dat (.lst (V.map T)), .dat (.lst (V.map T)), .own (.lst (S.map .int)), .no, .no, sD o9, .no, .dat (optI none), .no, .no, .no, .no] = .nx [.dat d, .dat (.int (k : Int)), .dat (.int x), .dat (.int (n : Int)), .dat (.lst (V.map T)), .dat (.lst (V.map T)), .own (.lst (S.map .int)), .no, .no, sD o9, .no, .dat (optI (winP V n)), .no, .no, .no, .no] := by
  have key := for_list (ks := [7]) (t := tgN 7) (F := b3_law) (f := fun r : Nat => .int (r : Int)) (S := fun p => [.dat d, .dat (.int (k : Int)), .dat (.int x), .dat (.int (n : Int)), .dat (.lst (V.map T)), .dat (.lst (V.map T)), .own (.lst (S.map .int)), .no, .no, sD o9, .no, .dat (optI (p.find? (wnC V n))), .no, .no, .no, .no]) (l := List.range n) (pre := []) fun p a r e => by
    rw [List.nil_append] at e
    have ha : a < n := List.mem_range.mp (by rw [e]; simp)
    have hb := v_b3 (d := d) (k := k) (x := x) (o9 := o9) (S := S) h ha (f := p.find? (wnC V n))
    have hf : (if wnC V n a = true then some a else p.find? (wnC V n)) = (p ++ [a]).find? (wnC V n) := by
      rw [List.find?_append]
      by_cases c : wnC V n a = true
      · have hp : p.find? (wnC V n) = none := by
          rw [List.find?_eq_none]
          intro b hbp hw
          have hbn : b < n := List.mem_range.mp (by rw [e]; exact List.mem_append_left _ hbp)
          have hba := wn_one hbn ha hw c
          have nd := @List.nodup_range n
          rw [e, List.nodup_append] at nd
          exact nd.2.2 b hbp a List.mem_cons_self hba
        rw [if_pos c, hp]
        simp [c]
      · rw [if_neg c]
        simp [c]
    rw [hf] at hb
    exact ⟨[.dat d, .dat (.int (k : Int)), .dat (.int x), .dat (.int (n : Int)), .dat (.lst (V.map T)), .dat (.lst (V.map T)), .own (.lst (S.map .int)), .dat (.int (a : Nat)), .no, sD o9, .no, .dat (optI (p.find? (wnC V n))), .no, .no, .no, .no], _, rfl, hb, rfl⟩
  exact key
theorem win_best {B : List Nat} (hB : Best V n B) : (winP V n).isSome = decide (B.length = 1) := by
  rw [Bool.eq_iff_iff, decide_eq_true_iff]
  have hcl : ∀ a, wnC V n a = true → Clo V n [a] := fun a ha c hc b hb hcb => by
    rw [List.mem_singleton] at hc
    subst hc
    unfold wnC at ha
    rw [List.all_eq_true] at ha
    have := ha b (List.mem_range.mpr hb)
    rw [hcb, Bool.or_false, decide_eq_true_iff] at this
    rw [List.mem_singleton]
    exact this
  constructor
  · intro h
    unfold winP at h
    cases hw : (List.range n).find? (wnC V n) with
    | none => rw [hw] at h; cases h
    | some a =>
      have h1 := List.find?_some hw
      have h2 := List.mem_range.mp (List.mem_of_find?_eq_some hw)
      have hs := hB.le [a] (hcl a h1) ⟨a, List.mem_singleton_self _, h2⟩
      have nd : B.Nodup := by
        rw [← hB.nm]
        exact List.Pairwise.filter _ List.nodup_range
      cases hb : B with
      | nil => exact absurd hb hB.ne
      | cons b r =>
        cases r with
        | nil => rfl
        | cons c r =>
          rw [hb] at hs nd
          have e1 := List.mem_singleton.mp (hs b List.mem_cons_self)
          have e2 := List.mem_singleton.mp (hs c (List.mem_cons_of_mem _ List.mem_cons_self))
          exact absurd (e1.trans e2.symm) (fun e => (List.nodup_cons.mp nd).1 (by rw [e]; exact List.mem_cons_self))
  · intro h
    obtain ⟨a, rfl⟩ : ∃ a, B = [a] := by
      cases B with
      | nil => cases h
      | cons a r =>
        cases r with
        | nil => exact ⟨a, rfl⟩
        | cons _ _ => simp at h
    have ha : a < n := hB.lt (List.mem_singleton_self _)
    have hw : wnC V n a = true := by
      unfold wnC
      rw [List.all_eq_true]
      intro b hb
      cases hc : bt V a b with
      | true => simp
      | false =>
        have := List.mem_singleton.mp (hB.cl a (List.mem_singleton_self _) b (List.mem_range.mp hb) hc)
        simp [this]
    unfold winP
    rw [List.find?_isSome]
    exact ⟨a, List.mem_range.mpr ha, hw⟩
end
end DL

set_option Elab.async false
set_option linter.all false
set_option maxRecDepth 100000
set_option maxHeartbeats 2000000
namespace DL
open PySem PySem.Spec PyProof.Rows L2 LamX
theorem chkT {c : Gm → R} {F : Gm → O} {Γ Γ0 : Gm} (hu : unown Γ = Γ0) (h : c Γ0 = .ok (.bl false)) : sIf true c F sPass Γ = .nx Γ := by
  subst hu
  rw [st_if, tst_t, h]
  simp
theorem ne_optI (w : Option Nat) : neD (optI w) (optI w) = .ok (.bl false) := by
  cases w with
  | none => rfl
  | some a => simp [optI]
theorem isnt_optI (w : Option Nat) : isntD (optI w) .non = .ok (.bl w.isSome) := by cases w <;> rfl
theorem ne_NLs (q : List Nat) : neD (NL q) (NL q) = .ok (.bl false) := by
  have := emb_NL.neD (by decide) q q
  rw [decide_eq_true rfl] at this
  exact this
theorem ne_three (S : List Int) (B r : List Nat) : neD (.lst [.lst (S.map .int), NL B, NL r]) (.lst [.lst (S.map .int), NL B, NL r]) = .ok (.bl false) := by
  have := emb_int.lst.lst.neD (by decide) [S, cast B, cast r] [S, cast B, cast r]
  rw [decide_eq_true rfl] at this
  rw [NL_int, NL_int]
  exact this
section
variable {n : Nat} {V : List (List Int)}
theorem Vts.rev (h : Vts n V) : Vts n V.reverse := ⟨h.n1, h.n6, by rw [List.length_reverse]; exact h.pos, by rw [List.length_reverse]; exact h.le, fun o ho => h.ord o (List.mem_reverse.mp ho)⟩
theorem Vts.tur (h : Vts n V) : Vts n (V.map tur) := ⟨h.n1, h.n6, by rw [List.length_map]; exact h.pos, by rw [List.length_map]; exact h.le, fun o ho => by
  obtain ⟨q, hq, rfl⟩ := List.mem_map.mp ho
  exact tur_ord (h.ord q hq)⟩
theorem cn_tur (h : Vts n V) {a b : Nat} (ha : a < n) (hb : b < n) (x : Int) : cn (V.map tur) a b x = cn V a b (-x) := by
  rw [← cn_swap]
  unfold cn csg
  rw [List.map_map]
  refine congrArg (List.count x) (List.map_congr_left fun o ho => ?_)
  rw [Function.comp_apply, sg_tur (h.ord o ho) ha hb]
  exact (sg_neg _ _).symm
theorem best_rev {B : List Nat} (h : Best V.reverse n B) : Best V n B := by
  have hbt : bt V.reverse = bt V := bt_perm (List.reverse_perm V)
  have hc : ∀ S, Clo V.reverse n S ↔ Clo V n S := fun S => by unfold Clo; rw [hbt]
  exact ⟨h.nm, h.ne, (hc B).mp h.cl, fun S hS => h.le S ((hc S).mpr hS)⟩
end
section
variable {d : D} {k : Nat} {x : Int} {n : Nat} {V : List (List Int)} {o9 oA : Option D}
theorem c1_points (h : Vts n V) : eOr (e2 neD (eCall 1 m_points (aCons (eVar 4) aNil)) (eVar 6)) (e2 neD (eB sumD (aCons (eVar 6) aNil)) (e2 mulD (e2 mulD (eB lenD (aCons (eVar 4) aNil)) (eVar 3)) (e2 subD (eVar 3) (eC (.int 1))))) [.dat d, .dat (.int (k : Int)), .dat (.int x), .dat (.int (n : Int)), .dat (.lst (V.map T)), .dat (.lst (V.map T)), .dat (.lst ((ptsL V n).map .int)), .no, .no, sD oA, .no, .no, .no, .no, .no, .no] = .ok (.bl false) := by
  have e64 : (2 : Nat) ^ (63 + 1) = 18446744073709551616 := by decide
  have hl := h.le
  have hn := h.n6
  have hn1 := h.n1
  have hmm : V.length * n ≤ 40 * 6 := Nat.mul_le_mul hl hn
  have m1 : mulOk (V.length : Int) (n : Int) = true := mulOk_of (a := 63) (b := 63) (by rw [e64]; omega) (by rw [e64]; omega) (by decide)
  have m2 : mulOk ((V.length : Int) * (n : Int)) ((n : Int) - 1) = true := mulOk_of (a := 63) (b := 63) (by rw [← Int.natCast_mul, Int.natAbs_natCast, e64]; omega) (by rw [e64]; omega) (by decide)
  refine or_no (e2_ok (c1_ok (var_ok rfl) (sp_points h)) (var_ok rfl) (by rw [ne_L]; simp)) (e2_ok (a := .int (ptsL V n).sum) (b := .int ((V.length : Int) * n * (n - 1))) (B1_ok (var_ok rfl) (sum_ints _)) ?_ (by rw [ne_int, sum_pts]; simp))
  have hlen := len_rows' V
  simp only [ev_2, ev_B, ev_cons, ev_nil, ev_var, ev_c, List.getElem?_cons_succ, List.getElem?_cons_zero, slR_dat, Rg.bind_ok, hlen, mul_int m1, sub_int, mul_int m2]
theorem c2_dense (h : Vts n V) : e2 neD (eCall 1 m_by_points (aCons (eVar 4) aNil)) (eCall 1 m__law_dense (aCons (eLc [14] (iSeq (eVar 6)) (tgN 14) (eC (.bl true)) (e2 subD (eC (.int 0)) (eVar 14))) aNil)) [.dat d, .dat (.int (k : Int)), .dat (.int x), .dat (.int (n : Int)), .dat (.lst (V.map T)), .dat (.lst (V.map T)), .dat (.lst ((ptsL V n).map .int)), .no, .no, sD oA, .no, .no, .no, .no, .no, .no] = .ok (.bl false) := by
  have hn := h.n6
  have hl := ptsL_len V n
  have hlc : eLc [14] (iSeq (eVar 6)) (tgN 14) (eC (.bl true)) (e2 subD (eC (.int 0)) (eVar 14)) [.dat d, .dat (.int (k : Int)), .dat (.int x), .dat (.int (n : Int)), .dat (.lst (V.map T)), .dat (.lst (V.map T)), .dat (.lst ((ptsL V n).map .int)), .no, .no, sD oA, .no, .no, .no, .no, .no, .no] = .ok (.lst (((ptsL V n).map fun p => 0 - p).map .int)) := by
    have hm : ((ptsL V n).map fun p => 0 - p).map D.int = (ptsL V n).map fun p => D.int (0 - p) := by
      rw [List.map_map]
      rfl
    rw [hm]
    exact lc_of (f := D.int) (by simp) (by omega) fun p hp => ⟨[.dat d, .dat (.int (k : Int)), .dat (.int x), .dat (.int (n : Int)), .dat (.lst (V.map T)), .dat (.lst (V.map T)), .dat (.lst ((ptsL V n).map .int)), .no, .no, sD oA, .no, .no, .no, .no, .dat (.int p), .no], by simp only [hide_own', hide_dat', hide_sD, hide_no, hide_nil]; rfl, by simp⟩
  exact e2_ok (c1_ok (var_ok rfl) (sp_by_points h)) (c1_ok hlc (sp_dense (by rw [List.length_map]; omega))) (by rw [ne_T]; simp)
theorem c5_rev (h : Vts n V) {B r : List Nat} (hB : m_best_ones [.lst (V.map T)] = .ok (NL B)) (hBest : Best V n B) (hr : m_runoff [.lst (V.map T)] = .ok (NL r)) (hRun : Run V (List.range n) r) : e2 neD (eLst (aCons (eCall 1 m_points (aCons (e1 revD (eVar 4)) aNil)) (aCons (eCall 1 m_best_ones (aCons (e1 revD (eVar 4)) aNil)) (aCons (eCall 1 m_runoff (aCons (e1 revD (eVar 4)) aNil)) aNil)))) (eLst (aCons (eVar 6) (aCons (eCall 1 m_best_ones (aCons (eVar 4) aNil)) (aCons (eCall 1 m_runoff (aCons (eVar 4) aNil)) aNil)))) [.dat d, .dat (.int (k : Int)), .dat (.int x), .dat (.int (n : Int)), .dat (.lst (V.map T)), .dat (.lst (V.map T)), .dat (.lst ((ptsL V n).map .int)), .no, .no, sD oA, .no, .dat (optI (winP V n)), .no, .no, .no, .no] = .ok (.bl false) := by
  have hv := h.rev
  obtain ⟨B2, b1, b2⟩ := sp_best_ones hv
  obtain ⟨r2, r1, r3⟩ := sp_runoff hv
  have eB := hBest.uniq (best_rev b2)
  have eR := hRun.uniq (r3.perm (List.reverse_perm V))
  have eP := pts_perm (List.reverse_perm V) n
  subst eB eR
  have hp := sp_points hv
  rw [eP] at hp
  have hrev : revD (.lst (V.map T)) = .ok (.lst (V.reverse.map T)) := by
    rw [List.map_reverse]
    rfl
  have l3 : ∀ a b c : D, lstD [a, b, c] = .ok (.lst [a, b, c]) := fun _ _ _ => lstD_small (by simp)
  refine e2_ok (a := .lst [.lst ((ptsL V n).map .int), NL B, NL r]) (b := .lst [.lst ((ptsL V n).map .int), NL B, NL r]) ?_ ?_ (ne_three _ _ _)
  · simp only [ev_lst, ev_cons, ev_nil, ev_call, ev_1, ev_var, List.getElem?_cons_succ, List.getElem?_cons_zero, slR_dat, Rg.bind_ok, List.length_cons, List.length_nil, Nat.zero_add, if_true, hrev, hp, b1, r1, l3]
  · simp only [ev_lst, ev_cons, ev_nil, ev_call, ev_var, List.getElem?_cons_succ, List.getElem?_cons_zero, slR_dat, Rg.bind_ok, List.length_cons, List.length_nil, Nat.zero_add, if_true, hB, hr, l3]
theorem s_about (h : Vts n V) : sSet 12 (vP (eLc [13] (iSeq (eVar 4)) (tgN 13) (eC (.bl true)) (eB tupleD (aCons (eLc [15] (iSeq (eVar 13)) (tgN 15) (eC (.bl true)) (e2 subD (eB (mm1D maxL) (aCons (eVar 13) aNil)) (eVar 15))) aNil)))) [.dat d, .dat (.int (k : Int)), .dat (.int x), .dat (.int (n : Int)), .dat (.lst (V.map T)), .dat (.lst (V.map T)), .own (.lst ((ptsL V n).map .int)), .no, .no, sD oA, .no, .dat (optI (winP V n)), .no, .no, .no, .no] = .nx [.dat d, .dat (.int (k : Int)), .dat (.int x), .dat (.int (n : Int)), .dat (.lst (V.map T)), .dat (.lst (V.map T)), .own (.lst ((ptsL V n).map .int)), .no, .no, sD oA, .no, .dat (optI (winP V n)), .dat (.lst ((V.map tur).map T)), .no, .no, .no] := by
  refine set_ok (d := .lst ((V.map tur).map T)) ?_ rfl
  have hm : (V.map tur).map T = V.map fun o => T (tur o) := by
    rw [List.map_map]
    rfl
  rw [hm]
  refine lc_of (f := T) (by simp) h.lt fun o ho => ⟨[.dat d, .dat (.int (k : Int)), .dat (.int x), .dat (.int (n : Int)), .dat (.lst (V.map T)), .dat (.lst (V.map T)), .no, .no, .no, sD oA, .no, .dat (optI (winP V n)), .no, .dat (T o), .no, .no], by simp only [hide_own', hide_dat', hide_sD, hide_no, hide_nil]; rfl, ?_⟩
  have hoo := h.ord o ho
  have hne : o ≠ [] := fun e => by
    have h1 := hoo.len
    have h2 := h.n1
    rw [e] at h1
    simp at h1
    omega
  have hmx := mm1_T (g := maxL) hne
  have hol := hoo.len
  have hn := h.n6
  have hlc : eLc [15] (iSeq (eVar 13)) (tgN 15) (eC (.bl true)) (e2 subD (eB (mm1D maxL) (aCons (eVar 13) aNil)) (eVar 15)) [.dat d, .dat (.int (k : Int)), .dat (.int x), .dat (.int (n : Int)), .dat (.lst (V.map T)), .dat (.lst (V.map T)), .no, .no, .no, sD oA, .no, .dat (optI (winP V n)), .no, .dat (T o), .no, .no] = .ok (.lst ((tur o).map .int)) := by
    unfold tur
    have hm2 : (o.map fun x => maxL o - x).map D.int = o.map fun x => D.int (maxL o - x) := by
      rw [List.map_map]
      rfl
    rw [hm2]
    refine lc_of (f := D.int) (by simp) (by omega) fun q hq => ⟨[.dat d, .dat (.int (k : Int)), .dat (.int x), .dat (.int (n : Int)), .dat (.lst (V.map T)), .dat (.lst (V.map T)), .no, .no, .no, sD oA, .no, .dat (optI (winP V n)), .no, .dat (T o), .no, .dat (.int q)], by simp only [hide_own', hide_dat', hide_sD, hide_no, hide_nil]; rfl, ?_⟩
    simp only [ev_2, ev_B, ev_cons, ev_nil, ev_var, List.getElem?_cons_succ, List.getElem?_cons_zero, slR_dat, Rg.bind_ok, hmx, sub_int]
  exact B1_ok hlc rfl
theorem c6_about (h : Vts n V) : eOr (e2 neD (eCall 3 m_tally (aCons (eVar 12) (aCons (eC (.int 0)) (aCons (e2 subD (eVar 3) (eC (.int 1))) aNil)))) (e1 revTD (eCall 3 m_tally (aCons (eVar 4) (aCons (eC (.int 0)) (aCons (e2 subD (eVar 3) (eC (.int 1))) aNil)))))) (e2 neD (eVar 4) (eVar 5)) [.dat d, .dat (.int (k : Int)), .dat (.int x), .dat (.int (n : Int)), .dat (.lst (V.map T)), .dat (.lst (V.map T)), .own (.lst ((ptsL V n).map .int)), .no, .no, sD oA, .no, .dat (optI (winP V n)), .dat (.lst ((V.map tur).map T)), .no, .no, .no] = .ok (.bl false) := by
  have hn1 := h.n1
  have t1 : m_tally [.lst (V.map T), .int 0, .int ((n - 1 : Nat) : Int)] = .ok (T (tl3 V 0 (n - 1))) := sp_tally h (a := 0) (b := n - 1) (by omega) (by omega)
  have t2 : m_tally [.lst ((V.map tur).map T), .int 0, .int ((n - 1 : Nat) : Int)] = .ok (T (tl3 (V.map tur) 0 (n - 1))) := sp_tally h.tur (a := 0) (b := n - 1) (by omega) (by omega)
  have hs := sub1 hn1
  have he : tl3 (V.map tur) 0 (n - 1) = (tl3 V 0 (n - 1)).reverse := by
    unfold tl3
    rw [cn_tur h (by omega) (by omega), cn_tur h (by omega) (by omega), cn_tur h (by omega) (by omega)]
    rfl
  have hrv : revTD (T (tl3 V 0 (n - 1))) = .ok (T (tl3 V 0 (n - 1)).reverse) := by
    unfold T revTD
    rw [List.map_reverse]
  refine or_no (e2_ok (a := T (tl3 V 0 (n - 1)).reverse) (b := T (tl3 V 0 (n - 1)).reverse) ?_ ?_ (by rw [ne_T]; simp)) (e2_ok (var_ok rfl) (var_ok rfl) (by rw [ne_rows]; simp))
  · rw [← he]
    simp only [ev_call, ev_cons, ev_nil, ev_2, ev_c, ev_var, List.getElem?_cons_succ, List.getElem?_cons_zero, slR_dat, Rg.bind_ok, List.length_cons, List.length_nil, Nat.zero_add, Nat.reduceAdd, if_true, sub_int, hs, t2]
  · simp only [ev_1, ev_call, ev_cons, ev_nil, ev_2, ev_c, ev_var, List.getElem?_cons_succ, List.getElem?_cons_zero, slR_dat, Rg.bind_ok, List.length_cons, List.length_nil, Nat.zero_add, Nat.reduceAdd, if_true, sub_int, hs, t1, hrv]
end
theorem law_true : ∀ (d : D) (ns : List Int), IsScr d ns → ns.length ≤ 63 → (∀ z ∈ ns, Builtin.Int.intBits z ≤ 1048576) → m_law [d] = .ok (.bl true) := by
  intro d ns hd hl hbits
  have e0 : gam0 16 [d] = [.dat d, .no, .no, .no, .no, .no, .no, .no, .no, .no, .no, .no, .no, .no, .no, .no] := by simp [gam0, List.replicate]
  unfold m_law runDef g_law
  rw [e0, st_seq]
  obtain ⟨K, hK, hrng⟩ := loop_range hd (m := 3) (Γ := [.dat d, .no, .no, .no, .no, .no, .no, .no, .no, .no, .no, .no, .no, .no, .no, .no]) rfl (by decide)
  refine law_loop (P := fun Γ => ∃ o9 : Option D, Γ = [.dat d, .no, .no, .no, .no, .no, .no, .no, .no, sD o9, .no, .no, .no, .no, .no, .no]) hrng ⟨none, rfl⟩ fun dk hdk Γ hΓ => ?_
  obtain ⟨o9, rfl⟩ := hΓ
  obtain ⟨k, hk, rfl⟩ := List.mem_map.mp hdk
  have hk' := List.mem_range.mp hk
  obtain ⟨c0, hc0, bc0⟩ := sp_cell hd hl (B := 1048576) (by decide) (fun z hz => bits_lt (hbits z hz)) k (by omega)
  obtain ⟨x, hx, x0, x1⟩ := sp_drawn (c := c0) (k := (k : Int)) (B := 1048576) (by decide) bc0 (by omega) (by omega)
  clear bc0
  have p8 : (0 : Int) < 8 := by decide
  have p64 : (0 : Int) < 64 := by decide
  have l8 : (8 : Int).natAbs.log2 < 9000 := by decide
  have l64 : (64 : Int).natAbs.log2 < 9000 := by decide
  obtain ⟨n, hit, n1, n6⟩ := sp_items (x := x / 8) (by omega)
  have hx64 : 0 ≤ x / 64 ∧ x / 64 < MQ := ⟨by omega, by unfold MQ at *; omega⟩
  obtain ⟨V, hv, h⟩ := sp_votes n1 n6 hx64.1 hx64.2
  obtain ⟨oA, hA⟩ := v_scores (d := d) (k := k) (x := x) h (List.range n) [] o9 (fun a ha => List.mem_range.mp ha) (by rw [List.length_range, List.length_nil]; omega)
  rw [List.nil_append] at hA
  have hr := rng_N (n := n) (by omega)
  have hrn : ∀ Γ : Gm, Γ[3]? = some (.dat (.int (n : Int))) → iRng (aCons (eVar 3) aNil) Γ = .ok ((List.range n).map fun r : Nat => .int (r : Int)) := fun Γ e => by
    simp only [ev_rng, ev_cons, ev_nil, ev_var, e, slR_dat, Rg.bind_ok, hr]
  obtain ⟨B, hB, hBest⟩ := sp_best_ones h
  obtain ⟨B2, hB2, hBest2⟩ := sp_law_best h
  have eB := hBest.uniq hBest2
  subst eB
  obtain ⟨r, hrun, hRun⟩ := sp_runoff h
  obtain ⟨r2, hrun2, hRun2⟩ := sp_law_runoff h
  have eR := hRun.uniq hRun2
  subst eR
  have hwin := sp_winner h
  have hwb := win_best hBest
  have hun : unown [.dat d, .dat (.int (k : Int)), .dat (.int x), .dat (.int (n : Int)), .dat (.lst (V.map T)), .dat (.lst (V.map T)), .own (.lst ((ptsL V n).map .int)), .no, .no, sD oA, .no, .no, .no, .no, .no, .no] = [.dat d, .dat (.int (k : Int)), .dat (.int x), .dat (.int (n : Int)), .dat (.lst (V.map T)), .dat (.lst (V.map T)), .dat (.lst ((ptsL V n).map .int)), .no, .no, sD oA, .no, .no, .no, .no, .no, .no] := by simp only [unown_own', unown_dat', unown_sD, unown_no, unown_nil]
  have hunW : unown [.dat d, .dat (.int (k : Int)), .dat (.int x), .dat (.int (n : Int)), .dat (.lst (V.map T)), .dat (.lst (V.map T)), .own (.lst ((ptsL V n).map .int)), .no, .no, sD oA, .no, .dat (optI (winP V n)), .no, .no, .no, .no] = [.dat d, .dat (.int (k : Int)), .dat (.int x), .dat (.int (n : Int)), .dat (.lst (V.map T)), .dat (.lst (V.map T)), .dat (.lst ((ptsL V n).map .int)), .no, .no, sD oA, .no, .dat (optI (winP V n)), .no, .no, .no, .no] := by simp only [unown_own', unown_dat', unown_sD, unown_no, unown_nil]
  refine ⟨[.dat d, .dat (.int (k : Int)), .no, .no, .no, .no, .no, .no, .no, sD o9, .no, .no, .no, .no, .no, .no], [.dat d, .dat (.int (k : Int)), .dat (.int x), .dat (.int (n : Int)), .dat (.lst (V.map T)), .dat (.lst (V.map T)), .own (.lst ((ptsL V n).map .int)), .no, .no, sD oA, .no, .dat (optI (winP V n)), .dat (.lst ((V.map tur).map T)), .no, .no, .no], rfl, ?_, oA, rfl⟩
  refine seq_step (Γ' := [.dat d, .dat (.int (k : Int)), .dat (.int x), .no, .no, .no, .no, .no, .no, sD o9, .no, .no, .no, .no, .no, .no]) (by simp [hc0, hx]) (seq_step (Γ' := [.dat d, .dat (.int (k : Int)), .dat (.int x), .dat (.int (n : Int)), .no, .no, .no, .no, .no, sD o9, .no, .no, .no, .no, .no, .no]) (by simp [fdiv_int p8 l8, hit]) (seq_step (Γ' := [.dat d, .dat (.int (k : Int)), .dat (.int x), .dat (.int (n : Int)), .dat (.lst (V.map T)), .no, .no, .no, .no, sD o9, .no, .no, .no, .no, .no, .no]) (by simp [fdiv_int p64 l64, hv]) (seq_step (Γ' := [.dat d, .dat (.int (k : Int)), .dat (.int x), .dat (.int (n : Int)), .dat (.lst (V.map T)), .dat (.lst (V.map T)), .own (.lst (([] : List Int).map .int)), .no, .no, sD o9, .no, .no, .no, .no, .no, .no]) ?_ (seq_step (Γ' := [.dat d, .dat (.int (k : Int)), .dat (.int x), .dat (.int (n : Int)), .dat (.lst (V.map T)), .dat (.lst (V.map T)), .own (.lst ((ptsL V n).map .int)), .no, .no, sD oA, .no, .no, .no, .no, .no, .no]) ?_ (seq_step (chkT hun (c1_points h)) (seq_step (chkT hun (c2_dense h)) (seq_step (Γ' := [.dat d, .dat (.int (k : Int)), .dat (.int x), .dat (.int (n : Int)), .dat (.lst (V.map T)), .dat (.lst (V.map T)), .own (.lst ((ptsL V n).map .int)), .no, .no, sD oA, .no, .dat (optI none), .no, .no, .no, .no]) (by simp [optI]) (seq_step (Γ' := [.dat d, .dat (.int (k : Int)), .dat (.int x), .dat (.int (n : Int)), .dat (.lst (V.map T)), .dat (.lst (V.map T)), .own (.lst ((ptsL V n).map .int)), .no, .no, sD oA, .no, .dat (optI (winP V n)), .no, .no, .no, .no]) ?_ (seq_step (chk ?_) (seq_step (chk ?_) (seq_step (chk ?_) (seq_step (chkT hunW (c5_rev h hB hBest hrun hRun)) (seq_step (s_about h) (chk (c6_about h)))))))))))))))
  · unfold sPO
    have hl : listD [.lst (V.map T)] = .ok (.lst (V.map T)) := rfl
    simp only [ev_vP, ev_B, ev_cons, ev_nil, ev_lst, ev_var, List.getElem?_cons_succ, List.getElem?_cons_zero, slR_dat, Rg.bind_ok, hl, lstD_nil, Rg.toS_ok]
    rfl
  · rw [st_for (hrn _ rfl)]
    exact hA
  · rw [st_for (hrn _ rfl)]
    exact v_first (d := d) (k := k) (x := x) (S := ptsL V n) (o9 := oA) h
  · refine or_no (e2_ok (c1_ok (var_ok rfl) hwin) (var_ok rfl) (ne_optI _)) (e2_ok (c1_ok (var_ok rfl) hB) (c2_ok (var_ok rfl) (var_ok rfl) hB2) (ne_NLs B))
  · refine e2_ok (e2_ok (var_ok rfl) rfl (isnt_optI _)) (e2_ok (B1_ok (c1_ok (var_ok rfl) hB) (len_NL B)) rfl (eq_int _ _)) ?_
    have cb : ((B.length : Int) = 1) = (B.length = 1) := propext (by omega)
    simp only [cb, ne_bl, hwb, decide_true, Bool.not_true]
  · exact e2_ok (c1_ok (var_ok rfl) hrun) (c2_ok (var_ok rfl) (var_ok rfl) hrun2) (ne_NLs r)
end DL

set_option Elab.async false
set_option linter.all false
set_option maxRecDepth 100000
set_option maxHeartbeats 8000000
namespace DL
open PySem PySem.Spec PyProof.Rows L2 LamX
def top (i : Nat) : Stmt := PySem.Challenge.pw_likeranks_k91_whole_votes.main.body.getD i (.Pass ⟨0, 0, 0, 0⟩)
structure Txt (K : PySem.W.Frag) (mg : Str → Option Value) (C : Cn) (cd : Nat → Addr × Addr) : Prop where
  n_all : mg "all" = none
  n_any : mg "any" = none
  n_bool : mg "bool" = none
  n_dict : mg "dict" = none
  n_int : mg "int" = none
  n_isinstance : mg "isinstance" = none
  n_len : mg "len" = none
  n_list : mg "list" = none
  n_max : mg "max" = none
  n_min : mg "min" = none
  n_range : mg "range" = none
  n_set : mg "set" = none
  n_sorted : mg "sorted" = none
  n_sum : mg "sum" = none
  n_tuple : mg "tuple" = none
  c_MOST_ITEMS : ∃ t, mg "MOST_ITEMS" = some (.int 6 t)
  c_MOST_VOTES : ∃ t, mg "MOST_VOTES" = some (.int 40 t)
  e_BadItem : Exn K mg C "BadItem"
  e_BadOrder : Exn K mg C "BadOrder"
  d_is_count : DefAt K mg "is_count" (top 6) ["thing", "low", "high"]
  d_is_order : DefAt K mg "is_order" (top 7) ["thing"]
  d_need_item : DefAt K mg "need_item" (top 8) ["order", "item"]
  d_tidied : DefAt K mg "tidied" (top 9) ["row"]
  d_sign : DefAt K mg "sign" (top 11) ["order", "one", "other"]
  d_need_rows : DefAt K mg "need_rows" (top 14) ["rows"]
  d_tally_of : DefAt K mg "tally_of" (top 15) ["rows", "one", "other"]
  d_tally : DefAt K mg "tally" (top 16) ["rows", "one", "other"]
  d_points_of : DefAt K mg "points_of" (top 17) ["rows"]
  d_points : DefAt K mg "points" (top 18) ["rows"]
  d_by_points : DefAt K mg "by_points" (top 19) ["rows"]
  d_beats : DefAt K mg "beats" (top 20) ["rows", "one", "other"]
  d_winner : DefAt K mg "winner" (top 21) ["rows"]
  d_best_ones : DefAt K mg "best_ones" (top 22) ["rows"]
  d_firsts_of : DefAt K mg "firsts_of" (top 23) ["order", "left"]
  d_runoff : DefAt K mg "runoff" (top 24) ["rows"]
  d__law_cell : DefAt K mg "_law_cell" (top 26) ["_law_script", "_law_k"]
  d__law_drawn : DefAt K mg "_law_drawn" (top 27) ["_law_cell_here", "_law_k"]
  d__law_dense : DefAt K mg "_law_dense" (top 28) ["_law_row"]
  d__law_order : DefAt K mg "_law_order" (top 29) ["_law_more", "_law_items_here"]
  d__law_items : DefAt K mg "_law_items" (top 30) ["_law_more"]
  d__law_sign : DefAt K mg "_law_sign" (top 31) ["_law_order_here", "_law_one", "_law_other"]
  d__law_votes : DefAt K mg "_law_votes" (top 32) ["_law_more", "_law_items_here"]
  d__law_beats : DefAt K mg "_law_beats" (top 33) ["_law_some", "_law_one", "_law_other"]
  d__law_best : DefAt K mg "_law_best" (top 34) ["_law_some", "_law_items_here"]
  d__law_runoff : DefAt K mg "_law_runoff" (top 35) ["_law_some", "_law_items_here"]
  d_law : DefAt K mg "law" (top 36) ["_law_script"]
section
variable {P : Program} {w : World} {K : PySem.W.Frag} {mg : Str → Option Value} {base : Heap} {C : Cn} {cd : Nat → Addr × Addr}
theorem sc_is_count : FnScope ["thing", "low", "high"] ["thing", "low", "high"] (defScope (top 6)) := ⟨rfl, rfl, rfl, by decide +kernel, rfl, by decide +kernel, by decide +kernel⟩
theorem cal_is_count (T : Txt K mg C cd) : Cal P w K mg base C 1 "is_count" ["thing", "low", "high"] m_is_count := by
  refine cal_def T.d_is_count sc_is_count (by decide) fun f cdv A outer s H E hr => ?_
  have sc := sc_is_count
  have tk : L2N.Takes (cxOf (L2N.CX P w) P w K mg base ["thing", "low", "high"] "is_count" (defScope (top 6)) f cdv A outer s H E) (fun c d _ H' => E c d H') := L2N.takes_of rfl rfl rfl rfl
  exact (dss_one (ds_ret (dv_p (de_and (de_isi "int" (by decide) (by rfl) T.n_isinstance T.n_int (de_var 0)) (de_and (de_not (de_isi "bool" (by decide) (by rfl) T.n_isinstance T.n_bool (de_var 0))) (de_one (q_ch (q_le hr) (q_le hr) (de_var 1) (de_var 0) (de_var 2))))))))
theorem sc_is_order : FnScope ["thing", "rank"] ["thing"] (defScope (top 7)) := ⟨rfl, rfl, rfl, by decide +kernel, rfl, by decide +kernel, by decide +kernel⟩
theorem cal_is_order (T : Txt K mg C cd) : Cal P w K mg base C 2 "is_order" ["thing"] m_is_order := by
  refine cal_def T.d_is_order sc_is_order (by decide) fun f cdv A outer s H E hr => ?_
  have sc := sc_is_order
  have tk : L2N.Takes (cxOf (L2N.CX P w) P w K mg base ["thing", "rank"] "is_order" (defScope (top 7)) f cdv A outer s H E) (fun c d _ H' => E c d H') := L2N.takes_of rfl rfl rfl rfl
  exact (dss_cons (ds_if false (DW.dt (dw_or (dt_not (dt_val (de_isi "tuple" (by decide) (by rfl) T.n_isinstance T.n_tuple (de_var 0)))) (dw_or1 (dt_not (q_cht (q_le hr) (q_le hr) de_int (b_len T.n_len (da_cons (de_var 0) da_nil)) (de_gi T.c_MOST_ITEMS)))))) (dss_one (ds_ret (dv_p de_bl))) dss_nil)
  (dss_cons (ds_if false (dt_not (dt_val (b_all rfl T.n_all (da_cons (DF.de (df_lc sc.nd (di_seq (de_var 0)) (own := [("rank", 1)]) (blkOk_by (by show blkC ["thing", "rank"] (defScope (top 7)) _ _ = true; decide +kernel)) (fun _ _ _ _ _ => (dg_name 1 sc.nd)) (fun _ _ _ _ _ => dts_nil) (fun _ _ _ _ _ => (de_call (cal_is_count T) (hr.mono (by decide)) takes0N (da_cons (de_var 1) (da_cons de_int (da_cons (o_sub (de_gi T.c_MOST_ITEMS) de_int) da_nil))))) (by decide))) da_nil)))) (dss_one (ds_ret (dv_p de_bl))) dss_nil)
  (dss_one (ds_ret (dv_p (c_e (q_eq hr) (DF.de (df_sortset rfl hr.units T.n_sorted T.n_set (de_var 0))) (DF.de (df_listRng1 T.n_list T.n_range (DF.de (o_add (b_max1 rfl T.n_max (da_cons (de_var 0) da_nil)) de_int))))))))))
theorem sc_need_item : FnScope ["order", "item"] ["order", "item"] (defScope (top 8)) := ⟨rfl, rfl, rfl, by decide +kernel, rfl, by decide +kernel, by decide +kernel⟩
theorem cal_need_item (T : Txt K mg C cd) : Cal P w K mg base C 2 "need_item" ["order", "item"] m_need_item := by
  refine cal_def T.d_need_item sc_need_item (by decide) fun f cdv A outer s H E hr => ?_
  have sc := sc_need_item
  have tk : L2N.Takes (cxOf (L2N.CX P w) P w K mg base ["order", "item"] "need_item" (defScope (top 8)) f cdv A outer s H E) (fun c d _ H' => E c d H') := L2N.takes_of rfl rfl rfl rfl
  exact (dss_one (ds_if false (dt_not (dt_val (de_call (cal_is_count T) (hr.mono (by decide)) tk (da_cons (de_var 1) (da_cons de_int (da_cons (o_sub (b_len T.n_len (da_cons (de_var 0) da_nil)) de_int) da_nil)))))) (dss_one (ds_raise T.e_BadItem tk)) dss_nil))
theorem sc_tidied : FnScope ["row", "kinds", "one"] ["row"] (defScope (top 9)) := ⟨rfl, rfl, rfl, by decide +kernel, rfl, by decide +kernel, by decide +kernel⟩
theorem cal_tidied (T : Txt K mg C cd) : Cal P w K mg base C 1 "tidied" ["row"] m_tidied := by
  refine cal_def T.d_tidied sc_tidied (by decide) fun f cdv A outer s H E hr => ?_
  have sc := sc_tidied
  have tk : L2N.Takes (cxOf (L2N.CX P w) P w K mg base ["row", "kinds", "one"] "tidied" (defScope (top 9)) f cdv A outer s H E) (fun c d _ H' => E c d H') := L2N.takes_of rfl rfl rfl rfl
  exact (dss_cons (ds_set 1 sc.nd (dv_p (DF.de (df_sortset rfl hr.units T.n_sorted T.n_set (de_var 0)))))
  (dss_one (ds_ret (dv_p (b_tuple T.n_tuple (da_cons (DF.de (df_lc sc.nd (di_seq (de_var 0)) (own := [("one", 2)]) (blkOk_by (by show blkC ["row", "kinds", "one"] (defScope (top 9)) _ _ = true; decide +kernel)) (fun _ _ _ _ _ => (dg_name 2 sc.nd)) (fun _ _ _ _ _ => dts_nil) (fun _ _ _ _ _ => (m_index hr (de_var 1) (da_cons (de_var 2) da_nil))) (by decide))) da_nil))))))
theorem sc_sign : FnScope ["order", "one", "other"] ["order", "one", "other"] (defScope (top 11)) := ⟨rfl, rfl, rfl, by decide +kernel, rfl, by decide +kernel, by decide +kernel⟩
theorem cal_sign (T : Txt K mg C cd) : Cal P w K mg base C 1 "sign" ["order", "one", "other"] m_sign := by
  refine cal_def T.d_sign sc_sign (by decide) fun f cdv A outer s H E hr => ?_
  have sc := sc_sign
  have tk : L2N.Takes (cxOf (L2N.CX P w) P w K mg base ["order", "one", "other"] "sign" (defScope (top 11)) f cdv A outer s H E) (fun c d _ H' => E c d H') := L2N.takes_of rfl rfl rfl rfl
  exact (dss_one (ds_ret (dv_p (o_sub (b_int T.n_int (da_cons (c_e q_gt (de_ix (r1 hr) (de_var 0) (de_var 1)) (de_ix (r1 hr) (de_var 0) (de_var 2))) da_nil)) (b_int T.n_int (da_cons (c_e (q_lt hr) (de_ix (r1 hr) (de_var 0) (de_var 1)) (de_ix (r1 hr) (de_var 0) (de_var 2))) da_nil))))))
theorem sc_need_rows : FnScope ["rows", "one"] ["rows"] (defScope (top 14)) := ⟨rfl, rfl, rfl, by decide +kernel, rfl, by decide +kernel, by decide +kernel⟩
theorem cal_need_rows (T : Txt K mg C cd) : Cal P w K mg base C 3 "need_rows" ["rows"] m_need_rows := by
  refine cal_def T.d_need_rows sc_need_rows (by decide) fun f cdv A outer s H E hr => ?_
  have sc := sc_need_rows
  have tk : L2N.Takes (cxOf (L2N.CX P w) P w K mg base ["rows", "one"] "need_rows" (defScope (top 14)) f cdv A outer s H E) (fun c d _ H' => E c d H') := L2N.takes_of rfl rfl rfl rfl
  exact (dss_cons (ds_if false (DW.dt (dw_or (dt_not (dt_val (de_isi "list" (by decide) (by rfl) T.n_isinstance T.n_list (de_var 0)))) (dw_or (dt_not (q_cht (q_le hr) (q_le hr) de_int (b_len T.n_len (da_cons (de_var 0) da_nil)) (de_gi T.c_MOST_VOTES))) (dw_or1 (dt_not (dt_val (b_all rfl T.n_all (da_cons (DF.de (df_lc sc.nd (di_seq (de_var 0)) (own := [("one", 1)]) (blkOk_by (by show blkC ["rows", "one"] (defScope (top 14)) _ _ = true; decide +kernel)) (fun _ _ _ _ _ => (dg_name 1 sc.nd)) (fun _ _ _ _ _ => dts_nil) (fun _ _ _ _ _ => (de_call (cal_is_order T) (hr.mono (by decide)) takes0N (da_cons (de_var 1) da_nil))) (by decide))) da_nil)))))))) (dss_one (ds_raise T.e_BadOrder tk)) dss_nil)
  (dss_one (ds_if false (dt_val (b_any rfl T.n_any (da_cons (DF.de (df_lc sc.nd (di_seq (de_var 0)) (own := [("one", 1)]) (blkOk_by (by show blkC ["rows", "one"] (defScope (top 14)) _ _ = true; decide +kernel)) (fun _ _ _ _ _ => (dg_name 1 sc.nd)) (fun _ _ _ _ _ => dts_nil) (fun _ _ _ _ _ => (c_e (q_ne hr) (b_len T.n_len (da_cons (de_var 1) da_nil)) (b_len T.n_len (da_cons (de_ix (r1 hr) (de_var 0) de_int) da_nil)))) (by decide))) da_nil))) (dss_one (ds_raise T.e_BadOrder tk)) dss_nil)))
theorem sc_tally_of : FnScope ["rows", "one", "other", "found", "order"] ["rows", "one", "other"] (defScope (top 15)) := ⟨rfl, rfl, rfl, by decide +kernel, rfl, by decide +kernel, by decide +kernel⟩
theorem cal_tally_of (T : Txt K mg C cd) : Cal P w K mg base C 2 "tally_of" ["rows", "one", "other"] m_tally_of := by
  refine cal_def T.d_tally_of sc_tally_of (by decide) fun f cdv A outer s H E hr => ?_
  have sc := sc_tally_of
  have tk : L2N.Takes (cxOf (L2N.CX P w) P w K mg base ["rows", "one", "other", "found", "order"] "tally_of" (defScope (top 15)) f cdv A outer s H E) (fun c d _ H' => E c d H') := L2N.takes_of rfl rfl rfl rfl
  exact (dss_cons (ds_lc 3 sc.nd (di_seq (de_var 0)) (own := [("order", 4)]) (blkOk_by (by show blkC ["rows", "one", "other", "found", "order"] (defScope (top 15)) _ _ = true; decide +kernel)) (fun _ _ _ _ _ => (dg_name 4 sc.nd)) (fun _ _ _ _ _ => dts_nil) (fun _ _ _ _ _ => (de_call (cal_sign T) (hr.mono (by decide)) takes0N (da_cons (de_var 4) (da_cons (de_var 1) (da_cons (de_var 2) da_nil))))) (by decide) (fun _ _ _ q => rd_setP q))
  (dss_one (ds_ret (dv_p (de_tup (da_cons (m_count (de_var 3) (da_cons (o_neg de_int) da_nil)) (da_cons (m_count (de_var 3) (da_cons de_int da_nil)) (da_cons (m_count (de_var 3) (da_cons de_int da_nil)) da_nil))))))))
theorem sc_tally : FnScope ["rows", "one", "other"] ["rows", "one", "other"] (defScope (top 16)) := ⟨rfl, rfl, rfl, by decide +kernel, rfl, by decide +kernel, by decide +kernel⟩
theorem cal_tally (T : Txt K mg C cd) : Cal P w K mg base C 4 "tally" ["rows", "one", "other"] m_tally := by
  refine cal_def T.d_tally sc_tally (by decide) fun f cdv A outer s H E hr => ?_
  have sc := sc_tally
  have tk : L2N.Takes (cxOf (L2N.CX P w) P w K mg base ["rows", "one", "other"] "tally" (defScope (top 16)) f cdv A outer s H E) (fun c d _ H' => E c d H') := L2N.takes_of rfl rfl rfl rfl
  exact (dss_cons (ds_drop (dv_p (de_call (cal_need_rows T) (hr.mono (by decide)) tk (da_cons (de_var 0) da_nil))))
  (dss_cons (ds_drop (dv_p (de_call (cal_need_item T) (hr.mono (by decide)) tk (da_cons (de_ix (r1 hr) (de_var 0) de_int) (da_cons (de_var 1) da_nil)))))
  (dss_cons (ds_drop (dv_p (de_call (cal_need_item T) (hr.mono (by decide)) tk (da_cons (de_ix (r1 hr) (de_var 0) de_int) (da_cons (de_var 2) da_nil)))))
  (dss_one (ds_ret (dv_p (de_call (cal_tally_of T) (hr.mono (by decide)) tk (da_cons (de_var 0) (da_cons (de_var 1) (da_cons (de_var 2) da_nil))))))))))
theorem sc_points_of : FnScope ["rows", "found", "one", "some", "other", "ahead", "like", "late"] ["rows"] (defScope (top 17)) := ⟨rfl, rfl, rfl, by decide +kernel, rfl, by decide +kernel, by decide +kernel⟩
theorem cal_points_of (T : Txt K mg C cd) : Cal P w K mg base C 3 "points_of" ["rows"] m_points_of := by
  refine cal_def T.d_points_of sc_points_of (by decide) fun f cdv A outer s H E hr => ?_
  have sc := sc_points_of
  have tk : L2N.Takes (cxOf (L2N.CX P w) P w K mg base ["rows", "found", "one", "some", "other", "ahead", "like", "late"] "points_of" (defScope (top 17)) f cdv A outer s H E) (fun c d _ H' => E c d H') := L2N.takes_of rfl rfl rfl rfl
  exact (dss_cons (ds_own 1 sc.nd (do_p (df_lst da_nil)))
  (dss_cons (ds_for [2, 3] false (passes_of rfl) (di_range1 T.n_range (b_len T.n_len (da_cons (de_ix (r1 hr) (de_var 0) de_int) da_nil))) (dg_name 2 sc.nd) (dss_cons (ds_lc 3 sc.nd (di_range1 T.n_range (b_len T.n_len (da_cons (de_ix (r1 hr) (de_var 0) de_int) da_nil))) (own := [("other", 4)]) (blkOk_by (by show blkC ["rows", "found", "one", "some", "other", "ahead", "like", "late"] (defScope (top 17)) _ _ = true; decide +kernel)) (fun _ _ _ _ _ => (dg_name 4 sc.nd)) (fun _ _ _ _ _ => (dts_one (c_t (q_ne hr) (de_var 4) (de_var 2)))) (fun _ _ _ _ _ => (de_call (cal_tally_of T) (hr.mono (by decide)) takes0N (da_cons (de_var 0) (da_cons (de_var 2) (da_cons (de_var 4) da_nil))))) (by decide) (fun _ _ _ q => rd_setP q))
  (dss_one (k_app 1 (pe_var rfl (by first | exact Or.inl rfl | exact Or.inr (Or.inl rfl) | exact Or.inr (Or.inr rfl)) (by decide) (by decide)) (dv_p (b_sum rfl T.n_sum (da_cons (DF.de (df_lc sc.nd (di_seq (de_var 3)) (own := [("ahead", 5), ("like", 6), ("late", 7)]) (blkOk_by (by show blkC ["rows", "found", "one", "some", "other", "ahead", "like", "late"] (defScope (top 17)) _ _ = true; decide +kernel)) (fun _ _ _ _ _ => (dg_tup rfl (dgs_cons (dg_name 5 sc.nd) (dgs_cons (dg_name 6 sc.nd) (dgs_cons (dg_name 7 sc.nd) dgs_nil))))) (fun _ _ _ _ _ => dts_nil) (fun _ _ _ _ _ => (DF.de (o_add (DF.de (o_mul de_int (de_var 5))) (de_var 6)))) (by decide))) da_nil)))))))
  (dss_one (ds_ret (dv_b (de_var 1))))))
theorem sc_points : FnScope ["rows"] ["rows"] (defScope (top 18)) := ⟨rfl, rfl, rfl, by decide +kernel, rfl, by decide +kernel, by decide +kernel⟩
theorem cal_points (T : Txt K mg C cd) : Cal P w K mg base C 4 "points" ["rows"] m_points := by
  refine cal_def T.d_points sc_points (by decide) fun f cdv A outer s H E hr => ?_
  have sc := sc_points
  have tk : L2N.Takes (cxOf (L2N.CX P w) P w K mg base ["rows"] "points" (defScope (top 18)) f cdv A outer s H E) (fun c d _ H' => E c d H') := L2N.takes_of rfl rfl rfl rfl
  exact (dss_cons (ds_drop (dv_p (de_call (cal_need_rows T) (hr.mono (by decide)) tk (da_cons (de_var 0) da_nil))))
  (dss_one (ds_ret (dv_p (de_call (cal_points_of T) (hr.mono (by decide)) tk (da_cons (de_var 0) da_nil))))))
theorem sc_by_points : FnScope ["rows", "one"] ["rows"] (defScope (top 19)) := ⟨rfl, rfl, rfl, by decide +kernel, rfl, by decide +kernel, by decide +kernel⟩
theorem cal_by_points (T : Txt K mg C cd) : Cal P w K mg base C 4 "by_points" ["rows"] m_by_points := by
  refine cal_def T.d_by_points sc_by_points (by decide) fun f cdv A outer s H E hr => ?_
  have sc := sc_by_points
  have tk : L2N.Takes (cxOf (L2N.CX P w) P w K mg base ["rows", "one"] "by_points" (defScope (top 19)) f cdv A outer s H E) (fun c d _ H' => E c d H') := L2N.takes_of rfl rfl rfl rfl
  exact (dss_cons (ds_drop (dv_p (de_call (cal_need_rows T) (hr.mono (by decide)) tk (da_cons (de_var 0) da_nil))))
  (dss_one (ds_ret (dv_p (de_call (cal_tidied T) (hr.mono (by decide)) tk (da_cons (DF.de (df_lc sc.nd (di_seq (de_call (cal_points_of T) (hr.mono (by decide)) tk (da_cons (de_var 0) da_nil))) (own := [("one", 1)]) (blkOk_by (by show blkC ["rows", "one"] (defScope (top 19)) _ _ = true; decide +kernel)) (fun _ _ _ _ _ => (dg_name 1 sc.nd)) (fun _ _ _ _ _ => dts_nil) (fun _ _ _ _ _ => (o_sub de_int (de_var 1))) (by decide))) da_nil))))))
theorem sc_beats : FnScope ["rows", "one", "other", "ahead", "like", "late"] ["rows", "one", "other"] (defScope (top 20)) := ⟨rfl, rfl, rfl, by decide +kernel, rfl, by decide +kernel, by decide +kernel⟩
theorem cal_beats (T : Txt K mg C cd) : Cal P w K mg base C 3 "beats" ["rows", "one", "other"] m_beats := by
  refine cal_def T.d_beats sc_beats (by decide) fun f cdv A outer s H E hr => ?_
  have sc := sc_beats
  have tk : L2N.Takes (cxOf (L2N.CX P w) P w K mg base ["rows", "one", "other", "ahead", "like", "late"] "beats" (defScope (top 20)) f cdv A outer s H E) (fun c d _ H' => E c d H') := L2N.takes_of rfl rfl rfl rfl
  exact (dss_cons (ds_asg (dv_p (de_call (cal_tally_of T) (hr.mono (by decide)) tk (da_cons (de_var 0) (da_cons (de_var 1) (da_cons (de_var 2) da_nil))))) (dg_tup rfl (dgs_cons (dg_name 3 sc.nd) (dgs_cons (dg_name 4 sc.nd) (dgs_cons (dg_name 5 sc.nd) dgs_nil)))))
  (dss_one (ds_ret (dv_p (c_e q_gt (de_var 3) (de_var 5))))))
theorem sc_winner : FnScope ["rows", "items", "one", "other"] ["rows"] (defScope (top 21)) := ⟨rfl, rfl, rfl, by decide +kernel, rfl, by decide +kernel, by decide +kernel⟩
theorem cal_winner (T : Txt K mg C cd) : Cal P w K mg base C 4 "winner" ["rows"] m_winner := by
  refine cal_def T.d_winner sc_winner (by decide) fun f cdv A outer s H E hr => ?_
  have sc := sc_winner
  have tk : L2N.Takes (cxOf (L2N.CX P w) P w K mg base ["rows", "items", "one", "other"] "winner" (defScope (top 21)) f cdv A outer s H E) (fun c d _ H' => E c d H') := L2N.takes_of rfl rfl rfl rfl
  exact (dss_cons (ds_drop (dv_p (de_call (cal_need_rows T) (hr.mono (by decide)) tk (da_cons (de_var 0) da_nil))))
  (dss_cons (ds_set 1 sc.nd (dv_p (DF.de (df_listRng1 T.n_list T.n_range (b_len T.n_len (da_cons (de_ix (r1 hr) (de_var 0) de_int) da_nil))))))
  (dss_cons (ds_for [2] false (passes_of rfl) (di_seq (de_var 1)) (dg_name 2 sc.nd) (dss_one (ds_if false (dt_val (b_all rfl T.n_all (da_cons (DF.de (df_lc sc.nd (di_seq (de_var 1)) (own := [("other", 3)]) (blkOk_by (by show blkC ["rows", "items", "one", "other"] (defScope (top 21)) _ _ = true; decide +kernel)) (fun _ _ _ _ _ => (dg_name 3 sc.nd)) (fun _ _ _ _ _ => dts_nil) (fun _ _ _ _ _ => (de_or (c_e (q_eq hr) (de_var 3) (de_var 2)) (de_one (de_call (cal_beats T) (hr.mono (by decide)) takes0N (da_cons (de_var 0) (da_cons (de_var 2) (da_cons (de_var 3) da_nil))))))) (by decide))) da_nil))) (dss_one (ds_ret (dv_p (de_var 2)))) dss_nil)))
  (dss_one (ds_ret (dv_p de_non))))))
theorem sc_best_ones : FnScope ["rows", "items", "found", "one", "some", "at", "other"] ["rows"] (defScope (top 22)) := ⟨rfl, rfl, rfl, by decide +kernel, rfl, by decide +kernel, by decide +kernel⟩
theorem cal_best_ones (T : Txt K mg C cd) : Cal P w K mg base C 4 "best_ones" ["rows"] m_best_ones := by
  refine cal_def T.d_best_ones sc_best_ones (by decide) fun f cdv A outer s H E hr => ?_
  have sc := sc_best_ones
  have tk : L2N.Takes (cxOf (L2N.CX P w) P w K mg base ["rows", "items", "found", "one", "some", "at", "other"] "best_ones" (defScope (top 22)) f cdv A outer s H E) (fun c d _ H' => E c d H') := L2N.takes_of rfl rfl rfl rfl
  exact (dss_cons (ds_drop (dv_p (de_call (cal_need_rows T) (hr.mono (by decide)) tk (da_cons (de_var 0) da_nil))))
  (dss_cons (ds_set 1 sc.nd (dv_p (DF.de (df_listRng1 T.n_list T.n_range (b_len T.n_len (da_cons (de_ix (r1 hr) (de_var 0) de_int) da_nil))))))
  (dss_cons (ds_set 2 sc.nd (dv_p (de_var 1)))
  (dss_cons (ds_for [3, 4, 5] false (passes_of rfl) (di_seq (de_var 1)) (dg_name 3 sc.nd) (dss_cons (ds_own 4 sc.nd (do_p (df_lst (da_cons (de_var 3) da_nil))))
  (dss_cons (ds_set 5 sc.nd (dv_p de_int))
  (dss_cons (ds_while [] true 100 (passes_of rfl) (c_t (q_lt hr) (de_var 5) (b_len T.n_len (da_cons (de_var 4) da_nil))) (dss_cons (k_ext 4 (pe_var rfl (by first | exact Or.inl rfl | exact Or.inr (Or.inl rfl) | exact Or.inr (Or.inr rfl)) (by decide) (by decide)) (dv_f (df_lc sc.nd (di_seq (de_var 1)) (own := [("other", 6)]) (blkOk_by (by show blkC ["rows", "items", "found", "one", "some", "at", "other"] (defScope (top 22)) _ _ = true; decide +kernel)) (fun _ _ _ _ _ => (dg_name 6 sc.nd)) (fun _ _ _ _ _ => (dts_one (DW.dt (dw_and (c_t (q_nin hr) (de_var 6) (de_var 4)) (dw_and1 (dt_not (dt_val (de_call (cal_beats T) (hr.mono (by decide)) takes0N (da_cons (de_var 0) (da_cons (de_ix (r1 hr) (de_var 4) (de_var 5)) (da_cons (de_var 6) da_nil))))))))))) (fun _ _ _ _ _ => (de_var 6)) (by decide))))
  (dss_one (ds_set 5 sc.nd (dv_p (DF.de (o_add (de_var 5) de_int)))))))
  (dss_one (ds_if true (c_t (q_lt hr) (b_len T.n_len (da_cons (de_var 4) da_nil)) (b_len T.n_len (da_cons (de_var 2) da_nil))) (dss_one (ds_set 2 sc.nd (dv_f (b_sorted hr T.n_sorted (da_cons (de_var 4) da_nil))))) dss_nil))))))
  (dss_one (ds_ret (dv_p (de_var 2))))))))
theorem sc_firsts_of : FnScope ["order", "left", "least", "item"] ["order", "left"] (defScope (top 23)) := ⟨rfl, rfl, rfl, by decide +kernel, rfl, by decide +kernel, by decide +kernel⟩
theorem cal_firsts_of (T : Txt K mg C cd) : Cal P w K mg base C 1 "firsts_of" ["order", "left"] m_firsts_of := by
  refine cal_def T.d_firsts_of sc_firsts_of (by decide) fun f cdv A outer s H E hr => ?_
  have sc := sc_firsts_of
  have tk : L2N.Takes (cxOf (L2N.CX P w) P w K mg base ["order", "left", "least", "item"] "firsts_of" (defScope (top 23)) f cdv A outer s H E) (fun c d _ H' => E c d H') := L2N.takes_of rfl rfl rfl rfl
  exact (dss_cons (ds_set 2 sc.nd (dv_p (b_min1 rfl T.n_min (da_cons (DF.de (df_lc sc.nd (di_seq (de_var 1)) (own := [("item", 3)]) (blkOk_by (by show blkC ["order", "left", "least", "item"] (defScope (top 23)) _ _ = true; decide +kernel)) (fun _ _ _ _ _ => (dg_name 3 sc.nd)) (fun _ _ _ _ _ => dts_nil) (fun _ _ _ _ _ => (de_ix (r1 hr) (de_var 0) (de_var 3))) (by decide))) da_nil))))
  (dss_one (ds_ret (dv_p (DF.de (df_lc sc.nd (di_seq (de_var 1)) (own := [("item", 3)]) (blkOk_by (by show blkC ["order", "left", "least", "item"] (defScope (top 23)) _ _ = true; decide +kernel)) (fun _ _ _ _ _ => (dg_name 3 sc.nd)) (fun _ _ _ _ _ => (dts_one (c_t (q_eq hr) (de_ix (r1 hr) (de_var 0) (de_var 3)) (de_var 2)))) (fun _ _ _ _ _ => (de_var 3)) (by decide)))))))
theorem sc_runoff : FnScope ["rows", "left", "found", "counts", "order", "item", "gone"] ["rows"] (defScope (top 24)) := ⟨rfl, rfl, rfl, by decide +kernel, rfl, by decide +kernel, by decide +kernel⟩
theorem cal_runoff (T : Txt K mg C cd) : Cal P w K mg base C 4 "runoff" ["rows"] m_runoff := by
  refine cal_def T.d_runoff sc_runoff (by decide) fun f cdv A outer s H E hr => ?_
  have sc := sc_runoff
  have tk : L2N.Takes (cxOf (L2N.CX P w) P w K mg base ["rows", "left", "found", "counts", "order", "item", "gone"] "runoff" (defScope (top 24)) f cdv A outer s H E) (fun c d _ H' => E c d H') := L2N.takes_of rfl rfl rfl rfl
  exact (dss_cons (ds_drop (dv_p (de_call (cal_need_rows T) (hr.mono (by decide)) tk (da_cons (de_var 0) da_nil))))
  (dss_cons (ds_set 1 sc.nd (dv_p (DF.de (df_listRng1 T.n_list T.n_range (b_len T.n_len (da_cons (de_ix (r1 hr) (de_var 0) de_int) da_nil))))))
  (dss_cons (ds_own 2 sc.nd (do_p (df_lst da_nil)))
  (dss_cons (ds_while [3, 4, 6] false 100 (passes_of rfl) (c_t (q_ne hr) (de_var 1) (DF.de (df_lst da_nil))) (dss_cons (ds_own 3 sc.nd (do_p (b_dict rfl T.n_dict (da_cons (DF.de (df_lc sc.nd (di_seq (de_var 1)) (own := [("item", 5)]) (blkOk_by (by show blkC ["rows", "left", "found", "counts", "order", "item", "gone"] (defScope (top 24)) _ _ = true; decide +kernel)) (fun _ _ _ _ _ => (dg_name 5 sc.nd)) (fun _ _ _ _ _ => dts_nil) (fun _ _ _ _ _ => (de_tup (da_cons (de_var 5) (da_cons de_int da_nil)))) (by decide))) da_nil))))
  (dss_cons (ds_for [4] false (passes_of rfl) (di_seq (de_var 0)) (dg_name 4 sc.nd) (dss_one (ds_for [] false (passes_of rfl) (di_seq (de_call (cal_firsts_of T) (hr.mono (by decide)) tk (da_cons (de_var 4) (da_cons (de_var 1) da_nil)))) (dg_name 5 sc.nd) (dss_one (ds_put 3 false (r1 hr) (dv_f (o_add (de_ix (r1 hr) (de_var 3) (de_var 5)) de_int)) (pe_var rfl (by first | exact Or.inl rfl | exact Or.inr (Or.inl rfl) | exact Or.inr (Or.inr rfl)) (by decide) (by decide)) (de_var 5))))))
  (dss_cons (ds_set 6 sc.nd (dv_b (b_minB hr rfl T.n_min (da_cons (DF.de (df_lc sc.nd (di_seq (de_var 1)) (own := [("item", 5)]) (blkOk_by (by show blkC ["rows", "left", "found", "counts", "order", "item", "gone"] (defScope (top 24)) _ _ = true; decide +kernel)) (fun _ _ _ _ _ => (dg_name 5 sc.nd)) (fun _ _ _ _ _ => dts_nil) (fun _ _ _ _ _ => (de_tup (da_cons (de_ix (r1 hr) (de_var 3) (de_var 5)) (da_cons (o_sub de_int (de_var 5)) da_nil)))) (by decide))) da_nil))))
  (dss_cons (k_app 2 (pe_var rfl (by first | exact Or.inl rfl | exact Or.inr (Or.inl rfl) | exact Or.inr (Or.inr rfl)) (by decide) (by decide)) (dv_p (o_sub de_int (de_ix (r1 hr) (de_var 6) de_int))))
  (dss_one (ds_lc 1 sc.nd (di_seq (de_var 1)) (own := [("item", 5)]) (blkOk_by (by show blkC ["rows", "left", "found", "counts", "order", "item", "gone"] (defScope (top 24)) _ _ = true; decide +kernel)) (fun _ _ _ _ _ => (dg_name 5 sc.nd)) (fun _ _ _ _ _ => (dts_one (c_t (q_ne hr) (de_var 5) (de_ix (r1 hr) (de_var 2) (o_neg de_int))))) (fun _ _ _ _ _ => (de_var 5)) (by decide) (fun _ _ _ q => rd_setF q))))))))
  (dss_one (ds_ret (dv_b (de_var 2))))))))
theorem sc__law_cell : FnScope ["_law_script", "_law_k"] ["_law_script", "_law_k"] (defScope (top 26)) := ⟨rfl, rfl, rfl, by decide +kernel, rfl, by decide +kernel, by decide +kernel⟩
theorem cal__law_cell (T : Txt K mg C cd) : Cal P w K mg base C 1 "_law_cell" ["_law_script", "_law_k"] m__law_cell := by
  refine cal_def T.d__law_cell sc__law_cell (by decide) fun f cdv A outer s H E hr => ?_
  have sc := sc__law_cell
  have tk : L2N.Takes (cxOf (L2N.CX P w) P w K mg base ["_law_script", "_law_k"] "_law_cell" (defScope (top 26)) f cdv A outer s H E) (fun c d _ H' => E c d H') := L2N.takes_of rfl rfl rfl rfl
  exact (dss_cons (ds_if false (c_t (q_eq hr) (de_var 0) (DF.de (df_lst da_nil))) (dss_one (ds_ret (dv_p (DF.de (o_mul (de_var 1) de_int))))) dss_nil)
  (dss_one (ds_ret (dv_p (DF.de (o_add (de_ix (r1 hr) (de_var 0) (o_mod (de_var 1) (b_len T.n_len (da_cons (de_var 0) da_nil)))) (DF.de (o_mul (o_fdiv (de_var 1) (b_len T.n_len (da_cons (de_var 0) da_nil))) de_int))))))))
theorem sc__law_drawn : FnScope ["_law_cell_here", "_law_k", "_law_more"] ["_law_cell_here", "_law_k"] (defScope (top 27)) := ⟨rfl, rfl, rfl, by decide +kernel, rfl, by decide +kernel, by decide +kernel⟩
theorem cal__law_drawn (T : Txt K mg C cd) : Cal P w K mg base C 1 "_law_drawn" ["_law_cell_here", "_law_k"] m__law_drawn := by
  refine cal_def T.d__law_drawn sc__law_drawn (by decide) fun f cdv A outer s H E hr => ?_
  have sc := sc__law_drawn
  have tk : L2N.Takes (cxOf (L2N.CX P w) P w K mg base ["_law_cell_here", "_law_k", "_law_more"] "_law_drawn" (defScope (top 27)) f cdv A outer s H E) (fun c d _ H' => E c d H') := L2N.takes_of rfl rfl rfl rfl
  exact (dss_cons (ds_set 2 sc.nd (dv_p (o_mod (DF.de (o_add (DF.de (o_mul (de_var 0) de_int)) (DF.de (o_mul (DF.de (o_add (de_var 1) de_int)) de_int)))) de_int)))
  (dss_cons (ds_set 2 sc.nd (dv_p (o_mod (DF.de (o_mul (de_var 2) (de_var 2))) de_int)))
  (dss_cons (ds_set 2 sc.nd (dv_p (DF.de (o_mul (DF.de (o_mul (DF.de (o_add (o_mod (de_var 2) de_int) de_int)) (DF.de (o_add (o_fdiv (de_var 2) de_int) de_int)))) (de_var 2)))))
  (dss_one (ds_ret (dv_p (o_mod (de_var 2) de_int)))))))
theorem sc__law_dense : FnScope ["_law_row", "_law_one", "_law_other"] ["_law_row"] (defScope (top 28)) := ⟨rfl, rfl, rfl, by decide +kernel, rfl, by decide +kernel, by decide +kernel⟩
theorem cal__law_dense (T : Txt K mg C cd) : Cal P w K mg base C 1 "_law_dense" ["_law_row"] m__law_dense := by
  refine cal_def T.d__law_dense sc__law_dense (by decide) fun f cdv A outer s H E hr => ?_
  have sc := sc__law_dense
  have tk : L2N.Takes (cxOf (L2N.CX P w) P w K mg base ["_law_row", "_law_one", "_law_other"] "_law_dense" (defScope (top 28)) f cdv A outer s H E) (fun c d _ H' => E c d H') := L2N.takes_of rfl rfl rfl rfl
  exact (dss_one (ds_ret (dv_p (b_tuple T.n_tuple (da_cons (DF.de (df_lc sc.nd (di_seq (de_var 0)) (own := [("_law_one", 1)]) (blkOk_by (by show blkC ["_law_row", "_law_one", "_law_other"] (defScope (top 28)) _ _ = true; decide +kernel)) (fun _ _ _ _ _ => (dg_name 1 sc.nd)) (fun _ _ _ _ _ => dts_nil) (fun _ _ _ _ _ => (de_lenset rfl hr.units T.n_len T.n_set (DF.de (df_lc sc.nd (di_seq (de_var 0)) (own := [("_law_other", 2)]) (blkOk_by (by rfl)) (fun _ _ _ _ _ => (dg_name 2 sc.nd)) (fun _ _ _ _ _ => (dts_one (c_t (q_lt hr) (de_var 2) (de_var 1)))) (fun _ _ _ _ _ => (de_var 2)) (by decide))))) (by decide))) da_nil)))))
theorem sc__law_order : FnScope ["_law_more", "_law_items_here", "_law_j"] ["_law_more", "_law_items_here"] (defScope (top 29)) := ⟨rfl, rfl, rfl, by decide +kernel, rfl, by decide +kernel, by decide +kernel⟩
theorem cal__law_order (T : Txt K mg C cd) : Cal P w K mg base C 2 "_law_order" ["_law_more", "_law_items_here"] m__law_order := by
  refine cal_def T.d__law_order sc__law_order (by decide) fun f cdv A outer s H E hr => ?_
  have sc := sc__law_order
  have tk : L2N.Takes (cxOf (L2N.CX P w) P w K mg base ["_law_more", "_law_items_here", "_law_j"] "_law_order" (defScope (top 29)) f cdv A outer s H E) (fun c d _ H' => E c d H') := L2N.takes_of rfl rfl rfl rfl
  exact (dss_one (ds_ret (dv_p (de_call (cal__law_dense T) (hr.mono (by decide)) tk (da_cons (DF.de (df_lc sc.nd (di_range1 T.n_range (de_var 1)) (own := [("_law_j", 2)]) (blkOk_by (by show blkC ["_law_more", "_law_items_here", "_law_j"] (defScope (top 29)) _ _ = true; decide +kernel)) (fun _ _ _ _ _ => (dg_name 2 sc.nd)) (fun _ _ _ _ _ => dts_nil) (fun _ _ _ _ _ => (o_mod (o_fdiv (de_call (cal__law_drawn T) (hr.mono (by decide)) takes0N (da_cons (de_var 0) (da_cons (de_var 2) da_nil))) de_int) (de_ix (r1 hr) (DF.de (df_lst (da_cons de_int (da_cons (de_var 1) (da_cons de_int da_nil))))) (o_mod (de_var 0) de_int)))) (by decide))) da_nil)))))
theorem sc__law_items : FnScope ["_law_more"] ["_law_more"] (defScope (top 30)) := ⟨rfl, rfl, rfl, by decide +kernel, rfl, by decide +kernel, by decide +kernel⟩
theorem cal__law_items (T : Txt K mg C cd) : Cal P w K mg base C 1 "_law_items" ["_law_more"] m__law_items := by
  refine cal_def T.d__law_items sc__law_items (by decide) fun f cdv A outer s H E hr => ?_
  have sc := sc__law_items
  have tk : L2N.Takes (cxOf (L2N.CX P w) P w K mg base ["_law_more"] "_law_items" (defScope (top 30)) f cdv A outer s H E) (fun c d _ H' => E c d H') := L2N.takes_of rfl rfl rfl rfl
  exact (dss_one (ds_ret (dv_p (de_ix (r1 hr) (DF.de (df_lst (da_cons (DF.de (o_add de_int (o_mod (de_var 0) de_int))) (da_cons de_int (da_cons de_int (da_cons de_int (da_cons de_int da_nil))))))) (o_mod (o_fdiv (de_var 0) de_int) de_int)))))
theorem sc__law_sign : FnScope ["_law_order_here", "_law_one", "_law_other", "_law_mine", "_law_its"] ["_law_order_here", "_law_one", "_law_other"] (defScope (top 31)) := ⟨rfl, rfl, rfl, by decide +kernel, rfl, by decide +kernel, by decide +kernel⟩
theorem cal__law_sign (T : Txt K mg C cd) : Cal P w K mg base C 1 "_law_sign" ["_law_order_here", "_law_one", "_law_other"] m__law_sign := by
  refine cal_def T.d__law_sign sc__law_sign (by decide) fun f cdv A outer s H E hr => ?_
  have sc := sc__law_sign
  have tk : L2N.Takes (cxOf (L2N.CX P w) P w K mg base ["_law_order_here", "_law_one", "_law_other", "_law_mine", "_law_its"] "_law_sign" (defScope (top 31)) f cdv A outer s H E) (fun c d _ H' => E c d H') := L2N.takes_of rfl rfl rfl rfl
  exact (dss_cons (ds_par2 3 4 sc.nd (dvl_p (da_cons (de_ix (r1 hr) (de_var 0) (de_var 1)) (da_cons (de_ix (r1 hr) (de_var 0) (de_var 2)) da_nil))))
  (dss_one (ds_ret (dv_p (o_sub (b_int T.n_int (da_cons (c_e q_gt (de_var 3) (de_var 4)) da_nil)) (b_int T.n_int (da_cons (c_e (q_lt hr) (de_var 3) (de_var 4)) da_nil)))))))
theorem sc__law_votes : FnScope ["_law_more", "_law_items_here", "_law_found", "_law_j", "_law_here"] ["_law_more", "_law_items_here"] (defScope (top 32)) := ⟨rfl, rfl, rfl, by decide +kernel, rfl, by decide +kernel, by decide +kernel⟩
theorem cal__law_votes (T : Txt K mg C cd) : Cal P w K mg base C 3 "_law_votes" ["_law_more", "_law_items_here"] m__law_votes := by
  refine cal_def T.d__law_votes sc__law_votes (by decide) fun f cdv A outer s H E hr => ?_
  have sc := sc__law_votes
  have tk : L2N.Takes (cxOf (L2N.CX P w) P w K mg base ["_law_more", "_law_items_here", "_law_found", "_law_j", "_law_here"] "_law_votes" (defScope (top 32)) f cdv A outer s H E) (fun c d _ H' => E c d H') := L2N.takes_of rfl rfl rfl rfl
  exact (dss_cons (ds_own 2 sc.nd (do_p (df_lst da_nil)))
  (dss_cons (ds_for [3, 4] false (passes_of rfl) (di_range1 T.n_range (DF.de (o_add de_int (o_mod (de_var 0) (de_ix (r1 hr) (DF.de (df_lst (da_cons de_int (da_cons de_int (da_cons de_int da_nil))))) (o_mod (o_fdiv (de_var 0) de_int) de_int)))))) (dg_name 3 sc.nd) (dss_cons (ds_set 4 sc.nd (dv_p (de_call (cal__law_drawn T) (hr.mono (by decide)) tk (da_cons (de_var 0) (da_cons (DF.de (o_add de_int (de_var 3))) da_nil)))))
  (dss_one (ds_if true (DW.dt (dw_and (c_t (q_eq hr) (o_mod (de_var 4) de_int) de_int) (dw_and1 (c_t (q_ne hr) (de_var 2) (DF.de (df_lst da_nil)))))) (dss_one (k_app 2 (pe_var rfl (by first | exact Or.inl rfl | exact Or.inr (Or.inl rfl) | exact Or.inr (Or.inr rfl)) (by decide) (by decide)) (dv_b (de_ix (r1 hr) (de_var 2) (o_mod (o_fdiv (de_var 4) de_int) (b_len T.n_len (da_cons (de_var 2) da_nil))))))) (dss_one (k_app 2 (pe_var rfl (by first | exact Or.inl rfl | exact Or.inr (Or.inl rfl) | exact Or.inr (Or.inr rfl)) (by decide) (by decide)) (dv_p (de_call (cal__law_order T) (hr.mono (by decide)) tk (da_cons (o_fdiv (de_var 4) de_int) (da_cons (de_var 1) da_nil))))))))))
  (dss_one (ds_ret (dv_b (de_var 2))))))
theorem sc__law_beats : FnScope ["_law_some", "_law_one", "_law_other", "_law_order_here"] ["_law_some", "_law_one", "_law_other"] (defScope (top 33)) := ⟨rfl, rfl, rfl, by decide +kernel, rfl, by decide +kernel, by decide +kernel⟩
theorem cal__law_beats (T : Txt K mg C cd) : Cal P w K mg base C 2 "_law_beats" ["_law_some", "_law_one", "_law_other"] m__law_beats := by
  refine cal_def T.d__law_beats sc__law_beats (by decide) fun f cdv A outer s H E hr => ?_
  have sc := sc__law_beats
  have tk : L2N.Takes (cxOf (L2N.CX P w) P w K mg base ["_law_some", "_law_one", "_law_other", "_law_order_here"] "_law_beats" (defScope (top 33)) f cdv A outer s H E) (fun c d _ H' => E c d H') := L2N.takes_of rfl rfl rfl rfl
  exact (dss_one (ds_ret (dv_p (c_e (q_lt hr) (b_sum rfl T.n_sum (da_cons (DF.de (df_lc sc.nd (di_seq (de_var 0)) (own := [("_law_order_here", 3)]) (blkOk_by (by show blkC ["_law_some", "_law_one", "_law_other", "_law_order_here"] (defScope (top 33)) _ _ = true; decide +kernel)) (fun _ _ _ _ _ => (dg_name 3 sc.nd)) (fun _ _ _ _ _ => dts_nil) (fun _ _ _ _ _ => (de_call (cal__law_sign T) (hr.mono (by decide)) takes0N (da_cons (de_var 3) (da_cons (de_var 1) (da_cons (de_var 2) da_nil))))) (by decide))) da_nil)) de_int))))
theorem sc__law_best : FnScope ["_law_some", "_law_items_here", "_law_rows", "_law_item", "_law_good", "_law_row", "_law_rest", "_law_one", "_law_other"] ["_law_some", "_law_items_here"] (defScope (top 34)) := ⟨rfl, rfl, rfl, by decide +kernel, rfl, by decide +kernel, by decide +kernel⟩
theorem cal__law_best (T : Txt K mg C cd) : Cal P w K mg base C 3 "_law_best" ["_law_some", "_law_items_here"] m__law_best := by
  refine cal_def T.d__law_best sc__law_best (by decide) fun f cdv A outer s H E hr => ?_
  have sc := sc__law_best
  have tk : L2N.Takes (cxOf (L2N.CX P w) P w K mg base ["_law_some", "_law_items_here", "_law_rows", "_law_item", "_law_good", "_law_row", "_law_rest", "_law_one", "_law_other"] "_law_best" (defScope (top 34)) f cdv A outer s H E) (fun c d _ H' => E c d H') := L2N.takes_of rfl rfl rfl rfl
  exact (dss_cons (ds_set 2 sc.nd (dv_p (DF.de (df_lst (da_cons (DF.de (df_lst da_nil)) da_nil)))))
  (dss_cons (ds_for [] false (passes_of rfl) (di_range1 T.n_range (de_var 1)) (dg_name 3 sc.nd) (dss_one (ds_set 2 sc.nd (dv_p (DF.de (o_add (de_var 2) (DF.de (df_lc sc.nd (di_seq (de_var 2)) (own := [("_law_row", 5)]) (blkOk_by (by show blkC ["_law_some", "_law_items_here", "_law_rows", "_law_item", "_law_good", "_law_row", "_law_rest", "_law_one", "_law_other"] (defScope (top 34)) _ _ = true; decide +kernel)) (fun _ _ _ _ _ => (dg_name 5 sc.nd)) (fun _ _ _ _ _ => dts_nil) (fun _ _ _ _ _ => (DF.de (o_add (de_var 5) (DF.de (df_lst (da_cons (de_var 3) da_nil)))))) (by decide)))))))))
  (dss_cons (ds_own 4 sc.nd (do_p (df_lst da_nil)))
  (dss_cons (ds_for [5, 6] false (passes_of rfl) (di_seq (DF.de (df_sl (de_var 2) (dp_at de_int) dp_no))) (dg_name 5 sc.nd) (dss_cons (ds_set 6 sc.nd (dv_p (DF.de (df_lc sc.nd (di_range1 T.n_range (de_var 1)) (own := [("_law_item", 3)]) (blkOk_by (by show blkC ["_law_some", "_law_items_here", "_law_rows", "_law_item", "_law_good", "_law_row", "_law_rest", "_law_one", "_law_other"] (defScope (top 34)) _ _ = true; decide +kernel)) (fun _ _ _ _ _ => (dg_name 3 sc.nd)) (fun _ _ _ _ _ => (dts_one (c_t (q_nin hr) (de_var 3) (de_var 5)))) (fun _ _ _ _ _ => (de_var 3)) (by decide)))))
  (dss_one (ds_if false (c_t (q_eq hr) (DF.de (df_lc sc.nd (di_seq (de_var 5)) (own := [("_law_one", 7)]) (blkOk_by (by show blkC ["_law_some", "_law_items_here", "_law_rows", "_law_item", "_law_good", "_law_row", "_law_rest", "_law_one", "_law_other"] (defScope (top 34)) _ _ = true; decide +kernel)) (fun _ _ _ _ _ => (dg_name 7 sc.nd)) (fun _ _ _ _ _ => (dts_one (c_t (q_ne hr) (DF.de (df_lc sc.nd (di_seq (de_var 6)) (own := [("_law_other", 8)]) (blkOk_by (by rfl)) (fun _ _ _ _ _ => (dg_name 8 sc.nd)) (fun _ _ _ _ _ => (dts_one (dt_not (dt_val (de_call (cal__law_beats T) (hr.mono (by decide)) takes0N (da_cons (de_var 0) (da_cons (de_var 7) (da_cons (de_var 8) da_nil)))))))) (fun _ _ _ _ _ => de_int) (by decide))) (DF.de (df_lst da_nil))))) (fun _ _ _ _ _ => de_int) (by decide))) (DF.de (df_lst da_nil))) (dss_one (k_app 4 (pe_var rfl (by first | exact Or.inl rfl | exact Or.inr (Or.inl rfl) | exact Or.inr (Or.inr rfl)) (by decide) (by decide)) (dv_p (de_tup (da_cons (b_len T.n_len (da_cons (de_var 5) da_nil)) (da_cons (de_var 5) da_nil)))))) dss_nil))))
  (dss_one (ds_ret (dv_b (de_ix (r1 hr) (b_minB hr rfl T.n_min (da_cons (de_var 4) da_nil)) de_int))))))))
theorem sc__law_runoff : FnScope ["_law_some", "_law_items_here", "_law_found", "_law_left", "_law_counts", "_law_item", "_law_first", "_law_order_here", "_law_other"] ["_law_some", "_law_items_here"] (defScope (top 35)) := ⟨rfl, rfl, rfl, by decide +kernel, rfl, by decide +kernel, by decide +kernel⟩
theorem cal__law_runoff (T : Txt K mg C cd) : Cal P w K mg base C 1 "_law_runoff" ["_law_some", "_law_items_here"] m__law_runoff := by
  refine cal_def T.d__law_runoff sc__law_runoff (by decide) fun f cdv A outer s H E hr => ?_
  have sc := sc__law_runoff
  have tk : L2N.Takes (cxOf (L2N.CX P w) P w K mg base ["_law_some", "_law_items_here", "_law_found", "_law_left", "_law_counts", "_law_item", "_law_first", "_law_order_here", "_law_other"] "_law_runoff" (defScope (top 35)) f cdv A outer s H E) (fun c d _ H' => E c d H') := L2N.takes_of rfl rfl rfl rfl
  exact (dss_cons (ds_own 2 sc.nd (do_p (df_lst da_nil)))
  (dss_cons (ds_while [3, 4, 6] true 100 (passes_of rfl) (c_t (q_lt hr) (b_len T.n_len (da_cons (de_var 2) da_nil)) (de_var 1)) (dss_cons (ds_parC (k1 := false) (k2 := true) 3 4 sc.nd (dv_f (df_lc sc.nd (di_range1 T.n_range (de_var 1)) (own := [("_law_item", 5)]) (blkOk_by (by show blkC ["_law_some", "_law_items_here", "_law_found", "_law_left", "_law_counts", "_law_item", "_law_first", "_law_order_here", "_law_other"] (defScope (top 35)) _ _ = true; decide +kernel)) (fun _ _ _ _ _ => (dg_name 5 sc.nd)) (fun _ _ _ _ _ => (dts_one (c_t (q_nin hr) (de_var 5) (de_var 2)))) (fun _ _ _ _ _ => (de_var 5)) (by decide))) (do_p (df_lst da_nil)) kp_P)
  (dss_cons (ds_for [6] false (passes_of rfl) (di_seq (de_var 3)) (dg_name 5 sc.nd) (dss_cons (ds_lc 6 sc.nd (di_seq (de_var 0)) (own := [("_law_order_here", 7)]) (blkOk_by (by show blkC ["_law_some", "_law_items_here", "_law_found", "_law_left", "_law_counts", "_law_item", "_law_first", "_law_order_here", "_law_other"] (defScope (top 35)) _ _ = true; decide +kernel)) (fun _ _ _ _ _ => (dg_name 7 sc.nd)) (fun _ _ _ _ _ => (dts_one (c_t (q_eq hr) (DF.de (df_lc sc.nd (di_seq (de_var 3)) (own := [("_law_other", 8)]) (blkOk_by (by rfl)) (fun _ _ _ _ _ => (dg_name 8 sc.nd)) (fun _ _ _ _ _ => (dts_one (c_t (q_lt hr) (de_ix (r1 hr) (de_var 7) (de_var 8)) (de_ix (r1 hr) (de_var 7) (de_var 5))))) (fun _ _ _ _ _ => de_int) (by decide))) (DF.de (df_lst da_nil))))) (fun _ _ _ _ _ => de_int) (by decide) (fun _ _ _ q => rd_setP q))
  (dss_one (k_app 4 (pe_var rfl (by first | exact Or.inl rfl | exact Or.inr (Or.inl rfl) | exact Or.inr (Or.inr rfl)) (by decide) (by decide)) (dv_p (de_tup (da_cons (b_len T.n_len (da_cons (de_var 6) da_nil)) (da_cons (o_sub de_int (de_var 5)) da_nil))))))))
  (dss_one (k_app 2 (pe_var rfl (by first | exact Or.inl rfl | exact Or.inr (Or.inl rfl) | exact Or.inr (Or.inr rfl)) (by decide) (by decide)) (dv_b (o_sub de_int (de_ix (r1 hr) (b_minB hr rfl T.n_min (da_cons (de_var 4) da_nil)) de_int))))))))
  (dss_one (ds_ret (dv_b (de_var 2))))))
theorem sc_law : FnScope ["_law_script", "_law_k", "_law_more", "_law_items_here", "_law_some", "_law_kept", "_law_scores", "_law_one", "_law_own", "_law_other", "_law_signs", "_law_first", "_law_about", "_law_order_here", "_law_score", "_law_rank"] ["_law_script"] (defScope (top 36)) := ⟨rfl, rfl, rfl, by decide +kernel, rfl, by decide +kernel, by decide +kernel⟩
theorem fn_law (T : Txt K mg C cd) {f : Addr} {fd : FuncData} (Fu : Fun K "law" "law" (top 36) f fd) : FnOk P w K mg base (L2N.CX P w) 5 f fd ["_law_script"] (dSp K C 1 m_law) := by
  refine fn_def Fu sc_law (by decide) fun f cdv A outer s H E hr => ?_
  have sc := sc_law
  have tk : L2N.Takes (cxOf (L2N.CX P w) P w K mg base ["_law_script", "_law_k", "_law_more", "_law_items_here", "_law_some", "_law_kept", "_law_scores", "_law_one", "_law_own", "_law_other", "_law_signs", "_law_first", "_law_about", "_law_order_here", "_law_score", "_law_rank"] "law" (defScope (top 36)) f cdv A outer s H E) (fun c d _ H' => E c d H') := L2N.takes_of rfl rfl rfl rfl
  exact (dss_cons (ds_for [1, 2, 3, 4, 5, 6, 7, 8, 10, 11, 12] false (passes_of rfl) (di_range1 T.n_range (b_max2 rfl T.n_max (da_cons de_int (da_cons (b_min2 rfl T.n_min (da_cons de_int (da_cons (b_len T.n_len (da_cons (de_var 0) da_nil)) da_nil))) da_nil)))) (dg_name 1 sc.nd) (dss_cons (ds_set 2 sc.nd (dv_p (de_call (cal__law_drawn T) (hr.mono (by decide)) tk (da_cons (de_call (cal__law_cell T) (hr.mono (by decide)) tk (da_cons (de_var 0) (da_cons (de_var 1) da_nil))) (da_cons (de_var 1) da_nil)))))
  (dss_cons (ds_set 3 sc.nd (dv_p (de_call (cal__law_items T) (hr.mono (by decide)) tk (da_cons (o_fdiv (de_var 2) de_int) da_nil))))
  (dss_cons (ds_set 4 sc.nd (dv_p (de_call (cal__law_votes T) (hr.mono (by decide)) tk (da_cons (o_fdiv (de_var 2) de_int) (da_cons (de_var 3) da_nil)))))
  (dss_cons (ds_parO (k1 := false) (k2 := true) 5 6 sc.nd (dv_p (DF.de (b_list T.n_list (da_cons (de_var 4) da_nil)))) (do_p (df_lst da_nil)) kp_P)
  (dss_cons (ds_for [7, 8, 10] false (passes_of rfl) (di_range1 T.n_range (de_var 3)) (dg_name 7 sc.nd) (dss_cons (ds_set 8 sc.nd (dv_p de_int))
  (dss_cons (ds_for [10] false (passes_of rfl) (di_range1 T.n_range (de_var 3)) (dg_name 9 sc.nd) (dss_cons (ds_lc 10 sc.nd (di_seq (de_var 4)) (own := [("_law_order_here", 13)]) (blkOk_by (by show blkC ["_law_script", "_law_k", "_law_more", "_law_items_here", "_law_some", "_law_kept", "_law_scores", "_law_one", "_law_own", "_law_other", "_law_signs", "_law_first", "_law_about", "_law_order_here", "_law_score", "_law_rank"] (defScope (top 36)) _ _ = true; decide +kernel)) (fun _ _ _ _ _ => (dg_name 13 sc.nd)) (fun _ _ _ _ _ => dts_nil) (fun _ _ _ _ _ => (de_call (cal__law_sign T) (hr.mono (by decide)) takes0N (da_cons (de_var 13) (da_cons (de_var 7) (da_cons (de_var 9) da_nil))))) (by decide) (fun _ _ _ q => rd_setP q))
  (dss_cons (ds_if false (c_t (q_ne hr) (de_call (cal_tally T) (hr.mono (by decide)) tk (da_cons (de_var 4) (da_cons (de_var 7) (da_cons (de_var 9) da_nil)))) (de_tup (da_cons (m_count (de_var 10) (da_cons (o_neg de_int) da_nil)) (da_cons (m_count (de_var 10) (da_cons de_int da_nil)) (da_cons (m_count (de_var 10) (da_cons de_int da_nil)) da_nil))))) (dss_one (ds_ret (dv_p de_bl))) dss_nil)
  (dss_one (ds_set 8 sc.nd (dv_p (DF.de (o_add (de_var 8) (DF.de (o_mul (b_int T.n_int (da_cons (c_e (q_ne hr) (de_var 7) (de_var 9)) da_nil)) (DF.de (o_add (DF.de (o_mul de_int (m_count (de_var 10) (da_cons (o_neg de_int) da_nil)))) (m_count (de_var 10) (da_cons de_int da_nil))))))))))))))
  (dss_one (k_app 6 (pe_var rfl (by first | exact Or.inl rfl | exact Or.inr (Or.inl rfl) | exact Or.inr (Or.inr rfl)) (by decide) (by decide)) (dv_p (de_var 8)))))))
  (dss_cons (ds_if true (DW.dt (dw_or (c_t (q_ne hr) (de_call (cal_points T) (hr.mono (by decide)) tk (da_cons (de_var 4) da_nil)) (de_var 6)) (dw_or1 (c_t (q_ne hr) (b_sum rfl T.n_sum (da_cons (de_var 6) da_nil)) (DF.de (o_mul (DF.de (o_mul (b_len T.n_len (da_cons (de_var 4) da_nil)) (de_var 3))) (o_sub (de_var 3) de_int))))))) (dss_one (ds_ret (dv_p de_bl))) dss_nil)
  (dss_cons (ds_if true (c_t (q_ne hr) (de_call (cal_by_points T) (hr.mono (by decide)) tk (da_cons (de_var 4) da_nil)) (de_call (cal__law_dense T) (hr.mono (by decide)) tk (da_cons (DF.de (df_lc sc.nd (di_seq (de_var 6)) (own := [("_law_score", 14)]) (blkOk_by (by show blkC ["_law_script", "_law_k", "_law_more", "_law_items_here", "_law_some", "_law_kept", "_law_scores", "_law_one", "_law_own", "_law_other", "_law_signs", "_law_first", "_law_about", "_law_order_here", "_law_score", "_law_rank"] (defScope (top 36)) _ _ = true; decide +kernel)) (fun _ _ _ _ _ => (dg_name 14 sc.nd)) (fun _ _ _ _ _ => dts_nil) (fun _ _ _ _ _ => (o_sub de_int (de_var 14))) (by decide))) da_nil))) (dss_one (ds_ret (dv_p de_bl))) dss_nil)
  (dss_cons (ds_set 11 sc.nd (dv_p de_non))
  (dss_cons (ds_for [7] false (passes_of rfl) (di_range1 T.n_range (de_var 3)) (dg_name 7 sc.nd) (dss_one (ds_if false (c_t (q_eq hr) (DF.de (df_lc sc.nd (di_range1 T.n_range (de_var 3)) (own := [("_law_other", 9)]) (blkOk_by (by show blkC ["_law_script", "_law_k", "_law_more", "_law_items_here", "_law_some", "_law_kept", "_law_scores", "_law_one", "_law_own", "_law_other", "_law_signs", "_law_first", "_law_about", "_law_order_here", "_law_score", "_law_rank"] (defScope (top 36)) _ _ = true; decide +kernel)) (fun _ _ _ _ _ => (dg_name 9 sc.nd)) (fun _ _ _ _ _ => (dts_one (DW.dt (dw_and (c_t (q_ne hr) (de_var 9) (de_var 7)) (dw_and1 (dt_not (dt_val (de_call (cal__law_beats T) (hr.mono (by decide)) takes0N (da_cons (de_var 4) (da_cons (de_var 7) (da_cons (de_var 9) da_nil))))))))))) (fun _ _ _ _ _ => (de_var 9)) (by decide))) (DF.de (df_lst da_nil))) (dss_one (ds_set 11 sc.nd (dv_p (de_var 7)))) dss_nil)))
  (dss_cons (ds_if false (DW.dt (dw_or (c_t (q_ne hr) (de_call (cal_winner T) (hr.mono (by decide)) tk (da_cons (de_var 4) da_nil)) (de_var 11)) (dw_or1 (c_t (q_ne hr) (de_call (cal_best_ones T) (hr.mono (by decide)) tk (da_cons (de_var 4) da_nil)) (de_call (cal__law_best T) (hr.mono (by decide)) tk (da_cons (de_var 4) (da_cons (de_var 3) da_nil))))))) (dss_one (ds_ret (dv_p de_bl))) dss_nil)
  (dss_cons (ds_if false (c_t (q_ne hr) (c_e q_isnt (de_var 11) de_non) (c_e (q_eq hr) (b_len T.n_len (da_cons (de_call (cal_best_ones T) (hr.mono (by decide)) tk (da_cons (de_var 4) da_nil)) da_nil)) de_int)) (dss_one (ds_ret (dv_p de_bl))) dss_nil)
  (dss_cons (ds_if false (c_t (q_ne hr) (de_call (cal_runoff T) (hr.mono (by decide)) tk (da_cons (de_var 4) da_nil)) (de_call (cal__law_runoff T) (hr.mono (by decide)) tk (da_cons (de_var 4) (da_cons (de_var 3) da_nil)))) (dss_one (ds_ret (dv_p de_bl))) dss_nil)
  (dss_cons (ds_if true (c_t (q_ne hr) (DF.de (df_lst (da_cons (de_call (cal_points T) (hr.mono (by decide)) tk (da_cons (DF.de (df_rev (de_var 4))) da_nil)) (da_cons (de_call (cal_best_ones T) (hr.mono (by decide)) tk (da_cons (DF.de (df_rev (de_var 4))) da_nil)) (da_cons (de_call (cal_runoff T) (hr.mono (by decide)) tk (da_cons (DF.de (df_rev (de_var 4))) da_nil)) da_nil))))) (DF.de (df_lst (da_cons (de_var 6) (da_cons (de_call (cal_best_ones T) (hr.mono (by decide)) tk (da_cons (de_var 4) da_nil)) (da_cons (de_call (cal_runoff T) (hr.mono (by decide)) tk (da_cons (de_var 4) da_nil)) da_nil)))))) (dss_one (ds_ret (dv_p de_bl))) dss_nil)
  (dss_cons (ds_lc 12 sc.nd (di_seq (de_var 4)) (own := [("_law_order_here", 13)]) (blkOk_by (by show blkC ["_law_script", "_law_k", "_law_more", "_law_items_here", "_law_some", "_law_kept", "_law_scores", "_law_one", "_law_own", "_law_other", "_law_signs", "_law_first", "_law_about", "_law_order_here", "_law_score", "_law_rank"] (defScope (top 36)) _ _ = true; decide +kernel)) (fun _ _ _ _ _ => (dg_name 13 sc.nd)) (fun _ _ _ _ _ => dts_nil) (fun _ _ _ _ _ => (b_tuple T.n_tuple (da_cons (DF.de (df_lc sc.nd (di_seq (de_var 13)) (own := [("_law_rank", 15)]) (blkOk_by (by rfl)) (fun _ _ _ _ _ => (dg_name 15 sc.nd)) (fun _ _ _ _ _ => dts_nil) (fun _ _ _ _ _ => (o_sub (b_max1 rfl T.n_max (da_cons (de_var 13) da_nil)) (de_var 15))) (by decide))) da_nil))) (by decide) (fun _ _ _ q => rd_setP q))
  (dss_one (ds_if false (DW.dt (dw_or (c_t (q_ne hr) (de_call (cal_tally T) (hr.mono (by decide)) tk (da_cons (de_var 12) (da_cons de_int (da_cons (o_sub (de_var 3) de_int) da_nil)))) (DF.de (de_revT (de_call (cal_tally T) (hr.mono (by decide)) tk (da_cons (de_var 4) (da_cons de_int (da_cons (o_sub (de_var 3) de_int) da_nil))))))) (dw_or1 (c_t (q_ne hr) (de_var 4) (de_var 5))))) (dss_one (ds_ret (dv_p de_bl))) dss_nil)))))))))))))))))
  (dss_one (ds_ret (dv_p de_bl))))
end
end DL

set_option Elab.async false
set_option linter.all false
set_option maxRecDepth 100000
set_option maxHeartbeats 8000000
namespace DL
open PySem PySem.Spec PyProof.Rows L2 LamX
section
variable {l : PySem.W.OpenLaw} {w : World} {K : PySem.W.Frag} {h : Heap} {mg : Str → Option Value} {fa : Addr}
theorem all_law (X : K.In h) (G : h.Ns mainGlobals mg) (hfa : mg "law" = some (.ref fa)) (hp : l.prog = PySem.Challenge.pw_likeranks_k91_whole_votes)
    {t0 : Tok}
    {t1 : Tok}
    {E0 : Addr}
    {E1 : Addr}
    {f0 : Addr} {od0 an0 : Option Addr} {sl0 : Array (Option Value)} {oc0 kV0 dc0 pm0 cd0 ct0 : Value}
    {f1 : Addr} {od1 an1 : Option Addr} {sl1 : Array (Option Value)} {oc1 kV1 dc1 pm1 cd1 ct1 : Value}
    {f2 : Addr} {od2 an2 : Option Addr} {sl2 : Array (Option Value)} {oc2 kV2 dc2 pm2 cd2 ct2 : Value}
    {f3 : Addr} {od3 an3 : Option Addr} {sl3 : Array (Option Value)} {oc3 kV3 dc3 pm3 cd3 ct3 : Value}
    {f4 : Addr} {od4 an4 : Option Addr} {sl4 : Array (Option Value)} {oc4 kV4 dc4 pm4 cd4 ct4 : Value}
    {f5 : Addr} {od5 an5 : Option Addr} {sl5 : Array (Option Value)} {oc5 kV5 dc5 pm5 cd5 ct5 : Value}
    {f6 : Addr} {od6 an6 : Option Addr} {sl6 : Array (Option Value)} {oc6 kV6 dc6 pm6 cd6 ct6 : Value}
    {f7 : Addr} {od7 an7 : Option Addr} {sl7 : Array (Option Value)} {oc7 kV7 dc7 pm7 cd7 ct7 : Value}
    {f8 : Addr} {od8 an8 : Option Addr} {sl8 : Array (Option Value)} {oc8 kV8 dc8 pm8 cd8 ct8 : Value}
    {f9 : Addr} {od9 an9 : Option Addr} {sl9 : Array (Option Value)} {oc9 kV9 dc9 pm9 cd9 ct9 : Value}
    {f10 : Addr} {od10 an10 : Option Addr} {sl10 : Array (Option Value)} {oc10 kV10 dc10 pm10 cd10 ct10 : Value}
    {f11 : Addr} {od11 an11 : Option Addr} {sl11 : Array (Option Value)} {oc11 kV11 dc11 pm11 cd11 ct11 : Value}
    {f12 : Addr} {od12 an12 : Option Addr} {sl12 : Array (Option Value)} {oc12 kV12 dc12 pm12 cd12 ct12 : Value}
    {f13 : Addr} {od13 an13 : Option Addr} {sl13 : Array (Option Value)} {oc13 kV13 dc13 pm13 cd13 ct13 : Value}
    {f14 : Addr} {od14 an14 : Option Addr} {sl14 : Array (Option Value)} {oc14 kV14 dc14 pm14 cd14 ct14 : Value}
    {f15 : Addr} {od15 an15 : Option Addr} {sl15 : Array (Option Value)} {oc15 kV15 dc15 pm15 cd15 ct15 : Value}
    {f16 : Addr} {od16 an16 : Option Addr} {sl16 : Array (Option Value)} {oc16 kV16 dc16 pm16 cd16 ct16 : Value}
    {f17 : Addr} {od17 an17 : Option Addr} {sl17 : Array (Option Value)} {oc17 kV17 dc17 pm17 cd17 ct17 : Value}
    {f18 : Addr} {od18 an18 : Option Addr} {sl18 : Array (Option Value)} {oc18 kV18 dc18 pm18 cd18 ct18 : Value}
    {f19 : Addr} {od19 an19 : Option Addr} {sl19 : Array (Option Value)} {oc19 kV19 dc19 pm19 cd19 ct19 : Value}
    {f20 : Addr} {od20 an20 : Option Addr} {sl20 : Array (Option Value)} {oc20 kV20 dc20 pm20 cd20 ct20 : Value}
    {f21 : Addr} {od21 an21 : Option Addr} {sl21 : Array (Option Value)} {oc21 kV21 dc21 pm21 cd21 ct21 : Value}
    {f22 : Addr} {od22 an22 : Option Addr} {sl22 : Array (Option Value)} {oc22 kV22 dc22 pm22 cd22 ct22 : Value}
    {f23 : Addr} {od23 an23 : Option Addr} {sl23 : Array (Option Value)} {oc23 kV23 dc23 pm23 cd23 ct23 : Value}
    {f24 : Addr} {od24 an24 : Option Addr} {sl24 : Array (Option Value)} {oc24 kV24 dc24 pm24 cd24 ct24 : Value}
    {f25 : Addr} {od25 an25 : Option Addr} {sl25 : Array (Option Value)} {oc25 kV25 dc25 pm25 cd25 ct25 : Value}
    {f26 : Addr} {od26 an26 : Option Addr} {sl26 : Array (Option Value)} {oc26 kV26 dc26 pm26 cd26 ct26 : Value}
    (z0 : PySem.W.nsIn K mainGlobals "all" = some none)
    (z1 : PySem.W.nsIn K mainGlobals "any" = some none)
    (z2 : PySem.W.nsIn K mainGlobals "bool" = some none)
    (z3 : PySem.W.nsIn K mainGlobals "dict" = some none)
    (z4 : PySem.W.nsIn K mainGlobals "int" = some none)
    (z5 : PySem.W.nsIn K mainGlobals "isinstance" = some none)
    (z6 : PySem.W.nsIn K mainGlobals "len" = some none)
    (z7 : PySem.W.nsIn K mainGlobals "list" = some none)
    (z8 : PySem.W.nsIn K mainGlobals "max" = some none)
    (z9 : PySem.W.nsIn K mainGlobals "min" = some none)
    (z10 : PySem.W.nsIn K mainGlobals "range" = some none)
    (z11 : PySem.W.nsIn K mainGlobals "set" = some none)
    (z12 : PySem.W.nsIn K mainGlobals "sorted" = some none)
    (z13 : PySem.W.nsIn K mainGlobals "sum" = some none)
    (z14 : PySem.W.nsIn K mainGlobals "tuple" = some none)
    (y0 : PySem.W.nsIn K mainGlobals "MOST_ITEMS" = some (some (.int 6 t0)))
    (y1 : PySem.W.nsIn K mainGlobals "MOST_VOTES" = some (some (.int 40 t1)))
    (xa0 : PySem.W.nsIn K mainGlobals "BadItem" = some (some (.ref E0))) (xb0 : PySem.W.excIn K E0 [.type "ValueError", .type "Exception", .type "BaseException", .type "object"] "ValueError.__new__" = true) (xc0 : PySem.W.keepIn K (.ref E0) = true) (xd0 : PySem.W.subIn K (.ref E0) (.type "BaseException") = some true) (xe0 : PySem.W.typeIn K (.ref E0) = some (.type "type"))
    (xa1 : PySem.W.nsIn K mainGlobals "BadOrder" = some (some (.ref E1))) (xb1 : PySem.W.excIn K E1 [.type "ValueError", .type "Exception", .type "BaseException", .type "object"] "ValueError.__new__" = true) (xc1 : PySem.W.keepIn K (.ref E1) = true) (xd1 : PySem.W.subIn K (.ref E1) (.type "BaseException") = some true) (xe1 : PySem.W.typeIn K (.ref E1) = some (.type "type"))
    (a0 : PySem.W.nsIn K mainGlobals "is_count" = some (some (.ref f0))) (l0 : K.lookup f0 = some ⟨oc0, od0, .func (PySem.W.fnOf "is_count" "is_count" (defArgs (top 6)) (defBody (top 6)) (defScope (top 6)) .none kV0 dc0 pm0 an0 cd0 ct0), sl0⟩) (c0 : PySem.W.codeIn K cd0 "is_count" = true) (k0 : PySem.W.keepIn K (.ref f0) = true)
    (a1 : PySem.W.nsIn K mainGlobals "is_order" = some (some (.ref f1))) (l1 : K.lookup f1 = some ⟨oc1, od1, .func (PySem.W.fnOf "is_order" "is_order" (defArgs (top 7)) (defBody (top 7)) (defScope (top 7)) .none kV1 dc1 pm1 an1 cd1 ct1), sl1⟩) (c1 : PySem.W.codeIn K cd1 "is_order" = true) (k1 : PySem.W.keepIn K (.ref f1) = true)
    (a2 : PySem.W.nsIn K mainGlobals "need_item" = some (some (.ref f2))) (l2 : K.lookup f2 = some ⟨oc2, od2, .func (PySem.W.fnOf "need_item" "need_item" (defArgs (top 8)) (defBody (top 8)) (defScope (top 8)) .none kV2 dc2 pm2 an2 cd2 ct2), sl2⟩) (c2 : PySem.W.codeIn K cd2 "need_item" = true) (k2 : PySem.W.keepIn K (.ref f2) = true)
    (a3 : PySem.W.nsIn K mainGlobals "tidied" = some (some (.ref f3))) (l3 : K.lookup f3 = some ⟨oc3, od3, .func (PySem.W.fnOf "tidied" "tidied" (defArgs (top 9)) (defBody (top 9)) (defScope (top 9)) .none kV3 dc3 pm3 an3 cd3 ct3), sl3⟩) (c3 : PySem.W.codeIn K cd3 "tidied" = true) (k3 : PySem.W.keepIn K (.ref f3) = true)
    (a4 : PySem.W.nsIn K mainGlobals "sign" = some (some (.ref f4))) (l4 : K.lookup f4 = some ⟨oc4, od4, .func (PySem.W.fnOf "sign" "sign" (defArgs (top 11)) (defBody (top 11)) (defScope (top 11)) .none kV4 dc4 pm4 an4 cd4 ct4), sl4⟩) (c4 : PySem.W.codeIn K cd4 "sign" = true) (k4 : PySem.W.keepIn K (.ref f4) = true)
    (a5 : PySem.W.nsIn K mainGlobals "need_rows" = some (some (.ref f5))) (l5 : K.lookup f5 = some ⟨oc5, od5, .func (PySem.W.fnOf "need_rows" "need_rows" (defArgs (top 14)) (defBody (top 14)) (defScope (top 14)) .none kV5 dc5 pm5 an5 cd5 ct5), sl5⟩) (c5 : PySem.W.codeIn K cd5 "need_rows" = true) (k5 : PySem.W.keepIn K (.ref f5) = true)
    (a6 : PySem.W.nsIn K mainGlobals "tally_of" = some (some (.ref f6))) (l6 : K.lookup f6 = some ⟨oc6, od6, .func (PySem.W.fnOf "tally_of" "tally_of" (defArgs (top 15)) (defBody (top 15)) (defScope (top 15)) .none kV6 dc6 pm6 an6 cd6 ct6), sl6⟩) (c6 : PySem.W.codeIn K cd6 "tally_of" = true) (k6 : PySem.W.keepIn K (.ref f6) = true)
    (a7 : PySem.W.nsIn K mainGlobals "tally" = some (some (.ref f7))) (l7 : K.lookup f7 = some ⟨oc7, od7, .func (PySem.W.fnOf "tally" "tally" (defArgs (top 16)) (defBody (top 16)) (defScope (top 16)) .none kV7 dc7 pm7 an7 cd7 ct7), sl7⟩) (c7 : PySem.W.codeIn K cd7 "tally" = true) (k7 : PySem.W.keepIn K (.ref f7) = true)
    (a8 : PySem.W.nsIn K mainGlobals "points_of" = some (some (.ref f8))) (l8 : K.lookup f8 = some ⟨oc8, od8, .func (PySem.W.fnOf "points_of" "points_of" (defArgs (top 17)) (defBody (top 17)) (defScope (top 17)) .none kV8 dc8 pm8 an8 cd8 ct8), sl8⟩) (c8 : PySem.W.codeIn K cd8 "points_of" = true) (k8 : PySem.W.keepIn K (.ref f8) = true)
    (a9 : PySem.W.nsIn K mainGlobals "points" = some (some (.ref f9))) (l9 : K.lookup f9 = some ⟨oc9, od9, .func (PySem.W.fnOf "points" "points" (defArgs (top 18)) (defBody (top 18)) (defScope (top 18)) .none kV9 dc9 pm9 an9 cd9 ct9), sl9⟩) (c9 : PySem.W.codeIn K cd9 "points" = true) (k9 : PySem.W.keepIn K (.ref f9) = true)
    (a10 : PySem.W.nsIn K mainGlobals "by_points" = some (some (.ref f10))) (l10 : K.lookup f10 = some ⟨oc10, od10, .func (PySem.W.fnOf "by_points" "by_points" (defArgs (top 19)) (defBody (top 19)) (defScope (top 19)) .none kV10 dc10 pm10 an10 cd10 ct10), sl10⟩) (c10 : PySem.W.codeIn K cd10 "by_points" = true) (k10 : PySem.W.keepIn K (.ref f10) = true)
    (a11 : PySem.W.nsIn K mainGlobals "beats" = some (some (.ref f11))) (l11 : K.lookup f11 = some ⟨oc11, od11, .func (PySem.W.fnOf "beats" "beats" (defArgs (top 20)) (defBody (top 20)) (defScope (top 20)) .none kV11 dc11 pm11 an11 cd11 ct11), sl11⟩) (c11 : PySem.W.codeIn K cd11 "beats" = true) (k11 : PySem.W.keepIn K (.ref f11) = true)
    (a12 : PySem.W.nsIn K mainGlobals "winner" = some (some (.ref f12))) (l12 : K.lookup f12 = some ⟨oc12, od12, .func (PySem.W.fnOf "winner" "winner" (defArgs (top 21)) (defBody (top 21)) (defScope (top 21)) .none kV12 dc12 pm12 an12 cd12 ct12), sl12⟩) (c12 : PySem.W.codeIn K cd12 "winner" = true) (k12 : PySem.W.keepIn K (.ref f12) = true)
    (a13 : PySem.W.nsIn K mainGlobals "best_ones" = some (some (.ref f13))) (l13 : K.lookup f13 = some ⟨oc13, od13, .func (PySem.W.fnOf "best_ones" "best_ones" (defArgs (top 22)) (defBody (top 22)) (defScope (top 22)) .none kV13 dc13 pm13 an13 cd13 ct13), sl13⟩) (c13 : PySem.W.codeIn K cd13 "best_ones" = true) (k13 : PySem.W.keepIn K (.ref f13) = true)
    (a14 : PySem.W.nsIn K mainGlobals "firsts_of" = some (some (.ref f14))) (l14 : K.lookup f14 = some ⟨oc14, od14, .func (PySem.W.fnOf "firsts_of" "firsts_of" (defArgs (top 23)) (defBody (top 23)) (defScope (top 23)) .none kV14 dc14 pm14 an14 cd14 ct14), sl14⟩) (c14 : PySem.W.codeIn K cd14 "firsts_of" = true) (k14 : PySem.W.keepIn K (.ref f14) = true)
    (a15 : PySem.W.nsIn K mainGlobals "runoff" = some (some (.ref f15))) (l15 : K.lookup f15 = some ⟨oc15, od15, .func (PySem.W.fnOf "runoff" "runoff" (defArgs (top 24)) (defBody (top 24)) (defScope (top 24)) .none kV15 dc15 pm15 an15 cd15 ct15), sl15⟩) (c15 : PySem.W.codeIn K cd15 "runoff" = true) (k15 : PySem.W.keepIn K (.ref f15) = true)
    (a16 : PySem.W.nsIn K mainGlobals "_law_cell" = some (some (.ref f16))) (l16 : K.lookup f16 = some ⟨oc16, od16, .func (PySem.W.fnOf "_law_cell" "_law_cell" (defArgs (top 26)) (defBody (top 26)) (defScope (top 26)) .none kV16 dc16 pm16 an16 cd16 ct16), sl16⟩) (c16 : PySem.W.codeIn K cd16 "_law_cell" = true) (k16 : PySem.W.keepIn K (.ref f16) = true)
    (a17 : PySem.W.nsIn K mainGlobals "_law_drawn" = some (some (.ref f17))) (l17 : K.lookup f17 = some ⟨oc17, od17, .func (PySem.W.fnOf "_law_drawn" "_law_drawn" (defArgs (top 27)) (defBody (top 27)) (defScope (top 27)) .none kV17 dc17 pm17 an17 cd17 ct17), sl17⟩) (c17 : PySem.W.codeIn K cd17 "_law_drawn" = true) (k17 : PySem.W.keepIn K (.ref f17) = true)
    (a18 : PySem.W.nsIn K mainGlobals "_law_dense" = some (some (.ref f18))) (l18 : K.lookup f18 = some ⟨oc18, od18, .func (PySem.W.fnOf "_law_dense" "_law_dense" (defArgs (top 28)) (defBody (top 28)) (defScope (top 28)) .none kV18 dc18 pm18 an18 cd18 ct18), sl18⟩) (c18 : PySem.W.codeIn K cd18 "_law_dense" = true) (k18 : PySem.W.keepIn K (.ref f18) = true)
    (a19 : PySem.W.nsIn K mainGlobals "_law_order" = some (some (.ref f19))) (l19 : K.lookup f19 = some ⟨oc19, od19, .func (PySem.W.fnOf "_law_order" "_law_order" (defArgs (top 29)) (defBody (top 29)) (defScope (top 29)) .none kV19 dc19 pm19 an19 cd19 ct19), sl19⟩) (c19 : PySem.W.codeIn K cd19 "_law_order" = true) (k19 : PySem.W.keepIn K (.ref f19) = true)
    (a20 : PySem.W.nsIn K mainGlobals "_law_items" = some (some (.ref f20))) (l20 : K.lookup f20 = some ⟨oc20, od20, .func (PySem.W.fnOf "_law_items" "_law_items" (defArgs (top 30)) (defBody (top 30)) (defScope (top 30)) .none kV20 dc20 pm20 an20 cd20 ct20), sl20⟩) (c20 : PySem.W.codeIn K cd20 "_law_items" = true) (k20 : PySem.W.keepIn K (.ref f20) = true)
    (a21 : PySem.W.nsIn K mainGlobals "_law_sign" = some (some (.ref f21))) (l21 : K.lookup f21 = some ⟨oc21, od21, .func (PySem.W.fnOf "_law_sign" "_law_sign" (defArgs (top 31)) (defBody (top 31)) (defScope (top 31)) .none kV21 dc21 pm21 an21 cd21 ct21), sl21⟩) (c21 : PySem.W.codeIn K cd21 "_law_sign" = true) (k21 : PySem.W.keepIn K (.ref f21) = true)
    (a22 : PySem.W.nsIn K mainGlobals "_law_votes" = some (some (.ref f22))) (l22 : K.lookup f22 = some ⟨oc22, od22, .func (PySem.W.fnOf "_law_votes" "_law_votes" (defArgs (top 32)) (defBody (top 32)) (defScope (top 32)) .none kV22 dc22 pm22 an22 cd22 ct22), sl22⟩) (c22 : PySem.W.codeIn K cd22 "_law_votes" = true) (k22 : PySem.W.keepIn K (.ref f22) = true)
    (a23 : PySem.W.nsIn K mainGlobals "_law_beats" = some (some (.ref f23))) (l23 : K.lookup f23 = some ⟨oc23, od23, .func (PySem.W.fnOf "_law_beats" "_law_beats" (defArgs (top 33)) (defBody (top 33)) (defScope (top 33)) .none kV23 dc23 pm23 an23 cd23 ct23), sl23⟩) (c23 : PySem.W.codeIn K cd23 "_law_beats" = true) (k23 : PySem.W.keepIn K (.ref f23) = true)
    (a24 : PySem.W.nsIn K mainGlobals "_law_best" = some (some (.ref f24))) (l24 : K.lookup f24 = some ⟨oc24, od24, .func (PySem.W.fnOf "_law_best" "_law_best" (defArgs (top 34)) (defBody (top 34)) (defScope (top 34)) .none kV24 dc24 pm24 an24 cd24 ct24), sl24⟩) (c24 : PySem.W.codeIn K cd24 "_law_best" = true) (k24 : PySem.W.keepIn K (.ref f24) = true)
    (a25 : PySem.W.nsIn K mainGlobals "_law_runoff" = some (some (.ref f25))) (l25 : K.lookup f25 = some ⟨oc25, od25, .func (PySem.W.fnOf "_law_runoff" "_law_runoff" (defArgs (top 35)) (defBody (top 35)) (defScope (top 35)) .none kV25 dc25 pm25 an25 cd25 ct25), sl25⟩) (c25 : PySem.W.codeIn K cd25 "_law_runoff" = true) (k25 : PySem.W.keepIn K (.ref f25) = true)
    (a26 : PySem.W.nsIn K mainGlobals "law" = some (some (.ref f26))) (l26 : K.lookup f26 = some ⟨oc26, od26, .func (PySem.W.fnOf "law" "law" (defArgs (top 36)) (defBody (top 36)) (defScope (top 36)) .none kV26 dc26 pm26 an26 cd26 ct26), sl26⟩) (c26 : PySem.W.codeIn K cd26 "law" = true) (k26 : PySem.W.keepIn K (.ref f26) = true)
    (hm : ∀ (d : D) (ns : List Int), IsScr d ns → ns.length ≤ 63 → (∀ z ∈ ns, Builtin.Int.intBits z ≤ 1048576) → m_law [d] = .ok (.bl true)) : LawAtS l w K (L2N.CX l.prog w) 5 63 "_law_script" mg fa h := by
  have T : Txt K mg ⟨fun _ => none, fun x => List.lookup x [("BadItem", E0), ("BadOrder", E1)], []⟩ (fun (i : Nat) => ([] : List (Addr × Addr)).getD i (0, 0)) := {
    n_all := PySem.W.mg_none_of X G z0,
    n_any := PySem.W.mg_none_of X G z1,
    n_bool := PySem.W.mg_none_of X G z2,
    n_dict := PySem.W.mg_none_of X G z3,
    n_int := PySem.W.mg_none_of X G z4,
    n_isinstance := PySem.W.mg_none_of X G z5,
    n_len := PySem.W.mg_none_of X G z6,
    n_list := PySem.W.mg_none_of X G z7,
    n_max := PySem.W.mg_none_of X G z8,
    n_min := PySem.W.mg_none_of X G z9,
    n_range := PySem.W.mg_none_of X G z10,
    n_set := PySem.W.mg_none_of X G z11,
    n_sorted := PySem.W.mg_none_of X G z12,
    n_sum := PySem.W.mg_none_of X G z13,
    n_tuple := PySem.W.mg_none_of X G z14,
    c_MOST_ITEMS := ⟨t0, PySem.W.mg_of X G y0⟩,
    c_MOST_VOTES := ⟨t1, PySem.W.mg_of X G y1⟩,
    e_BadItem := exn_at X G (by rfl) xa0 xb0 xc0 xd0 xe0,
    e_BadOrder := exn_at X G (by rfl) xa1 xb1 xc1 xd1 xe1,
    d_is_count := def_at X G a0 l0 c0 k0 fun _ _ _ _ _ _ us hl => match us, hl with | [_, _, _], _ => rfl,
    d_is_order := def_at X G a1 l1 c1 k1 fun _ _ _ _ _ _ us hl => match us, hl with | [_], _ => rfl,
    d_need_item := def_at X G a2 l2 c2 k2 fun _ _ _ _ _ _ us hl => match us, hl with | [_, _], _ => rfl,
    d_tidied := def_at X G a3 l3 c3 k3 fun _ _ _ _ _ _ us hl => match us, hl with | [_], _ => rfl,
    d_sign := def_at X G a4 l4 c4 k4 fun _ _ _ _ _ _ us hl => match us, hl with | [_, _, _], _ => rfl,
    d_need_rows := def_at X G a5 l5 c5 k5 fun _ _ _ _ _ _ us hl => match us, hl with | [_], _ => rfl,
    d_tally_of := def_at X G a6 l6 c6 k6 fun _ _ _ _ _ _ us hl => match us, hl with | [_, _, _], _ => rfl,
    d_tally := def_at X G a7 l7 c7 k7 fun _ _ _ _ _ _ us hl => match us, hl with | [_, _, _], _ => rfl,
    d_points_of := def_at X G a8 l8 c8 k8 fun _ _ _ _ _ _ us hl => match us, hl with | [_], _ => rfl,
    d_points := def_at X G a9 l9 c9 k9 fun _ _ _ _ _ _ us hl => match us, hl with | [_], _ => rfl,
    d_by_points := def_at X G a10 l10 c10 k10 fun _ _ _ _ _ _ us hl => match us, hl with | [_], _ => rfl,
    d_beats := def_at X G a11 l11 c11 k11 fun _ _ _ _ _ _ us hl => match us, hl with | [_, _, _], _ => rfl,
    d_winner := def_at X G a12 l12 c12 k12 fun _ _ _ _ _ _ us hl => match us, hl with | [_], _ => rfl,
    d_best_ones := def_at X G a13 l13 c13 k13 fun _ _ _ _ _ _ us hl => match us, hl with | [_], _ => rfl,
    d_firsts_of := def_at X G a14 l14 c14 k14 fun _ _ _ _ _ _ us hl => match us, hl with | [_, _], _ => rfl,
    d_runoff := def_at X G a15 l15 c15 k15 fun _ _ _ _ _ _ us hl => match us, hl with | [_], _ => rfl,
    d__law_cell := def_at X G a16 l16 c16 k16 fun _ _ _ _ _ _ us hl => match us, hl with | [_, _], _ => rfl,
    d__law_drawn := def_at X G a17 l17 c17 k17 fun _ _ _ _ _ _ us hl => match us, hl with | [_, _], _ => rfl,
    d__law_dense := def_at X G a18 l18 c18 k18 fun _ _ _ _ _ _ us hl => match us, hl with | [_], _ => rfl,
    d__law_order := def_at X G a19 l19 c19 k19 fun _ _ _ _ _ _ us hl => match us, hl with | [_, _], _ => rfl,
    d__law_items := def_at X G a20 l20 c20 k20 fun _ _ _ _ _ _ us hl => match us, hl with | [_], _ => rfl,
    d__law_sign := def_at X G a21 l21 c21 k21 fun _ _ _ _ _ _ us hl => match us, hl with | [_, _, _], _ => rfl,
    d__law_votes := def_at X G a22 l22 c22 k22 fun _ _ _ _ _ _ us hl => match us, hl with | [_, _], _ => rfl,
    d__law_beats := def_at X G a23 l23 c23 k23 fun _ _ _ _ _ _ us hl => match us, hl with | [_, _, _], _ => rfl,
    d__law_best := def_at X G a24 l24 c24 k24 fun _ _ _ _ _ _ us hl => match us, hl with | [_, _], _ => rfl,
    d__law_runoff := def_at X G a25 l25 c25 k25 fun _ _ _ _ _ _ us hl => match us, hl with | [_, _], _ => rfl,
    d_law := def_at X G a26 l26 c26 k26 fun _ _ _ _ _ _ us hl => match us, hl with | [_], _ => rfl }
  exact law_at rfl T.d_law hfa (fun base f fd Fu => fn_law T Fu) hm
end
end DL
open PySem PySem.W PyProof.Rows
set_option maxRecDepth 100000 in
set_option maxHeartbeats 0 in
theorem PySem.Challenge.cw_likeranks_k91_whole_votes_holds : PySem.Challenge.rw_likeranks_k91_whole_votes.Holds := by
  w_on; o_law; k_head; (case hw => w_witness2)
  k_fill
  refine LamX.walk_ofTs (n := 63) (k := 5) (x := "_law_script") (CX := fun w => L2N.CX PySem.Challenge.rw_likeranks_k91_whole_votes.prog w) rfl (by decide) rfl ⟨rfl, by decide, by decide⟩ (fun w h Y => PySem.W.kIn_of Y) ?F (fun w H s e s' => DL.cx_end)
  case F =>
    intro w mg fa h Y KX G hmg
    refine' DL.all_law KX G hmg rfl ?z0 ?z1 ?z2 ?z3 ?z4 ?z5 ?z6 ?z7 ?z8 ?z9 ?z10 ?z11 ?z12 ?z13 ?z14 ?y0 ?y1 ?xa0 ?xb0 ?xc0 ?xd0 ?xe0 ?xa1 ?xb1 ?xc1 ?xd1 ?xe1 ?a0 ?l0 ?c0 ?k0 ?a1 ?l1 ?c1 ?k1 ?a2 ?l2 ?c2 ?k2 ?a3 ?l3 ?c3 ?k3 ?a4 ?l4 ?c4 ?k4 ?a5 ?l5 ?c5 ?k5 ?a6 ?l6 ?c6 ?k6 ?a7 ?l7 ?c7 ?k7 ?a8 ?l8 ?c8 ?k8 ?a9 ?l9 ?c9 ?k9 ?a10 ?l10 ?c10 ?k10 ?a11 ?l11 ?c11 ?k11 ?a12 ?l12 ?c12 ?k12 ?a13 ?l13 ?c13 ?k13 ?a14 ?l14 ?c14 ?k14 ?a15 ?l15 ?c15 ?k15 ?a16 ?l16 ?c16 ?k16 ?a17 ?l17 ?c17 ?k17 ?a18 ?l18 ?c18 ?k18 ?a19 ?l19 ?c19 ?k19 ?a20 ?l20 ?c20 ?k20 ?a21 ?l21 ?c21 ?k21 ?a22 ?l22 ?c22 ?k22 ?a23 ?l23 ?c23 ?k23 ?a24 ?l24 ?c24 ?k24 ?a25 ?l25 ?c25 ?k25 ?a26 ?l26 ?c26 ?k26 DL.law_true
    (case z0 => k_is); (case z1 => k_is); (case z2 => k_is); (case z3 => k_is)
    (case z4 => k_is); (case z5 => k_is); (case z6 => k_is); (case z7 => k_is)
    (case z8 => k_is); (case z9 => k_is); (case z10 => k_is); (case z11 => k_is)
    (case z12 => k_is); (case z13 => k_is); (case z14 => k_is); (case y0 => k_is)
    (case y1 => k_is); (case xa0 => k_is); (case xb0 => k_exc); (case xc0 => k_is)
    (case xd0 => k_is); (case xe0 => k_is); (case xa1 => k_is); (case xb1 => k_exc)
    (case xc1 => k_is); (case xd1 => k_is); (case xe1 => k_is); (case a0 => k_is)
    (case l0 => k_is); (case c0 => k_is); (case k0 => k_is); (case a1 => k_is)
    (case l1 => k_is); (case c1 => k_is); (case k1 => k_is); (case a2 => k_is)
    (case l2 => k_is); (case c2 => k_is); (case k2 => k_is); (case a3 => k_is)
    (case l3 => k_is); (case c3 => k_is); (case k3 => k_is); (case a4 => k_is)
    (case l4 => k_is); (case c4 => k_is); (case k4 => k_is); (case a5 => k_is)
    (case l5 => k_is); (case c5 => k_is); (case k5 => k_is); (case a6 => k_is)
    (case l6 => k_is); (case c6 => k_is); (case k6 => k_is); (case a7 => k_is)
    (case l7 => k_is); (case c7 => k_is); (case k7 => k_is); (case a8 => k_is)
    (case l8 => k_is); (case c8 => k_is); (case k8 => k_is); (case a9 => k_is)
    (case l9 => k_is); (case c9 => k_is); (case k9 => k_is); (case a10 => k_is)
    (case l10 => k_is); (case c10 => k_is); (case k10 => k_is); (case a11 => k_is)
    (case l11 => k_is); (case c11 => k_is); (case k11 => k_is); (case a12 => k_is)
    (case l12 => k_is); (case c12 => k_is); (case k12 => k_is); (case a13 => k_is)
    (case l13 => k_is); (case c13 => k_is); (case k13 => k_is); (case a14 => k_is)
    (case l14 => k_is); (case c14 => k_is); (case k14 => k_is); (case a15 => k_is)
    (case l15 => k_is); (case c15 => k_is); (case k15 => k_is); (case a16 => k_is)
    (case l16 => k_is); (case c16 => k_is); (case k16 => k_is); (case a17 => k_is)
    (case l17 => k_is); (case c17 => k_is); (case k17 => k_is); (case a18 => k_is)
    (case l18 => k_is); (case c18 => k_is); (case k18 => k_is); (case a19 => k_is)
    (case l19 => k_is); (case c19 => k_is); (case k19 => k_is); (case a20 => k_is)
    (case l20 => k_is); (case c20 => k_is); (case k20 => k_is); (case a21 => k_is)
    (case l21 => k_is); (case c21 => k_is); (case k21 => k_is); (case a22 => k_is)
    (case l22 => k_is); (case c22 => k_is); (case k22 => k_is); (case a23 => k_is)
    (case l23 => k_is); (case c23 => k_is); (case k23 => k_is); (case a24 => k_is)
    (case l24 => k_is); (case c24 => k_is); (case k24 => k_is); (case a25 => k_is)
    (case l25 => k_is); (case c25 => k_is); (case k25 => k_is); (case a26 => k_is)
    (case l26 => k_is); (case c26 => k_is); (case k26 => k_is)

