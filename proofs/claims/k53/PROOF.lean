import PyProof.Rows.All
import Wide.All
import OpenK.AllK
import Wide.FinOn
import HandS.ForMost
import HandS.ForExc
import HandS.TupAny
import HandS.IsInst
import HandS.Conv
import HandS.Deep
import KE.KDictKeyed
import KE.KDictCopyH
import HandS.Wide
import HandS.Style
import HandS.TupMul
import KE.SortData
import HandS.Zip
import HandS.Rev
import HandS.TupSets
import HandS.Gcd
import HandS.SetBool
import KE.GoesSet
import KE.GoesMore
import KE.DataMinMax
import KE.KDictLaw
import KE.KRevSl
import HandS.Ends
import PySem.Challenge.RW_mendyard_k53_whole_rows_round_rings
set_option Elab.async false
set_option linter.all false
set_option maxRecDepth 100000
/-! DL, part a: slots, results, the relation between the pure environment and the abstract heap -/
namespace DL
open PySem PySem.Spec PyProof.Rows L2

abbrev PD := PyData

/-- the fixed things of a law: program, world, written part, module names, base; the classes of exceptions by number -/
structure GC where
  P : Program
  w : World
  K : PySem.W.Frag
  mg : Str → Option Value
  base : Heap
  ex : Nat → Value

/-- what a list or a dict of the def's own holds -/
inductive Cont where
  | L (ds : List PD)
  | M (kvs : List (PD × PD))
inductive RV where
  | sh (d : PD)
  | ow (c : Cont)
inductive Slot where
  | un
  | sh (d : PD)
  | ow (c : Cont)
  | io (c : Cont)
abbrev PEnv := List Slot
inductive Res (α : Type) where
  | ok (a : α) (ρ : PEnv)
  | exc (c : Nat) (ρ : PEnv)
  | no
def Res.bind {α β : Type} (r : Res α) (k : α → PEnv → Res β) : Res β := match r with
  | .ok a ρ => k a ρ
  | .exc c ρ => .exc c ρ
  | .no => .no
abbrev Den := PEnv → Res RV
abbrev DenT := PEnv → Res Bool

def Ex (H H' : Hp) : Prop := ∀ a o, H a = some o → H' a = some o
theorem Ex.refl (H : Hp) : Ex H H := fun _ _ h => h
theorem Ex.trans {H H1 H2 : Hp} (a : Ex H H1) (b : Ex H1 H2) : Ex H H2 := fun x o h => b x o (a x o h)
theorem Ex.new {H : Hp} {p : Addr} {o : HO} (h : H p = none) : Ex H (upd H p o) := fun a u e => by
  rw [upd_ne (ne_of_none e h)]
  exact e
theorem Ex.free {H H' : Hp} {p : Addr} (e : Ex H H') (h : H' p = none) : H p = none := by
  cases h1 : H p with
  | none => rfl
  | some o =>
    rw [e p o h1] at h
    cases h
theorem ex_rd {H H' : Hp} {a : Addr} {u : HO} (e : Ex H H') (h : Rd H a u) : Rd H' a u := by
  rcases h with h | ⟨o, h⟩
  · exact Or.inl (e a _ h)
  · exact Or.inr ⟨o, e a _ h⟩
theorem ex_l {K : PySem.W.Frag} {H H' : Hp} {a : Addr} {xs : List V} (e : Ex H H') (h : SqL K H a xs) : SqL K H' a xs := by
  rcases h with h | h
  · exact Or.inl (ex_rd e h)
  · exact Or.inr h
theorem ex_t {K : PySem.W.Frag} {H H' : Hp} {a : Addr} {xs : List V} (e : Ex H H') (h : SqT K H a xs) : SqT K H' a xs := by
  rcases h with h | h
  · exact Or.inl (ex_rd e h)
  · exact Or.inr h
/-- all are whole numbers -/
def intsOf : List PD → Option (List Int)
  | [] => some []
  | .int i :: ds => (intsOf ds).map (i :: ·)
  | _ => none
theorem intsOf_eq : ∀ {ds : List PD} {ns : List Int}, intsOf ds = some ns → ds = ns.map PyData.int
  | [], ns, h => by cases h; rfl
  | .int i :: ds, ns, h => by
    simp only [intsOf, Option.map_eq_some_iff] at h
    obtain ⟨ms, h1, h2⟩ := h
    subst h2
    rw [intsOf_eq h1, List.map_cons]
  | .none :: _, _, h => by cases h
  | .bool _ :: _, _, h => by cases h
  | .str _ :: _, _, h => by cases h
  | .list _ :: _, _, h => by cases h
  | .tuple _ :: _, _, h => by cases h
  | .dict _ :: _, _, h => by cases h
theorem intsOf_map : ∀ ns : List Int, intsOf (ns.map PyData.int) = some ns
  | [] => rfl
  | n :: ns => by
    rw [List.map_cons, intsOf, intsOf_map ns]
    rfl
/-- the script, told apart from lists that the text makes -/
def scrD (ns : List Int) : PD := .dict [(.none, .list (ns.map .int))]
def scrOf : List (PD × PD) → Option (List Int)
  | [(.none, .list ds)] => intsOf ds
  | _ => none
theorem scrOf_map (ns : List Int) : scrOf [(.none, .list (ns.map .int))] = some ns := intsOf_map ns
mutual
/-- no dict within -/
def plainD : PD → Bool
  | .none => true
  | .bool _ => true
  | .int _ => true
  | .str _ => true
  | .list ds => plainDs ds
  | .tuple ds => plainDs ds
  | .dict _ => false
def plainDs : List PD → Bool
  | [] => true
  | d :: ds => plainD d && plainDs ds
end
mutual
theorem plain_lay : ∀ d : PD, d.canLay0 = true → plainD d = true
  | .none, _ => by rw [plainD]
  | .bool _, _ => by rw [plainD]
  | .int _, _ => by rw [plainD]
  | .str _, _ => by rw [plainD]
  | .list ds, h => by rw [plainD]; rw [PyData.canLay0] at h; exact plains_lay ds h
  | .tuple ds, h => by rw [plainD]; rw [PyData.canLay0] at h; exact plains_lay ds h
  | .dict _, h => by rw [PyData.canLay0] at h; cases h
theorem plains_lay : ∀ ds : List PD, PyData.canLayAll0 ds = true → plainDs ds = true
  | [], _ => by rw [plainDs]
  | d :: ds, h => by
    rw [PyData.canLayAll0, Bool.and_eq_true] at h
    rw [plainDs, plain_lay d h.1, plains_lay ds h.2]
    rfl
end
theorem plain_shaped {d : PD} (h : SeqAt.shaped d = true) : plainD d = true := plain_lay d (SeqAt.canLay_of_shaped h)
mutual
/-- the value stands for the data, by the abstract heap -/
inductive Rp (K : PySem.W.Frag) (H : Hp) : V → PD → Prop
  | non : Rp K H .non .none
  | bl (b : Bool) : Rp K H (.bl b) (.bool b)
  | int (i : Int) : Rp K H (.int i) (.int i)
  | str (x : Str) : Rp K H (.str x) (.str x)
  | lst {a : Addr} {xs : List V} {ds : List PD} : H a = some (.lst xs) → RpAll K H xs ds → Rp K H (.ref a) (.list ds)
  | scr {a : Addr} {ns : List Int} {kvs : List (PD × PD)} : scrOf kvs = some ns → SqL K H a (ns.map V.int) → Rp K H (.ref a) (.dict kvs)
  | tup {a : Addr} {xs : List V} {ds : List PD} : SqT K H a xs → RpAll K H xs ds → Rp K H (.ref a) (.tuple ds)
inductive RpAll (K : PySem.W.Frag) (H : Hp) : List V → List PD → Prop
  | nil : RpAll K H [] []
  | cons {v : V} {vs : List V} {d : PD} {ds : List PD} : Rp K H v d → RpAll K H vs ds → RpAll K H (v :: vs) (d :: ds)
end
mutual
theorem rp_dp {K : PySem.W.Frag} {H : Hp} : ∀ {v : V} (d : PD), plainD d = true → Rp K H v d → Dp K H v d
  | _, .none, _, h => by cases h; exact .non
  | _, .bool _, _, h => by cases h; exact .bl _
  | _, .int _, _, h => by cases h; exact .int _
  | _, .str _, _, h => by cases h; exact .str _
  | _, .list ds, p, h => by
    cases h with
    | lst h1 h2 => exact .lst (SqL.of h1) (rps_dp ds (by rw [plainD] at p; exact p) h2)
  | _, .tuple ds, p, h => by
    cases h with
    | tup h1 h2 => exact .tup h1 (rps_dp ds (by rw [plainD] at p; exact p) h2)
  | _, .dict _, p, _ => by rw [plainD] at p; cases p
theorem rps_dp {K : PySem.W.Frag} {H : Hp} : ∀ {vs : List V} (ds : List PD), plainDs ds = true → RpAll K H vs ds → DpAll K H vs ds
  | _, [], _, h => by cases h; exact .nil
  | _, d :: ds, p, h => by
    rw [plainDs, Bool.and_eq_true] at p
    cases h with
    | cons h1 h2 => exact .cons (rp_dp d p.1 h1) (rps_dp ds p.2 h2)
end
mutual
theorem rp_mono {K : PySem.W.Frag} {H H' : Hp} (e : Ex H H') : ∀ {v : V} (d : PD), Rp K H v d → Rp K H' v d
  | _, .none, h => by cases h; exact .non
  | _, .bool _, h => by cases h; exact .bl _
  | _, .int _, h => by cases h; exact .int _
  | _, .str _, h => by cases h; exact .str _
  | _, .list ds, h => by
    cases h with
    | lst h1 h2 => exact .lst (e _ _ h1) (rps_mono e ds h2)
  | _, .tuple ds, h => by
    cases h with
    | tup h1 h2 => exact .tup (ex_t e h1) (rps_mono e ds h2)
  | _, .dict _, h => by
    cases h with
    | scr h0 h1 => exact .scr h0 (ex_l e h1)
theorem rps_mono {K : PySem.W.Frag} {H H' : Hp} (e : Ex H H') : ∀ {vs : List V} (ds : List PD), RpAll K H vs ds → RpAll K H' vs ds
  | _, [], h => by cases h; exact .nil
  | _, d :: ds, h => by
    cases h with
    | cons h1 h2 => exact .cons (rp_mono e d h1) (rps_mono e ds h2)
end
theorem RpAll.length {K : PySem.W.Frag} {H : Hp} : ∀ {vs : List V} {ds : List PD}, RpAll K H vs ds → vs.length = ds.length
  | _, _, .nil => rfl
  | _, _, .cons _ t => by rw [List.length_cons, List.length_cons, RpAll.length t]
theorem RpAll.get {K : PySem.W.Frag} {H : Hp} : ∀ {vs : List V} {ds : List PD} {i : Nat} {v : V}, RpAll K H vs ds → vs[i]? = some v → ∃ d, ds[i]? = some d ∧ Rp K H v d
  | _, _, i, _, .nil, h => by simp at h
  | _, _, 0, _, .cons a t, h => by
    simp at h
    subst h
    exact ⟨_, rfl, a⟩
  | _, _, i + 1, _, .cons a t, h => by
    obtain ⟨d, h1, h2⟩ := RpAll.get (i := i) t (by simpa using h)
    exact ⟨d, by simpa using h1, h2⟩
theorem RpAll.get' {K : PySem.W.Frag} {H : Hp} : ∀ {vs : List V} {ds : List PD} {i : Nat} {d : PD}, RpAll K H vs ds → ds[i]? = some d → ∃ v, vs[i]? = some v ∧ Rp K H v d
  | _, _, i, _, .nil, h => by simp at h
  | _, _, 0, _, .cons a t, h => by
    simp at h
    subst h
    exact ⟨_, rfl, a⟩
  | _, _, i + 1, _, .cons a t, h => by
    obtain ⟨d, h1, h2⟩ := RpAll.get' (i := i) t (by simpa using h)
    exact ⟨d, by simpa using h1, h2⟩
theorem RpAll.append {K : PySem.W.Frag} {H : Hp} : ∀ {vs ws : List V} {ds es : List PD}, RpAll K H vs ds → RpAll K H ws es → RpAll K H (vs ++ ws) (ds ++ es)
  | _, _, _, _, .nil, h => h
  | _, _, _, _, .cons a t, h => .cons a (RpAll.append t h)
theorem RpAll.take {K : PySem.W.Frag} {H : Hp} : ∀ {vs : List V} {ds : List PD} (n : Nat), RpAll K H vs ds → RpAll K H (vs.take n) (ds.take n)
  | _, _, 0, _ => .nil
  | _, _, _ + 1, .nil => .nil
  | _, _, n + 1, .cons a t => .cons a (RpAll.take n t)
theorem RpAll.drop {K : PySem.W.Frag} {H : Hp} : ∀ {vs : List V} {ds : List PD} (n : Nat), RpAll K H vs ds → RpAll K H (vs.drop n) (ds.drop n)
  | _, _, 0, h => h
  | _, _, _ + 1, .nil => .nil
  | _, _, n + 1, .cons _ t => RpAll.drop n t
theorem RpAll.set {K : PySem.W.Frag} {H : Hp} {v : V} {d : PD} (h : Rp K H v d) : ∀ {vs : List V} {ds : List PD} (n : Nat), RpAll K H vs ds → RpAll K H (vs.set n v) (ds.set n d)
  | _, _, _, .nil => .nil
  | _, _, 0, .cons _ t => .cons h t
  | _, _, n + 1, .cons a t => .cons a (RpAll.set h n t)
theorem RpAll.snoc {K : PySem.W.Frag} {H : Hp} {vs : List V} {ds : List PD} {v : V} {d : PD} (h : RpAll K H vs ds) (h1 : Rp K H v d) : RpAll K H (vs ++ [v]) (ds ++ [d]) := RpAll.append h (.cons h1 .nil)
theorem RpAll.reverse {K : PySem.W.Frag} {H : Hp} : ∀ {vs : List V} {ds : List PD}, RpAll K H vs ds → RpAll K H vs.reverse ds.reverse
  | _, _, .nil => .nil
  | _, _, .cons a t => by
    rw [List.reverse_cons, List.reverse_cons]
    exact RpAll.snoc (RpAll.reverse t) a
theorem RpAll.ints {K : PySem.W.Frag} {H : Hp} : ∀ {vs : List V} {ns : List Int}, RpAll K H vs (ns.map PyData.int) → vs = ns.map V.int
  | _, [], h => by cases h; rfl
  | _, n :: ns, h => by
    cases h with
    | cons h1 h2 =>
      cases h1
      rw [RpAll.ints h2, List.map_cons]

/-! ### keys of dicts -/
/-- a dict's object: leaf keys (numbers, texts, truth values, None), or tuples of such; the entries' values as vs -/
def leafOf : PD → Option Leaf
  | .none => some .none
  | .bool b => some (.num (if b then 1 else 0))
  | .int i => some (.num i)
  | .str x => some (.text x)
  | _ => none
mutual
def nkOf : PD → Option NestedKey
  | .none => some .none
  | .bool b => some (.num (if b then 1 else 0))
  | .int i => some (.num i)
  | .str x => some (.text x)
  | .tuple ds => (nksOf ds).map .tup
  | .list _ => none
  | .dict _ => none
def nksOf : List PD → Option (List NestedKey)
  | [] => some []
  | d :: ds => match nkOf d, nksOf ds with
    | some k, some ks => some (k :: ks)
    | _, _ => none
end
/-- entries with leaf keys; the key as it was laid -/
def DicL (P : Program) (w : World) (a : Addr) (ks : List Leaf) (kvs : List V) (vs : List V) : HO := .ext fun h => ks.length ≤ sizeLine ∧ (a == sysModules) = false ∧ ∃ (us : List Value),
  Vals vs us ∧ h.DictOf (leafKind P w) a (ks.zip us) ∧ ∃ o es ep, h.get? a = some o ∧ o.data = .dict es ep ∧ Vals kvs (es.toList.map (·.key)) ∧ us = es.toList.map (·.val)
/-- entries with tuples as keys -/
def DicT (P : Program) (w : World) (a : Addr) (ks : List (NestedKey × Addr)) (vs : List V) : HO := .ext fun h => ks.length ≤ sizeLine ∧ (a == sysModules) = false ∧ ∃ (us : List Value), Vals vs us ∧ us.length = ks.length ∧
  ∃ o es ep, h.get? a = some o ∧ o.ExactDict ∧ o.data = .dict es ep ∧ es.toList = (ks.zip us).map (fun x => entryOfKey (nestedKind P w) (x.1.1, x.1.2, x.2)) ∧ (ks.map (·.1)).Nodup
def DicO (G : GC) (S : Hp) (a : Addr) (o : HO) (kvs : List (PD × PD)) : Prop := ∃ vs : List V, RpAll G.K S vs (kvs.map (·.2)) ∧
  ((∃ (ks : List Leaf) (kv : List V), o = DicL G.P G.w a ks kv vs ∧ kvs.map (fun x => leafOf x.1) = ks.map some ∧ RpAll G.K S kv (kvs.map (·.1))) ∨
   ∃ ks : List (NestedKey × Addr), o = DicT G.P G.w a ks vs ∧ kvs.map (fun x => nkOf x.1) = ks.map (fun x => some x.1) ∧ (∀ x ∈ ks, x.1.depth ≤ 8) ∧ RpAll G.K S (ks.map fun x => V.ref x.2) (kvs.map (·.1)) ∧ ∀ x ∈ kvs, ∃ ds, x.1 = .tuple ds)
theorem DicO.mono {G : GC} {S S' : Hp} {a : Addr} {o : HO} {kvs : List (PD × PD)} (e : Ex S S') (h : DicO G S a o kvs) : DicO G S' a o kvs := by
  obtain ⟨vs, h1, h2⟩ := h
  refine ⟨vs, rps_mono e _ h1, ?_⟩
  rcases h2 with ⟨ks, kv, r1, r2, r3⟩ | ⟨ks, r1, r2, r3, r4, r5⟩
  · exact .inl ⟨ks, kv, r1, r2, rps_mono e _ r3⟩
  · exact .inr ⟨ks, r1, r2, r3, rps_mono e _ r4, r5⟩

def ContO (G : GC) (S : Hp) (a : Addr) (o : HO) : Cont → Prop
  | .L ds => ∃ vs, o = .lst vs ∧ RpAll G.K S vs ds
  | .M kvs => DicO G S a o kvs
theorem ContO.mono {G : GC} {S S' : Hp} {a : Addr} {o : HO} {c : Cont} (e : Ex S S') (h : ContO G S a o c) : ContO G S' a o c := by
  cases c with
  | L ds =>
    obtain ⟨vs, h1, h2⟩ := h
    exact ⟨vs, h1, rps_mono e _ h2⟩
  | M kvs => exact DicO.mono e h

/-- the def's entry: what it may see, the whole heap, the addresses of what it may change -/
structure Bse where
  S0 : Hp
  H0 : Hp
  io : Addr → Prop

def Slot.mut : Slot → Bool
  | .ow _ => true
  | .io _ => true
  | _ => false
def SlotR (G : GC) (B : Bse) (S H : Hp) (x : Option (Option V)) : Slot → Prop
  | .un => True
  | .sh d => ∃ v, x = some (some v) ∧ Rp G.K S v d
  | .ow c => ∃ a o, x = some (some (.ref a)) ∧ H a = some o ∧ ContO G S a o c ∧ S a = none ∧ B.H0 a = none
  | .io c => ∃ a o, x = some (some (.ref a)) ∧ H a = some o ∧ ContO G S a o c ∧ B.io a

structure EnvR (G : GC) (B : Bse) (S : Hp) (σ : L2.St) (H : Hp) (ρ : PEnv) : Prop where
  len : σ.length = ρ.length
  s0 : Ex B.S0 S
  new : ∀ a o, S a = some o → B.S0 a = some o ∨ B.H0 a = none
  sub : Ex S H
  keep : ∀ a o, B.H0 a = some o → ¬ B.io a → H a = some o
  ios : ∀ a, B.io a → B.S0 a = none ∧ (∃ o, B.H0 a = some o) ∧ ∃ o, H a = some o
  slot : ∀ (i : Nat) s, ρ[i]? = some s → SlotR G B S H σ[i]? s
  dis : ∀ (i j : Nat) si sj, ρ[i]? = some si → ρ[j]? = some sj → si.mut = true → sj.mut = true → σ[i]? = σ[j]? → i = j

theorem EnvR.io_none {G B S σ H ρ} (E : EnvR G B S σ H ρ) {a : Addr} (h : B.io a) : S a = none := by
  cases e : S a with
  | none => rfl
  | some o =>
    obtain ⟨h1, ⟨o', h2⟩, _⟩ := E.ios a h
    rcases E.new a o e with z | z
    · rw [h1] at z; cases z
    · rw [h2] at z; cases z

/-- the heap has grown -/
structure Step (S H S' H' : Hp) : Prop where
  s : Ex S S'
  h : Ex H H'
  sub : Ex S' H'
  new : ∀ a o, S' a = some o → S a = some o ∨ H a = none
theorem Step.refl {S H : Hp} (e : Ex S H) : Step S H S H := ⟨Ex.refl _, Ex.refl _, e, fun _ _ h => .inl h⟩
theorem Step.trans {S H S1 H1 S2 H2 : Hp} (a : Step S H S1 H1) (b : Step S1 H1 S2 H2) : Step S H S2 H2 :=
  ⟨a.s.trans b.s, a.h.trans b.h, b.sub, fun x o h => by
    rcases b.new x o h with z | z
    · exact a.new x o z
    · exact .inr (a.h.free z)⟩
/-- a new object that the def does not keep to itself -/
theorem Step.alloc {S H : Hp} {p : Addr} {o : HO} (e : Ex S H) (hp : H p = none) : Step S H (upd S p o) (upd H p o) := by
  refine ⟨Ex.new (e.free hp), Ex.new hp, fun a u h => ?_, fun a u h => ?_⟩
  · by_cases ha : a = p
    · subst ha
      rw [upd_same] at h ⊢
      exact h
    · rw [upd_ne ha] at h ⊢
      exact e a u h
  · by_cases ha : a = p
    · subst ha
      exact .inr hp
    · rw [upd_ne ha] at h
      exact .inl h
/-- a new object of the def's own -/
theorem Step.own {S H : Hp} {p : Addr} {o : HO} (e : Ex S H) (hp : H p = none) : Step S H S (upd H p o) := ⟨Ex.refl _, Ex.new hp, e.trans (Ex.new hp), fun _ _ h => .inl h⟩

theorem EnvR.H0_none {G B S σ H ρ} (E : EnvR G B S σ H ρ) {a : Addr} (h : H a = none) : B.H0 a = none := by
  cases e : B.H0 a with
  | none => rfl
  | some o =>
    by_cases hi : B.io a
    · obtain ⟨_, _, o', h2⟩ := E.ios a hi
      rw [h] at h2; cases h2
    · rw [E.keep a o e hi] at h; cases h
theorem EnvR.step {G B S σ H ρ S' H'} (E : EnvR G B S σ H ρ) (T : Step S H S' H') : EnvR G B S' σ H' ρ := by
  refine ⟨E.len, E.s0.trans T.s, fun a o h => ?_, T.sub, fun a o h hi => T.h _ _ (E.keep a o h hi), fun a h => ?_, fun i s hs => ?_, E.dis⟩
  · rcases T.new a o h with z | z
    · exact E.new a o z
    · exact .inr (E.H0_none z)
  · obtain ⟨h1, h2, o, h3⟩ := E.ios a h
    exact ⟨h1, h2, o, T.h _ _ h3⟩
  · have q := E.slot i s hs
    cases s with
    | un => trivial
    | sh d =>
      obtain ⟨v, h1, h2⟩ := q
      exact ⟨v, h1, rp_mono T.s _ h2⟩
    | ow c =>
      obtain ⟨a, o, h1, h2, h3, h4, h5⟩ := q
      refine ⟨a, o, h1, T.h _ _ h2, h3.mono T.s, ?_, h5⟩
      cases z : S' a with
      | none => rfl
      | some u =>
        rcases T.new a u z with z | z
        · rw [h4] at z; cases z
        · rw [h2] at z; cases z
    | io c =>
      obtain ⟨a, o, h1, h2, h3, h4⟩ := q
      exact ⟨a, o, h1, T.h _ _ h2, h3.mono T.s, h4⟩

/-- a result -/
def RVR (G : GC) (B : Bse) (S H : Hp) (σ : L2.St) (ρ : PEnv) (v : V) : RV → Prop
  | .sh d => Rp G.K S v d
  | .ow c => ∃ a o, v = .ref a ∧ H a = some o ∧ ContO G S a o c ∧ S a = none ∧ B.H0 a = none ∧ ∀ (i : Nat) s, ρ[i]? = some s → s.mut = true → σ[i]? ≠ some (some (.ref a))

def RV.frz : RV → Option PD
  | .sh d => some d
  | .ow (.L ds) => some (.list ds)
  | .ow (.M _) => none
/-- what was the def's own may be seen by all: it is changed no more -/
theorem frz_ok {G B S σ H ρ v rv d} (E : EnvR G B S σ H ρ) (R : RVR G B S H σ ρ v rv) (h : rv.frz = some d) : ∃ S', EnvR G B S' σ H ρ ∧ Ex S S' ∧ Rp G.K S' v d := by
  cases rv with
  | sh d' =>
    cases h
    exact ⟨S, E, Ex.refl _, R⟩
  | ow c =>
    cases c with
    | M kvs => cases h
    | L ds =>
      cases h
      obtain ⟨a, o, rfl, h1, ⟨vs, rfl, h2⟩, h3, h4, h5⟩ := R
      have x : Ex S (upd S a (.lst vs)) := Ex.new h3
      refine ⟨upd S a (.lst vs), ⟨E.len, E.s0.trans x, fun b o h => ?_, fun b o h => ?_, E.keep, E.ios, fun i s hs => ?_, E.dis⟩, x, .lst upd_same (rps_mono x _ h2)⟩
      · by_cases hb : b = a
        · subst hb
          exact .inr h4
        · rw [upd_ne hb] at h
          exact E.new b o h
      · by_cases hb : b = a
        · subst hb
          rw [upd_same] at h
          cases h
          exact h1
        · rw [upd_ne hb] at h
          exact E.sub b o h
      · have q := E.slot i s hs
        cases s with
        | un => trivial
        | sh d =>
          obtain ⟨v, h6, h7⟩ := q
          exact ⟨v, h6, rp_mono x _ h7⟩
        | ow c =>
          obtain ⟨b, o, h6, h7, h8, h9, h10⟩ := q
          refine ⟨b, o, h6, h7, h8.mono x, ?_, h10⟩
          rw [upd_ne fun z => h5 i _ hs rfl (by rw [h6, z])]
          exact h9
        | io c =>
          obtain ⟨b, o, h6, h7, h8, h9⟩ := q
          exact ⟨b, o, h6, h7, h8.mono x, h9⟩

/-! ### what is wanted behind -/
abbrev FinT (α : Type) := Hp → α → PEnv → Prop
def Post (G : GC) (B : Bse) (W : WX) {α : Type} (F : FinT α) (S : Hp) : Res α → Prop
  | .ok a ρ => F S a ρ
  | .exc c ρ => ∀ σ' S' H', EnvR G B S' σ' H' ρ → Ex S S' → W (G.ex c) none σ' H'
  | .no => False
theorem Post.bind {G B W S} {α β : Type} {F : FinT α} {F' : FinT β} {r : Res α} {k : α → PEnv → Res β} (h : Post G B W F' S (r.bind k)) (hk : ∀ a ρ', Post G B W F' S (k a ρ') → F S a ρ') : Post G B W F S r := by
  cases r with
  | ok a ρ => exact hk a ρ h
  | exc c ρ => exact h
  | no => exact h
theorem Post.map {G B W S} {α : Type} {F F' : FinT α} {r : Res α} (h : Post G B W F S r) (hk : ∀ a ρ', F S a ρ' → F' S a ρ') : Post G B W F' S r := by
  cases r with
  | ok a ρ => exact hk a ρ h
  | exc c ρ => exact h
  | no => exact h
theorem Post.mono {G B W S S'} {α : Type} {F : FinT α} (m : ∀ a ρ S S', Ex S S' → F S a ρ → F S' a ρ) {r : Res α} (e : Ex S S') (h : Post G B W F S r) : Post G B W F S' r := by
  cases r with
  | ok a ρ => exact m a ρ S S' e h
  | exc c ρ => exact fun σ' S'' H' E x => h σ' S'' H' E (e.trans x)
  | no => exact h

abbrev FE (G : GC) (B : Bse) (σ : L2.St) (Q : VK) : FinT RV := fun S rv ρ => ∀ S' H' v, EnvR G B S' σ H' ρ → Ex S S' → RVR G B S' H' σ ρ v rv → Q v H'
abbrev FT (G : GC) (B : Bse) (σ : L2.St) (Q : Bool → Hp → Prop) : FinT Bool := fun S b ρ => ∀ S' H', EnvR G B S' σ H' ρ → Ex S S' → Q b H'
abbrev FA (G : GC) (B : Bse) (σ : L2.St) (Q : List V → Hp → Prop) : FinT (List PD) := fun S ds ρ => ∀ S' H' vs, EnvR G B S' σ H' ρ → Ex S S' → RpAll G.K S' vs ds → Q vs H'
inductive Flow' where
  | nx | bk | ct
  | rt (rv : RV)
abbrev DenS := PEnv → Res Flow'
def FS (G : GC) (B : Bse) (D : Ends) : FinT Flow' := fun S f ρ => match f with
  | .nx => ∀ σ' S' H', EnvR G B S' σ' H' ρ → Ex S S' → D.nx σ' H'
  | .bk => ∀ σ' S' H', EnvR G B S' σ' H' ρ → Ex S S' → D.bk σ' H'
  | .ct => ∀ σ' S' H', EnvR G B S' σ' H' ρ → Ex S S' → D.ct σ' H'
  | .rt rv => ∀ σ' S' H' v, EnvR G B S' σ' H' ρ → Ex S S' → RVR G B S' H' σ' ρ v rv → D.rt v H'
section
variable {G : GC} {B : Bse} {W : WX} {σ : L2.St} {S S' : Hp}
theorem Post.monoE {Q : VK} {r : Res RV} (e : Ex S S') (h : Post G B W (FE G B σ Q) S r) : Post G B W (FE G B σ Q) S' r := Post.mono (F := FE G B σ Q) (fun _ _ _ _ x f _ _ _ E y => f _ _ _ E (x.trans y)) e h
theorem Post.monoT {Q : Bool → Hp → Prop} {r : Res Bool} (e : Ex S S') (h : Post G B W (FT G B σ Q) S r) : Post G B W (FT G B σ Q) S' r := Post.mono (F := FT G B σ Q) (fun _ _ _ _ x f _ _ E y => f _ _ E (x.trans y)) e h
theorem Post.monoA {Q : List V → Hp → Prop} {r : Res (List PD)} (e : Ex S S') (h : Post G B W (FA G B σ Q) S r) : Post G B W (FA G B σ Q) S' r := Post.mono (F := FA G B σ Q) (fun _ _ _ _ x f _ _ _ E y => f _ _ _ E (x.trans y)) e h
theorem Post.monoS {D : Ends} {r : Res Flow'} (e : Ex S S') (h : Post G B W (FS G B D) S r) : Post G B W (FS G B D) S' r := Post.mono (F := FS G B D) (fun f _ _ _ x h => by
  cases f with
  | nx => exact fun _ _ _ E y => h _ _ _ E (x.trans y)
  | bk => exact fun _ _ _ E y => h _ _ _ E (x.trans y)
  | ct => exact fun _ _ _ E y => h _ _ _ E (x.trans y)
  | rt rv => exact fun _ _ _ _ E y => h _ _ _ _ E (x.trans y)) e h
end

/-! ### the readings -/
def tE (G : GC) (W : WX) (m : Den) : TE := fun σ H Q => ∃ B S ρ, EnvR G B S σ H ρ ∧ Post G B W (FE G B σ Q) S (m ρ)
def tT (G : GC) (W : WX) (m : DenT) : TT := fun σ H Q => ∃ B S ρ, EnvR G B S σ H ρ ∧ Post G B W (FT G B σ Q) S (m ρ)
def tA (G : GC) (W : WX) (m : PEnv → Res (List PD)) : TA := fun σ H Q => ∃ B S ρ, EnvR G B S σ H ρ ∧ Post G B W (FA G B σ Q) S (m ρ)
def tS (G : GC) (W : WX) (m : DenS) : TS := fun D σ H => ∃ B S ρ, EnvR G B S σ H ρ ∧ Post G B W (FS G B D) S (m ρ)

/-- the static context of a def's body or a comprehension's block -/
structure SC where
  N : List Str
  sc : Scope
  fn : Str → Bool
  k : Nat
structure CtxOk (G : GC) (c : SC) (X : Cx) : Prop where
  P : X.prog = G.P
  w : X.w = G.w
  K : X.K = G.K
  mg : X.mg = G.mg
  base : X.base = G.base
  N : X.N = c.N
  sc : X.env.scope = c.sc
  fn : X.fn = c.fn
  calm : X.calm = true
  room : Room c.k X.A
  nd : c.N.Nodup

/-- an expression means m -/
def SE (G : GC) (c : SC) (e : Expr) (m : Den) : Prop := ∀ X W, CtxOk G c X → Takes X W → PE X e (tE G W m)
def ST (G : GC) (c : SC) (e : Expr) (m : DenT) : Prop := ∀ X W, CtxOk G c X → Takes X W → PT X e (tT G W m)
def SA (G : GC) (c : SC) (es : List Expr) (m : PEnv → Res (List PD)) : Prop := ∀ X W, CtxOk G c X → Takes X W → PA X es (tA G W m)
def SS (G : GC) (c : SC) (st : Stmt) (m : DenS) : Prop := ∀ X W, CtxOk G c X → Takes X W → PassesOwn (model X.prog X.w) X.A X.env X.xe → PS X st (tS G W m)
def SSs (G : GC) (c : SC) (st : List Stmt) (m : DenS) : Prop := ∀ X W, CtxOk G c X → Takes X W → PassesOwn (model X.prog X.w) X.A X.env X.xe → PSs X st (tS G W m)

theorem PE.imp {X : Cx} {e : Expr} {t t' : TE} (h : PE X e t) (i : ∀ σ H Q, t' σ H Q → t σ H Q) : PE X e t' := ⟨fun p s σ H Q I q => h.run p s σ H Q I (i σ H Q q)⟩
theorem PT.imp {X : Cx} {e : Expr} {t t' : TT} (h : PT X e t) (i : ∀ σ H Q, t' σ H Q → t σ H Q) : PT X e t' := ⟨fun p s σ H Q I q => h.run p s σ H Q I (i σ H Q q)⟩
theorem PA.imp {X : Cx} {e : List Expr} {t t' : TA} (h : PA X e t) (i : ∀ σ H Q, t' σ H Q → t σ H Q) : PA X e t' := ⟨fun ps p s σ H Q I q => h.run ps p s σ H Q I (i σ H Q q)⟩
theorem PS.imp {X : Cx} {e : Stmt} {t t' : TS} (h : PS X e t) (i : ∀ D σ H, t' D σ H → t D σ H) : PS X e t' := ⟨fun p s σ H D I q => h.run p s σ H D I (i D σ H q)⟩
theorem PSs.imp {X : Cx} {e : List Stmt} {t t' : TS} (h : PSs X e t) (i : ∀ D σ H, t' D σ H → t D σ H) : PSs X e t' := ⟨fun p s σ H D I q => h.run p s σ H D I (i D σ H q)⟩
theorem PI.imp {X : Cx} {tg e : Expr} {t t' : TI} (h : PI X tg e t) (i : ∀ σ H R, t' σ H R → t σ H R) : PI X tg e t' := ⟨fun p s σ H R I q => h.run p s σ H R I (i σ H R q)⟩
theorem PG.imp {X : Cx} {e : Expr} {t t' : TG} (h : PG X e t) (i : ∀ v σ H Q, t' v σ H Q → t v σ H Q) : PG X e t' := ⟨fun p s σ H v u Q I r q => h.run p s σ H v u Q I r (i v σ H Q q)⟩
end DL
/-! DL, part b: names, constants, operands, operators -/
namespace DL
open PySem PySem.Spec PyProof.Rows L2

/-! ### names -/
structure IsV (c : SC) (e : Expr) (i : Nat) : Prop where
  ex : ∃ x pos, e = .Name x pos ∧ c.N[i]? = some x ∧ Vis c.sc x ∧ (x == ("__debug__" : Str)) = false ∧ (x == ("__classdict__" : Str)) = false
theorem isv {c : SC} (i : Nat) {x : Str} {pos : Pos} (hN : c.N[i]? = some x := by rfl) (hv : Vis c.sc x := by first | exact Or.inl rfl | exact Or.inr (Or.inl rfl) | exact Or.inr (Or.inr rfl)) (hd : (x == ("__debug__" : Str)) = false := by decide)
    (hcd : (x == ("__classdict__" : Str)) = false := by decide) : IsV c (.Name x pos) i := ⟨x, pos, rfl, hN, hv, hd, hcd⟩
theorem isv_pe {G : GC} {c : SC} {e : Expr} {i : Nat} (h : IsV c e i) {X : Cx} (C : CtxOk G c X) : PE X e (tVar i) := by
  obtain ⟨x, pos, rfl, hN, hv, hd, hcd⟩ := h.ex
  exact pe_var (by rw [C.N]; exact hN) (by rw [C.sc]; exact hv) hd hcd

/-- a name as a value that may be kept: what was the def's own is its own no more -/
def dVar (i : Nat) : Den := fun ρ => match ρ[i]? with
  | some (.sh d) => .ok (.sh d) ρ
  | some (.ow (.L ds)) => .ok (.sh (.list ds)) (ρ.set i (.sh (.list ds)))
  | _ => .no
/-- a name that is handed back -/
def dMove (i : Nat) : Den := fun ρ => match ρ[i]? with
  | some (.sh d) => .ok (.sh d) ρ
  | some (.ow c) => .ok (.ow c) (ρ.set i .un)
  | _ => .no
theorem getE {ρ : PEnv} {i : Nat} {s : Slot} {σ : L2.St} (hl : σ.length = ρ.length) (h : ρ[i]? = some s) : i < ρ.length ∧ i < σ.length := by
  have := (List.getElem?_eq_some_iff.mp h).1
  exact ⟨this, by omega⟩
/-- a slot of the def's own, forgotten or told to be seen -/
theorem EnvR.setSlot {G B S σ H ρ} (E : EnvR G B S σ H ρ) (i : Nat) (s : Slot) (hm : s.mut = false) (hs : SlotR G B S H σ[i]? s) : EnvR G B S σ H (ρ.set i s) := by
  refine ⟨by rw [List.length_set]; exact E.len, E.s0, E.new, E.sub, E.keep, E.ios, fun j t ht => ?_, fun j k sj sk hj hk mj mk he => ?_⟩
  · by_cases hj : i = j
    · subst hj
      have hlt : i < (ρ.set i s).length := (List.getElem?_eq_some_iff.mp ht).1
      rw [List.length_set] at hlt
      rw [List.getElem?_set_self hlt] at ht
      cases ht
      exact hs
    · rw [List.getElem?_set_ne hj] at ht
      exact E.slot j t ht
  · have nj : i ≠ j := fun z => by
      subst z
      have hlt : i < (ρ.set i s).length := (List.getElem?_eq_some_iff.mp hj).1
      rw [List.length_set] at hlt
      rw [List.getElem?_set_self hlt] at hj
      cases hj
      rw [hm] at mj; cases mj
    have nk : i ≠ k := fun z => by
      subst z
      have hlt : i < (ρ.set i s).length := (List.getElem?_eq_some_iff.mp hk).1
      rw [List.length_set] at hlt
      rw [List.getElem?_set_self hlt] at hk
      cases hk
      rw [hm] at mk; cases mk
    rw [List.getElem?_set_ne nj] at hj
    rw [List.getElem?_set_ne nk] at hk
    exact E.dis j k sj sk hj hk mj mk he
theorem mut_not {G B S σ H ρ} (E : EnvR G B S σ H ρ) {i : Nat} {c : Cont} (h : ρ[i]? = some (.ow c)) {a : Addr} (ha : σ[i]? = some (some (.ref a))) : ∀ (j : Nat) s, (ρ.set i .un)[j]? = some s → s.mut = true → σ[j]? ≠ some (some (.ref a)) := by
  intro j s hj hm z
  by_cases e : i = j
  · subst e
    have hlt := (List.getElem?_eq_some_iff.mp h).1
    rw [List.getElem?_set_self hlt] at hj
    cases hj
    cases hm
  · rw [List.getElem?_set_ne e] at hj
    exact e (E.dis i j _ _ h hj rfl hm (by rw [ha, z]))
theorem se_var {G c e i} (h : IsV c e i) : SE G c e (dVar i) := fun X W C tk => PE.imp (isv_pe h C) (by
  rintro σ H Q ⟨B, S, ρ, E, hp⟩
  unfold dVar at hp
  cases hs : ρ[i]? with
  | none => rw [hs] at hp; exact hp.elim
  | some s =>
    rw [hs] at hp
    have q := E.slot i s hs
    cases s with
    | un => exact hp.elim
    | io _ => exact hp.elim
    | sh d =>
      obtain ⟨v, h1, h2⟩ := q
      exact ⟨v, h1, hp S H v E (Ex.refl _) h2⟩
    | ow ct =>
      cases ct with
      | M _ => exact hp.elim
      | L ds =>
        obtain ⟨a, o, h1, h2, h3, h4, h5⟩ := q
        have E1 : EnvR G B S σ H (ρ.set i .un) := E.setSlot i .un rfl trivial
        obtain ⟨S', E2, x, r⟩ := frz_ok (rv := .ow (.L ds)) (v := .ref a) E1 ⟨a, o, rfl, h2, h3, h4, h5, mut_not E hs h1⟩ rfl
        have E3 := E2.setSlot i (.sh (.list ds)) rfl ⟨.ref a, h1, r⟩
        rw [List.set_set] at E3
        exact ⟨.ref a, h1, hp S' H (.ref a) E3 x r⟩)
theorem se_move {G c e i} (h : IsV c e i) : SE G c e (dMove i) := fun X W C tk => PE.imp (isv_pe h C) (by
  rintro σ H Q ⟨B, S, ρ, E, hp⟩
  unfold dMove at hp
  cases hs : ρ[i]? with
  | none => rw [hs] at hp; exact hp.elim
  | some s =>
    rw [hs] at hp
    have q := E.slot i s hs
    cases s with
    | un => exact hp.elim
    | io _ => exact hp.elim
    | sh d =>
      obtain ⟨v, h1, h2⟩ := q
      exact ⟨v, h1, hp S H v E (Ex.refl _) h2⟩
    | ow ct =>
      obtain ⟨a, o, h1, h2, h3, h4, h5⟩ := q
      have E1 : EnvR G B S σ H (ρ.set i .un) := E.setSlot i .un rfl trivial
      exact ⟨.ref a, h1, hp S H (.ref a) E1 (Ex.refl _) ⟨a, o, rfl, h2, h3, h4, h5, mut_not E hs h1⟩⟩)

/-! ### constants -/
def dC (d : PD) : Den := fun ρ => .ok (.sh d) ρ
theorem tC_of {G W v d σ H Q} (hv : ∀ S, Rp G.K S v d) (h : tE G W (dC d) σ H Q) : tC v σ H Q := by
  obtain ⟨B, S, ρ, E, hp⟩ := h
  exact hp S H v E (Ex.refl _) (hv S)
theorem se_int {G c i j pos} : SE G c (.Constant (.int i) j pos) (dC (.int i)) := fun X W C tk => PE.imp pe_int fun σ H Q h => tC_of (fun _ => .int i) h
theorem se_bl {G c b j pos} : SE G c (.Constant (.bool b) j pos) (dC (.bool b)) := fun X W C tk => PE.imp pe_bl fun σ H Q h => tC_of (fun _ => .bl b) h
theorem se_non {G c j pos} : SE G c (.Constant .none j pos) (dC .none) := fun X W C tk => PE.imp pe_non fun σ H Q h => tC_of (fun _ => .non) h
theorem se_str {G c x j pos} : SE G c (.Constant (.str x) j pos) (dC (.str x)) := fun X W C tk => PE.imp pe_str fun σ H Q h => tC_of (fun _ => .str x) h
/-- a name of the module or a built-in one -/
def GlC (c : SC) (x : Str) : Prop := c.sc.names.lookup x = some .globalImplicit
theorem gl_of {G c X} (C : CtxOk G c X) {x : Str} (h : GlC c x) : Gl X x := by
  show X.env.scope.names.lookup x = _
  rw [C.sc]
  exact h
theorem se_glob {G c x v u d pos} (hg : GlC c x) (hm : G.mg x = some u) (r : RelV v u) (hv : ∀ S, Rp G.K S v d) (hd : (x == ("__debug__" : Str)) = false := by decide) : SE G c (.Name x pos) (dC d) :=
  fun X W C tk => PE.imp (pe_glob (gl_of C hg) (by rw [C.mg]; exact hm) r hd) fun σ H Q h => tC_of hv h

/-! ### operands -/
/-- an operand that is looked at, by the abstract heap: its items may be seen by all -/
inductive DpO (K : PySem.W.Frag) (S H : Hp) : V → PD → Prop
  | non : DpO K S H .non .none
  | bl (b : Bool) : DpO K S H (.bl b) (.bool b)
  | int (i : Int) : DpO K S H (.int i) (.int i)
  | str (x : Str) : DpO K S H (.str x) (.str x)
  | lst {a : Addr} {xs : List V} {ds : List PD} : H a = some (.lst xs) → RpAll K S xs ds → DpO K S H (.ref a) (.list ds)
  | scr {a : Addr} {ns : List Int} {kvs : List (PD × PD)} : scrOf kvs = some ns → SqL K H a (ns.map V.int) → DpO K S H (.ref a) (.dict kvs)
  | tup {a : Addr} {xs : List V} {ds : List PD} : SqT K S a xs → RpAll K S xs ds → DpO K S H (.ref a) (.tuple ds)
theorem dpo_of {K S H v d} (h : Rp K S v d) (e : Ex S H) : DpO K S H v d := by
  cases h with
  | non => exact .non
  | bl b => exact .bl b
  | int i => exact .int i
  | str x => exact .str x
  | lst h1 h2 => exact .lst (e _ _ h1) h2
  | scr h0 h1 => exact .scr h0 (ex_l e h1)
  | tup h1 h2 => exact .tup h1 h2
theorem DpO.rp {K S H v d} (h : DpO K S H v d) (e : Ex S H) : Rp K H v d := by
  cases h with
  | non => exact .non
  | bl b => exact .bl b
  | int i => exact .int i
  | str x => exact .str x
  | lst h1 h2 => exact .lst h1 (rps_mono e _ h2)
  | scr h0 h1 => exact .scr h0 h1
  | tup h1 h2 => exact .tup (ex_t e h1) (rps_mono e _ h2)
def rdv (ρ : PEnv) (i : Nat) : Option PD := match ρ[i]? with
  | some (.sh d) => some d
  | some (.ow (.L ds)) => some (.list ds)
  | some (.io (.L ds)) => some (.list ds)
  | _ => none
theorem rdv_ok {G B S σ H ρ i d} (E : EnvR G B S σ H ρ) (h : rdv ρ i = some d) : ∃ v, σ[i]? = some (some v) ∧ DpO G.K S H v d := by
  unfold rdv at h
  cases hs : ρ[i]? with
  | none => rw [hs] at h; cases h
  | some s =>
    rw [hs] at h
    have q := E.slot i s hs
    cases s with
    | un => cases h
    | sh d' =>
      cases h
      obtain ⟨v, h1, h2⟩ := q
      exact ⟨v, h1, dpo_of h2 E.sub⟩
    | ow ct =>
      cases ct with
      | M _ => cases h
      | L ds =>
        cases h
        obtain ⟨a, o, h1, h2, ⟨vs, rfl, h3⟩, h4, h5⟩ := q
        exact ⟨.ref a, h1, .lst h2 h3⟩
    | io ct =>
      cases ct with
      | M _ => cases h
      | L ds =>
        cases h
        obtain ⟨a, o, h1, h2, ⟨vs, rfl, h3⟩, h4⟩ := q
        exact ⟨.ref a, h1, .lst h2 h3⟩

inductive Opn where
  | b (i : Nat)
  | e (m : Den)
/-- the operand, then k with a look at it -/
def Opn.go {α : Type} (o : Opn) (k : (PEnv → Option PD) → PEnv → Res α) : PEnv → Res α := match o with
  | .b i => fun ρ => match rdv ρ i with
    | some _ => k (fun ρ' => rdv ρ' i) ρ
    | none => .no
  | .e m => fun ρ => (m ρ).bind fun rv ρ1 => match rv.frz with
    | some d => k (fun _ => some d) ρ1
    | none => .no
def SO (G : GC) (c : SC) (e : Expr) : Opn → Prop
  | .b i => IsV c e i
  | .e m => SE G c e m
def tO (G : GC) (W : WX) : Opn → TE
  | .b i => tVar i
  | .e m => tE G W m
theorem so_pe {G c e o} (h : SO G c e o) {X W} (C : CtxOk G c X) (tk : Takes X W) : PE X e (tO G W o) := by
  cases o with
  | b i => exact isv_pe h C
  | e m => exact h X W C tk
def MonoF {α : Type} (F : FinT α) : Prop := ∀ a ρ S S', Ex S S' → F S a ρ → F S' a ρ
theorem monoFE {G B σ Q} : MonoF (FE G B σ Q) := fun _ _ _ _ x f _ _ _ E y => f _ _ _ E (x.trans y)
theorem monoFT {G B σ Q} : MonoF (FT G B σ Q) := fun _ _ _ _ x f _ _ E y => f _ _ E (x.trans y)
theorem monoFA {G B σ Q} : MonoF (FA G B σ Q) := fun _ _ _ _ x f _ _ _ E y => f _ _ _ E (x.trans y)
theorem monoFS {G B D} : MonoF (FS G B D) := fun f _ _ _ x h => by
  cases f with
  | nx => exact fun _ _ _ E y => h _ _ _ E (x.trans y)
  | bk => exact fun _ _ _ E y => h _ _ _ E (x.trans y)
  | ct => exact fun _ _ _ E y => h _ _ _ E (x.trans y)
  | rt rv => exact fun _ _ _ _ E y => h _ _ _ _ E (x.trans y)
/-- what an operand's value is, from now on -/
def Sees (G : GC) (B : Bse) (σ : L2.St) (S : Hp) (x : V) (g : PEnv → Option PD) : Prop := ∀ ρ2 S2 H2 d, EnvR G B S2 σ H2 ρ2 → Ex S S2 → g ρ2 = some d → DpO G.K S2 H2 x d
theorem Sees.mono {G B σ S S' x g} (h : Sees G B σ S x g) (e : Ex S S') : Sees G B σ S' x g := fun ρ2 S2 H2 d E y q => h ρ2 S2 H2 d E (e.trans y) q
theorem so_go {G B W} {o : Opn} {α : Type} {F : FinT α} {k : (PEnv → Option PD) → PEnv → Res α} {σ : L2.St} {H S : Hp} {ρ : PEnv} {Q : VK} (mF : MonoF F) (E : EnvR G B S σ H ρ) (h : Post G B W F S (o.go k ρ))
    (hk : ∀ g ρ1 S1 H1 x, EnvR G B S1 σ H1 ρ1 → Ex S S1 → Post G B W F S1 (k g ρ1) → Sees G B σ S1 x g → Q x H1) : tO G W o σ H Q := by
  cases o with
  | b i =>
    show tVar i σ H Q
    unfold Opn.go at h
    cases hr : rdv ρ i with
    | none => simp only [hr] at h; exact h.elim
    | some d =>
      simp only [hr] at h
      obtain ⟨v, h1, h2⟩ := rdv_ok E hr
      refine ⟨v, h1, hk _ ρ S H v E (Ex.refl _) h fun ρ2 S2 H2 d2 E2 y q => ?_⟩
      obtain ⟨v2, h3, h4⟩ := rdv_ok E2 q
      rw [h1] at h3
      cases h3
      exact h4
  | e m =>
    show tE G W m σ H Q
    refine ⟨B, S, ρ, E, Post.bind (F' := F) h fun rv ρ1 h1 => ?_⟩
    intro S1 H1 v E1 y R
    cases hf : rv.frz with
    | none => simp only [hf] at h1; exact h1.elim
    | some d =>
      simp only [hf] at h1
      obtain ⟨S2, E2, z, r⟩ := frz_ok E1 R hf
      exact hk _ ρ1 S2 H1 v E2 (y.trans z) (Post.mono mF (y.trans z) h1) fun ρ2 S3 H3 d2 E3 y2 q => by
        cases q
        exact dpo_of (rp_mono y2 _ r) E3.sub

/-- the end of a reckoning: a result -/
def fin (o : Option RV) (ρ : PEnv) : Res RV := match o with
  | some rv => .ok rv ρ
  | none => .no
def op2 (f : PD → PD → Option RV) (a b : Opn) : Den := a.go fun g => b.go fun g' ρ => match g ρ, g' ρ with
  | some d, some e => fin (f d e) ρ
  | _, _ => .no
def op1 (f : PD → Option RV) (a : Opn) : Den := a.go fun g ρ => match g ρ with
  | some d => fin (f d) ρ
  | none => .no
/-- an operation on two values keeps to f -/
def Is2 (G : GC) (r : R2) (f : PD → PD → Option RV) : Prop := ∀ B S H σ ρ x y dx dy rv Q, EnvR G B S σ H ρ → DpO G.K S H x dx → DpO G.K S H y dy → f dx dy = some rv →
  (∀ S' H' v, EnvR G B S' σ H' ρ → Ex S S' → RVR G B S' H' σ ρ v rv → Q v H') → r x y H Q
def Is1 (G : GC) (r : V → Hp → VK → Prop) (f : PD → Option RV) : Prop := ∀ B S H σ ρ x dx rv Q, EnvR G B S σ H ρ → DpO G.K S H x dx → f dx = some rv →
  (∀ S' H' v, EnvR G B S' σ H' ρ → Ex S S' → RVR G B S' H' σ ρ v rv → Q v H') → r x H Q
theorem op2_t {G W a b f r σ H Q} (hf : Is2 G r f) (h : tE G W (op2 f a b) σ H Q) : tOp r (tO G W a) (tO G W b) σ H Q := by
  obtain ⟨B, S, ρ, E, hp⟩ := h
  refine so_go monoFE E hp fun g ρ1 S1 H1 x E1 y1 hp1 s1 => so_go monoFE E1 hp1 fun g' ρ2 S2 H2 z E2 y2 hp2 s2 => ?_
  cases e1 : g ρ2 with
  | none => simp only [e1] at hp2; exact hp2.elim
  | some d =>
    cases e2 : g' ρ2 with
    | none => simp only [e1, e2] at hp2; exact hp2.elim
    | some e =>
      simp only [e1, e2] at hp2
      cases e3 : f d e with
      | none => rw [e3] at hp2; exact hp2.elim
      | some rv =>
        rw [e3] at hp2
        exact hf B S2 H2 σ ρ2 x z d e rv Q E2 (s1 _ _ _ _ E2 y2 e1) (s2 _ _ _ _ E2 (Ex.refl _) e2) e3 hp2
theorem op1_t {G W a f r σ H Q} (hf : Is1 G r f) (h : tE G W (op1 f a) σ H Q) : tUn r (tO G W a) σ H Q := by
  obtain ⟨B, S, ρ, E, hp⟩ := h
  refine so_go monoFE E hp fun g ρ1 S1 H1 x E1 y1 hp1 s1 => ?_
  cases e1 : g ρ1 with
  | none => simp only [e1] at hp1; exact hp1.elim
  | some d =>
    simp only [e1] at hp1
    cases e3 : f d with
    | none => rw [e3] at hp1; exact hp1.elim
    | some rv =>
      rw [e3] at hp1
      exact hf B S1 H1 σ ρ1 x d rv Q E1 (s1 _ _ _ _ E1 (Ex.refl _) e1) e3 hp1

/-! ### new objects -/
theorem own_new {G B S σ H ρ p o c} (E : EnvR G B S σ H ρ) (hp : H p = none) (hc : ContO G S p o c) : EnvR G B S σ (upd H p o) ρ ∧ RVR G B S (upd H p o) σ ρ (.ref p) (.ow c) := by
  refine ⟨E.step (Step.own E.sub hp), p, o, rfl, upd_same, hc, E.sub.free hp, E.H0_none hp, fun i s hs hm z => ?_⟩
  have q := E.slot i s hs
  cases s with
  | un => cases hm
  | sh _ => cases hm
  | ow c =>
    obtain ⟨a, o, h1, h2, _⟩ := q
    rw [h1] at z
    cases z
    rw [hp] at h2; cases h2
  | io c =>
    obtain ⟨a, o, h1, h2, _⟩ := q
    rw [h1] at z
    cases z
    rw [hp] at h2; cases h2
theorem tup_new {G B S σ H ρ p vs ds} (E : EnvR G B S σ H ρ) (hp : H p = none) (hc : RpAll G.K S vs ds) : EnvR G B (upd S p (.tup vs)) σ (upd H p (.tup vs)) ρ ∧ Ex S (upd S p (.tup vs)) ∧ Rp G.K (upd S p (.tup vs)) (.ref p) (.tuple ds) := by
  have x : Ex S (upd S p (.tup vs)) := Ex.new (E.sub.free hp)
  exact ⟨E.step (Step.alloc E.sub hp), x, .tup (.inl (.inl upd_same)) (rps_mono x _ hc)⟩

end DL
/-! DL, part c: operators, comparisons, tests, subscripts, displays -/
namespace DL
open PySem PySem.Spec PyProof.Rows L2
variable {G : GC} {c : SC}
theorem Is2.imp {r r' : R2} {f : PD → PD → Option RV} (h : Is2 G r f) (i : ∀ x y H Q, r x y H Q → r' x y H Q) : Is2 G r' f := fun B S H σ ρ x y dx dy rv Q E a b e q => i _ _ _ _ (h B S H σ ρ x y dx dy rv Q E a b e q)
/-- a plain value comes back -/
theorem is2_end {B S H σ ρ d v rv} {Q : VK} (E : EnvR G B S σ H ρ) (r : ∀ S, Rp G.K S v d) (e : some (RV.sh d) = some rv) (q : ∀ S' H' v, EnvR G B S' σ H' ρ → Ex S S' → RVR G B S' H' σ ρ v rv → Q v H') : Q v H := by
  cases e
  exact q S H v E (Ex.refl _) (r S)
theorem rpall_len {K H} {vs : List V} {ds : List PD} (h : RpAll K H vs ds) : vs.length = ds.length := RpAll.length h

def addD : PD → PD → Option RV
  | .int i, .int j => some (.sh (.int (i + j)))
  | .str x, .str y => if x.length + y.length ≤ 1000000 then some (.sh (.str (x ++ y))) else none
  | .list xs, .list ys => if xs.length + ys.length ≤ 1000000 then some (.ow (.L (xs ++ ys))) else none
  | .tuple xs, .tuple ys => if xs.length + ys.length ≤ 1000000 then some (.sh (.tuple (xs ++ ys))) else none
  | _, _ => none
theorem line_le {n : Nat} (h : n ≤ 1000000) : n ≤ sizeLine := by rw [sizeLine_eq]; omega
def rAddD (K : PySem.W.Frag) : R2 := fun x y H Q => rI0 (fun i j => .int (i + j)) x y H Q ∨ (∃ i j, x = .str i ∧ y = .str j ∧ i.length + j.length ≤ sizeLine ∧ Q (.str (i ++ j)) H) ∨ rCat x y H Q ∨ rCatA K x y H Q
theorem op_addD {X : Cx} : OpR X (binaryOp .Add) (rAddD X.K) := op_add.or (op_add_str.or (op_cat.or op_catA))
theorem is_add : Is2 G (rAddD G.K) addD := by
  intro B S H σ ρ x y dx dy rv Q E hx hy e q
  cases hx with
  | non => cases hy <;> cases e
  | bl _ => cases hy <;> cases e
  | scr _ _ => cases hy <;> cases e
  | int i =>
    cases hy with
    | int j => exact .inl ⟨i, j, rfl, rfl, is2_end E (fun _ => .int _) e q⟩
    | _ => cases e
  | str i =>
    cases hy with
    | str j =>
      simp only [addD] at e
      by_cases hz : i.length + j.length ≤ 1000000
      · rw [if_pos hz] at e
        exact .inr (.inl ⟨i, j, rfl, rfl, line_le hz, is2_end E (fun _ => .str _) e q⟩)
      · rw [if_neg hz] at e
        cases e
    | _ => cases e
  | @lst a xs ds h1 h2 =>
    cases hy with
    | @lst b ys es h3 h4 =>
      simp only [addD] at e
      by_cases hz : ds.length + es.length ≤ 1000000
      · rw [if_pos hz] at e
        cases e
        refine .inr (.inr (.inl ⟨a, b, xs, ys, rfl, rfl, h1, h3, line_le (by rw [rpall_len h2, rpall_len h4]; exact hz), fun p hp => ?_⟩))
        obtain ⟨E1, r⟩ := own_new (c := .L (ds ++ es)) (o := .lst (xs ++ ys)) E hp ⟨_, rfl, h2.append h4⟩
        exact q _ _ _ E1 (Ex.refl _) r
      · rw [if_neg hz] at e
        cases e
    | _ => cases e
  | @tup a xs ds h1 h2 =>
    cases hy with
    | @tup b ys es h3 h4 =>
      simp only [addD] at e
      by_cases hz : ds.length + es.length ≤ 1000000
      · rw [if_pos hz] at e
        cases e
        refine .inr (.inr (.inr ⟨a, b, xs, ys, rfl, rfl, ex_t E.sub h1, ex_t E.sub h3, line_le (by rw [rpall_len h2, rpall_len h4]; exact hz), fun hn => ?_, fun _ hn => ?_, fun _ _ p hp => ?_⟩))
        · subst hn
          cases h2
          exact q S H _ E (Ex.refl _) (.tup h3 h4)
        · subst hn
          cases h4
          rw [List.append_nil] at q
          exact q S H _ E (Ex.refl _) (.tup h1 h2)
        · obtain ⟨E1, x1, r⟩ := tup_new E hp (h2.append h4)
          exact q _ _ _ E1 x1 r
      · rw [if_neg hz] at e
        cases e
    | _ => cases e

/-! ### whole numbers -/
def intOp (C : Int → Int → Prop) [DecidableRel C] (g : Int → Int → Int) : PD → PD → Option RV
  | .int i, .int j => if C i j then some (.sh (.int (g i j))) else none
  | _, _ => none
theorem is_intOp {C C' : Int → Int → Prop} [DecidableRel C] {g : Int → Int → Int} (hC : ∀ i j, C i j → C' i j) : Is2 G (rI C' fun i j => .int (g i j)) (intOp C g) := by
  intro B S H σ ρ x y dx dy rv Q E hx hy e q
  cases hx with
  | int i =>
    cases hy with
    | int j =>
      simp only [intOp] at e
      by_cases hc : C i j
      · rw [if_pos hc] at e
        exact ⟨i, j, rfl, rfl, hC i j hc, is2_end E (fun _ => .int _) e q⟩
      · rw [if_neg hc] at e
        cases e
    | _ => cases e
  | _ => cases hy <;> cases e
def subD : PD → PD → Option RV
  | .int i, .int j => some (.sh (.int (i - j)))
  | _, _ => none
theorem is_sub : Is2 G (rI0 fun i j => .int (i - j)) subD := by
  intro B S H σ ρ x y dx dy rv Q E hx hy e q
  cases hx with
  | int i =>
    cases hy with
    | int j => exact ⟨i, j, rfl, rfl, is2_end E (fun _ => .int _) e q⟩
    | _ => cases e
  | _ => cases hy <;> cases e
/-- two factors: one small, or both together not too great -/
def MulOk (i j : Int) : Prop := ((-18446744073709551616 < i ∧ i < 18446744073709551616) ∨ (-18446744073709551616 < j ∧ j < 18446744073709551616)) ∨ i.natAbs.log2 + j.natAbs.log2 < 1000000
instance : DecidableRel MulOk := fun i j => by unfold MulOk; infer_instance
theorem MulOk.ok {i j : Int} (h : MulOk i j) : IntMulOk i j := by
  rcases h with h | h
  · exact CMul.ok h
  · exact CMulW.ok h
def mulD : PD → PD → Option RV
  | .int i, .int j => if MulOk i j then some (.sh (.int (i * j))) else none
  | .list xs, .int k => if k ≤ 1000000 ∧ -1000000 ≤ k ∧ xs.length * k.toNat ≤ 1000000 then some (.ow (.L (List.replicate k.toNat xs).flatten)) else none
  | .tuple xs, .int k => if xs ≠ [] ∧ 2 ≤ k ∧ k ≤ 1000 ∧ xs.length ≤ 1000 then some (.sh (.tuple (List.replicate k.toNat xs).flatten)) else none
  | _, _ => none
def rMulD (K : PySem.W.Frag) : R2 := fun x y H Q => rI (fun i j => IntMulOk i j) (fun i j => .int (i * j)) x y H Q ∨ rRep x y H Q ∨ rRepT K x y H Q
theorem op_mulI {X : Cx} : OpR X (binaryOp .Mult) (rI (fun i j => IntMulOk i j) fun i j => .int (i * j)) := opI fun _ _ _ _ _ _ _ hc q => mul_int q hc
theorem op_mulD {X : Cx} : OpR X (binaryOp .Mult) (rMulD X.K) := op_mulI.or (op_rep.or op_repT)
theorem rpall_rep {K H} {vs : List V} {ds : List PD} (h : RpAll K H vs ds) : ∀ n : Nat, RpAll K H (List.replicate n vs).flatten (List.replicate n ds).flatten
  | 0 => .nil
  | n + 1 => by
    rw [List.replicate_succ, List.replicate_succ, List.flatten_cons, List.flatten_cons]
    exact h.append (rpall_rep h n)
theorem is_mul : Is2 G (rMulD G.K) mulD := by
  intro B S H σ ρ x y dx dy rv Q E hx hy e q
  cases hx with
  | int i =>
    cases hy with
    | int j =>
      simp only [mulD] at e
      by_cases hc : MulOk i j
      · rw [if_pos hc] at e
        exact .inl ⟨i, j, rfl, rfl, hc.ok, is2_end E (fun _ => .int _) e q⟩
      · rw [if_neg hc] at e
        cases e
    | _ => cases e
  | @lst a xs ds h1 h2 =>
    cases hy with
    | int k =>
      simp only [mulD] at e
      by_cases hc : k ≤ 1000000 ∧ -1000000 ≤ k ∧ ds.length * k.toNat ≤ 1000000
      · rw [if_pos hc] at e
        cases e
        refine .inr (.inl ⟨a, k, xs, rfl, rfl, h1, by omega, by omega, line_le (by rw [rpall_len h2]; exact hc.2.2), fun p hp => ?_⟩)
        obtain ⟨E1, r⟩ := own_new (c := .L (List.replicate k.toNat ds).flatten) (o := .lst (List.replicate k.toNat xs).flatten) E hp ⟨_, rfl, rpall_rep h2 _⟩
        exact q _ _ _ E1 (Ex.refl _) r
      · rw [if_neg hc] at e
        cases e
    | _ => cases e
  | @tup a xs ds h1 h2 =>
    cases hy with
    | int k =>
      simp only [mulD] at e
      by_cases hc : ds ≠ [] ∧ 2 ≤ k ∧ k ≤ 1000 ∧ ds.length ≤ 1000
      · rw [if_pos hc] at e
        cases e
        refine .inr (.inr ⟨a, k, xs, rfl, rfl, ex_t E.sub h1, fun z => hc.1 ?_, hc.2.1, hc.2.2.1, by rw [rpall_len h2]; exact hc.2.2.2, fun p hp => ?_⟩)
        · subst z
          cases h2
          rfl
        · obtain ⟨E1, x1, r⟩ := tup_new E hp (rpall_rep h2 k.toNat)
          exact q _ _ _ E1 x1 r
      · rw [if_neg hc] at e
        cases e
    | _ => cases e
  | _ => cases hy <;> cases e
/-- // : by a positive number, or by a small one that is not 0 -/
def fdivD : PD → PD → Option RV
  | .int i, .int j => if 0 < j ∧ j.natAbs.log2 < 9000 then some (.sh (.int (i / j))) else if j ≠ 0 ∧ j.natAbs < 1073741824 then some (.sh (.int (i.fdiv j))) else none
  | _, _ => none
def rFdiv : R2 := fun x y H Q => rI CDivW (fun i j => .int (i / j)) x y H Q ∨ rI CDivN (fun i j => .int (i.fdiv j)) x y H Q
theorem op_fdivD {X : Cx} : OpR X (binaryOp .FloorDiv) rFdiv := op_fdivW.or op_fdivN
theorem is_fdiv : Is2 G rFdiv fdivD := by
  intro B S H σ ρ x y dx dy rv Q E hx hy e q
  cases hx with
  | int i =>
    cases hy with
    | int j =>
      simp only [fdivD] at e
      by_cases hc : 0 < j ∧ j.natAbs.log2 < 9000
      · rw [if_pos hc] at e
        exact .inl ⟨i, j, rfl, rfl, hc, is2_end E (fun _ => .int _) e q⟩
      · rw [if_neg hc] at e
        by_cases hc : j ≠ 0 ∧ j.natAbs < 1073741824
        · rw [if_pos hc] at e
          exact .inr ⟨i, j, rfl, rfl, hc, is2_end E (fun _ => .int _) e q⟩
        · rw [if_neg hc] at e
          cases e
    | _ => cases e
  | _ => cases hy <;> cases e
def modD : PD → PD → Option RV := intOp (fun _ j => 0 < j) fun i j => i % j
theorem is_mod : Is2 G (rI (fun _ j => 0 < j) fun i j => .int (i % j)) modD := is_intOp fun _ _ h => h
def PowOk (i j : Int) : Prop := 0 ≤ j ∧ j ≤ 1000000 ∧ i.natAbs < 18446744073709551616
instance : DecidableRel PowOk := fun i j => by unfold PowOk; infer_instance
def powD : PD → PD → Option RV := intOp PowOk fun i j => i ^ j.toNat
theorem is_pow : Is2 G (rI CPow fun i j => .int (i ^ j.toNat)) powD := is_intOp fun _ _ h => h
def shrD : PD → PD → Option RV := intOp (fun _ j => 0 ≤ j) fun i j => i / 2 ^ j.toNat
theorem is_shr : Is2 G (rI (fun _ j => 0 ≤ j) fun i j => .int (i / 2 ^ j.toNat)) shrD := is_intOp fun _ _ h => h
def xorD : PD → PD → Option RV
  | .int i, .int j => some (.sh (.int (Builtin.bitXor i j)))
  | _, _ => none
theorem is_xor : Is2 G (rI0 fun i j => .int (Builtin.bitXor i j)) xorD := by
  intro B S H σ ρ x y dx dy rv Q E hx hy e q
  cases hx with
  | int i =>
    cases hy with
    | int j => exact ⟨i, j, rfl, rfl, is2_end E (fun _ => .int _) e q⟩
    | _ => cases e
  | _ => cases hy <;> cases e
theorem se_bin {a b : Expr} {oa ob : Opn} {op : Operator} {r : PySem.W.Frag → R2} {f : PD → PD → Option RV} {pos : Pos} (ho : ∀ X : Cx, OpR X (binaryOp op) (r X.K)) (hf : Is2 G (r G.K) f) (ha : SO G c a oa) (hb : SO G c b ob) : SE G c (.BinOp a op b pos) (op2 f oa ob) :=
  fun X W C tk => PE.imp (pe_op (ho X) (so_pe ha C tk) (so_pe hb C tk)) fun σ H Q h => op2_t (by rw [C.K]; exact hf) h
section
variable {a b : Expr} {oa ob : Opn} {pos : Pos}
theorem se_add (ha : SO G c a oa) (hb : SO G c b ob) : SE G c (.BinOp a .Add b pos) (op2 addD oa ob) := se_bin (r := rAddD) (fun _ => op_addD) is_add ha hb
theorem se_sub (ha : SO G c a oa) (hb : SO G c b ob) : SE G c (.BinOp a .Sub b pos) (op2 subD oa ob) := se_bin (r := fun _ => _) (fun _ => op_sub) is_sub ha hb
theorem se_mul (ha : SO G c a oa) (hb : SO G c b ob) : SE G c (.BinOp a .Mult b pos) (op2 mulD oa ob) := se_bin (r := rMulD) (fun _ => op_mulD) is_mul ha hb
theorem se_fdiv (ha : SO G c a oa) (hb : SO G c b ob) : SE G c (.BinOp a .FloorDiv b pos) (op2 fdivD oa ob) := se_bin (r := fun _ => _) (fun _ => op_fdivD) is_fdiv ha hb
theorem se_mod (ha : SO G c a oa) (hb : SO G c b ob) : SE G c (.BinOp a .Mod b pos) (op2 modD oa ob) := se_bin (r := fun _ => _) (fun _ => op_mod) is_mod ha hb
theorem se_pow (ha : SO G c a oa) (hb : SO G c b ob) : SE G c (.BinOp a .Pow b pos) (op2 powD oa ob) := se_bin (r := fun _ => _) (fun _ => op_pow) is_pow ha hb
theorem se_shr (ha : SO G c a oa) (hb : SO G c b ob) : SE G c (.BinOp a .RShift b pos) (op2 shrD oa ob) := se_bin (r := fun _ => _) (fun _ => op_shr) is_shr ha hb
theorem se_xor (ha : SO G c a oa) (hb : SO G c b ob) : SE G c (.BinOp a .BitXor b pos) (op2 xorD oa ob) := se_bin (r := fun _ => _) (fun _ => op_xor) is_xor ha hb
end
def negD : PD → Option RV
  | .int i => some (.sh (.int (-i)))
  | _ => none
theorem is_neg : Is1 G (rU fun i => .int (-i)) negD := by
  intro B S H σ ρ x dx rv Q E hx e q
  cases hx with
  | int i => exact ⟨i, rfl, is2_end E (fun _ => .int _) e q⟩
  | _ => cases e
theorem se_neg {a : Expr} {oa : Opn} {pos : Pos} (ha : SO G c a oa) : SE G c (.UnaryOp .USub a pos) (op1 negD oa) :=
  fun X W C tk => PE.imp (pe_un un_neg (so_pe ha C tk)) fun σ H Q h => op1_t is_neg h

/-! ### comparisons -/
def cmpD (p : Int → Int → Bool) : PD → PD → Option RV
  | .int i, .int j => some (.sh (.bool (p i j)))
  | _, _ => none
theorem is_cmp {p : Int → Int → Bool} : Is2 G (rI0 fun i j => .bl (p i j)) (cmpD p) := by
  intro B S H σ ρ x y dx dy rv Q E hx hy e q
  cases hx with
  | int i =>
    cases hy with
    | int j => exact ⟨i, j, rfl, rfl, is2_end E (fun _ => .bl _) e q⟩
    | _ => cases e
  | _ => cases hy <;> cases e
def eqD (d e : PD) : Option RV := if SeqAt.shaped d = true ∧ SeqAt.shaped e = true then some (.sh (.bool (PyData.eqv d e))) else none
def neD (d e : PD) : Option RV := if SeqAt.shaped d = true ∧ SeqAt.shaped e = true then some (.sh (.bool (!PyData.eqv d e))) else none
theorem is_eq : Is2 G (rEqD G.K) eqD := by
  intro B S H σ ρ x y dx dy rv Q E hx hy e q
  unfold eqD at e
  by_cases hc : SeqAt.shaped dx = true ∧ SeqAt.shaped dy = true
  · rw [if_pos hc] at e
    exact ⟨dx, dy, rp_dp _ (plain_shaped hc.1) (hx.rp E.sub), rp_dp _ (plain_shaped hc.2) (hy.rp E.sub), hc.1, hc.2, is2_end E (fun _ => .bl _) e q⟩
  · rw [if_neg hc] at e
    cases e
theorem is_ne : Is2 G (rNeD G.K) neD := by
  intro B S H σ ρ x y dx dy rv Q E hx hy e q
  unfold neD at e
  by_cases hc : SeqAt.shaped dx = true ∧ SeqAt.shaped dy = true
  · rw [if_pos hc] at e
    exact ⟨dx, dy, rp_dp _ (plain_shaped hc.1) (hx.rp E.sub), rp_dp _ (plain_shaped hc.2) (hy.rp E.sub), hc.1, hc.2, is2_end E (fun _ => .bl _) e q⟩
  · rw [if_neg hc] at e
    cases e
/-- a flat value: no list, no tuple -/
def flatD : PD → Bool
  | .none => true
  | .bool _ => true
  | .int _ => true
  | .str _ => true
  | _ => false
theorem flat_V {K H v d} (h : Rp K H v d) (f : flatD d = true) : flatV v = true := by
  cases h with
  | non => rfl
  | bl _ => rfl
  | int _ => rfl
  | str _ => rfl
  | lst _ _ => cases f
  | scr _ _ => cases f
  | tup _ _ => cases f
theorem flat_eq {K H v d w e} (h : Rp K H v d) (h' : Rp K H w e) (f : flatD d = true) (f' : flatD e = true) : eqV v w = PyData.eqv d e := by
  cases h with
  | lst _ _ => cases f
  | scr _ _ => cases f
  | tup _ _ => cases f
  | _ =>
    cases h' with
    | lst _ _ => cases f'
    | scr _ _ => cases f'
    | tup _ _ => cases f'
    | _ => simp [eqV, PyData.eqv]
theorem flat_all {K H} : ∀ {vs : List V} {ds : List PD}, RpAll K H vs ds → ds.all flatD = true → vs.all flatV = true
  | _, _, .nil, _ => rfl
  | _, _, .cons a t, f => by
    rw [List.all_cons, Bool.and_eq_true] at f ⊢
    exact ⟨flat_V a f.1, flat_all t f.2⟩
theorem flat_any {K H v d} (h : Rp K H v d) (f : flatD d = true) : ∀ {vs : List V} {ds : List PD}, RpAll K H vs ds → ds.all flatD = true → inV v vs = ds.any fun z => PyData.eqv z d
  | _, _, .nil, _ => rfl
  | _, _, .cons a t, g => by
    rw [List.all_cons, Bool.and_eq_true] at g
    unfold inV
    rw [List.any_cons, List.any_cons, flat_eq a h g.1 f]
    have := flat_any h f t g.2
    unfold inV at this
    rw [this]
/-- x in a list or tuple -/
def inD (neg : Bool) (d : PD) : PD → Option RV
  | .list es => if flatD d = true ∧ es.all flatD = true then some (.sh (.bool (neg != es.any fun z => PyData.eqv z d))) else if SeqAt.shaped d = true ∧ SeqAt.shaped (.list es) = true then some (.sh (.bool (neg != es.any fun z => PyData.eqv z d))) else none
  | .tuple es => if flatD d = true ∧ es.all flatD = true then some (.sh (.bool (neg != es.any fun z => PyData.eqv z d))) else none
  | _ => none
def rInA (neg : Bool) (K : PySem.W.Frag) : R2 := fun x y H Q => rIn K neg x y H Q ∨ (if neg then rNotInD K x y H Q else rInD K x y H Q)
theorem op_inA {X : Cx} (hu : X.A.units + 65 < cLine) : OpR X (compareOp .In) (rInA false X.K) := op_in_seq.or (op_inD hu)
theorem op_ninA {X : Cx} (hu : X.A.units + 65 < cLine) : OpR X (compareOp .NotIn) (rInA true X.K) := op_notIn_seq.or (op_notInD hu)
theorem xor_if (b v : Bool) : (if b then !v else v) = (b != v) := by cases b <;> cases v <;> rfl
theorem is_in {neg : Bool} : Is2 G (rInA neg G.K) (inD neg) := by
  intro B S H σ ρ x y dx dy rv Q E hx hy e q
  have rx := hx.rp E.sub
  have ry := hy.rp E.sub
  cases hy with
  | @lst a xs ds h1 h2 =>
    simp only [inD] at e
    by_cases hc : flatD dx = true ∧ ds.all flatD = true
    · rw [if_pos hc] at e
      refine .inl ⟨a, xs, rfl, .inl (SqL.of h1), flat_V rx hc.1, flat_all h2 hc.2, ?_⟩
      rw [flat_any (rp_mono (Ex.refl _) _ rx) hc.1 (rps_mono E.sub _ h2) hc.2, xor_if]
      exact is2_end E (fun _ => .bl _) e q
    · rw [if_neg hc] at e
      by_cases hs : SeqAt.shaped dx = true ∧ SeqAt.shaped (.list ds) = true
      · rw [if_pos hs] at e
        cases neg with
        | false =>
          rw [Bool.false_bne] at e
          exact .inr ⟨dx, ds, rp_dp _ (plain_shaped hs.1) rx, rp_dp _ (plain_shaped hs.2) ry, hs.1, hs.2, is2_end E (fun _ => .bl _) e q⟩
        | true =>
          rw [Bool.true_bne] at e
          exact .inr ⟨dx, ds, rp_dp _ (plain_shaped hs.1) rx, rp_dp _ (plain_shaped hs.2) ry, hs.1, hs.2, is2_end E (fun _ => .bl _) e q⟩
      · rw [if_neg hs] at e
        cases e
  | @tup a xs ds h1 h2 =>
    simp only [inD] at e
    by_cases hc : flatD dx = true ∧ ds.all flatD = true
    · rw [if_pos hc] at e
      refine .inl ⟨a, xs, rfl, .inr (ex_t E.sub h1), flat_V rx hc.1, flat_all h2 hc.2, ?_⟩
      rw [flat_any (rp_mono (Ex.refl _) _ rx) hc.1 (rps_mono E.sub _ h2) hc.2, xor_if]
      exact is2_end E (fun _ => .bl _) e q
    · rw [if_neg hc] at e
      cases e
  | _ => cases e
/-- is None, is True, is False -/
def isD (neg : Bool) : PD → PD → Option RV
  | d, .none => some (.sh (.bool (neg != match d with | .none => true | _ => false)))
  | .bool a, .bool b => some (.sh (.bool (neg != decide (a = b))))
  | _, _ => none
def rIsA (neg : Bool) : R2 := fun x y H Q => (y = .non ∧ Q (.bl (neg != decide (x = .non))) H) ∨ (∃ a b : Bool, x = .bl a ∧ y = .bl b ∧ Q (.bl (neg != decide (a = b))) H)
theorem op_isA {X : Cx} : OpR X (compareOp .Is) (rIsA false) := fun pins s σ H x y v u Q I rx ry h => by
  unfold rIsA at h
  simp only [Bool.false_bne] at h
  exact (op_isN.or op_isBl) pins s σ H x y v u Q I rx ry h
theorem op_isnA {X : Cx} : OpR X (compareOp .IsNot) (rIsA true) := fun pins s σ H x y v u Q I rx ry h => by
  unfold rIsA at h
  simp only [Bool.true_bne] at h
  exact (op_notN.or op_notBl) pins s σ H x y v u Q I rx ry h
theorem is_is {neg : Bool} : Is2 G (rIsA neg) (isD neg) := by
  intro B S H σ ρ x y dx dy rv Q E hx hy e q
  cases hy with
  | non =>
    refine .inl ⟨rfl, ?_⟩
    cases hx with
    | non => exact is2_end E (fun _ => .bl _) e q
    | _ => exact is2_end E (fun _ => .bl _) e q
  | bl b =>
    cases hx with
    | bl a => exact .inr ⟨a, b, rfl, rfl, is2_end E (fun _ => .bl _) e q⟩
    | _ => cases e
  | _ => cases hx <;> cases e
/-- a reckoning whose value is a truth, as a test -/
def tb (m : Den) : DenT := fun ρ => (m ρ).bind fun rv ρ' => match rv with
  | .sh (.bool b) => .ok b ρ'
  | _ => .no
theorem tb_t {G W m σ H} {Q : Bool → Hp → Prop} (h : tT G W (tb m) σ H Q) : tE G W m σ H fun x H' => ∃ k, x = .bl k ∧ Q k H' := by
  obtain ⟨B, S, ρ, E, hp⟩ := h
  refine ⟨B, S, ρ, E, Post.bind (F' := FT G B σ Q) hp fun rv ρ1 h1 => ?_⟩
  intro S1 H1 v E1 y R
  cases rv with
  | ow _ => exact h1.elim
  | sh d =>
    cases d with
    | bool b =>
      cases R
      exact ⟨b, rfl, h1 S1 H1 E1 y⟩
    | _ => exact h1.elim
section
variable {a b : Expr} {oa ob : Opn} {pos : Pos}
theorem se_cmpr {op : CmpOp} {r : PySem.W.Frag → R2} {f : PD → PD → Option RV} (ho : ∀ X : Cx, CtxOk G c X → OpR X (compareOp op) (r X.K)) (hf : Is2 G (r G.K) f) (hm : behindInMarks op b = false) (ha : SO G c a oa) (hb : SO G c b ob) : SE G c (.Compare a [op] [b] pos) (op2 f oa ob) :=
  fun X W C tk => PE.imp (pe_cmpR (ho X C) (so_pe ha C tk) (so_pe hb C tk) hm) fun σ H Q h => op2_t (by rw [C.K]; exact hf) h
theorem st_cmpr {op : CmpOp} {r : PySem.W.Frag → R2} {f : PD → PD → Option RV} (ho : ∀ X : Cx, CtxOk G c X → OpR X (compareOp op) (r X.K)) (hf : Is2 G (r G.K) f) (hm : behindInMarks op b = false) (ha : SO G c a oa) (hb : SO G c b ob) : ST G c (.Compare a [op] [b] pos) (tb (op2 f oa ob)) :=
  fun X W C tk => PT.imp (pt_cmpR (ho X C) (so_pe ha C tk) (so_pe hb C tk) hm) fun σ H Q h => op2_t (by rw [C.K]; exact hf) (tb_t h)
theorem cu64 {X : Cx} (C : CtxOk G c X) : X.A.units + 64 < cLine := C.room.units
abbrev ltD : PD → PD → Option RV := cmpD fun i j => decide (i < j)
abbrev leD : PD → PD → Option RV := cmpD fun i j => decide (i ≤ j)
abbrev gtD : PD → PD → Option RV := cmpD fun i j => decide (j < i)
abbrev geD : PD → PD → Option RV := cmpD fun i j => decide (j ≤ i)
theorem se_lt (ha : SO G c a oa) (hb : SO G c b ob) : SE G c (.Compare a [.Lt] [b] pos) (op2 ltD oa ob) := se_cmpr (r := fun _ => _) (fun _ _ => op_lt) is_cmp (nomark _) ha hb
theorem se_le (ha : SO G c a oa) (hb : SO G c b ob) : SE G c (.Compare a [.LtE] [b] pos) (op2 leD oa ob) := se_cmpr (r := fun _ => _) (fun _ _ => op_le) is_cmp (nomark _) ha hb
theorem se_gt (ha : SO G c a oa) (hb : SO G c b ob) : SE G c (.Compare a [.Gt] [b] pos) (op2 gtD oa ob) := se_cmpr (r := fun _ => _) (fun _ _ => op_gt) is_cmp (nomark _) ha hb
theorem se_ge (ha : SO G c a oa) (hb : SO G c b ob) : SE G c (.Compare a [.GtE] [b] pos) (op2 geD oa ob) := se_cmpr (r := fun _ => _) (fun _ _ => op_ge) is_cmp (nomark _) ha hb
theorem se_eq (ha : SO G c a oa) (hb : SO G c b ob) : SE G c (.Compare a [.Eq] [b] pos) (op2 eqD oa ob) := se_cmpr (r := rEqD) (fun _ C => op_eqD (cu64 C)) is_eq (nomark _) ha hb
theorem se_ne (ha : SO G c a oa) (hb : SO G c b ob) : SE G c (.Compare a [.NotEq] [b] pos) (op2 neD oa ob) := se_cmpr (r := rNeD) (fun _ C => op_neD (cu64 C)) is_ne (nomark _) ha hb
theorem se_is (ha : SO G c a oa) (hb : SO G c b ob) : SE G c (.Compare a [.Is] [b] pos) (op2 (isD false) oa ob) := se_cmpr (r := fun _ => _) (fun _ _ => op_isA) is_is (nomark _) ha hb
theorem se_isn (ha : SO G c a oa) (hb : SO G c b ob) : SE G c (.Compare a [.IsNot] [b] pos) (op2 (isD true) oa ob) := se_cmpr (r := fun _ => _) (fun _ _ => op_isnA) is_is (nomark _) ha hb
theorem st_lt (ha : SO G c a oa) (hb : SO G c b ob) : ST G c (.Compare a [.Lt] [b] pos) (tb (op2 ltD oa ob)) := st_cmpr (r := fun _ => _) (fun _ _ => op_lt) is_cmp (nomark _) ha hb
theorem st_le (ha : SO G c a oa) (hb : SO G c b ob) : ST G c (.Compare a [.LtE] [b] pos) (tb (op2 leD oa ob)) := st_cmpr (r := fun _ => _) (fun _ _ => op_le) is_cmp (nomark _) ha hb
theorem st_gt (ha : SO G c a oa) (hb : SO G c b ob) : ST G c (.Compare a [.Gt] [b] pos) (tb (op2 gtD oa ob)) := st_cmpr (r := fun _ => _) (fun _ _ => op_gt) is_cmp (nomark _) ha hb
theorem st_ge (ha : SO G c a oa) (hb : SO G c b ob) : ST G c (.Compare a [.GtE] [b] pos) (tb (op2 geD oa ob)) := st_cmpr (r := fun _ => _) (fun _ _ => op_ge) is_cmp (nomark _) ha hb
theorem st_eq (ha : SO G c a oa) (hb : SO G c b ob) : ST G c (.Compare a [.Eq] [b] pos) (tb (op2 eqD oa ob)) := st_cmpr (r := rEqD) (fun _ C => op_eqD (cu64 C)) is_eq (nomark _) ha hb
theorem st_ne (ha : SO G c a oa) (hb : SO G c b ob) : ST G c (.Compare a [.NotEq] [b] pos) (tb (op2 neD oa ob)) := st_cmpr (r := rNeD) (fun _ C => op_neD (cu64 C)) is_ne (nomark _) ha hb
theorem st_is (ha : SO G c a oa) (hb : SO G c b ob) : ST G c (.Compare a [.Is] [b] pos) (tb (op2 (isD false) oa ob)) := st_cmpr (r := fun _ => _) (fun _ _ => op_isA) is_is (nomark _) ha hb
theorem st_isn (ha : SO G c a oa) (hb : SO G c b ob) : ST G c (.Compare a [.IsNot] [b] pos) (tb (op2 (isD true) oa ob)) := st_cmpr (r := fun _ => _) (fun _ _ => op_isnA) is_is (nomark _) ha hb
end
end DL
/-! DL, part d: and, or, not, tests, subscripts, slices, displays, built-in calls -/
namespace DL
open PySem PySem.Spec PyProof.Rows L2
variable {G : GC} {c : SC}

/-! ### and, or, not -/
/-- a bool, then by it -/
def onB (m : Den) (k : Bool → Den) : Den := fun ρ => (m ρ).bind fun rv ρ1 => match rv with
  | .sh (.bool b) => k b ρ1
  | _ => .no
def dAnd (a b : Den) : Den := onB a fun x => if x then b else dC (.bool false)
def dOr (a b : Den) : Den := onB a fun x => if x then dC (.bool true) else b
def dNot (a : Den) : Den := onB a fun x => dC (.bool (!x))
theorem onB_t {G W m k σ H Q} (h : tE G W (onB m k) σ H Q) : tE G W m σ H fun x H1 => ∃ b, x = .bl b ∧ tE G W (k b) σ H1 Q := by
  obtain ⟨B, S, ρ, E, hp⟩ := h
  refine ⟨B, S, ρ, E, Post.bind hp fun rv ρ1 h1 => ?_⟩
  intro S1 H1 v E1 y R
  cases rv with
  | ow _ => exact h1.elim
  | sh d =>
    cases d with
    | bool b =>
      cases R
      exact ⟨b, rfl, B, S1, ρ1, E1, Post.mono monoFE y h1⟩
    | _ => exact h1.elim
theorem dC_t {G W d v σ H} {Q : VK} (r : ∀ S, Rp G.K S v d) (h : tE G W (dC d) σ H Q) : Q v H := tC_of r h
section
variable {a b : Expr} {ma mb : Den} {rest : List Expr} {pos : Pos} {op : BoolOp}
theorem se_one (h : SE G c a ma) : SE G c (.BoolOp op [a] pos) ma := fun X W C tk => pe_one (h X W C tk)
theorem se_and (ha : SE G c a ma) (hb : SE G c (.BoolOp .And (b :: rest) pos) mb) : SE G c (.BoolOp .And (a :: b :: rest) pos) (dAnd ma mb) := fun X W C tk =>
  PE.imp (pe_and (ha X W C tk) (hb X W C tk)) fun σ H Q h => by
    obtain ⟨B, S, ρ, E, hp⟩ := onB_t h
    refine ⟨B, S, ρ, E, Post.map hp fun rv ρ1 h1 => ?_⟩
    intro S1 H1 v E1 y R
    obtain ⟨x, e, q⟩ := h1 S1 H1 v E1 y R
    refine ⟨x, e, ?_⟩
    cases x with
    | true => rw [if_pos rfl] at q ⊢; exact q
    | false => rw [if_neg Bool.false_ne_true] at q ⊢; exact dC_t (fun _ => .bl _) q
theorem se_or (ha : SE G c a ma) (hb : SE G c (.BoolOp .Or (b :: rest) pos) mb) : SE G c (.BoolOp .Or (a :: b :: rest) pos) (dOr ma mb) := fun X W C tk =>
  PE.imp (pe_or (ha X W C tk) (hb X W C tk)) fun σ H Q h => by
    obtain ⟨B, S, ρ, E, hp⟩ := onB_t h
    refine ⟨B, S, ρ, E, Post.map hp fun rv ρ1 h1 => ?_⟩
    intro S1 H1 v E1 y R
    obtain ⟨x, e, q⟩ := h1 S1 H1 v E1 y R
    refine ⟨x, e, ?_⟩
    cases x with
    | true => rw [if_pos rfl] at q ⊢; exact dC_t (fun _ => .bl _) q
    | false => rw [if_neg Bool.false_ne_true] at q ⊢; exact q
theorem se_not (ha : SE G c a ma) : SE G c (.UnaryOp .Not a pos) (dNot ma) := fun X W C tk =>
  PE.imp (pe_not (ha X W C tk)) fun σ H Q h => by
    obtain ⟨B, S, ρ, E, hp⟩ := onB_t h
    refine ⟨B, S, ρ, E, Post.map hp fun rv ρ1 h1 => ?_⟩
    intro S1 H1 v E1 y R
    obtain ⟨x, e, q⟩ := h1 S1 H1 v E1 y R
    exact ⟨x, e, dC_t (fun _ => .bl _) q⟩
end
/-- tests -/
def onT {α : Type} (m : DenT) (k : Bool → PEnv → Res α) : PEnv → Res α := fun ρ => (m ρ).bind fun b ρ1 => k b ρ1
def okT (b : Bool) : DenT := fun ρ => .ok b ρ
def tAnd' (a b : DenT) : DenT := onT a fun x => if x then b else okT false
def tOr' (a b : DenT) : DenT := onT a fun x => if x then okT true else b
def tNot' (a : DenT) : DenT := onT a fun x => okT (!x)
def SW (G : GC) (c : SC) (e : Expr) (m : DenT) : Prop := ∀ X W, CtxOk G c X → Takes X W → PW X e (tT G W m)
theorem PW.imp {X : Cx} {e : Expr} {t t' : TT} (h : PW X e t) (i : ∀ σ H Q, t' σ H Q → t σ H Q) : PW X e t' := ⟨fun w p s σ H Q I q => h.run w p s σ H Q I (i σ H Q q)⟩
theorem onT_t {G W m} {k : Bool → DenT} {σ H} {Q : Bool → Hp → Prop} (h : tT G W (onT m k) σ H Q) : tT G W m σ H fun b H1 => tT G W (k b) σ H1 Q := by
  obtain ⟨B, S, ρ, E, hp⟩ := h
  refine ⟨B, S, ρ, E, Post.bind hp fun b ρ1 h1 => ?_⟩
  intro S1 H1 E1 y
  exact ⟨B, S1, ρ1, E1, Post.mono monoFT y h1⟩
theorem okT_t {G W b σ H} {Q : Bool → Hp → Prop} (h : tT G W (okT b) σ H Q) : Q b H := by
  obtain ⟨B, S, ρ, E, hp⟩ := h
  exact hp S H E (Ex.refl _)
theorem tT_mono {G W m σ H} {Q Q' : Bool → Hp → Prop} (h : tT G W m σ H Q) (i : ∀ b H1, Q b H1 → Q' b H1) : tT G W m σ H Q' := by
  obtain ⟨B, S, ρ, E, hp⟩ := h
  exact ⟨B, S, ρ, E, Post.map hp fun b ρ1 h1 S1 H1 E1 y => i _ _ (h1 S1 H1 E1 y)⟩
theorem tE_mono {G W m σ H} {Q Q' : VK} (h : tE G W m σ H Q) (i : ∀ b H1, Q b H1 → Q' b H1) : tE G W m σ H Q' := by
  obtain ⟨B, S, ρ, E, hp⟩ := h
  exact ⟨B, S, ρ, E, Post.map hp fun b ρ1 h1 S1 H1 v E1 y R => i _ _ (h1 S1 H1 v E1 y R)⟩
section
variable {a b : Expr} {ma mb : DenT} {rest : List Expr} {pos : Pos}
theorem sw_pt {e : Expr} {m : DenT} (h : SW G c e m) : ST G c e m := fun X W C tk => (h X W C tk).pt
theorem sw_and1 (ha : ST G c a ma) : SW G c (.BoolOp .And [a] pos) ma := fun X W C tk => pw_and1 (ha X W C tk)
theorem sw_or1 (ha : ST G c a ma) : SW G c (.BoolOp .Or [a] pos) ma := fun X W C tk => pw_or1 (ha X W C tk)
theorem sw_and (ha : ST G c a ma) (hb : SW G c (.BoolOp .And (b :: rest) pos) mb) : SW G c (.BoolOp .And (a :: b :: rest) pos) (tAnd' ma mb) := fun X W C tk =>
  PW.imp (pw_and (ha X W C tk) (hb X W C tk)) fun σ H Q h => tT_mono (onT_t h) fun x H1 q => by
    cases x with
    | true => rw [if_pos rfl] at q ⊢; exact q
    | false => rw [if_neg Bool.false_ne_true] at q ⊢; exact okT_t q
theorem sw_or (ha : ST G c a ma) (hb : SW G c (.BoolOp .Or (b :: rest) pos) mb) : SW G c (.BoolOp .Or (a :: b :: rest) pos) (tOr' ma mb) := fun X W C tk =>
  PW.imp (pw_or (ha X W C tk) (hb X W C tk)) fun σ H Q h => tT_mono (onT_t h) fun x H1 q => by
    cases x with
    | true => rw [if_pos rfl] at q ⊢; exact okT_t q
    | false => rw [if_neg Bool.false_ne_true] at q ⊢; exact q
theorem st_not (ha : ST G c a ma) : ST G c (.UnaryOp .Not a pos) (tNot' ma) := fun X W C tk => PT.imp (pt_not (ha X W C tk)) fun σ H Q h => tT_mono (onT_t h) fun x H1 q => okT_t q
/-- by a value's truth -/
def truD : PD → Option Bool
  | .none => some false
  | .bool b => some b
  | .int i => some (i != 0)
  | .str x => if x.length ≤ 1000000 then some ((x.length : Int) != 0) else none
  | .list xs => some !xs.isEmpty
  | .tuple xs => some !xs.isEmpty
  | .dict _ => none
def tru (o : Opn) : DenT := o.go fun g ρ => match (g ρ).bind truD with
  | some b => .ok b ρ
  | none => .no
theorem rp_isEmpty {K H} {vs : List V} {ds : List PD} (h : RpAll K H vs ds) : vs.isEmpty = ds.isEmpty := by cases h <;> rfl
theorem st_tru {o : Opn} (ha : SO G c a o) (he : ∀ env whole, isTrue a env whole = (do let v ← whole; standAt a.pos; holding [v] (truthy v)) := by intro _ _; rfl) : ST G c a (tru o) := fun X W C tk =>
  PT.imp (pt_truth (so_pe ha C tk) (he _)) fun σ H Q h => by
    obtain ⟨B, S, ρ, E, hp⟩ := h
    refine so_go monoFT E hp fun g ρ1 S1 H1 x E1 y1 hp1 s1 => ?_
    cases e1 : g ρ1 with
    | none => simp only [e1] at hp1; exact hp1.elim
    | some d =>
      have D := s1 _ _ _ _ E1 (Ex.refl _) e1
      simp only [e1, Option.bind_some] at hp1
      cases e2 : truD d with
      | none => rw [e2] at hp1; exact hp1.elim
      | some b =>
        rw [e2] at hp1
        refine ⟨b, ?_, hp1 S1 H1 E1 (Ex.refl _)⟩
        rw [C.K]
        cases D with
        | non => cases e2; rfl
        | bl _ => cases e2; rfl
        | int _ => cases e2; rfl
        | str z =>
          simp only [truD] at e2
          by_cases hz : z.length ≤ 1000000
          · rw [if_pos hz] at e2
            cases e2
            exact ⟨line_le hz, rfl⟩
          · rw [if_neg hz] at e2; cases e2
        | scr _ _ => cases e2
        | lst h1 h2 => cases e2; exact .inl ⟨_, SqL.of h1, by rw [rp_isEmpty h2]⟩
        | tup h1 h2 => cases e2; exact .inr (.inl ⟨_, ex_t E1.sub h1, by rw [rp_isEmpty h2]⟩)
/-- x if t else y -/
def dIf (t : DenT) (m n : Den) : Den := onT t fun b => if b then m else n
theorem onT_e {G W} {m : DenT} {k : Bool → Den} {σ H Q} (h : tE G W (onT m k) σ H Q) : tT G W m σ H fun b H1 => tE G W (k b) σ H1 Q := by
  obtain ⟨B, S, ρ, E, hp⟩ := h
  refine ⟨B, S, ρ, E, Post.bind hp fun b ρ1 h1 => ?_⟩
  intro S1 H1 E1 y
  exact ⟨B, S1, ρ1, E1, Post.mono monoFE y h1⟩
theorem se_if {t : Expr} {mt : DenT} {m n : Den} (ht : ST G c t mt) (ha : SE G c a m) (hb : SE G c b n) : SE G c (.IfExp t a b pos) (dIf mt m n) := fun X W C tk =>
  PE.imp (pe_ifExp (ht X W C tk) (ha X W C tk) (hb X W C tk)) fun σ H Q h => tT_mono (onT_e h) fun x H1 q => by
    cases x with
    | true => rw [if_pos rfl] at q ⊢; exact q
    | false => rw [if_neg Bool.false_ne_true] at q ⊢; exact q
end

/-! ### a < b < c -/
def opChain (f f' : PD → PD → Option RV) (a b d : Opn) : Den := a.go fun g => b.go fun g' ρ => match g ρ, g' ρ with
  | some x, some y => match f x y with
    | some (.sh (.bool true)) => (d.go fun g'' ρ2 => match g' ρ2, g'' ρ2 with
      | some y, some z => fin (f' y z) ρ2
      | _, _ => .no) ρ
    | some (.sh (.bool false)) => .ok (.sh (.bool false)) ρ
    | _ => .no
  | _, _ => .no
theorem opChain_t {G W a b d f f' r r' σ H Q} (hf : Is2 G r f) (hf' : Is2 G r' f') (h : tE G W (opChain f f' a b d) σ H Q) : tChain r r' (tO G W a) (tO G W b) (tO G W d) σ H Q := by
  obtain ⟨B, S, ρ, E, hp⟩ := h
  refine so_go monoFE E hp fun g ρ1 S1 H1 x E1 y1 hp1 s1 => so_go monoFE E1 hp1 fun g' ρ2 S2 H2 z E2 y2 hp2 s2 => ?_
  cases e1 : g ρ2 with
  | none => simp only [e1] at hp2; exact hp2.elim
  | some p =>
    cases e2 : g' ρ2 with
    | none => simp only [e1, e2] at hp2; exact hp2.elim
    | some q =>
      simp only [e1, e2] at hp2
      cases e3 : f p q with
      | none => rw [e3] at hp2; exact hp2.elim
      | some rv =>
        rw [e3] at hp2
        refine hf B S2 H2 σ ρ2 x z p q rv _ E2 (s1 _ _ _ _ E2 y2 e1) (s2 _ _ _ _ E2 (Ex.refl _) e2) e3 fun S3 H3 v E3 y3 R => ?_
        cases rv with
        | ow _ => exact hp2.elim
        | sh dd =>
          cases dd with
          | bool k =>
            cases R
            refine ⟨k, rfl, ?_⟩
            cases k with
            | false =>
              rw [if_neg Bool.false_ne_true]
              exact hp2 S3 H3 _ E3 y3 (.bl _)
            | true =>
              rw [if_pos rfl]
              refine so_go monoFE E3 (Post.mono monoFE y3 hp2) fun g'' ρ4 S4 H4 w E4 y4 hp4 s4 => ?_
              cases e4 : g' ρ4 with
              | none => simp only [e4] at hp4; exact hp4.elim
              | some q2 =>
                cases e5 : g'' ρ4 with
                | none => simp only [e4, e5] at hp4; exact hp4.elim
                | some r2 =>
                  simp only [e4, e5] at hp4
                  cases e6 : f' q2 r2 with
                  | none => rw [e6] at hp4; exact hp4.elim
                  | some rv2 =>
                    rw [e6] at hp4
                    exact hf' B S4 H4 σ ρ4 z w q2 r2 rv2 Q E4 (s2 _ _ _ _ E4 (y3.trans y4) e4) (s4 _ _ _ _ E4 (Ex.refl _) e5) e6 hp4
          | _ => exact hp2.elim
section
variable {a b d : Expr} {oa ob od : Opn} {pos : Pos} {op op' : CmpOp} {p p' : Int → Int → Bool}
theorem se_chain (ho : ∀ X : Cx, OpR X (compareOp op) (rI0 fun i j => .bl (p i j))) (ho' : ∀ X : Cx, OpR X (compareOp op') (rI0 fun i j => .bl (p' i j))) (ha : SO G c a oa) (hb : SO G c b ob) (hd : SO G c d od)
    (hm : lastMarks [op, op'] [b, d] = false := by with_unfolding_all rfl) : SE G c (.Compare a [op, op'] [b, d] pos) (opChain (cmpD p) (cmpD p') oa ob od) := fun X W C tk =>
  PE.imp (pe_chain (ho X) (ho' X) (so_pe ha C tk) (so_pe hb C tk) (so_pe hd C tk) hm) fun σ H Q h => opChain_t is_cmp is_cmp h
theorem st_chain (ho : ∀ X : Cx, OpR X (compareOp op) (rI0 fun i j => .bl (p i j))) (ho' : ∀ X : Cx, OpR X (compareOp op') (rI0 fun i j => .bl (p' i j))) (ha : SO G c a oa) (hb : SO G c b ob) (hd : SO G c d od)
    (hm : lastMarks [op, op'] [b, d] = false := by with_unfolding_all rfl) : ST G c (.Compare a [op, op'] [b, d] pos) (tb (opChain (cmpD p) (cmpD p') oa ob od)) := fun X W C tk =>
  PT.imp (pt_chain (ho X) (ho' X) (so_pe ha C tk) (so_pe hb C tk) (so_pe hd C tk) hm) fun σ H Q h => opChain_t is_cmp is_cmp (tb_t h)
end

/-! ### subscripts -/
/-- xs[i], i of any sign -/
def ixD : PD → PD → Option RV
  | .list xs, .int i => (atI xs i).map .sh
  | .tuple xs, .int i => (atI xs i).map .sh
  | .str x, .int i => if x.length ≤ 1000000 then (atI x.cps.toList i).map fun k => .sh (.str ⟨#[k]⟩) else none
  | .dict kvs, .int i => (scrOf kvs).bind fun ns => (atI ns i).map fun k => .sh (.int k)
  | _, _ => none
theorem atI_map {α β : Type} {f : α → β} {xs : List α} {i : Int} {v : α} (h : atI xs i = some v) : atI (xs.map f) i = some (f v) := by
  unfold atI at h ⊢
  rw [List.length_map]
  cases hx : ixN xs.length i with
  | none => rw [hx] at h; cases h
  | some j =>
    rw [hx] at h
    rw [Option.bind_some, List.getElem?_map]
    have h' : xs[j]? = some v := h
    rw [h']
    rfl
theorem rp_atI {K H} {vs : List V} {ds : List PD} {i : Int} {d : PD} (h : RpAll K H vs ds) (e : atI ds i = some d) : ∃ v, atI vs i = some v ∧ Rp K H v d := by
  unfold atI at e ⊢
  rw [rpall_len h]
  cases hx : ixN ds.length i with
  | none => rw [hx] at e; cases e
  | some j =>
    rw [hx] at e
    exact h.get' e
theorem is_ix : Is2 G (rIx G.K) ixD := by
  intro B S H σ ρ x y dx dy rv Q E hx hy e q
  cases hx with
  | str z =>
    cases hy with
    | int i =>
      simp only [ixD] at e
      by_cases hz : z.length ≤ 1000000
      · rw [if_pos hz] at e
        cases hk : atI z.cps.toList i with
        | none => rw [hk] at e; cases e
        | some k =>
          rw [hk] at e
          exact .inr (.inr ⟨z, i, k, rfl, rfl, line_le hz, hk, is2_end E (fun _ => .str _) e q⟩)
      · rw [if_neg hz] at e; cases e
    | _ => cases e
  | @lst a xs ds h1 h2 =>
    cases hy with
    | int i =>
      simp only [ixD] at e
      cases hk : atI ds i with
      | none => rw [hk] at e; cases e
      | some d =>
        rw [hk] at e
        cases e
        obtain ⟨v, h3, h4⟩ := rp_atI h2 hk
        exact .inl ⟨a, xs, i, v, rfl, rfl, SqL.of h1, h3, q S H v E (Ex.refl _) h4⟩
    | _ => cases e
  | @scr a ns kvs h0 h1 =>
    cases hy with
    | int i =>
      simp only [ixD, h0, Option.bind_some] at e
      cases hk : atI ns i with
      | none => rw [hk] at e; cases e
      | some k =>
        rw [hk] at e
        exact .inl ⟨a, _, i, .int k, rfl, rfl, h1, atI_map hk, is2_end E (fun _ => .int _) e q⟩
    | _ => cases e
  | @tup a xs ds h1 h2 =>
    cases hy with
    | int i =>
      simp only [ixD] at e
      cases hk : atI ds i with
      | none => rw [hk] at e; cases e
      | some d =>
        rw [hk] at e
        cases e
        obtain ⟨v, h3, h4⟩ := rp_atI h2 hk
        exact .inr (.inl ⟨a, xs, i, v, rfl, rfl, ex_t E.sub h1, h3, q S H v E (Ex.refl _) h4⟩)
    | _ => cases e
  | _ => cases hy <;> cases e
theorem se_ix {a b : Expr} {oa ob : Opn} {pos : Pos} (ha : SO G c a oa) (hb : SO G c b ob) (hs : PlainIx b := by intro _ _; rfl) : SE G c (.Subscript a b pos) (op2 ixD oa ob) := fun X W C tk =>
  PE.imp (pe_ix ix_seq (so_pe ha C tk) (so_pe hb C tk) hs) fun σ H Q h => op2_t (by rw [C.K]; exact is_ix) h

/-! ### slices -/
inductive Part where
  | no
  | at (m : Den)
def Part.go {α : Type} (p : Part) (k : Option Int → PEnv → Res α) : PEnv → Res α := match p with
  | .no => k none
  | .at m => fun ρ => (m ρ).bind fun rv ρ1 => match rv with
    | .sh (.int i) => k (some i) ρ1
    | _ => .no
def SP' (G : GC) (c : SC) : Option Expr → Part → Prop
  | none, .no => True
  | some e, .at m => SE G c e m
  | _, _ => False
def tP (G : GC) (W : WX) : Part → TO
  | .no => tNoPart
  | .at m => tPart (tE G W m)
theorem sp_po {e : Option Expr} {p : Part} (h : SP' G c e p) {X W} (C : CtxOk G c X) (tk : Takes X W) : PO X e (tP G W p) := by
  cases e with
  | none =>
    cases p with
    | no => exact po_none
    | «at» m => exact h.elim
  | some e =>
    cases p with
    | no => exact h.elim
    | «at» m => exact po_some (h X W C tk)
theorem sp_go {G B W} {p : Part} {α : Type} {F : FinT α} {k : Option Int → PEnv → Res α} {σ : L2.St} {H S : Hp} {ρ : PEnv} {Q : Option Int → Hp → Prop} (mF : MonoF F) (E : EnvR G B S σ H ρ) (h : Post G B W F S (p.go k ρ))
    (hk : ∀ i ρ1 S1 H1, EnvR G B S1 σ H1 ρ1 → Ex S S1 → Post G B W F S1 (k i ρ1) → Q i H1) : tP G W p σ H Q := by
  cases p with
  | no => exact hk none ρ S H E (Ex.refl _) h
  | «at» m =>
    show tE G W m σ H _
    refine ⟨B, S, ρ, E, Post.bind (F' := F) h fun rv ρ1 h1 => ?_⟩
    intro S1 H1 v E1 y R
    cases rv with
    | ow _ => exact h1.elim
    | sh d =>
      cases d with
      | int i =>
        cases R
        exact ⟨i, rfl, hk (some i) ρ1 S1 H1 E1 y (Post.mono mF y h1)⟩
      | _ => exact h1.elim
def cutL (ds : List PD) (lo hi : Option Int) : List PD := (ds.drop (HT.sIx ds.length 0 lo)).take (HT.sIx ds.length ds.length hi - HT.sIx ds.length 0 lo)
def slD (lo hi : Option Int) : PD → Option RV
  | .list ds => some (.ow (.L (cutL ds lo hi)))
  | .dict kvs => (scrOf kvs).map fun ns => .ow (.L (cutL (ns.map .int) lo hi))
  | .tuple ds => some (.sh (.tuple (cutL ds lo hi)))
  | _ => none
def dSl (a : Opn) (lo hi : Part) : Den := a.go fun g => lo.go fun l => hi.go fun u ρ => match g ρ with
  | some d => fin (slD l u d) ρ
  | none => .no
def rSlD (K : PySem.W.Frag) : V → Option Int → Option Int → Hp → VK → Prop := fun x lo hi H Q => rSlL K x lo hi H Q ∨ rSlA K x lo hi H Q
theorem rp_cut {K H} {vs : List V} {ds : List PD} (h : RpAll K H vs ds) (lo hi : Option Int) : RpAll K H (cutV vs lo hi) (cutL ds lo hi) := by
  unfold cutV cutL
  rw [rpall_len h]
  exact (h.drop _).take _
theorem rp_ints {K H} : ∀ ns : List Int, RpAll K H (ns.map V.int) (ns.map PyData.int)
  | [] => .nil
  | n :: ns => .cons (.int n) (rp_ints ns)
theorem cutL_whole {ds : List PD} {lo hi : Option Int} (h : HT.sIx ds.length 0 lo = 0 ∧ HT.sIx ds.length ds.length hi = ds.length) : cutL ds lo hi = ds := by
  unfold cutL
  rw [h.1, h.2]
  simp
theorem se_sl {a : Expr} {oa : Opn} {lo hi : Option Expr} {pl ph : Part} {p2 pos : Pos} (ha : SO G c a oa) (hl : SP' G c lo pl) (hh : SP' G c hi ph) : SE G c (.Subscript a (.Slice lo hi none p2) pos) (dSl oa pl ph) := fun X W C tk =>
  PE.imp (pe_slice (r := rSlD X.K) (sl_list.or sl_tupA) (so_pe ha C tk) (sp_po hl C tk) (sp_po hh C tk)) fun σ H Q h => by
    obtain ⟨B, S, ρ, E, hp⟩ := h
    refine so_go monoFE E hp fun g ρ1 S1 H1 x E1 y1 hp1 s1 => sp_go monoFE E1 hp1 fun l ρ2 S2 H2 E2 y2 hp2 => sp_go monoFE E2 hp2 fun u ρ3 S3 H3 E3 y3 hp3 => ?_
    rw [C.K]
    cases e1 : g ρ3 with
    | none => simp only [e1] at hp3; exact hp3.elim
    | some d =>
      have D := s1 _ _ _ _ E3 (y2.trans y3) e1
      simp only [e1] at hp3
      cases D with
      | @lst p xs ds h1 h2 =>
        refine .inl ⟨p, xs, rfl, SqL.of h1, fun q hq => ?_⟩
        obtain ⟨E4, r⟩ := own_new (c := .L (cutL ds l u)) (o := .lst (cutV xs l u)) E3 hq ⟨_, rfl, rp_cut h2 l u⟩
        exact hp3 _ _ _ E4 (Ex.refl _) r
      | @scr p ns kvs h0 h1 =>
        simp only [slD, h0, Option.map_some] at hp3
        refine .inl ⟨p, _, rfl, h1, fun q hq => ?_⟩
        obtain ⟨E4, r⟩ := own_new (c := .L (cutL (ns.map .int) l u)) (o := .lst (cutV (ns.map V.int) l u)) E3 hq ⟨_, rfl, rp_cut (rp_ints ns) l u⟩
        exact hp3 _ _ _ E4 (Ex.refl _) r
      | @tup p xs ds h1 h2 =>
        refine .inr ⟨p, xs, rfl, ex_t E3.sub h1, fun hw => ?_, fun hw q hq => ?_⟩
        · have hw' := hw
          rw [rpall_len h2] at hw'
          have hp4 : FE G B σ Q S3 (.sh (.tuple (cutL ds l u))) ρ3 := hp3
          rw [cutL_whole hw'] at hp4
          exact hp4 S3 H3 _ E3 (Ex.refl _) (.tup h1 h2)
        · obtain ⟨E4, x4, r⟩ := tup_new E3 hq (rp_cut h2 l u)
          exact hp3 _ _ _ E4 x4 r
      | _ => exact hp3.elim

/-! ### lists of values; displays -/
def evs : List Den → PEnv → Res (List PD)
  | [] => fun ρ => .ok [] ρ
  | m :: ms => fun ρ => (m ρ).bind fun rv ρ1 => match rv.frz with
    | some d => (evs ms ρ1).bind fun ds ρ2 => .ok (d :: ds) ρ2
    | none => .no
theorem sa_nil : SA G c [] (evs []) := fun X W C tk => PA.imp pa_nil fun σ H Q h => by
  obtain ⟨B, S, ρ, E, hp⟩ := h
  exact hp S H [] E (Ex.refl _) .nil
theorem evs_t {G W m ms σ H Q} (h : tA G W (evs (m :: ms)) σ H Q) : tCons (tE G W m) (tA G W (evs ms)) σ H Q := by
  obtain ⟨B, S, ρ, E, hp⟩ := h
  refine ⟨B, S, ρ, E, Post.bind hp fun rv ρ1 h1 => ?_⟩
  intro S1 H1 v E1 y R
  cases hf : rv.frz with
  | none => simp only [hf] at h1; exact h1.elim
  | some d =>
    simp only [hf] at h1
    obtain ⟨S2, E2, z, r⟩ := frz_ok E1 R hf
    refine ⟨B, S2, ρ1, E2, Post.bind (Post.mono monoFA (y.trans z) h1) fun ds ρ3 h3 => ?_⟩
    intro S4 H4 vs E4 y4 R4
    exact h3 S4 H4 (v :: vs) E4 y4 (.cons (rp_mono y4 _ r) R4)
theorem sa_cons {e : Expr} {es : List Expr} {m : Den} {ms : List Den} (h : SE G c e m) (hr : SA G c es (evs ms)) (hs : ∀ env, starEach (e :: es) env = (false, eval e env) :: starEach es env := by intro _; rfl) : SA G c (e :: es) (evs (m :: ms)) := fun X W C tk =>
  PA.imp (pa_cons (h X W C tk) (hr X W C tk) (hs _)) fun σ H Q h => evs_t h
def dTup (m : PEnv → Res (List PD)) : Den := fun ρ => (m ρ).bind fun ds ρ1 => if ds.length ≤ 1000000 then .ok (.sh (.tuple ds)) ρ1 else .no
def dLst (m : PEnv → Res (List PD)) : Den := fun ρ => (m ρ).bind fun ds ρ1 => if ds.length ≤ 1000000 then .ok (.ow (.L ds)) ρ1 else .no
theorem se_tup {es : List Expr} {m : PEnv → Res (List PD)} {k : Nat} {pos : Pos} (h : SA G c es m) : SE G c (.Tuple es k pos) (dTup m) := fun X W C tk => PE.imp (pe_tup (h X W C tk)) fun σ H Q hq => by
  obtain ⟨B, S, ρ, E, hp⟩ := hq
  refine ⟨B, S, ρ, E, Post.bind hp fun ds ρ1 h1 => ?_⟩
  intro S1 H1 vs E1 y R
  by_cases hz : ds.length ≤ 1000000
  · rw [if_pos hz] at h1
    refine ⟨line_le (by rw [rpall_len R]; exact hz), fun p hpn => ?_⟩
    obtain ⟨E2, x2, r⟩ := tup_new E1 hpn R
    exact h1 _ _ _ E2 (y.trans x2) r
  · rw [if_neg hz] at h1
    exact h1.elim
theorem se_lst {es : List Expr} {m : PEnv → Res (List PD)} {pos : Pos} (h : SA G c es m) : SE G c (.List es pos) (dLst m) := fun X W C tk => PE.imp (pe_lst (h X W C tk)) fun σ H Q hq => by
  obtain ⟨B, S, ρ, E, hp⟩ := hq
  refine ⟨B, S, ρ, E, Post.bind hp fun ds ρ1 h1 => ?_⟩
  intro S1 H1 vs E1 y R
  by_cases hz : ds.length ≤ 1000000
  · rw [if_pos hz] at h1
    refine ⟨line_le (by rw [rpall_len R]; exact hz), fun p hpn => ?_⟩
    obtain ⟨E2, r⟩ := own_new (c := .L ds) (o := .lst vs) E1 hpn ⟨_, rfl, R⟩
    exact h1 _ _ _ E2 y r
  · rw [if_neg hz] at h1
    exact h1.elim
end DL
/-! DL, part e: built-in calls of one or two arguments -/
namespace DL
open PySem PySem.Spec PyProof.Rows L2
variable {G : GC} {c : SC}

theorem op1_call {G W a f r σ H Q} (hf : Is1 G (fun x => r [x]) f) (h : tE G W (op1 f a) σ H Q) : tCB r (tCons (tO G W a) tNil) σ H Q := op1_t (r := fun x => r [x]) hf h
theorem op2_call {G W a b f r σ H Q} (hf : Is2 G (fun x y => r [x, y]) f) (h : tE G W (op2 f a b) σ H Q) : tCB r (tCons (tO G W a) (tCons (tO G W b) tNil)) σ H Q := op2_t (r := fun x y => r [x, y]) hf h
section
variable {a b : Expr} {oa ob : Opn} {p pos : Pos} {x : Str} {id T : String} {r : PySem.W.Frag → List V → Hp → VK → Prop}
theorem se_callB1 {f : PD → Option RV} (hc : ∀ X : Cx, CtxOk G c X → CallR X (.builtin id) (r X.K)) (hf : Is1 G (fun x => r G.K [x]) f) (hg : GlC c x) (hm : G.mg x = none) (hv : bootBuiltins x = some (.builtin id)) (ha : SO G c a oa)
    (hs : ∀ env, starEach [a] env = (false, eval a env) :: starEach [] env) (hn : x ≠ "__name__") (hdb : (x == ("__debug__" : Str)) = false) : SE G c (.Call (.Name x p) [a] [] pos) (op1 f oa) := fun X W C tk =>
  PE.imp (pe_callB (hc X C) (gl_of C hg) (by rw [C.mg]; exact hm) hv (pa_cons (so_pe ha C tk) pa_nil (hs _)) hn hdb (hs _) (by rfl)) fun σ H Q h => op1_call (by rw [C.K]; exact hf) h
theorem se_callT1 {f : PD → Option RV} (hc : ∀ X : Cx, CtxOk G c X → CallR X (.type T) (r X.K)) (hf : Is1 G (fun x => r G.K [x]) f) (hg : GlC c x) (hm : G.mg x = none) (hv : bootBuiltins x = some (.type T)) (ha : SO G c a oa)
    (hs : ∀ env, starEach [a] env = (false, eval a env) :: starEach [] env) (hn : x ≠ "__name__") (hdb : (x == ("__debug__" : Str)) = false) : SE G c (.Call (.Name x p) [a] [] pos) (op1 f oa) := fun X W C tk =>
  PE.imp (pe_callTy (hc X C) (gl_of C hg) (by rw [C.mg]; exact hm) hv (pa_cons (so_pe ha C tk) pa_nil (hs _)) hn hdb (hs _) (by rfl)) fun σ H Q h => op1_call (by rw [C.K]; exact hf) h
theorem se_callB2 {f : PD → PD → Option RV} (hc : ∀ X : Cx, CtxOk G c X → CallR X (.builtin id) (r X.K)) (hf : Is2 G (fun x y => r G.K [x, y]) f) (hg : GlC c x) (hm : G.mg x = none) (hv : bootBuiltins x = some (.builtin id)) (ha : SO G c a oa) (hb : SO G c b ob)
    (hs : ∀ env, starEach [a, b] env = (false, eval a env) :: starEach [b] env) (hs2 : ∀ env, starEach [b] env = (false, eval b env) :: starEach [] env) (hn : x ≠ "__name__") (hdb : (x == ("__debug__" : Str)) = false) : SE G c (.Call (.Name x p) [a, b] [] pos) (op2 f oa ob) := fun X W C tk =>
  PE.imp (pe_callB (hc X C) (gl_of C hg) (by rw [C.mg]; exact hm) hv (pa_cons (so_pe ha C tk) (pa_cons (so_pe hb C tk) pa_nil (hs2 _)) (hs _)) hn hdb (hs _) (by rw [hs2]; rfl)) fun σ H Q h => op2_call (by rw [C.K]; exact hf) h
end

/-! ### len, int, abs, list, tuple, sum, max, min -/
def lenD : PD → Option RV
  | .str x => if x.length ≤ 1000000 then some (.sh (.int x.length)) else none
  | .list xs => some (.sh (.int xs.length))
  | .tuple xs => some (.sh (.int xs.length))
  | .dict kvs => (scrOf kvs).map fun ns => .sh (.int ns.length)
  | _ => none
theorem is_len : Is1 G (fun x H Q => ∃ y n, [x] = [y] ∧ LenV G.K y H n ∧ Q (.int n) H) lenD := by
  intro B S H σ ρ x dx rv Q E hx e q
  refine ⟨x, ?_⟩
  cases hx with
  | str z =>
    simp only [lenD] at e
    by_cases hz : z.length ≤ 1000000
    · rw [if_pos hz] at e
      exact ⟨z.length, rfl, ⟨line_le hz, rfl⟩, is2_end E (fun _ => .int _) e q⟩
    · rw [if_neg hz] at e; cases e
  | @lst a xs ds h1 h2 => exact ⟨xs.length, rfl, .inl ⟨xs, SqL.of h1, rfl⟩, by rw [rpall_len h2]; exact is2_end E (fun _ => .int _) e q⟩
  | @scr a ns kvs h0 h1 =>
    simp only [lenD, h0, Option.map_some] at e
    exact ⟨ns.length, rfl, .inl ⟨_, h1, by rw [List.length_map]⟩, is2_end E (fun _ => .int _) e q⟩
  | @tup a xs ds h1 h2 => exact ⟨xs.length, rfl, .inr ⟨xs, ex_t E.sub h1, rfl⟩, by rw [rpall_len h2]; exact is2_end E (fun _ => .int _) e q⟩
  | _ => cases e
def intD : PD → Option RV
  | .int i => some (.sh (.int i))
  | .bool b => some (.sh (.int (if b then 1 else 0)))
  | _ => none
theorem is_int1 : Is1 G (fun x H Q => (∃ i, [x] = [V.int i] ∧ Q (.int i) H) ∨ ∃ k, [x] = [V.bl k] ∧ Q (.int (if k then 1 else 0)) H) intD := by
  intro B S H σ ρ x dx rv Q E hx e q
  cases hx with
  | int i => exact .inl ⟨i, rfl, is2_end E (fun _ => .int _) e q⟩
  | bl b => exact .inr ⟨b, rfl, is2_end E (fun _ => .int _) e q⟩
  | _ => cases e
def absD : PD → Option RV
  | .int i => some (.sh (.int (if i < 0 then -i else i)))
  | _ => none
theorem is_abs : Is1 G (fun x H Q => ∃ i, [x] = [V.int i] ∧ Q (.int (if i < 0 then -i else i)) H) absD := by
  intro B S H σ ρ x dx rv Q E hx e q
  cases hx with
  | int i => exact ⟨i, rfl, is2_end E (fun _ => .int _) e q⟩
  | _ => cases e
def listD : PD → Option RV
  | .list xs => some (.ow (.L xs))
  | .tuple xs => some (.ow (.L xs))
  | _ => none
theorem is_list : Is1 G (fun x H Q => ∃ p ys, [x] = [V.ref p] ∧ (SqL G.K H p ys ∨ SqT G.K H p ys) ∧ ∀ l, H l = none → Q (.ref l) (upd H l (.lst ys))) listD := by
  intro B S H σ ρ x dx rv Q E hx e q
  cases hx with
  | @lst a xs ds h1 h2 =>
    cases e
    refine ⟨a, xs, rfl, .inl (SqL.of h1), fun p hp => ?_⟩
    obtain ⟨E1, r⟩ := own_new (c := .L ds) (o := .lst xs) E hp ⟨_, rfl, h2⟩
    exact q _ _ _ E1 (Ex.refl _) r
  | @tup a xs ds h1 h2 =>
    cases e
    refine ⟨a, xs, rfl, .inr (ex_t E.sub h1), fun p hp => ?_⟩
    obtain ⟨E1, r⟩ := own_new (c := .L ds) (o := .lst xs) E hp ⟨_, rfl, h2⟩
    exact q _ _ _ E1 (Ex.refl _) r
  | _ => cases e
def tupleD : PD → Option RV
  | .list xs => some (.sh (.tuple xs))
  | .tuple xs => some (.sh (.tuple xs))
  | _ => none
theorem is_tuple : Is1 G (fun x H Q => ∃ p ys, [x] = [V.ref p] ∧ ((SqL G.K H p ys ∧ ∀ l, H l = none → Q (.ref l) (upd H l (.tup ys))) ∨ (SqT G.K H p ys ∧ Q (.ref p) H))) tupleD := by
  intro B S H σ ρ x dx rv Q E hx e q
  cases hx with
  | @lst a xs ds h1 h2 =>
    cases e
    refine ⟨a, xs, rfl, .inl ⟨SqL.of h1, fun p hp => ?_⟩⟩
    obtain ⟨E1, x1, r⟩ := tup_new E hp h2
    exact q _ _ _ E1 x1 r
  | @tup a xs ds h1 h2 =>
    cases e
    exact ⟨a, xs, rfl, .inr ⟨ex_t E.sub h1, q S H _ E (Ex.refl _) (.tup h1 h2)⟩⟩
  | _ => cases e
def sumD : PD → Option RV
  | .list xs => (intsOf xs).map fun ns => .sh (.int ns.sum)
  | _ => none
theorem is_sum : Is1 G (fun x => rSum G.K [x]) sumD := by
  intro B S H σ ρ x dx rv Q E hx e q
  cases hx with
  | @lst a xs ds h1 h2 =>
    simp only [sumD] at e
    cases hn : intsOf ds with
    | none => rw [hn] at e; cases e
    | some ns =>
      rw [hn] at e
      have := intsOf_eq hn
      subst this
      refine ⟨a, ns, rfl, ?_, is2_end E (fun _ => .int _) e q⟩
      rw [← h2.ints]
      exact SqL.of h1
  | _ => cases e
def maxI : List Int → Option Int
  | [] => none
  | n :: ns => some (ns.foldl (fun a b => if b > a then b else a) n)
def minI : List Int → Option Int
  | [] => none
  | n :: ns => some (ns.foldl (fun a b => if b < a then b else a) n)
theorem foldmax : ∀ (ns : List Int) (n : Int), (ns.foldl (fun a b => if b > a then b else a) n = n ∨ ns.foldl (fun a b => if b > a then b else a) n ∈ ns) ∧ n ≤ ns.foldl (fun a b => if b > a then b else a) n ∧ ∀ y ∈ ns, y ≤ ns.foldl (fun a b => if b > a then b else a) n
  | [], n => ⟨.inl rfl, Int.le_refl _, fun _ h => by cases h⟩
  | m :: ns, n => by
    obtain ⟨h1, h2, h3⟩ := foldmax ns (if m > n then m else n)
    rw [List.foldl_cons]
    have a1 : n ≤ if m > n then m else n := by split <;> omega
    have a2 : m ≤ if m > n then m else n := by split <;> omega
    refine ⟨?_, Int.le_trans a1 h2, fun y hy => ?_⟩
    · rcases h1 with h1 | h1
      · rw [h1]
        split
        · exact .inr (List.mem_cons_self)
        · exact .inl rfl
      · exact .inr (List.mem_cons_of_mem _ h1)
    · rcases List.mem_cons.mp hy with e | hy
      · subst e
        exact Int.le_trans a2 h2
      · exact h3 y hy
theorem foldmin : ∀ (ns : List Int) (n : Int), (ns.foldl (fun a b => if b < a then b else a) n = n ∨ ns.foldl (fun a b => if b < a then b else a) n ∈ ns) ∧ ns.foldl (fun a b => if b < a then b else a) n ≤ n ∧ ∀ y ∈ ns, ns.foldl (fun a b => if b < a then b else a) n ≤ y
  | [], n => ⟨.inl rfl, Int.le_refl _, fun _ h => by cases h⟩
  | m :: ns, n => by
    obtain ⟨h1, h2, h3⟩ := foldmin ns (if m < n then m else n)
    rw [List.foldl_cons]
    have a1 : (if m < n then m else n) ≤ n := by split <;> omega
    have a2 : (if m < n then m else n) ≤ m := by split <;> omega
    refine ⟨?_, Int.le_trans h2 a1, fun y hy => ?_⟩
    · rcases h1 with h1 | h1
      · rw [h1]
        split
        · exact .inr (List.mem_cons_self)
        · exact .inl rfl
      · exact .inr (List.mem_cons_of_mem _ h1)
    · rcases List.mem_cons.mp hy with e | hy
      · subst e
        exact Int.le_trans h2 a2
      · exact h3 y hy
theorem maxI_spec {ns : List Int} {m : Int} (h : maxI ns = some m) : m ∈ ns ∧ ∀ y ∈ ns, y ≤ m := by
  cases ns with
  | nil => cases h
  | cons n ns =>
    cases h
    obtain ⟨h1, h2, h3⟩ := foldmax ns n
    refine ⟨?_, fun y hy => ?_⟩
    · rcases h1 with h1 | h1
      · rw [h1]
        exact List.mem_cons_self
      · exact List.mem_cons_of_mem _ h1
    · rcases List.mem_cons.mp hy with e | hy
      · exact e ▸ h2
      · exact h3 y hy
theorem minI_spec {ns : List Int} {m : Int} (h : minI ns = some m) : m ∈ ns ∧ ∀ y ∈ ns, m ≤ y := by
  cases ns with
  | nil => cases h
  | cons n ns =>
    cases h
    obtain ⟨h1, h2, h3⟩ := foldmin ns n
    refine ⟨?_, fun y hy => ?_⟩
    · rcases h1 with h1 | h1
      · rw [h1]
        exact List.mem_cons_self
      · exact List.mem_cons_of_mem _ h1
    · rcases List.mem_cons.mp hy with e | hy
      · exact e ▸ h2
      · exact h3 y hy
def maxD : PD → Option RV
  | .list xs => (intsOf xs).bind fun ns => (maxI ns).map fun m => .sh (.int m)
  | _ => none
def minD : PD → Option RV
  | .list xs => (intsOf xs).bind fun ns => (minI ns).map fun m => .sh (.int m)
  | _ => none
theorem is_max : Is1 G (fun x => rMax G.K [x]) maxD := by
  intro B S H σ ρ x dx rv Q E hx e q
  cases hx with
  | @lst a xs ds h1 h2 =>
    simp only [maxD] at e
    cases hn : intsOf ds with
    | none => rw [hn] at e; cases e
    | some ns =>
      rw [hn, Option.bind_some] at e
      have := intsOf_eq hn
      subst this
      cases hm : maxI ns with
      | none => rw [hm] at e; cases e
      | some m =>
        rw [hm] at e
        obtain ⟨m1, m2⟩ := maxI_spec hm
        refine ⟨a, ns, rfl, ?_, List.length_pos_of_mem m1, fun m' k1 k2 => ?_⟩
        · rw [← h2.ints]
          exact SqL.of h1
        · have : m' = m := Int.le_antisymm (m2 m' k1) (k2 m m1)
          subst this
          exact is2_end E (fun _ => .int _) e q
  | _ => cases e
theorem is_min : Is1 G (fun x => rMin G.K [x]) minD := by
  intro B S H σ ρ x dx rv Q E hx e q
  cases hx with
  | @lst a xs ds h1 h2 =>
    simp only [minD] at e
    cases hn : intsOf ds with
    | none => rw [hn] at e; cases e
    | some ns =>
      rw [hn, Option.bind_some] at e
      have := intsOf_eq hn
      subst this
      cases hm : minI ns with
      | none => rw [hm] at e; cases e
      | some m =>
        rw [hm] at e
        obtain ⟨m1, m2⟩ := minI_spec hm
        refine ⟨a, ns, rfl, ?_, List.length_pos_of_mem m1, fun m' k1 k2 => ?_⟩
        · rw [← h2.ints]
          exact SqL.of h1
        · have : m' = m := Int.le_antisymm (k2 m m1) (m2 m' k1)
          subst this
          exact is2_end E (fun _ => .int _) e q
  | _ => cases e
def max2D : PD → PD → Option RV
  | .int i, .int j => some (.sh (.int (if j > i then j else i)))
  | _, _ => none
def min2D : PD → PD → Option RV
  | .int i, .int j => some (.sh (.int (if j < i then j else i)))
  | _, _ => none
theorem is_max2 : Is2 G (fun x y H Q => ∃ i j, [x, y] = [V.int i, V.int j] ∧ Q (.int (if j > i then j else i)) H) max2D := by
  intro B S H σ ρ x y dx dy rv Q E hx hy e q
  cases hx with
  | int i =>
    cases hy with
    | int j => exact ⟨i, j, rfl, is2_end E (fun _ => .int _) e q⟩
    | _ => cases e
  | _ => cases hy <;> cases e
theorem is_min2 : Is2 G (fun x y H Q => ∃ i j, [x, y] = [V.int i, V.int j] ∧ Q (.int (if j < i then j else i)) H) min2D := by
  intro B S H σ ρ x y dx dy rv Q E hx hy e q
  cases hx with
  | int i =>
    cases hy with
    | int j => exact ⟨i, j, rfl, is2_end E (fun _ => .int _) e q⟩
    | _ => cases e
  | _ => cases hy <;> cases e

/-! ### isinstance -/
inductive Ty where
  | int | bool | str | list | tuple | dict
def Ty.nm : Ty → String
  | .int => "int" | .bool => "bool" | .str => "str" | .list => "list" | .tuple => "tuple" | .dict => "dict"
def tyN : PD → String
  | .none => "NoneType" | .bool _ => "bool" | .int _ => "int" | .str _ => "str" | .list _ => "list" | .tuple _ => "tuple" | .dict _ => "dict"
def isT : Ty → PD → Bool
  | .int, .int _ => true
  | .int, .bool _ => true
  | .bool, .bool _ => true
  | .str, .str _ => true
  | .list, .list _ => true
  | .tuple, .tuple _ => true
  | .dict, .dict _ => true
  | _, _ => false
theorem isT_ok (T : Ty) (d : PD) : kitB (tyN d) T.nm = some (isT T d) := by
  cases T <;> cases d <;> (simp only [tyN, Ty.nm, isT]; decide +kernel)
def instD (T : Ty) (d : PD) : Option RV := match d with
  | .dict _ => none
  | d => some (.sh (.bool (isT T d)))
theorem tyx_of {K S H v d} (h : DpO K S H v d) (x : Ex S H) (nd : ∀ kvs, d ≠ .dict kvs) : TyX K H v (.type (tyN d)) := by
  cases h with
  | non => exact .base .non
  | bl b => exact .base (.bl b)
  | int i => exact .base (.int i)
  | str z => exact .base (.str z)
  | scr _ _ => exact absurd rfl (nd _)
  | lst h1 h2 => exact .base (.lst h1)
  | tup h1 h2 =>
    rcases h1 with (h1 | ⟨o, h1⟩) | ⟨o, its, n, h1, h3, _⟩
    · exact .base (.tup (x _ _ h1))
    · exact .fTuple (x _ _ h1)
    · exact .kTuple h1 h3
theorem is_inst {T : Ty} : Is1 G (fun x => rIsi G.K [x, .ty T.nm]) (instD T) := by
  intro B S H σ ρ x dx rv Q E hx e q
  have ty := tyx_of hx E.sub fun kvs z => by subst z; cases e
  have e' : some (RV.sh (.bool (isT T dx))) = some rv := by
    cases hx <;> first | exact e | cases e
  exact ⟨x, .ty T.nm, .type (tyN dx), .type T.nm, isT T dx, rfl, .ty _, ty, kit_ty (isT_ok T dx), is2_end E (fun _ => .bl _) e' q⟩
theorem boot_tys (T : Ty) : bootBuiltins (Str.ofString T.nm) = some (.type T.nm) := by
  cases T <;> decide +kernel
theorem se_inst {a : Expr} {oa : Opn} {p p2 pos : Pos} (T : Ty) (hg : GlC c "isinstance") (hm : G.mg "isinstance" = none) (hg2 : GlC c (Str.ofString T.nm)) (hm2 : G.mg (Str.ofString T.nm) = none) (ha : SO G c a oa)
    (hs : ∀ env, starEach [a, .Name (Str.ofString T.nm) p2] env = (false, eval a env) :: starEach [.Name (Str.ofString T.nm) p2] env) (hn : Str.ofString T.nm ≠ "__name__") (hd : (Str.ofString T.nm == ("__debug__" : Str)) = false) : SE G c (.Call (.Name "isinstance" p) [a, .Name (Str.ofString T.nm) p2] [] pos) (op1 (instD T) oa) := fun X W C tk =>
  PE.imp (pe_callB (r := rIsi X.K) call_isi (gl_of C hg) (by rw [C.mg]; exact hm) (by decide +kernel) (pa_cons (so_pe ha C tk) (pa_cons (pe_bltn (v := .ty T.nm) (gl_of C hg2) (by rw [C.mg]; exact hm2) (boot_tys T) rfl hn hd) pa_nil (by rfl)) (hs _)) (by decide) (by decide) (hs _) (by rfl)) fun σ H Q h => op1_t (r := fun x => rIsi X.K [x, .ty T.nm]) (by rw [C.K]; exact is_inst) h

/-! ### the calls by their names -/
section
variable {a b : Expr} {oa ob : Opn} {p pos : Pos}
theorem se_len (hg : GlC c "len") (hm : G.mg "len" = none) (ha : SO G c a oa) (hs : ∀ env, starEach [a] env = (false, eval a env) :: starEach [] env := by intro _; rfl) : SE G c (.Call (.Name "len" p) [a] [] pos) (op1 lenD oa) :=
  se_callB1 (r := fun K xs H Q => ∃ x n, xs = [x] ∧ LenV K x H n ∧ Q (.int n) H) (fun _ _ => call_len) is_len hg hm PySem.boot_len ha hs (by decide) (by decide)
theorem se_int1 (hg : GlC c "int") (hm : G.mg "int" = none) (ha : SO G c a oa) (hs : ∀ env, starEach [a] env = (false, eval a env) :: starEach [] env := by intro _; rfl) : SE G c (.Call (.Name "int" p) [a] [] pos) (op1 intD oa) :=
  se_callT1 (r := fun _ => _) (fun _ _ => call_int1) is_int1 hg hm (by decide +kernel) ha hs (by decide) (by decide)
theorem se_abs (hg : GlC c "abs") (hm : G.mg "abs" = none) (ha : SO G c a oa) (hs : ∀ env, starEach [a] env = (false, eval a env) :: starEach [] env := by intro _; rfl) : SE G c (.Call (.Name "abs" p) [a] [] pos) (op1 absD oa) :=
  se_callB1 (r := fun _ => _) (fun _ _ => call_abs) is_abs hg hm (by decide +kernel) ha hs (by decide) (by decide)
theorem se_list (hg : GlC c "list") (hm : G.mg "list" = none) (ha : SO G c a oa) (hs : ∀ env, starEach [a] env = (false, eval a env) :: starEach [] env := by intro _; rfl) : SE G c (.Call (.Name "list" p) [a] [] pos) (op1 listD oa) :=
  se_callT1 (r := fun K xs H Q => ∃ p ys, xs = [.ref p] ∧ (SqL K H p ys ∨ SqT K H p ys) ∧ ∀ l, H l = none → Q (.ref l) (upd H l (.lst ys))) (fun _ _ => call_list_of) is_list hg hm (by decide +kernel) ha hs (by decide) (by decide)
theorem se_tuple (hg : GlC c "tuple") (hm : G.mg "tuple" = none) (ha : SO G c a oa) (hs : ∀ env, starEach [a] env = (false, eval a env) :: starEach [] env := by intro _; rfl) : SE G c (.Call (.Name "tuple" p) [a] [] pos) (op1 tupleD oa) :=
  se_callT1 (r := fun K xs H Q => ∃ p ys, xs = [.ref p] ∧ ((SqL K H p ys ∧ ∀ l, H l = none → Q (.ref l) (upd H l (.tup ys))) ∨ (SqT K H p ys ∧ Q (.ref p) H))) (fun _ _ => call_tuple_of) is_tuple hg hm (by decide +kernel) ha hs (by decide) (by decide)
theorem se_sum (hg : GlC c "sum") (hm : G.mg "sum" = none) (ha : SO G c a oa) (hs : ∀ env, starEach [a] env = (false, eval a env) :: starEach [] env := by intro _; rfl) : SE G c (.Call (.Name "sum" p) [a] [] pos) (op1 sumD oa) :=
  se_callB1 (r := rSum) (fun _ C => cr_sum C.calm) is_sum hg hm (by decide +kernel) ha hs (by decide) (by decide)
theorem se_max (hg : GlC c "max") (hm : G.mg "max" = none) (ha : SO G c a oa) (hs : ∀ env, starEach [a] env = (false, eval a env) :: starEach [] env := by intro _; rfl) : SE G c (.Call (.Name "max" p) [a] [] pos) (op1 maxD oa) :=
  se_callB1 (r := rMax) (fun _ C => cr_max C.calm) is_max hg hm (by decide +kernel) ha hs (by decide) (by decide)
theorem se_min (hg : GlC c "min") (hm : G.mg "min" = none) (ha : SO G c a oa) (hs : ∀ env, starEach [a] env = (false, eval a env) :: starEach [] env := by intro _; rfl) : SE G c (.Call (.Name "min" p) [a] [] pos) (op1 minD oa) :=
  se_callB1 (r := rMin) (fun _ C => cr_min C.calm) is_min hg hm (by decide +kernel) ha hs (by decide) (by decide)
theorem se_max2 (hg : GlC c "max") (hm : G.mg "max" = none) (ha : SO G c a oa) (hb : SO G c b ob) (hs : ∀ env, starEach [a, b] env = (false, eval a env) :: starEach [b] env := by intro _; rfl) (hs2 : ∀ env, starEach [b] env = (false, eval b env) :: starEach [] env := by intro _; rfl) : SE G c (.Call (.Name "max" p) [a, b] [] pos) (op2 max2D oa ob) :=
  se_callB2 (r := fun _ => _) (fun _ C => call_max2 C.calm) is_max2 hg hm (by decide +kernel) ha hb hs hs2 (by decide) (by decide)
theorem se_min2 (hg : GlC c "min") (hm : G.mg "min" = none) (ha : SO G c a oa) (hb : SO G c b ob) (hs : ∀ env, starEach [a, b] env = (false, eval a env) :: starEach [b] env := by intro _; rfl) (hs2 : ∀ env, starEach [b] env = (false, eval b env) :: starEach [] env := by intro _; rfl) : SE G c (.Call (.Name "min" p) [a, b] [] pos) (op2 min2D oa ob) :=
  se_callB2 (r := fun _ => _) (fun _ C => call_min2 C.calm) is_min2 hg hm (by decide +kernel) ha hb hs hs2 (by decide) (by decide)
end

/-! ### sorted -/
def tup1 : PD → Bool
  | .tuple (_ :: _) => true
  | _ => false
def oth1 : PD → Bool
  | .none => false
  | .tuple _ => false
  | _ => true
/-- what may be sorted: all alike, tuples that are not empty or no tuples, not deep -/
def SortOk (ds : List PD) : Prop := (∀ d ∈ ds, ∀ e ∈ ds, PySem.W.alike d e = true) ∧ ((∀ d ∈ ds, tup1 d = true) ∨ ∀ d ∈ ds, oth1 d = true) ∧ (∀ d ∈ ds, d.depth ≤ 32 ∧ plainD d = true) ∧ ds.length ≤ 1000000
instance (ds : List PD) : Decidable (SortOk ds) := by unfold SortOk; infer_instance
def sortL (ds : List PD) : List PD := ds.mergeSort (PySem.W.dataLe false id)
def sortedD : PD → Option RV
  | .list ds => if SortOk ds then some (.ow (.L (sortL ds))) else none
  | _ => none
theorem each_rp {K S} : ∀ {vs : List V} {us : List Value} {ds : List PD}, Vals vs us → RpAll K S vs ds → PySem.W.EachIs (fun u d => ∃ v, RelV v u ∧ Rp K S v d) us ds
  | _, _, _, .nil, .nil => .nil
  | _, _, _, .cons r1 r2, .cons a t => .cons ⟨_, r1, a⟩ (each_rp r2 t)
theorem rp_each {K S} {us : List Value} {ds : List PD} (h : PySem.W.EachIs (fun u d => ∃ v, RelV v u ∧ Rp K S v d) us ds) : ∃ vs, Vals vs us ∧ RpAll K S vs ds := by
  induction h with
  | nil => exact ⟨[], .nil, .nil⟩
  | cons a t ih =>
    obtain ⟨v, h1, h2⟩ := a
    obtain ⟨vs, h3, h4⟩ := ih
    exact ⟨v :: vs, .cons h1 h3, .cons h2 h4⟩
theorem each_mem {α β : Type} {R R' : α → β → Prop} : ∀ {as : List α} {bs : List β}, PySem.W.EachIs R as bs → (∀ a b, b ∈ bs → R a b → R' a b) → PySem.W.EachIs R' as bs
  | _, _, .nil, _ => .nil
  | _, _, .cons h t, f => .cons (f _ _ List.mem_cons_self h) (each_mem t fun a b hb => f a b (List.mem_cons_of_mem _ hb))
/-- sorted(xs), xs told as data over S -/
def rSortD (G : GC) : List V → Hp → VK → Prop := fun xs H Q => ∃ (a : Addr) (vs : List V) (ds : List PD) (S : Hp), xs = [.ref a] ∧ H a = some (.lst vs) ∧ RpAll G.K S vs ds ∧ Ex S H ∧ SortOk ds ∧
  ∀ p ws, H p = none → RpAll G.K S ws (sortL ds) → Q (.ref p) (upd H p (.lst ws))
theorem cr_sortD {X : Cx} (C : CtxOk G c X) : CallR X (.builtin "sorted") (rSortD G) := by
  intro pins s σ H xs us Q I r h
  obtain ⟨a, vs, ds, S, rfl, h1, h2, hx, ⟨o1, o2, o3, o4⟩, q⟩ := h
  obtain ⟨u, rfl, ru⟩ := vals1 r
  cases ru
  obtain ⟨hz, its, n, rv, hl, e⟩ := I.lstM h1
  have er := each_rp rv h2
  have hmap : ds.map (id : PD → PD) = ds := List.map_id ds
  have rd : PySem.W.EachIs (fun v (b : PD) => ∃ as, Reads s.heap v (id b) as) its ds := by
    refine each_mem er fun u d hd hh => ?_
    obtain ⟨v, k1, k2⟩ := hh
    exact Dp.reads I d v u (by rw [C.K]; exact rp_dp d (o3 d hd).2 (rp_mono hx d k2)) k1
  refine PySem.W.sorted_data (enc := (id : PD → PD)) (R := fun u d => ∃ v, RelV v u ∧ Rp G.K S v d) (bs := ds) ⟨_, e, rfl, _, rfl⟩ er rd (by rw [hmap]; exact o1) ?_ (line_le o4) (fun b hb => ?_) fun out ho eo => ?_
  · rw [hmap]
    rcases o2 with o2 | o2
    · refine .inl fun d hd => ?_
      have z := o2 d hd
      cases d with
      | tuple ys =>
        cases ys with
        | nil => cases z
        | cons y ys => exact ⟨y, ys, rfl⟩
      | _ => cases z
    · refine .inr fun d hd => ?_
      have z := o2 d hd
      refine ⟨fun w => ?_, fun ys w => ?_⟩
      · subst w; cases z
      · subst w; cases z
  · have := C.room.units
    have := (o3 b hb).1
    show X.A.units + 2 + b.depth < cLine
    omega
  · obtain ⟨ws, w1, w2⟩ := rp_each eo
    obtain ⟨ep, he'⟩ := PyProof.Rows.sortedAll_at s.heap its out.toArray
    have hlen : ws.length ≤ sizeLine := by
      rw [w1.length, ho]
      exact line_le o4
    exact ⟨.ref _, upd H (s.heap.objs.size + 1) (.lst ws), I.laid (t' := s.toks) (fun _ _ => PyProof.Rows.sortedAll_old) (Nat.le_succ _) ⟨hlen, out, ep, w1, he'⟩, rfl, q _ ws (I.hok.fresh (Nat.le_succ _)) w2⟩
theorem is_sorted : Is1 G (fun x => rSortD G [x]) sortedD := by
  intro B S H σ ρ x dx rv Q E hx e q
  cases hx with
  | @lst a xs ds h1 h2 =>
    simp only [sortedD] at e
    by_cases hc : SortOk ds
    · rw [if_pos hc] at e
      cases e
      refine ⟨a, xs, ds, S, rfl, h1, h2, E.sub, hc, fun p ws hp hw => ?_⟩
      obtain ⟨E1, r⟩ := own_new (c := .L (sortL ds)) (o := .lst ws) E hp ⟨_, rfl, hw⟩
      exact q _ _ _ E1 (Ex.refl _) r
    · rw [if_neg hc] at e; cases e
  | _ => cases e
theorem se_sorted {a : Expr} {oa : Opn} {p pos : Pos} (hg : GlC c "sorted") (hm : G.mg "sorted" = none) (ha : SO G c a oa) (hs : ∀ env, starEach [a] env = (false, eval a env) :: starEach [] env := by intro _; rfl) : SE G c (.Call (.Name "sorted" p) [a] [] pos) (op1 sortedD oa) :=
  se_callB1 (r := fun _ => rSortD G) (fun _ C => cr_sortD C) is_sorted hg hm (by decide +kernel) ha hs (by decide) (by decide)
end DL
/-! DL, part f: statements without loops -/
namespace DL
open PySem PySem.Spec PyProof.Rows L2
variable {G : GC} {c : SC}

/-! ### storing -/
def RV.slot : RV → Slot
  | .sh d => .sh d
  | .ow c => .ow c
def Slot.free : Option Slot → Bool
  | some .un => true
  | some (.sh _) => true
  | some (.ow _) => true
  | _ => false
theorem EnvR.store {B S σ H ρ i v rv} (E : EnvR G B S σ H ρ) (hf : Slot.free ρ[i]? = true) (R : RVR G B S H σ ρ v rv) : EnvR G B S (σ.set i (some v)) H (ρ.set i rv.slot) := by
  have hi : i < ρ.length := by
    cases h : ρ[i]? with
    | none => rw [h] at hf; cases hf
    | some s => exact (List.getElem?_eq_some_iff.mp h).1
  have hiσ : i < σ.length := by rw [E.len]; exact hi
  refine ⟨by rw [List.length_set, List.length_set]; exact E.len, E.s0, E.new, E.sub, E.keep, E.ios, fun j s hs => ?_, fun j k sj sk hj hk mj mk he => ?_⟩
  · by_cases hj : i = j
    · subst hj
      rw [List.getElem?_set_self hi] at hs
      rw [List.getElem?_set_self hiσ]
      cases hs
      cases rv with
      | sh d => exact ⟨v, rfl, R⟩
      | ow ct =>
        obtain ⟨a, o, rfl, h1, h2, h3, h4, h5⟩ := R
        exact ⟨a, o, rfl, h1, h2, h3, h4⟩
    · rw [List.getElem?_set_ne hj] at hs ⊢
      exact E.slot j s hs
  · by_cases h1 : i = j
    · by_cases h2 : i = k
      · exact h1.symm.trans h2
      · subst h1
        rw [List.getElem?_set_self hi] at hj
        rw [List.getElem?_set_ne h2] at hk
        rw [List.getElem?_set_self hiσ, List.getElem?_set_ne h2] at he
        cases hj
        cases rv with
        | sh d => cases mj
        | ow ct =>
          obtain ⟨a, o, rfl, _, _, _, _, h5⟩ := R
          exact absurd he.symm (h5 k sk hk mk)
    · by_cases h2 : i = k
      · subst h2
        rw [List.getElem?_set_self hi] at hk
        rw [List.getElem?_set_ne h1] at hj
        rw [List.getElem?_set_self hiσ, List.getElem?_set_ne h1] at he
        cases hk
        cases rv with
        | sh d => cases mk
        | ow ct =>
          obtain ⟨a, o, rfl, _, _, _, _, h5⟩ := R
          exact absurd he (h5 j sj hj mj)
      · rw [List.getElem?_set_ne h1] at hj he
        rw [List.getElem?_set_ne h2] at hk he
        exact E.dis j k sj sk hj hk mj mk he
def stS (i : Nat) (rv : RV) (ρ : PEnv) : Res Flow' := if Slot.free ρ[i]? = true then .ok .nx (ρ.set i rv.slot) else .no
def dSet (i : Nat) (m : Den) : DenS := fun ρ => (m ρ).bind fun rv ρ1 => stS i rv ρ1
/-- a local name that may be stored to -/
structure IsL (c : SC) (x : Str) (i : Nat) : Prop where
  N : c.N[i]? = some x
  loc : Loc c.sc x
  fn : c.fn x = true ∨ c.sc.names.lookup x = some .local
theorem isl {c : SC} (i : Nat) {x : Str} (hN : c.N[i]? = some x := by rfl) (hl : Loc c.sc x := by first | exact Or.inl rfl | exact Or.inr rfl) (hf : c.fn x = true ∨ c.sc.names.lookup x = some .local := by first | exact Or.inl rfl | exact Or.inr rfl) : IsL c x i := ⟨hN, hl, hf⟩
section
variable {X : Cx} {x : Str} {i : Nat}
theorem IsL.hN (h : IsL c x i) (C : CtxOk G c X) : X.N[i]? = some x := by rw [C.N]; exact h.N
theorem IsL.hx (h : IsL c x i) (C : CtxOk G c X) : Loc X.env.scope x := by rw [C.sc]; exact h.loc
theorem IsL.hf (h : IsL c x i) (C : CtxOk G c X) : X.fn x = true ∨ X.env.scope.names.lookup x = some .local := by rw [C.sc, C.fn]; exact h.fn
theorem CtxOk.nN (C : CtxOk G c X) : X.N.Nodup := by rw [C.N]; exact C.nd
end
theorem set_t {W i m D σ H} (h : tS G W (dSet i m) D σ H) : tE G W m σ H fun v H1 => D.nx (σ.set i (some v)) H1 := by
  obtain ⟨B, S, ρ, E, hp⟩ := h
  refine ⟨B, S, ρ, E, Post.bind hp fun rv ρ1 h1 => ?_⟩
  intro S1 H1 v E1 y R
  unfold stS at h1
  by_cases hf : Slot.free ρ1[i]? = true
  · rw [if_pos hf] at h1
    exact h1 _ S1 H1 (E1.store hf R) y
  · rw [if_neg hf] at h1
    exact h1.elim
/-- x = e, e no comprehension -/
theorem ss_set {x : Str} {i : Nat} {e : Expr} {m : Den} {p pos : Pos} (hl : IsL c x i) (h : SE G c e m) (hs : ∀ env, swapsWith e (some (.Name x p)) pos.line env = pure false := by intro _; rfl) : SS G c (.Assign [.Name x p] e pos) (dSet i m) := fun X W C tk hp =>
  PS.imp (ps_set C.nN (hl.hN C) (hl.hx C) (h X W C tk) (hs _) (hl.hf C)) fun D σ H h => set_t h

/-! ### targets -/
inductive Tgt where
  | nm (i : Nat)
  | tup (ts : List Tgt)
mutual
def asgT : Tgt → PD → PEnv → Option PEnv
  | .nm i, d, ρ => if Slot.free ρ[i]? = true then some (ρ.set i (.sh d)) else none
  | .tup ts, .tuple ds, ρ => asgTs ts ds ρ
  | .tup ts, .list ds, ρ => asgTs ts ds ρ
  | .tup _, _, _ => none
def asgTs : List Tgt → List PD → PEnv → Option PEnv
  | [], [], ρ => some ρ
  | t :: ts, d :: ds, ρ => match asgT t d ρ with
    | some ρ1 => asgTs ts ds ρ1
    | none => none
  | [], _ :: _, _ => none
  | _ :: _, [], _ => none
end
theorem asgTs_len : ∀ {ts : List Tgt} {ds : List PD} {ρ ρ' : PEnv}, asgTs ts ds ρ = some ρ' → ds.length = ts.length
  | [], [], _, _, _ => rfl
  | t :: ts, d :: ds, ρ, ρ', h => by
    rw [asgTs] at h
    cases h1 : asgT t d ρ with
    | none => rw [h1] at h; cases h
    | some ρ1 =>
      rw [h1] at h
      rw [List.length_cons, List.length_cons, asgTs_len h]
  | [], _ :: _, _, _, h => by rw [asgTs] at h; cases h
  | _ :: _, [], _, _, h => by rw [asgTs] at h; cases h
mutual
def Tgt.slots : Tgt → List Nat
  | .nm i => [i]
  | .tup ts => Tgt.slotsL ts
def Tgt.slotsL : List Tgt → List Nat
  | [] => []
  | t :: ts => t.slots ++ Tgt.slotsL ts
end
/-- but for some slots all is as it was -/
def Agree (l : List Nat) (σ σ' : L2.St) : Prop := σ'.length = σ.length ∧ ∀ j, j ∉ l → σ'[j]? = σ[j]?
theorem Agree.trans {l l' : List Nat} {σ σ1 σ2 : L2.St} (a : Agree l σ σ1) (b : Agree l' σ1 σ2) : Agree (l ++ l') σ σ2 := ⟨b.1.trans a.1, fun j hj => by
  rw [List.mem_append, not_or] at hj
  exact (b.2 j hj.2).trans (a.2 j hj.1)⟩
theorem Agree.set (i : Nat) (o : Option V) (σ : L2.St) : Agree [i] σ (σ.set i o) := ⟨List.length_set, fun j hj => List.getElem?_set_ne fun z => hj (by rw [z]; exact List.mem_singleton.mpr rfl)⟩
def gT (G : GC) (t : Tgt) : TG := fun v σ H Q => ∃ B S ρ ρ' d, EnvR G B S σ H ρ ∧ Rp G.K S v d ∧ asgT t d ρ = some ρ' ∧ ∀ σ', EnvR G B S σ' H ρ' → Agree t.slots σ σ' → Q σ' H
def gTs (G : GC) (ts : List Tgt) : TGs := fun vs σ H Q => ∃ B S ρ ρ' ds, EnvR G B S σ H ρ ∧ RpAll G.K S vs ds ∧ asgTs ts ds ρ = some ρ' ∧ ∀ σ', EnvR G B S σ' H ρ' → Agree (Tgt.slotsL ts) σ σ' → Q σ' H
def SG (G : GC) (c : SC) (e : Expr) (t : Tgt) : Prop := ∀ X, CtxOk G c X → PG X e (gT G t)
def SGs (G : GC) (c : SC) (es : List Expr) (ts : List Tgt) : Prop := ∀ X, CtxOk G c X → PGs X es (gTs G ts)
theorem PG.or {X : Cx} {e : Expr} {t t' : TG} (h : PG X e t) (h' : PG X e t') : PG X e (fun v σ H Q => t v σ H Q ∨ t' v σ H Q) := ⟨fun p s σ H v u Q I r q => by
  rcases q with q | q
  · exact h.run p s σ H v u Q I r q
  · exact h'.run p s σ H v u Q I r q⟩
theorem PGs.imp {X : Cx} {e : List Expr} {t t' : TGs} (h : PGs X e t) (i : ∀ v σ H Q, t' v σ H Q → t v σ H Q) : PGs X e t' := ⟨fun p s σ H v u Q I r q => h.run p s σ H v u Q I r (i v σ H Q q)⟩
theorem sg_nm {x : Str} {i : Nat} {pos : Pos} (hl : IsL c x i) : SG G c (.Name x pos) (.nm i) := fun X C => PG.imp (pg_name C.nN (hl.hN C) (hl.hx C) (hl.hf C)) fun v σ H Q h => by
  obtain ⟨B, S, ρ, ρ', d, E, r, e, q⟩ := h
  rw [asgT] at e
  by_cases hf : Slot.free ρ[i]? = true
  · rw [if_pos hf] at e
    cases e
    exact q _ (E.store (rv := .sh d) hf r) (Agree.set i _ σ)
  · rw [if_neg hf] at e
    cases e
theorem sgs_nil : SGs G c [] [] := fun X C => PGs.imp pgs_nil fun vs σ H Q h => by
  obtain ⟨B, S, ρ, ρ', ds, E, r, e, q⟩ := h
  cases r with
  | nil =>
    rw [asgTs] at e
    cases e
    exact ⟨rfl, q σ E ⟨rfl, fun _ _ => rfl⟩⟩
  | cons _ _ => rw [asgTs] at e; cases e
theorem sgs_cons {e : Expr} {es : List Expr} {t : Tgt} {ts : List Tgt} (h : SG G c e t) (hr : SGs G c es ts) (hs : ∀ env, (assignEach (e :: es) env).map (·.2) = assign e env :: (assignEach es env).map (·.2) := by intro _; rfl) : SGs G c (e :: es) (t :: ts) := fun X C =>
  PGs.imp (pgs_cons (h X C) (hr X C) (hs _)) fun vs σ H Q h => by
    obtain ⟨B, S, ρ, ρ', ds, E, r, e, q⟩ := h
    cases r with
    | nil => rw [asgTs] at e; cases e
    | @cons v vs d ds r1 r2 =>
      rw [asgTs] at e
      cases e1 : asgT t d ρ with
      | none => rw [e1] at e; cases e
      | some ρ1 =>
        rw [e1] at e
        exact ⟨v, vs, rfl, B, S, ρ, ρ1, d, E, r1, e1, fun σ' E1 a1 => ⟨B, S, ρ1, ρ', ds, E1, r2, e, fun σ2 E2 a2 => q σ2 E2 (a1.trans a2)⟩⟩
theorem sg_tup {es : List Expr} {ts : List Tgt} {k : Nat} {pos : Pos} (h : SGs G c es ts) (hn : ∀ env, (assignEach es env).length = ts.length := by intro _; rfl) (hst : ∀ env, (assignEach es env).findIdx? (·.1) = none := by intro _; rfl) : SG G c (.Tuple es k pos) (.tup ts) := fun X C =>
  PG.imp (PG.or (pg_tup (n := ts.length) C.calm (h X C) (hn _) (hst _)) (pg_lst (n := ts.length) C.calm (h X C) (hn _) (hst _))) fun v σ H Q h => by
    obtain ⟨B, S, ρ, ρ', d, E, r, e, q⟩ := h
    cases r with
    | @tup a xs ds h1 h2 =>
      rw [asgT] at e
      exact .inl ⟨a, xs, rfl, by rw [C.K]; exact ex_t E.sub h1, by rw [rpall_len h2]; exact asgTs_len e, B, S, ρ, ρ', ds, E, h2, e, q⟩
    | @lst a xs ds h1 h2 =>
      rw [asgT] at e
      exact .inr ⟨a, xs, rfl, SqL.of (E.sub _ _ h1), by rw [rpall_len h2]; exact asgTs_len e, B, S, ρ, ρ', ds, E, h2, e, q⟩
    | _ => rw [asgT] at e <;> first | cases e | (intros; rename_i z; cases z)
def dUnp (t : Tgt) (m : Den) : DenS := fun ρ => (m ρ).bind fun rv ρ1 => match rv.frz.bind fun d => asgT t d ρ1 with
  | some ρ2 => .ok .nx ρ2
  | none => .no
/-- (a, b) = e -/
theorem ss_unp {tg e : Expr} {t : Tgt} {m : Den} {pos : Pos} (ht : SG G c tg t) (h : SE G c e m) (hs : ∀ env, swapsWithSole [tg] e pos.line env = pure false := by intro _; rfl) (hw : ∀ env, swappedStores [tg] e env = pure none := by intro _; rfl)
    (h1 : ∀ env, (assignEach [tg] env).map (·.2) = [assign tg env] := by intro _; rfl) : SS G c (.Assign [tg] e pos) (dUnp t m) := fun X W C tk hp =>
  PS.imp (ps_asg (h X W C tk) (ht X C) (hs _) (hw _) (h1 _)) fun D σ H h => by
    obtain ⟨B, S, ρ, E, hp⟩ := h
    refine ⟨B, S, ρ, E, Post.bind hp fun rv ρ1 h1 => ?_⟩
    intro S1 H1 v E1 y R
    cases hf : rv.frz with
    | none => rw [hf] at h1; exact h1.elim
    | some d =>
      rw [hf, Option.bind_some] at h1
      cases ha : asgT t d ρ1 with
      | none => rw [ha] at h1; exact h1.elim
      | some ρ2 =>
        rw [ha] at h1
        obtain ⟨S2, E2, z, r⟩ := frz_ok E1 R hf
        exact ⟨B, S2, ρ1, ρ2, d, E2, r, ha, fun σ' E3 _ => h1 σ' S2 H1 E3 (y.trans z)⟩

/-! ### blocks -/
def dNx : DenS := fun ρ => .ok .nx ρ
def dSeq (m n : DenS) : DenS := fun ρ => (m ρ).bind fun f ρ1 => match f with
  | .nx => n ρ1
  | f => .ok f ρ1
theorem seq_t {W m n D σ H} (h : tS G W (dSeq m n) D σ H) : tSeq (tS G W m) (tS G W n) D σ H := by
  obtain ⟨B, S, ρ, E, hp⟩ := h
  refine ⟨B, S, ρ, E, Post.bind hp fun f ρ1 h1 => ?_⟩
  cases f with
  | nx => exact fun σ' S1 H1 E1 y => ⟨B, S1, ρ1, E1, Post.mono monoFS y h1⟩
  | bk => exact h1
  | ct => exact h1
  | rt rv => exact h1
theorem sss_nil : SSs G c [] dNx := fun X W C tk hp => PSs.imp pss_nil fun D σ H h => by
  obtain ⟨B, S, ρ, E, hp⟩ := h
  exact hp σ S H E (Ex.refl _)
theorem sss_cons {st : Stmt} {rest : List Stmt} {m n : DenS} (h1 : SS G c st m) (h2 : SSs G c rest n) : SSs G c (st :: rest) (dSeq m n) := fun X W C tk hp => PSs.imp (pss_cons (h1 X W C tk hp) (h2 X W C tk hp)) fun D σ H h => seq_t h
theorem sss_one {st : Stmt} {m : DenS} (h1 : SS G c st m) : SSs G c [st] m := fun X W C tk hp => pss_one (h1 X W C tk hp)
theorem ss_pass {pos : Pos} : SS G c (.Pass pos) dNx := fun X W C tk hp => PS.imp ps_pass fun D σ H h => by
  obtain ⟨B, S, ρ, E, hp⟩ := h
  exact hp σ S H E (Ex.refl _)
def dBk : DenS := fun ρ => .ok .bk ρ
def dCt : DenS := fun ρ => .ok .ct ρ
theorem ss_break {pos : Pos} : SS G c (.Break pos) dBk := fun X W C tk hp => PS.imp ps_break fun D σ H h => by
  obtain ⟨B, S, ρ, E, hp⟩ := h
  exact hp σ S H E (Ex.refl _)
theorem ss_continue {pos : Pos} : SS G c (.Continue pos) dCt := fun X W C tk hp => PS.imp ps_continue fun D σ H h => by
  obtain ⟨B, S, ρ, E, hp⟩ := h
  exact hp σ S H E (Ex.refl _)
def dRet (m : Den) : DenS := fun ρ => (m ρ).bind fun rv ρ1 => .ok (.rt rv) ρ1
theorem ss_ret {e : Expr} {m : Den} {pos : Pos} (h : SE G c e m) : SS G c (.Return (some e) pos) (dRet m) := fun X W C tk hp => PS.imp (ps_ret (h X W C tk)) fun D σ H h => by
  obtain ⟨B, S, ρ, E, hp⟩ := h
  refine ⟨B, S, ρ, E, Post.bind hp fun rv ρ1 h1 => ?_⟩
  intro S1 H1 v E1 y R
  exact h1 σ S1 H1 v E1 y R
def dRetN : DenS := fun ρ => .ok (.rt (.sh .none)) ρ
theorem ss_retN {pos : Pos} : SS G c (.Return none pos) dRetN := fun X W C tk hp => PS.imp ps_retN fun D σ H h => by
  obtain ⟨B, S, ρ, E, hp⟩ := h
  exact hp σ S H .non E (Ex.refl _) .non
def dIfS (t : DenT) (m n : DenS) : DenS := onT t fun b => if b then m else n
theorem ss_if {t : Expr} {a b : List Stmt} {mt : DenT} {m n : DenS} {pos : Pos} (ht : ST G c t mt) (ha : SSs G c a m) (hb : SSs G c b n) : SS G c (.If t a b pos) (dIfS mt m n) := fun X W C tk hp =>
  PS.imp (ps_if (ht X W C tk) (ha X W C tk hp) (hb X W C tk hp)) fun D σ H h => by
    obtain ⟨B, S, ρ, E, hp⟩ := h
    refine ⟨B, S, ρ, E, Post.bind hp fun b ρ1 h1 => ?_⟩
    intro S1 H1 E1 y
    cases b with
    | true =>
      rw [if_pos rfl]
      exact ⟨B, S1, ρ1, E1, Post.mono (r := m ρ1) monoFS y h1⟩
    | false =>
      rw [if_neg Bool.false_ne_true]
      exact ⟨B, S1, ρ1, E1, Post.mono (r := n ρ1) monoFS y h1⟩
def dDrop (m : Den) : DenS := fun ρ => (m ρ).bind fun _ ρ1 => .ok .nx ρ1
theorem ss_expr {e : Expr} {m : Den} {pos : Pos} (h : SE G c e m) (hs : ∀ env, swapsWith e none pos.line env = pure false := by intro _; rfl) : SS G c (.Expr e pos) (dDrop m) := fun X W C tk hp => PS.imp (ps_expr (h X W C tk) (hs _)) fun D σ H h => by
  obtain ⟨B, S, ρ, E, hp⟩ := h
  refine ⟨B, S, ρ, E, Post.bind hp fun rv ρ1 h1 => ?_⟩
  intro S1 H1 v E1 y R
  exact h1 σ S1 H1 E1 y

/-! ### the def's own lists, changed -/
/-- what a slot of the def's own holds -/
def mutC (ρ : PEnv) (i : Nat) : Option Cont := match ρ[i]? with
  | some (.ow c) => some c
  | some (.io c) => some c
  | _ => none
def setC (ρ : PEnv) (i : Nat) (c : Cont) : PEnv := match ρ[i]? with
  | some (.ow _) => ρ.set i (.ow c)
  | some (.io _) => ρ.set i (.io c)
  | _ => ρ
theorem mutC_ok {B S σ H ρ i ct} (E : EnvR G B S σ H ρ) (h : mutC ρ i = some ct) : ∃ a o, σ[i]? = some (some (.ref a)) ∧ H a = some o ∧ ContO G S a o ct ∧ S a = none := by
  unfold mutC at h
  cases hs : ρ[i]? with
  | none => rw [hs] at h; cases h
  | some s =>
    rw [hs] at h
    have q := E.slot i s hs
    cases s with
    | un => cases h
    | sh _ => cases h
    | ow c' =>
      cases h
      obtain ⟨a, o, h1, h2, h3, h4, h5⟩ := q
      exact ⟨a, o, h1, h2, h3, h4⟩
    | io c' =>
      cases h
      obtain ⟨a, o, h1, h2, h3, h4⟩ := q
      exact ⟨a, o, h1, h2, h3, E.io_none h4⟩
theorem EnvR.write {B S σ H ρ i ct ct' a o'} (E : EnvR G B S σ H ρ) (h : mutC ρ i = some ct) (ha : σ[i]? = some (some (.ref a))) (hc : ContO G S a o' ct') : EnvR G B S σ (upd H a o') (setC ρ i ct') := by
  obtain ⟨a', o, h1, h2, h3, h4⟩ := mutC_ok E h
  rw [ha] at h1
  cases h1
  have key : ∀ (j : Nat) s, ρ[j]? = some s → j ≠ i → SlotR G B S (upd H a o') σ[j]? s := fun j s hs hj => by
    have q := E.slot j s hs
    have ne : s.mut = true → ∀ b, σ[j]? = some (some (.ref b)) → b ≠ a := fun hm b hb z => by
      subst z
      unfold mutC at h
      cases hi : ρ[i]? with
      | none => rw [hi] at h; cases h
      | some si =>
        rw [hi] at h
        have : si.mut = true := by cases si <;> first | rfl | cases h
        exact hj (E.dis j i s si hs hi hm this (by rw [hb, ha]))
    cases s with
    | un => trivial
    | sh d => exact q
    | ow c' =>
      obtain ⟨b, u, k1, k2, k3⟩ := q
      exact ⟨b, u, k1, by rw [upd_ne (ne rfl b k1)]; exact k2, k3⟩
    | io c' =>
      obtain ⟨b, u, k1, k2, k3⟩ := q
      exact ⟨b, u, k1, by rw [upd_ne (ne rfl b k1)]; exact k2, k3⟩
  have sub' : Ex S (upd H a o') := fun b u hb => by
    rw [upd_ne fun z => by rw [z, h4] at hb; cases hb]
    exact E.sub b u hb
  have ios' : ∀ b, B.io b → B.S0 b = none ∧ (∃ o, B.H0 b = some o) ∧ ∃ o, upd H a o' b = some o := fun b hb => by
    obtain ⟨k1, k2, u, k3⟩ := E.ios b hb
    by_cases z : b = a
    · subst z
      exact ⟨k1, k2, o', upd_same⟩
    · exact ⟨k1, k2, u, by rw [upd_ne z]; exact k3⟩
  unfold mutC at h
  unfold setC
  cases hi : ρ[i]? with
  | none => rw [hi] at h; cases h
  | some si =>
    rw [hi] at h
    have hlt : i < ρ.length := (List.getElem?_eq_some_iff.mp hi).1
    have qi := E.slot i si hi
    cases si with
    | un => cases h
    | sh _ => cases h
    | ow c' =>
      obtain ⟨b, u, k1, k2, k3, k4, k5⟩ := qi
      rw [ha] at k1
      cases k1
      refine ⟨by rw [List.length_set]; exact E.len, E.s0, E.new, sub', fun b u hb hio => ?_, ios', fun j s hs => ?_, fun j k sj sk hj hk mj mk he => ?_⟩
      · rw [upd_ne fun z => by rw [z, k5] at hb; cases hb]
        exact E.keep b u hb hio
      · by_cases hj : i = j
        · subst hj
          rw [List.getElem?_set_self hlt] at hs
          cases hs
          exact ⟨a, o', ha, upd_same, hc, k4, k5⟩
        · rw [List.getElem?_set_ne hj] at hs
          exact key j s hs (Ne.symm hj)
      · have up : ∀ (j : Nat) s, (ρ.set i (.ow ct'))[j]? = some s → s.mut = true → ∃ s', ρ[j]? = some s' ∧ s'.mut = true := fun j s hs hm => by
          by_cases hj : i = j
          · subst hj
            exact ⟨_, hi, rfl⟩
          · rw [List.getElem?_set_ne hj] at hs
            exact ⟨s, hs, hm⟩
        obtain ⟨s1, u1, u2⟩ := up j sj hj mj
        obtain ⟨s2, u3, u4⟩ := up k sk hk mk
        exact E.dis j k s1 s2 u1 u3 u2 u4 he
    | io c' =>
      obtain ⟨b, u, k1, k2, k3, k4⟩ := qi
      rw [ha] at k1
      cases k1
      refine ⟨by rw [List.length_set]; exact E.len, E.s0, E.new, sub', fun b u hb hio => ?_, ios', fun j s hs => ?_, fun j k sj sk hj hk mj mk he => ?_⟩
      · rw [upd_ne fun z => hio (by rw [z]; exact k4)]
        exact E.keep b u hb hio
      · by_cases hj : i = j
        · subst hj
          rw [List.getElem?_set_self hlt] at hs
          cases hs
          exact ⟨a, o', ha, upd_same, hc, k4⟩
        · rw [List.getElem?_set_ne hj] at hs
          exact key j s hs (Ne.symm hj)
      · have up : ∀ (j : Nat) s, (ρ.set i (.io ct'))[j]? = some s → s.mut = true → ∃ s', ρ[j]? = some s' ∧ s'.mut = true := fun j s hs hm => by
          by_cases hj : i = j
          · subst hj
            exact ⟨_, hi, rfl⟩
          · rw [List.getElem?_set_ne hj] at hs
            exact ⟨s, hs, hm⟩
        obtain ⟨s1, u1, u2⟩ := up j sj hj mj
        obtain ⟨s2, u3, u4⟩ := up k sk hk mk
        exact E.dis j k s1 s2 u1 u3 u2 u4 he
/-- xs.append(e) -/
def isLst (ρ : PEnv) (i : Nat) : Bool := match mutC ρ i with
  | some (.L _) => true
  | _ => false
def dApp (i : Nat) (m : Den) : Den := fun ρ => if isLst ρ i = true then (m ρ).bind fun rv ρ1 => match rv.frz, mutC ρ1 i with
  | some d, some (.L ds) => if ds.length < 1000000 then .ok (.sh .none) (setC ρ1 i (.L (ds ++ [d]))) else .no
  | _, _ => .no else .no
theorem isLst_ok {B S σ H ρ i} (E : EnvR G B S σ H ρ) (h : isLst ρ i = true) : ∃ a vs, σ[i]? = some (some (.ref a)) ∧ H a = some (.lst vs) := by
  unfold isLst at h
  cases hm : mutC ρ i with
  | none => rw [hm] at h; cases h
  | some ct =>
    rw [hm] at h
    obtain ⟨a, o, h1, h2, h3, h4⟩ := mutC_ok E hm
    cases ct with
    | M _ => cases h
    | L ds =>
      obtain ⟨vs, rfl, _⟩ := h3
      exact ⟨a, vs, h1, h2⟩
theorem se_append {e o : Expr} {m : Den} {i : Nat} {apos pos : Pos} (ho : IsV c o i) (h : SE G c e m) (hb : ∀ env, attributeBase o "append" env (eval o env) = eval o env := by intro _; rfl)
    (hfew : ∀ env, ((backTo pos (starEach (e :: []) env)).all (fun x => !x.1) && (backToKw pos (keywordEach [] env)).all (fun x => x.1.isSome)
      && decide ((e :: []).length + ([] : List Keyword).length + (if ([] : List Keyword).isEmpty then 0 else 1) < 30)) = true := by intro _; rfl)
    (hline : (apos.endLine == pos.line) = true := by rfl) (hs : ∀ env, starEach [e] env = (false, eval e env) :: starEach [] env := by intro _; rfl) : SE G c (.Call (.Attribute o "append" apos) [e] [] pos) (dApp i m) := fun X W C tk =>
  PE.imp (pe_bm PySem.F.plainAttrs_list PySem.F.slot_list_append PySem.F.type_list_append mt_append (isv_pe ho C) (pa_cons (h X W C tk) pa_nil (hs _)) (hb _) (hfew _) hline (hs _) (by rfl)) fun σ H Q h => by
    obtain ⟨B, S, ρ, E, hp⟩ := h
    unfold dApp at hp
    by_cases hl : isLst ρ i = true
    · rw [if_pos hl] at hp
      obtain ⟨a, vs0, ha, hv0⟩ := isLst_ok E hl
      refine ⟨.ref a, ha, .inl ⟨rfl, vs0, SqL.of hv0⟩, B, S, ρ, E, Post.bind hp fun rv ρ1 h1 => ?_⟩
      intro S1 H1 v E1 y R
      cases hf : rv.frz with
      | none => rw [hf] at h1; exact h1.elim
      | some d =>
        obtain ⟨S2, E2, z, r⟩ := frz_ok E1 R hf
        cases hm : mutC ρ1 i with
        | none => rw [hf, hm] at h1; exact h1.elim
        | some ct =>
          rw [hf, hm] at h1
          cases ct with
          | M _ => exact h1.elim
          | L ds =>
            simp only at h1
            by_cases hz : ds.length < 1000000
            · rw [if_pos hz] at h1
              obtain ⟨a', o', k1, k2, ⟨vs, rfl, k3⟩, k4⟩ := mutC_ok E2 hm
              rw [ha] at k1
              cases k1
              exact ⟨a, vs, v, rfl, rfl, k2, by rw [rpall_len k3, sizeLine_eq]; omega, h1 S2 _ _ (E2.write (ct' := .L (ds ++ [d])) hm ha ⟨_, rfl, k3.snoc r⟩) (y.trans z) .non⟩
            · rw [if_neg hz] at h1; exact h1.elim
    · rw [if_neg hl] at hp
      exact hp.elim
/-- xs[i] = e -/
def dSetIx (i : Nat) (ix m : Den) : DenS := fun ρ => (m ρ).bind fun rv ρ1 => match rv.frz with
  | some d => if isLst ρ1 i = true then (ix ρ1).bind fun rk ρ2 => match rk, mutC ρ2 i with
    | .sh (.int k), some (.L ds) => match ixN ds.length k with
      | some j => .ok .nx (setC ρ2 i (.L (ds.set j d)))
      | none => .no
    | _, _ => .no else .no
  | none => .no
theorem ss_setIx {e o ie : Expr} {m ix : Den} {i : Nat} {p pos : Pos} (ho : IsV c o i) (hi : SE G c ie ix) (h : SE G c e m)
    (ha : ∀ env v, assign (.Subscript o ie p) env v = (do
      let ov ← holding [v] (eval o env)
      let iv ← holding [v, ov] (eval ie env)
      standAt p
      holding [v, ov, iv] (setItem ov iv v)
      release [v, ov, iv] []) := by intro _ _; rfl) (hs : ∀ env, swapsWithSole [.Subscript o ie p] e pos.line env = pure false := by intro _; rfl) (hw : ∀ env, swappedStores [.Subscript o ie p] e env = pure none := by intro _; rfl)
    (h1 : ∀ env, (assignEach [.Subscript o ie p] env).map (·.2) = [assign (.Subscript o ie p) env] := by intro _; rfl) : SS G c (.Assign [.Subscript o ie p] e pos) (dSetIx i ix m) := fun X W C tk hp =>
  PS.imp (ps_asg (h X W C tk) (pg_sub (isv_pe ho C) (hi X W C tk) set_list (ha _)) (hs _) (hw _) (h1 _)) fun D σ H h => by
    obtain ⟨B, S, ρ, E, hp⟩ := h
    refine ⟨B, S, ρ, E, Post.bind hp fun rv ρ1 h1 => ?_⟩
    intro S1 H1 v E1 y R
    cases hf : rv.frz with
    | none => rw [hf] at h1; exact h1.elim
    | some d =>
      rw [hf] at h1
      obtain ⟨S2, E2, z, r⟩ := frz_ok E1 R hf
      simp only at h1
      by_cases hl : isLst ρ1 i = true
      · rw [if_pos hl] at h1
        obtain ⟨a, vs0, ha, hv0⟩ := isLst_ok E2 hl
        refine ⟨.ref a, ha, B, S2, ρ1, E2, Post.bind (Post.mono monoFS (y.trans z) h1) fun rk ρ2 h2 => ?_⟩
        intro S3 H3 w E3 y3 R3
        cases rk with
        | ow _ => exact h2.elim
        | sh dk =>
          cases dk with
          | int k =>
            cases R3
            cases hm : mutC ρ2 i with
            | none => rw [hm] at h2; exact h2.elim
            | some ct =>
              rw [hm] at h2
              cases ct with
              | M _ => exact h2.elim
              | L ds =>
                simp only at h2
                obtain ⟨a', o', k1, k2, ⟨vs, rfl, k3⟩, k4⟩ := mutC_ok E3 hm
                rw [ha] at k1
                cases k1
                cases hj : ixN ds.length k with
                | none => rw [hj] at h2; exact h2.elim
                | some j =>
                  rw [hj] at h2
                  exact ⟨a, vs, k, j, rfl, rfl, k2, by rw [rpall_len k3]; exact hj, h2 σ S3 _ (E3.write (ct' := .L (ds.set j d)) hm ha ⟨_, rfl, RpAll.set (rp_mono y3 _ r) j k3⟩) y3⟩
          | _ => exact h2.elim
      · rw [if_neg hl] at h1; exact h1.elim
/-- x op= e, whole numbers -/
def dAug (i : Nat) (f : PD → PD → Option RV) (m : Den) : DenS := fun ρ => match rdv ρ i with
  | some _ => (m ρ).bind fun rv ρ1 => match rv.frz, rdv ρ1 i with
    | some e, some d => match f d e with
      | some (.sh (.int k)) => stS i (.sh (.int k)) ρ1
      | _ => .no
    | _, _ => .no
  | none => .no
theorem ss_aug {x : Str} {i : Nat} {e : Expr} {m : Den} {op : Operator} {f : PD → PD → Option RV} {g : Int → Int → Int} {p pos : Pos} (hl : IsL c x i) (hv : IsV c (.Name x p) i) (h : SE G c e m) (ho : ∀ X : Cx, PIp X op (ipI g)) (hf : ∀ d e k, f d e = some (.sh (.int k)) → ∃ i j, d = .int i ∧ e = .int j ∧ k = g i j) :
    SS G c (.AugAssign (.Name x p) op e pos) (dAug i f m) := fun X W C tk hp => PS.imp (ps_aug C.nN (hl.hN C) (hl.hx C) (h X W C tk) (ho X) (hl.hf C)) fun D σ H h => by
  obtain ⟨B, S, ρ, E, hp⟩ := h
  unfold dAug at hp
  cases hr : rdv ρ i with
  | none => rw [hr] at hp; exact hp.elim
  | some d0 =>
    rw [hr] at hp
    obtain ⟨v0, k1, k2⟩ := rdv_ok E hr
    refine ⟨v0, k1, B, S, ρ, E, Post.bind hp fun rv ρ1 h1 => ?_⟩
    intro S1 H1 v E1 y R
    cases hz : rv.frz with
    | none => rw [hz] at h1; exact h1.elim
    | some e =>
      obtain ⟨S2, E2, z, r⟩ := frz_ok E1 R hz
      cases hr2 : rdv ρ1 i with
      | none => rw [hz, hr2] at h1; exact h1.elim
      | some d =>
        rw [hz, hr2] at h1
        simp only at h1
        cases hfe : f d e with
        | none => rw [hfe] at h1; exact h1.elim
        | some rk =>
          rw [hfe] at h1
          cases rk with
          | ow _ => exact h1.elim
          | sh dk =>
            cases dk with
            | int k =>
              obtain ⟨n1, n2, rfl, rfl, rfl⟩ := hf _ _ _ hfe
              obtain ⟨v1, k3, k4⟩ := rdv_ok E2 hr2
              rw [k1] at k3
              cases k3
              cases k4
              cases r
              refine ⟨n1, n2, rfl, rfl, ?_⟩
              simp only [stS] at h1
              by_cases hfr : Slot.free ρ1[i]? = true
              · rw [if_pos hfr] at h1
                exact h1 _ S2 H1 (E2.store (rv := .sh (.int (g n1 n2))) hfr (.int _)) (y.trans z)
              · rw [if_neg hfr] at h1; exact h1.elim
            | _ => exact h1.elim
theorem ss_augAdd {x : Str} {i : Nat} {e : Expr} {m : Den} {p pos : Pos} (hl : IsL c x i) (hv : IsV c (.Name x p) i) (h : SE G c e m) : SS G c (.AugAssign (.Name x p) .Add e pos) (dAug i addD m) := ss_aug hl hv h (fun _ => ip_add) fun d e k q => by
  cases d with
  | int i =>
    cases e with
    | int j => cases q; exact ⟨i, j, rfl, rfl, rfl⟩
    | _ => cases q
  | str a =>
    cases e with
    | str b => simp only [addD] at q; split at q <;> cases q
    | _ => cases q
  | list a =>
    cases e with
    | list b => simp only [addD] at q; split at q <;> cases q
    | _ => cases q
  | tuple a =>
    cases e with
    | tuple b => simp only [addD] at q; split at q <;> cases q
    | _ => cases q
  | _ => cases e <;> cases q
theorem ss_augSub {x : Str} {i : Nat} {e : Expr} {m : Den} {p pos : Pos} (hl : IsL c x i) (hv : IsV c (.Name x p) i) (h : SE G c e m) : SS G c (.AugAssign (.Name x p) .Sub e pos) (dAug i subD m) := ss_aug hl hv h (fun _ => ip_sub) fun d e k q => by
  cases d with
  | int i =>
    cases e with
    | int j => cases q; exact ⟨i, j, rfl, rfl, rfl⟩
    | _ => cases q
  | _ => cases e <;> cases q
/-- xs.pop(), the def's own -/
def dPop (i : Nat) : Den := fun ρ => match mutC ρ i with
  | some (.L ds) => match ds[ds.length - 1]? with
    | some d => .ok (.sh d) (setC ρ i (.L ds.dropLast))
    | none => .no
  | _ => .no
theorem rp_dropLast {K H} {vs : List V} {ds : List PD} (h : RpAll K H vs ds) : RpAll K H vs.dropLast ds.dropLast := by
  rw [List.dropLast_eq_take, List.dropLast_eq_take, rpall_len h]
  exact h.take _
theorem se_pop {o : Expr} {i : Nat} {apos pos : Pos} (ho : IsV c o i) (hb : ∀ env, attributeBase o "pop" env (eval o env) = eval o env := by intro _; rfl) (hline : (apos.endLine == pos.line) = true := by rfl) : SE G c (.Call (.Attribute o "pop" apos) [] [] pos) (dPop i) := fun X W C tk =>
  PE.imp (pe_bm0 PySem.F.plainAttrs_list PySem.F.slot_list_pop PySem.F.type_list_pop mt_pop (isv_pe ho C) (hb _) hline) fun σ H Q h => by
    obtain ⟨B, S, ρ, E, hp⟩ := h
    unfold dPop at hp
    cases hm : mutC ρ i with
    | none => rw [hm] at hp; exact hp.elim
    | some ct =>
      rw [hm] at hp
      cases ct with
      | M _ => exact hp.elim
      | L ds =>
        simp only at hp
        obtain ⟨a, o', k1, k2, ⟨vs, rfl, k3⟩, k4⟩ := mutC_ok E hm
        cases hd : ds[ds.length - 1]? with
        | none => rw [hd] at hp; exact hp.elim
        | some d =>
          rw [hd] at hp
          obtain ⟨v, g1, g2⟩ := k3.get' hd
          exact ⟨.ref a, k1, .inl ⟨rfl, vs, SqL.of k2⟩, a, vs, v, rfl, rfl, k2, by rw [rpall_len k3]; exact g1, hp S _ _ (E.write (ct' := .L ds.dropLast) hm k1 ⟨_, rfl, rp_dropLast k3⟩) (Ex.refl _) g2⟩
/-- xs.pop(k) -/
def dPopAt (i : Nat) (m : Den) : Den := fun ρ => if isLst ρ i = true then (m ρ).bind fun rv ρ1 => match rv, mutC ρ1 i with
  | .sh (.int k), some (.L ds) => if 0 ≤ k ∧ k < ds.length ∧ k < 1000000 then match ds[k.toNat]? with
    | some d => .ok (.sh d) (setC ρ1 i (.L (ds.eraseIdx k.toNat)))
    | none => .no else .no
  | _, _ => .no else .no
theorem rp_erase {K H} : ∀ {vs : List V} {ds : List PD} (n : Nat), RpAll K H vs ds → RpAll K H (vs.eraseIdx n) (ds.eraseIdx n)
  | _, _, _, .nil => .nil
  | _, _, 0, .cons _ t => t
  | _, _, n + 1, .cons a t => .cons a (rp_erase n t)
theorem se_popAt {e o : Expr} {m : Den} {i : Nat} {apos pos : Pos} (ho : IsV c o i) (h : SE G c e m) (hb : ∀ env, attributeBase o "pop" env (eval o env) = eval o env := by intro _; rfl)
    (hfew : ∀ env, ((backTo pos (starEach (e :: []) env)).all (fun x => !x.1) && (backToKw pos (keywordEach [] env)).all (fun x => x.1.isSome)
      && decide ((e :: []).length + ([] : List Keyword).length + (if ([] : List Keyword).isEmpty then 0 else 1) < 30)) = true := by intro _; rfl)
    (hline : (apos.endLine == pos.line) = true := by rfl) (hs : ∀ env, starEach [e] env = (false, eval e env) :: starEach [] env := by intro _; rfl) : SE G c (.Call (.Attribute o "pop" apos) [e] [] pos) (dPopAt i m) := fun X W C tk =>
  PE.imp (pe_bm PySem.F.plainAttrs_list PySem.F.slot_list_pop PySem.F.type_list_pop mt_popAt (isv_pe ho C) (pa_cons (h X W C tk) pa_nil (hs _)) (hb _) (hfew _) hline (hs _) (by rfl)) fun σ H Q h => by
    obtain ⟨B, S, ρ, E, hp⟩ := h
    unfold dPopAt at hp
    by_cases hl : isLst ρ i = true
    · rw [if_pos hl] at hp
      obtain ⟨a, vs0, ha, hv0⟩ := isLst_ok E hl
      refine ⟨.ref a, ha, .inl ⟨rfl, vs0, SqL.of hv0⟩, B, S, ρ, E, Post.bind hp fun rv ρ1 h1 => ?_⟩
      intro S1 H1 v E1 y R
      cases rv with
      | ow _ => exact h1.elim
      | sh dk =>
        cases dk with
        | int k =>
          cases R
          cases hm : mutC ρ1 i with
          | none => rw [hm] at h1; exact h1.elim
          | some ct =>
            rw [hm] at h1
            cases ct with
            | M _ => exact h1.elim
            | L ds =>
              simp only at h1
              by_cases hz : 0 ≤ k ∧ k < ds.length ∧ k < 1000000
              · rw [if_pos hz] at h1
                obtain ⟨a', o', k1, k2, ⟨vs, rfl, k3⟩, k4⟩ := mutC_ok E1 hm
                rw [ha] at k1
                cases k1
                cases hd : ds[k.toNat]? with
                | none => rw [hd] at h1; exact h1.elim
                | some d =>
                  rw [hd] at h1
                  obtain ⟨w, g1, g2⟩ := k3.get' hd
                  have hq : seqIndex? k vs.length = some k.toNat := seqIndex_of hz.1 (by rw [rpall_len k3]; exact hz.2.1)
                  exact ⟨a, vs, k, k.toNat, w, rfl, rfl, k2, by omega, by omega, hq, g1, h1 S1 _ _ (E1.write (ct' := .L (ds.eraseIdx k.toNat)) hm ha ⟨_, rfl, rp_erase _ k3⟩) y g2⟩
              · rw [if_neg hz] at h1; exact h1.elim
        | _ => exact h1.elim
    · rw [if_neg hl] at hp
      exact hp.elim
end DL
/-! DL, part g: what is walked; for, while -/
namespace DL
open PySem PySem.Spec PyProof.Rows L2 RZ
variable {G : GC} {c : SC}

/-- an iterator gives out the data ds, over S and all that comes after -/
def Serves (G : GC) (J : It) (S : Hp) (ds : List PD) : Prop := ∀ (i : Nat) S1 H1, Ex S S1 → Ex S1 H1 → (∀ d, ds[i]? = some d → J.go i H1 ∧ ∀ x H2, J.yld i H1 x H2 → ∃ S2, Step S1 H1 S2 H2 ∧ Rp G.K S2 x d) ∧ (i = ds.length → J.stop i H1)
theorem Serves.mono {J S S' ds} (h : Serves G J S ds) (e : Ex S S') : Serves G J S' ds := fun i S1 H1 a b => h i S1 H1 (e.trans a) b
abbrev Src := PEnv → Res (List PD)
abbrev FI (G : GC) (B : Bse) (σ : L2.St) (R : It → Hp → Prop) : FinT (List PD) := fun S ds ρ => ∀ S' H' J, EnvR G B S' σ H' ρ → Ex S S' → Serves G J S' ds → R J H'
theorem monoFI {B σ R} : MonoF (FI G B σ R) := fun _ _ _ _ x f _ _ _ E y => f _ _ _ E (x.trans y)
def tI (G : GC) (W : WX) (m : Src) : TI := fun σ H R => ∃ B S ρ, EnvR G B S σ H ρ ∧ Post G B W (FI G B σ R) S (m ρ)
def SI (G : GC) (c : SC) (tg iter : Expr) (m : Src) : Prop := ∀ X W, CtxOk G c X → Takes X W → PI X tg iter (tI G W m)

theorem rp_nth {K S} {vs : List V} {ds : List PD} {i : Nat} {d : PD} {x : V} (h : RpAll K S vs ds) (e : ds[i]? = some d) (e2 : vs[i]? = some x) : Rp K S x d := by
  obtain ⟨v, h1, h2⟩ := h.get' e
  rw [e2] at h1
  cases h1
  exact h2
theorem serves_list {S a vs ds} (h1 : SqL G.K S a vs) (h2 : RpAll G.K S vs ds) : Serves G (Itl G.K a) S ds := fun i S1 H1 x y => by
  have hq : SqL G.K H1 a vs := ex_l (x.trans y) h1
  refine ⟨fun d hd => ?_, fun hi => ⟨vs, hq, by rw [rpall_len h2, hi]; exact Nat.le_refl _⟩⟩
  obtain ⟨v, k1, k2⟩ := h2.get' hd
  refine ⟨⟨vs, v, hq, k1⟩, fun z H2 hy => ?_⟩
  obtain ⟨rfl, hy⟩ := hy
  have := hy vs hq
  rw [k1] at this
  cases this
  exact ⟨S1, Step.refl y, rp_mono x _ k2⟩
theorem serves_tup {S a vs ds} (h1 : SqT G.K S a vs) (h2 : RpAll G.K S vs ds) : Serves G (Itt G.K a) S ds := fun i S1 H1 x y => by
  have hq : SqT G.K H1 a vs := ex_t (x.trans y) h1
  refine ⟨fun d hd => ?_, fun hi => ⟨vs, hq, by rw [rpall_len h2, hi]; exact Nat.le_refl _⟩⟩
  obtain ⟨v, k1, k2⟩ := h2.get' hd
  refine ⟨⟨vs, v, hq, k1⟩, fun z H2 hy => ?_⟩
  obtain ⟨rfl, hy⟩ := hy
  have := hy vs hq
  rw [k1] at this
  cases this
  exact ⟨S1, Step.refl y, rp_mono x _ k2⟩
def signs (x : Str) : List PD := x.cps.toList.map fun k => .str ⟨#[k]⟩
theorem serves_str {S x} : Serves G (Its x) S (signs x) := fun i S1 H1 _ y => by
  refine ⟨fun d hd => ?_, fun hi => ?_⟩
  · unfold signs at hd
    rw [List.getElem?_map, Option.map_eq_some_iff] at hd
    obtain ⟨k, hk, rfl⟩ := hd
    have hlt := (List.getElem?_eq_some_iff.mp hk).1
    refine ⟨by show i < x.cps.size; simpa using hlt, fun z H2 hy => ?_⟩
    obtain ⟨rfl, k2, hk2, rfl⟩ := hy
    rw [← Array.getElem?_toList, hk] at hk2
    cases hk2
    exact ⟨S1, Step.refl y, .str _⟩
  · show x.cps.size ≤ i
    rw [hi]
    simp [signs]
def rangeL (lo hi : Int) : List PD := (List.range (hi - lo).toNat).map fun (k : Nat) => .int (lo + k)
theorem serves_range {S lo n} : Serves G (Itr lo n) S ((List.range n).map fun (k : Nat) => .int (lo + k)) := fun i S1 H1 _ y => by
  refine ⟨fun d hd => ?_, fun hi => ?_⟩
  · rw [List.getElem?_map, Option.map_eq_some_iff] at hd
    obtain ⟨k, hk, rfl⟩ := hd
    obtain ⟨hlt, hk2⟩ := List.getElem?_eq_some_iff.mp hk
    rw [List.length_range] at hlt
    rw [List.getElem_range] at hk2
    subst hk2
    refine ⟨hlt, fun z H2 hy => ?_⟩
    obtain ⟨rfl, rfl⟩ := hy
    exact ⟨S1, Step.refl y, .int _⟩
  · show n ≤ i
    rw [hi]
    simp

def srcSeq (m : Den) : Src := fun ρ => (m ρ).bind fun rv ρ1 => match rv.frz with
  | some (.list ds) => .ok ds ρ1
  | some (.tuple ds) => .ok ds ρ1
  | some (.str x) => .ok (signs x) ρ1
  | some (.dict kvs) => match scrOf kvs with
    | some ns => .ok (ns.map .int) ρ1
    | none => .no
  | _ => .no
theorem si_seq {tg e : Expr} {m : Den} (h : SE G c e m) : SI G c tg e (srcSeq m) := fun X W C tk => ⟨fun pins s σ H R I hw => by
  obtain ⟨B, S, ρ, E, hp⟩ := hw
  unfold srcSeq at hp
  have hE := h X W C tk
  have go : ∀ rv ρ1 d, m ρ = .ok rv ρ1 → rv.frz = some d → ∀ Q : VK, (∀ S2 H1 v, EnvR G B S2 σ H1 ρ1 → Ex S S2 → Rp G.K S2 v d → Q v H1) → tE G W m σ H Q := fun rv ρ1 d e1 e2 Q k => ⟨B, S, ρ, E, by
    rw [e1]
    intro S1 H1 v E1 y R
    obtain ⟨S2, E2, z, r⟩ := frz_ok E1 R e2
    exact k S2 H1 v E2 (y.trans z) r⟩
  cases hm : m ρ with
  | no => rw [hm] at hp; exact hp.elim
  | exc k ρ1 =>
    rw [hm] at hp
    refine (pi_list hE).run pins s σ H R I ⟨B, S, ρ, E, ?_⟩
    rw [hm]
    exact hp
  | ok rv ρ1 =>
    rw [hm] at hp
    simp only [Res.bind] at hp
    cases hf : rv.frz with
    | none => rw [hf] at hp; exact hp.elim
    | some d =>
      rw [hf] at hp
      cases d with
      | list ds =>
        refine (pi_list hE).run pins s σ H R I (go _ _ _ hm hf _ fun S2 H1 v E2 y r => ?_)
        cases r with
        | @lst a vs _ h1 h2 =>
          refine ⟨a, rfl, ⟨vs, SqL.of (E2.sub _ _ h1)⟩, ?_⟩
          rw [C.K]
          exact hp S2 H1 _ E2 y (serves_list (SqL.of h1) h2)
      | dict kvs =>
        simp only at hp
        cases hk : scrOf kvs with
        | none => rw [hk] at hp; exact hp.elim
        | some ns =>
          rw [hk] at hp
          refine (pi_list hE).run pins s σ H R I (go _ _ _ hm hf _ fun S2 H1 v E2 y r => ?_)
          cases r with
          | @scr a ms _ h0 h1 =>
            rw [hk] at h0
            cases h0
            refine ⟨a, rfl, ⟨_, by rw [C.K]; exact ex_l E2.sub h1⟩, ?_⟩
            rw [C.K]
            exact hp S2 H1 _ E2 y (serves_list h1 (rp_ints ns))
      | tuple ds =>
        refine (pi_tup hE).run pins s σ H R I (go _ _ _ hm hf _ fun S2 H1 v E2 y r => ?_)
        cases r with
        | @tup a vs _ h1 h2 =>
          refine ⟨a, rfl, ⟨vs, by rw [C.K]; exact ex_t E2.sub h1⟩, ?_⟩
          rw [C.K]
          exact hp S2 H1 _ E2 y (serves_tup h1 h2)
      | str x =>
        refine (pi_str hE).run pins s σ H R I (go _ _ _ hm hf _ fun S2 H1 v E2 y r => ?_)
        cases r
        exact ⟨x, rfl, hp S2 H1 _ E2 y serves_str⟩
      | _ => exact hp.elim⟩
def RgB (i : Int) : Prop := -1000000000 ≤ i ∧ i ≤ 1000000000
instance (i : Int) : Decidable (RgB i) := by unfold RgB; infer_instance
def srcRng1 (m : PEnv → Res (List PD)) : Src := fun ρ => (m ρ).bind fun ds ρ1 => match ds with
  | [.int j] => if RgB j then .ok (rangeL 0 j) ρ1 else .no
  | _ => .no
def srcRng2 (m : PEnv → Res (List PD)) : Src := fun ρ => (m ρ).bind fun ds ρ1 => match ds with
  | [.int i, .int j] => if RgB i ∧ RgB j then .ok (rangeL i j) ρ1 else .no
  | _ => .no
theorem si_rng1 {tg a : Expr} {m : PEnv → Res (List PD)} {p pos : Pos} (hg : GlC c "range") (hm : G.mg "range" = none) (h : SA G c [a] m) (hs : ∀ env, starEach [a] env = [(false, eval a env)] := by intro _; rfl) : SI G c tg (.Call (.Name "range" p) [a] [] pos) (srcRng1 m) := fun X W C tk =>
  PI.imp (pi_range1 (gl_of C hg) (by rw [C.mg]; exact hm) (h X W C tk) (hs _)) fun σ H R hw => by
    obtain ⟨B, S, ρ, E, hp⟩ := hw
    refine ⟨B, S, ρ, E, Post.bind hp fun ds ρ1 h1 => ?_⟩
    intro S1 H1 vs E1 y r
    cases r with
    | nil => exact h1.elim
    | cons r1 r2 =>
      cases r2 with
      | cons _ _ => cases r1 <;> exact h1.elim
      | nil =>
        cases r1 with
        | int j =>
          simp only at h1
          by_cases hj : RgB j
          · rw [if_pos hj] at h1
            refine ⟨j, rfl, by unfold RgB at hj; omega, by unfold RgB at hj; omega, h1 S1 H1 _ E1 y ?_⟩
            have := serves_range (G := G) (S := S1) (lo := 0) (n := j.toNat)
            unfold rangeL
            rw [Int.sub_zero]
            exact this
          · rw [if_neg hj] at h1; exact h1.elim
        | _ => exact h1.elim
theorem si_rng2 {tg a b : Expr} {m : PEnv → Res (List PD)} {p pos : Pos} (hg : GlC c "range") (hm : G.mg "range" = none) (h : SA G c [a, b] m) (hs : ∀ env, starEach [a, b] env = [(false, eval a env), (false, eval b env)] := by intro _; rfl) (hs2 : ∀ env, starEach [b] env = [(false, eval b env)] := by intro _; rfl) : SI G c tg (.Call (.Name "range" p) [a, b] [] pos) (srcRng2 m) := fun X W C tk =>
  PI.imp (pi_range2 (gl_of C hg) (by rw [C.mg]; exact hm) (h X W C tk) (hs _) (hs2 _)) fun σ H R hw => by
    obtain ⟨B, S, ρ, E, hp⟩ := hw
    refine ⟨B, S, ρ, E, Post.bind hp fun ds ρ1 h1 => ?_⟩
    intro S1 H1 vs E1 y r
    cases r with
    | nil => exact h1.elim
    | cons r1 r2 =>
      cases r2 with
      | nil => cases r1 <;> exact h1.elim
      | cons r2 r3 =>
        cases r3 with
        | cons _ _ => cases r1 <;> cases r2 <;> exact h1.elim
        | nil =>
          cases r1 with
          | int i =>
            cases r2 with
            | int j =>
              simp only at h1
              by_cases hj : RgB i ∧ RgB j
              · rw [if_pos hj] at h1
                exact ⟨i, j, rfl, by unfold RgB at hj; omega, h1 S1 H1 _ E1 y serves_range⟩
              · rw [if_neg hj] at h1; exact h1.elim
            | _ => exact h1.elim
          | _ => cases r2 <;> exact h1.elim
/-- zip(xs, ys), both lists or both tuples -/
def pairs (xs ys : List PD) : List PD := xs.zipWith (fun x y => .tuple [x, y]) ys
def srcZip (m : PEnv → Res (List PD)) : Src := fun ρ => (m ρ).bind fun ds ρ1 => match ds with
  | [.list xs, .list ys] => .ok (pairs xs ys) ρ1
  | [.tuple xs, .tuple ys] => .ok (pairs xs ys) ρ1
  | _ => .no
theorem pairs_get {xs ys : List PD} {i : Nat} {d : PD} (h : (pairs xs ys)[i]? = some d) : ∃ x y, xs[i]? = some x ∧ ys[i]? = some y ∧ d = .tuple [x, y] := by
  unfold pairs at h
  rw [List.getElem?_zipWith] at h
  cases h1 : xs[i]? with
  | none => rw [h1] at h; cases h
  | some x =>
    cases h2 : ys[i]? with
    | none => rw [h1, h2] at h; cases h
    | some y =>
      rw [h1, h2] at h
      cases h
      exact ⟨x, y, rfl, rfl, rfl⟩
theorem pair_step {S1 H1 H2 : Hp} {T : Addr} {v w : V} {x y : PD} (hx : Ex S1 H1) (hT : H1 T = none) (e : H2 = upd H1 T (.tup [v, w])) (h1 : Rp G.K S1 v x) (h2 : Rp G.K S1 w y) : ∃ S2, Step S1 H1 S2 H2 ∧ Rp G.K S2 (.ref T) (.tuple [x, y]) := by
  subst e
  have z : Ex S1 (upd S1 T (.tup [v, w])) := Ex.new (hx.free hT)
  exact ⟨_, Step.alloc hx hT, .tup (.inl (.inl upd_same)) (.cons (rp_mono z _ h1) (.cons (rp_mono z _ h2) .nil))⟩
theorem serves_zip {S a b vs ws xs ys} (h1 : S a = some (.lst vs)) (h2 : RpAll G.K S vs xs) (h3 : S b = some (.lst ws)) (h4 : RpAll G.K S ws ys) : Serves G (Itz G.K a b) S (pairs xs ys) := fun i S1 H1 x y => by
  have hq : SqL G.K H1 a vs := SqL.of (x.trans y _ _ h1)
  have hq2 : SqL G.K H1 b ws := SqL.of (x.trans y _ _ h3)
  refine ⟨fun d hd => ?_, fun hi => ⟨vs, ws, hq, hq2, ?_⟩⟩
  · obtain ⟨d1, d2, e1, e2, rfl⟩ := pairs_get hd
    obtain ⟨v, k1, k2⟩ := h2.get' e1
    obtain ⟨w, k3, k4⟩ := h4.get' e2
    refine ⟨⟨vs, ws, v, w, hq, hq2, k1, k3⟩, fun z H2 hy => ?_⟩
    obtain ⟨T, v', w', rfl, hT, e, y1, y2⟩ := hy
    have z1 := y1 vs hq
    have z2 := y2 ws hq2
    rw [k1] at z1
    rw [k3] at z2
    cases z1
    cases z2
    exact pair_step y hT e (rp_mono x _ k2) (rp_mono x _ k4)
  · rw [rpall_len h2, rpall_len h4, hi]
    unfold pairs
    rw [List.length_zipWith]
    omega
theorem serves_zipT {S a b vs ws xs ys} (h1 : SqT G.K S a vs) (h2 : RpAll G.K S vs xs) (h3 : SqT G.K S b ws) (h4 : RpAll G.K S ws ys) : Serves G (ItzT G.K a b) S (pairs xs ys) := fun i S1 H1 x y => by
  have hq : SqT G.K H1 a vs := ex_t (x.trans y) h1
  have hq2 : SqT G.K H1 b ws := ex_t (x.trans y) h3
  refine ⟨fun d hd => ?_, fun hi => ⟨vs, ws, hq, hq2, ?_⟩⟩
  · obtain ⟨d1, d2, e1, e2, rfl⟩ := pairs_get hd
    obtain ⟨v, k1, k2⟩ := h2.get' e1
    obtain ⟨w, k3, k4⟩ := h4.get' e2
    refine ⟨⟨vs, ws, v, w, hq, hq2, k1, k3⟩, fun z H2 hy => ?_⟩
    obtain ⟨T, v', w', rfl, hT, e, y1, y2⟩ := hy
    have z1 := y1 vs hq
    have z2 := y2 ws hq2
    rw [k1] at z1
    rw [k3] at z2
    cases z1
    cases z2
    exact pair_step y hT e (rp_mono x _ k2) (rp_mono x _ k4)
  · rw [rpall_len h2, rpall_len h4, hi]
    unfold pairs
    rw [List.length_zipWith]
    omega
theorem si_zip {a b : Expr} {elts : List Expr} {kk : Nat} {tpos : Pos} {m : PEnv → Res (List PD)} {p pos : Pos} (hg : GlC c "zip") (hm : G.mg "zip" = none) (h : SA G c [a, b] m) (hs : ∀ env, starEach [a, b] env = (false, eval a env) :: starEach [b] env := by intro _; rfl) (hs2 : ∀ env, starEach [b] env = [(false, eval b env)] := by intro _; rfl) :
    SI G c (.Tuple elts kk tpos) (.Call (.Name "zip" p) [a, b] [] pos) (srcZip m) := fun X W C tk =>
  PI.imp (pi_zipA (gl_of C hg) (by rw [C.mg]; exact hm) (h X W C tk) (hs _) (by rw [hs2]; rfl)) fun σ H R hw => by
    obtain ⟨B, S, ρ, E, hp⟩ := hw
    refine ⟨B, S, ρ, E, Post.bind hp fun ds ρ1 h1 => ?_⟩
    intro S1 H1 vs E1 y r
    cases r with
    | nil => exact h1.elim
    | cons r1 r2 =>
      cases r2 with
      | nil => cases r1 <;> exact h1.elim
      | cons r2 r3 =>
        cases r3 with
        | cons _ _ => cases r1 <;> cases r2 <;> exact h1.elim
        | nil =>
          rw [C.K]
          cases r1 with
          | @lst p1 v1 d1 k1 k2 =>
            cases r2 with
            | @lst p2 v2 d2 k3 k4 => exact ⟨p1, p2, v1, v2, rfl, .inl ⟨SqL.of (E1.sub _ _ k1), SqL.of (E1.sub _ _ k3), h1 S1 H1 _ E1 y (serves_zip k1 k2 k3 k4)⟩⟩
            | _ => exact h1.elim
          | @tup p1 v1 d1 k1 k2 =>
            cases r2 with
            | @tup p2 v2 d2 k3 k4 => exact ⟨p1, p2, v1, v2, rfl, .inr ⟨ex_t E1.sub k1, ex_t E1.sub k3, h1 S1 H1 _ E1 y (serves_zipT k1 k2 k3 k4)⟩⟩
            | _ => exact h1.elim
          | _ => cases r2 <;> exact h1.elim
/-- enumerate(xs), xs a list -/
def numbered (xs : List PD) : List PD := xs.zipIdx.map fun x => .tuple [.int x.2, x.1]
def srcEnum (m : PEnv → Res (List PD)) : Src := fun ρ => (m ρ).bind fun ds ρ1 => match ds with
  | [.list xs] => .ok (numbered xs) ρ1
  | _ => .no
theorem serves_enum {S a vs xs} (h1 : S a = some (.lst vs)) (h2 : RpAll G.K S vs xs) : Serves G (Ite G.K a) S (numbered xs) := fun i S1 H1 x y => by
  have hq : SqL G.K H1 a vs := SqL.of (x.trans y _ _ h1)
  refine ⟨fun d hd => ?_, fun hi => ⟨vs, hq, ?_⟩⟩
  · unfold numbered at hd
    rw [List.getElem?_map, Option.map_eq_some_iff] at hd
    obtain ⟨⟨d1, j⟩, e1, rfl⟩ := hd
    rw [List.getElem?_zipIdx, Option.map_eq_some_iff] at e1
    obtain ⟨d2, e2, e3⟩ := e1
    cases e3
    obtain ⟨v, k1, k2⟩ := h2.get' e2
    refine ⟨⟨vs, v, hq, k1⟩, fun z H2 hy => ?_⟩
    obtain ⟨T, v', rfl, hT, e, y1⟩ := hy
    have z1 := y1 vs hq
    rw [k1] at z1
    cases z1
    have := pair_step (x := .int ((0 + i : Nat) : Int)) y hT (v := .int (i : Nat)) (w := v) e (by rw [Nat.zero_add]; exact .int _) (rp_mono x _ k2)
    exact this
  · rw [rpall_len h2, hi]
    simp [numbered]
theorem si_enum {a : Expr} {elts : List Expr} {kk : Nat} {tpos : Pos} {m : PEnv → Res (List PD)} {p pos : Pos} (hg : GlC c "enumerate") (hm : G.mg "enumerate" = none) (h : SA G c [a] m) (hs : ∀ env, starEach [a] env = [(false, eval a env)] := by intro _; rfl) :
    SI G c (.Tuple elts kk tpos) (.Call (.Name "enumerate" p) [a] [] pos) (srcEnum m) := fun X W C tk =>
  PI.imp (pi_enum (gl_of C hg) (by rw [C.mg]; exact hm) (h X W C tk) (hs _)) fun σ H R hw => by
    obtain ⟨B, S, ρ, E, hp⟩ := hw
    refine ⟨B, S, ρ, E, Post.bind hp fun ds ρ1 h1 => ?_⟩
    intro S1 H1 vs E1 y r
    cases r with
    | nil => exact h1.elim
    | cons r1 r2 =>
      cases r2 with
      | cons _ _ => cases r1 <;> exact h1.elim
      | nil =>
        rw [C.K]
        cases r1 with
        | @lst p1 v1 d1 k1 k2 => exact ⟨p1, v1, rfl, SqL.of (E1.sub _ _ k1), h1 S1 H1 _ E1 y (serves_enum k1 k2)⟩
        | _ => exact h1.elim

/-! ### for -/
def forL (t : Tgt) (body : DenS) : List PD → PEnv → Res Flow'
  | [], ρ => .ok .nx ρ
  | d :: ds, ρ => match asgT t d ρ with
    | none => .no
    | some ρ1 => (body ρ1).bind fun f ρ2 => match f with
      | .nx => forL t body ds ρ2
      | .ct => forL t body ds ρ2
      | .bk => .ok .nx ρ2
      | .rt rv => .ok (.rt rv) ρ2
def dFor (src : Src) (t : Tgt) (body : DenS) : DenS := fun ρ => (src ρ).bind fun ds ρ1 => forL t body ds ρ1
theorem ss_for {tg iter : Expr} {body : List Stmt} {src : Src} {t : Tgt} {m : DenS} {pos : Pos} (hi : SI G c tg iter src) (hg : SG G c tg t) (hb : SSs G c body m) (hs : ∀ env x, foldedSetIterable iter env x = pure x := by intro _ _; rfl) : SS G c (.For tg iter body [] pos) (dFor src t m) := fun X W C tk hp =>
  PS.imp (ps_for hp C.calm (hi X W C tk) (hg X C) (hb X W C tk hp) (hs _)) fun D σ H h => by
    obtain ⟨B, S, ρ, E, hp⟩ := h
    refine ⟨B, S, ρ, E, Post.bind hp fun ds ρ1 h1 => ?_⟩
    intro S1 H1 J E1 y sv
    refine ⟨fun i mm σ' H' => mm = ds.length - i ∧ i ≤ ds.length ∧ ∃ S' ρ', EnvR G B S' σ' H' ρ' ∧ Ex S1 S' ∧ Post G B W (FS G B D) S' (forL t m (ds.drop i) ρ'), ⟨ds.length, by simp, Nat.zero_le _, S1, ρ1, E1, Ex.refl _, Post.mono monoFS y h1⟩, ?_⟩
    rintro i mm σ' H' ⟨rfl, hi, S', ρ', E', x', hp'⟩
    obtain ⟨s1, s2⟩ := sv i S' H' x' E'.sub
    by_cases hlt : i < ds.length
    · right
      have hd : ds[i]? = some ds[i] := List.getElem?_eq_getElem hlt
      obtain ⟨g1, g2⟩ := s1 _ hd
      rw [List.drop_eq_getElem_cons hlt, forL] at hp'
      refine ⟨g1, fun σ2 H2 => ∃ S2 ρ2, EnvR G B S2 σ2 H2 ρ2 ∧ Ex S1 S2 ∧ Post G B W (FS G B D) S2 (forL t m (ds.drop (i + 1)) ρ2), fun σ2 H2 ⟨S2, ρ2, E2, x2, hp2⟩ => ⟨ds.length - (i + 1), by omega, rfl, hlt, S2, ρ2, E2, x2, hp2⟩, fun v H2 hy => ?_⟩
      obtain ⟨S2, T, r⟩ := g2 v H2 hy
      have E2 := E'.step T
      cases ha : asgT t ds[i] ρ' with
      | none => rw [ha] at hp'; exact hp'.elim
      | some ρ2 =>
        rw [ha] at hp'
        refine ⟨B, S2, ρ', ρ2, ds[i], E2, r, ha, fun σ3 E3 _ => ⟨B, S2, ρ2, E3, Post.bind (Post.mono monoFS T.s hp') fun f ρ4 h4 => ?_⟩⟩
        cases f with
        | nx => exact fun σ5 S5 H5 E5 y5 => ⟨S5, ρ4, E5, x'.trans (T.s.trans y5), Post.mono monoFS y5 h4⟩
        | ct => exact fun σ5 S5 H5 E5 y5 => ⟨S5, ρ4, E5, x'.trans (T.s.trans y5), Post.mono monoFS y5 h4⟩
        | bk => exact h4
        | rt rv => exact h4
    · have hi2 : i = ds.length := by omega
      left
      refine ⟨s2 hi2, ?_⟩
      rw [hi2, List.drop_length] at hp'
      exact hp' σ' S' H' E' (Ex.refl _)

/-! ### while -/
def whileF (t : DenT) (body : DenS) : Nat → PEnv → Res Flow'
  | 0 => fun _ => .no
  | n + 1 => fun ρ => (t ρ).bind fun b ρ1 => if b then (body ρ1).bind fun f ρ2 => match f with
      | .nx => whileF t body n ρ2
      | .ct => whileF t body n ρ2
      | .bk => .ok .nx ρ2
      | .rt rv => .ok (.rt rv) ρ2
    else .ok .nx ρ1
theorem ss_while {t : Expr} {body : List Stmt} {mt : DenT} {m : DenS} {pos : Pos} (n : Nat) (ht : ST G c t mt) (hb : SSs G c body m) : SS G c (.While t body [] pos) (whileF mt m n) := fun X W C tk hp =>
  PS.imp (ps_while hp (ht X W C tk) (hb X W C tk hp)) fun D σ H h => by
    obtain ⟨B, S, ρ, E, hp⟩ := h
    refine ⟨fun k σ' H' => ∃ S' ρ', EnvR G B S' σ' H' ρ' ∧ Ex S S' ∧ Post G B W (FS G B D) S' (whileF mt m k ρ'), ⟨n, S, ρ, E, Ex.refl _, hp⟩, ?_⟩
    rintro k σ' H' ⟨S', ρ', E', x', hp'⟩
    cases k with
    | zero => exact hp'.elim
    | succ k =>
      rw [whileF] at hp'
      refine ⟨B, S', ρ', E', Post.bind hp' fun b ρ1 h1 => ?_⟩
      intro S1 H1 E1 y
      cases b with
      | true =>
        rw [if_pos rfl]
        rw [if_pos rfl] at h1
        refine ⟨fun σ2 H2 => ∃ S2 ρ2, EnvR G B S2 σ2 H2 ρ2 ∧ Ex S S2 ∧ Post G B W (FS G B D) S2 (whileF mt m k ρ2), fun σ2 H2 ⟨S2, ρ2, E2, x2, hp2⟩ => ⟨k, Nat.lt_succ_self k, S2, ρ2, E2, x2, hp2⟩, B, S1, ρ1, E1, Post.bind (Post.mono monoFS y h1) fun f ρ4 h4 => ?_⟩
        cases f with
        | nx => exact fun σ5 S5 H5 E5 y5 => ⟨S5, ρ4, E5, x'.trans (y.trans y5), Post.mono monoFS y5 h4⟩
        | ct => exact fun σ5 S5 H5 E5 y5 => ⟨S5, ρ4, E5, x'.trans (y.trans y5), Post.mono monoFS y5 h4⟩
        | bk => exact h4
        | rt rv => exact h4
      | false =>
        rw [if_neg Bool.false_ne_true]
        rw [if_neg Bool.false_ne_true] at h1
        exact h1 σ' S1 H1 E1 y
end DL
/-! DL, part h: list comprehensions -/
namespace DL
open PySem PySem.Spec PyProof.Rows L2
variable {G : GC} {c : SC}

/-! ### slots that no name of the text reaches -/
theorem inv_tmp {X : Cx} {pins : List (Addr × Obj)} {σ : L2.St} {H : Hp} {s : Shared} (I : Inv X pins σ H s) {t : Nat} {x : Str} (hN : X.N[t]? = some x) (nv : ¬ Vis X.env.scope x) (o : Option V) : Inv X pins (σ.set t o) H s := by
  refine ⟨I.ok, I.os, I.bare, I.base, ?_, I.cell, I.free, I.freeC, I.pin, I.hok, by rw [List.length_set]; exact I.len⟩
  obtain ⟨m, hn, hl⟩ := I.loc
  refine ⟨m, hn, fun i y v e1 e2 e3 => ?_⟩
  by_cases hi : t = i
  · subst hi
    rw [hN] at e1
    cases e1
    exact absurd e3 nv
  · rw [List.getElem?_set_ne hi] at e2
    exact hl i y v e1 e2 e3
theorem pg_ghost {X : Cx} {e : Expr} {g : TG} (h : PG X e g) {t : Nat} {x : Str} (hN : X.N[t]? = some x) (nv : ¬ Vis X.env.scope x) : PG X e (fun v σ H Q => g v σ H fun σ' H' => ∃ o, Q (σ'.set t o) H') := ⟨fun p s σ H v u Q I r q =>
  thn (h.run p s σ H v u _ I r q) fun _ s2 ⟨σ', H', I', o, q'⟩ => ⟨σ'.set t o, H', inv_tmp I' hN nv o, q'⟩⟩

/-! ### slots forgotten -/
def wipeE (ρ : PEnv) : List Nat → PEnv
  | [] => ρ
  | v :: vs => (wipeE ρ vs).set v .un
theorem wipeE_len (ρ : PEnv) : ∀ vs : List Nat, (wipeE ρ vs).length = ρ.length
  | [] => rfl
  | v :: vs => by rw [wipeE, List.length_set, wipeE_len ρ vs]
theorem wipeE_out {ρ : PEnv} {i : Nat} : ∀ {vs : List Nat}, i ∉ vs → (wipeE ρ vs)[i]? = ρ[i]?
  | [], _ => rfl
  | v :: vs, h => by
    rw [List.mem_cons, not_or] at h
    rw [wipeE, List.getElem?_set_ne (Ne.symm h.1)]
    exact wipeE_out h.2
theorem wipeE_in {ρ : PEnv} {i : Nat} {s : Slot} : ∀ {vs : List Nat}, i ∈ vs → (wipeE ρ vs)[i]? = some s → s = .un
  | v :: vs, h, e => by
    rw [wipeE] at e
    by_cases hi : v = i
    · subst hi
      have hlt := (List.getElem?_eq_some_iff.mp e).1
      rw [List.length_set] at hlt
      rw [List.getElem?_set_self hlt] at e
      cases e
      rfl
    · rw [List.getElem?_set_ne hi] at e
      rcases List.mem_cons.mp h with z | z
      · exact absurd z.symm hi
      · exact wipeE_in z e
theorem wipe_in {σ : L2.St} {i : Nat} : ∀ {vs : List Nat}, i ∈ vs → (wipe σ vs)[i]? = if i < σ.length then some none else none
  | v :: vs, h => by
    have hl : (wipe σ vs).length = σ.length := wipe_length σ vs
    rw [wipe]
    by_cases hi : v = i
    · subst hi
      by_cases hlt : v < σ.length
      · rw [if_pos hlt, List.getElem?_set_self (by omega)]
      · rw [if_neg hlt, List.getElem?_eq_none (by rw [List.length_set]; omega)]
    · rw [List.getElem?_set_ne hi]
      rcases List.mem_cons.mp h with z | z
      · exact absurd z.symm hi
      · exact wipe_in z
theorem wipe_eq {σ σ' : L2.St} {vs : List Nat} (h : Agree vs (wipe σ vs) σ') : wipe σ' vs = wipe σ vs := by
  refine List.ext_getElem? fun i => ?_
  have hl : σ'.length = σ.length := h.1.trans (wipe_length σ vs)
  by_cases hi : i ∈ vs
  · rw [wipe_in hi, wipe_in hi, hl]
  · rw [wipe_out hi]
    exact h.2 i hi
theorem EnvR.wiped {B S σ H ρ} (E : EnvR G B S σ H ρ) (vs : List Nat) : EnvR G B S (wipe σ vs) H (wipeE ρ vs) := by
  refine ⟨by rw [wipe_length, wipeE_len]; exact E.len, E.s0, E.new, E.sub, E.keep, E.ios, fun i s hs => ?_, fun i j si sj hi hj mi mj he => ?_⟩
  · by_cases hv : i ∈ vs
    · rw [wipeE_in hv hs]
      trivial
    · rw [wipeE_out hv] at hs
      rw [wipe_out hv]
      exact E.slot i s hs
  · have ni : i ∉ vs := fun z => by rw [wipeE_in z hi] at mi; cases mi
    have nj : j ∉ vs := fun z => by rw [wipeE_in z hj] at mj; cases mj
    rw [wipeE_out ni] at hi
    rw [wipeE_out nj] at hj
    rw [wipe_out ni, wipe_out nj] at he
    exact E.dis i j si sj hi hj mi mj he
/-- the forgotten slots as they were at ρ1 -/
def restE (ρ1 ρ : PEnv) : List Nat → PEnv
  | [] => ρ
  | v :: vs => (restE ρ1 ρ vs).set v (ρ1.getD v .un)
theorem restE_len (ρ1 ρ : PEnv) : ∀ vs : List Nat, (restE ρ1 ρ vs).length = ρ.length
  | [] => rfl
  | v :: vs => by rw [restE, List.length_set, restE_len ρ1 ρ vs]
theorem restE_out {ρ1 ρ : PEnv} {i : Nat} : ∀ {vs : List Nat}, i ∉ vs → (restE ρ1 ρ vs)[i]? = ρ[i]?
  | [], _ => rfl
  | v :: vs, h => by
    rw [List.mem_cons, not_or] at h
    rw [restE, List.getElem?_set_ne (Ne.symm h.1)]
    exact restE_out h.2
theorem restE_in {ρ1 ρ : PEnv} {i : Nat} {s : Slot} : ∀ {vs : List Nat}, i ∈ vs → (restE ρ1 ρ vs)[i]? = some s → s = ρ1.getD i .un
  | v :: vs, h, e => by
    rw [restE] at e
    by_cases hi : v = i
    · subst hi
      have hlt := (List.getElem?_eq_some_iff.mp e).1
      rw [List.length_set] at hlt
      rw [List.getElem?_set_self hlt] at e
      cases e
      rfl
    · rw [List.getElem?_set_ne hi] at e
      rcases List.mem_cons.mp h with z | z
      · exact absurd z.symm hi
      · exact restE_in z e
def ownOk (ρ : PEnv) (vs : List Nat) : Bool := vs.all fun v => !(ρ.getD v .un).mut
theorem EnvR.unwipe {B S S1 σ H H1 ρ ρ1 vs} (E1 : EnvR G B S1 σ H1 ρ1) (E : EnvR G B S (wipe σ vs) H ρ) (x : Ex S1 S) (ho : ownOk ρ1 vs = true) (hu : ∀ i ∈ vs, ∀ s, ρ[i]? = some s → s = .un) : EnvR G B S σ H (restE ρ1 ρ vs) := by
  have nm : ∀ (i : Nat) s, i ∈ vs → (restE ρ1 ρ vs)[i]? = some s → s.mut = true → False := fun i s hi hs hm => by
    have e := restE_in hi hs
    subst e
    have := List.all_eq_true.mp ho i hi
    rw [hm] at this
    cases this
  refine ⟨by rw [restE_len, ← E.len, wipe_length], E.s0, E.new, E.sub, E.keep, E.ios, fun i s hs => ?_, fun i j si sj hi hj mi mj he => ?_⟩
  · by_cases hv : i ∈ vs
    · have e := restE_in hv hs
      subst e
      have hlt : i < ρ1.length := by
        have h1 := (List.getElem?_eq_some_iff.mp hs).1
        rw [restE_len, ← E.len, wipe_length, E1.len] at h1
        exact h1
      have hg : ρ1[i]? = some (ρ1.getD i .un) := by
        rw [List.getD_eq_getElem?_getD, List.getElem?_eq_getElem hlt]
        rfl
      have q := E1.slot i _ hg
      cases hsl : ρ1.getD i .un with
      | un => trivial
      | sh d =>
        rw [hsl] at q
        obtain ⟨v, k1, k2⟩ := q
        exact ⟨v, k1, rp_mono x _ k2⟩
      | ow _ => exact (nm i _ hv hs (by rw [hsl]; rfl)).elim
      | io _ => exact (nm i _ hv hs (by rw [hsl]; rfl)).elim
    · rw [restE_out hv] at hs
      have q := E.slot i s hs
      rw [wipe_out hv] at q
      exact q
  · have ni : i ∉ vs := fun z => nm i si z hi mi
    have nj : j ∉ vs := fun z => nm j sj z hj mj
    rw [restE_out ni] at hi
    rw [restE_out nj] at hj
    exact E.dis i j si sj hi hj mi mj (by rw [wipe_out ni, wipe_out nj]; exact he)

mutual
theorem asgT_slots : ∀ (t : Tgt) (d : PD) (ρ ρ' : PEnv), asgT t d ρ = some ρ' → ρ'.length = ρ.length ∧ (∀ j, j ∉ t.slots → ρ'[j]? = ρ[j]?) ∧ ∀ j ∈ t.slots, ∀ s, ρ'[j]? = some s → s.mut = false
  | .nm i, d, ρ, ρ', h => by
    rw [asgT] at h
    by_cases hf : Slot.free ρ[i]? = true
    · rw [if_pos hf] at h
      cases h
      refine ⟨List.length_set, fun j hj => ?_, fun j hj s hs => ?_⟩
      · exact List.getElem?_set_ne fun z => hj (by rw [z]; exact List.mem_singleton.mpr rfl)
      · have e : j = i := by
          rw [Tgt.slots] at hj
          exact List.mem_singleton.mp hj
        subst e
        have hlt := (List.getElem?_eq_some_iff.mp hs).1
        rw [List.length_set] at hlt
        rw [List.getElem?_set_self hlt] at hs
        cases hs
        rfl
    · rw [if_neg hf] at h
      cases h
  | .tup ts, .tuple ds, ρ, ρ', h => by rw [asgT] at h; rw [Tgt.slots]; exact asgTs_slots ts ds ρ ρ' h
  | .tup ts, .list ds, ρ, ρ', h => by rw [asgT] at h; rw [Tgt.slots]; exact asgTs_slots ts ds ρ ρ' h
  | .tup ts, .none, ρ, ρ', h => by rw [asgT] at h <;> first | cases h | (intros; rename_i z; cases z)
  | .tup ts, .bool _, ρ, ρ', h => by rw [asgT] at h <;> first | cases h | (intros; rename_i z; cases z)
  | .tup ts, .int _, ρ, ρ', h => by rw [asgT] at h <;> first | cases h | (intros; rename_i z; cases z)
  | .tup ts, .str _, ρ, ρ', h => by rw [asgT] at h <;> first | cases h | (intros; rename_i z; cases z)
  | .tup ts, .dict _, ρ, ρ', h => by rw [asgT] at h <;> first | cases h | (intros; rename_i z; cases z)
theorem asgTs_slots : ∀ (ts : List Tgt) (ds : List PD) (ρ ρ' : PEnv), asgTs ts ds ρ = some ρ' → ρ'.length = ρ.length ∧ (∀ j, j ∉ Tgt.slotsL ts → ρ'[j]? = ρ[j]?) ∧ ∀ j ∈ Tgt.slotsL ts, ∀ s, ρ'[j]? = some s → s.mut = false
  | [], [], ρ, ρ', h => by
    rw [asgTs] at h
    cases h
    exact ⟨rfl, fun _ _ => rfl, fun j hj => by rw [Tgt.slotsL] at hj; cases hj⟩
  | t :: ts, d :: ds, ρ, ρ', h => by
    rw [asgTs] at h
    cases h1 : asgT t d ρ with
    | none => rw [h1] at h; cases h
    | some ρ1 =>
      rw [h1] at h
      obtain ⟨a1, a2, a3⟩ := asgT_slots t d ρ ρ1 h1
      obtain ⟨b1, b2, b3⟩ := asgTs_slots ts ds ρ1 ρ' h
      refine ⟨b1.trans a1, fun j hj => ?_, fun j hj s hs => ?_⟩
      · rw [Tgt.slotsL, List.mem_append, not_or] at hj
        exact (b2 j hj.2).trans (a2 j hj.1)
      · rw [Tgt.slotsL, List.mem_append] at hj
        by_cases hb : j ∈ Tgt.slotsL ts
        · exact b3 j hb s hs
        · rw [b2 j hb] at hs
          exact a3 j (hj.resolve_right hb) s hs
  | [], _ :: _, _, _, h => by rw [asgTs] at h; cases h
  | _ :: _, [], _, _, h => by rw [asgTs] at h; cases h
end

/-! ### [elt for t in src if ..] -/
def Res.bindN {α β : Type} (r : Res α) (k : α → PEnv → Res β) : Res β := match r with
  | .ok a ρ => k a ρ
  | _ => .no
theorem Post.bindN {B W W' S} {α β : Type} {F : FinT α} {F' : FinT β} {r : Res α} {k : α → PEnv → Res β} (h : Post G B W F' S (r.bindN k)) (hk : ∀ a ρ', Post G B W F' S (k a ρ') → F S a ρ') : Post G B W' F S r := by
  cases r with
  | ok a ρ => exact hk a ρ h
  | exc c ρ => exact h.elim
  | no => exact h
def accOf (ρ : PEnv) (t : Nat) : Option (List PD) := match ρ[t]? with
  | some (.ow (.L ds)) => some ds
  | _ => none
theorem accOf_get {ρ : PEnv} {t : Nat} {ds : List PD} (h : accOf ρ t = some ds) : ρ[t]? = some (.ow (.L ds)) := by
  unfold accOf at h
  split at h
  · rename_i e
    cases h
    exact e
  · cases h
def lcL (t : Tgt) (cnd : DenT) (elt : Den) (own : List Nat) (tmp : Nat) : List PD → List PD → PEnv → Res (List PD)
  | [], acc, ρ => .ok acc ρ
  | d :: ds, acc, ρ => match asgT t d ρ with
    | none => .no
    | some ρ1 => if Slot.free ρ1[tmp]? = true then (cnd (ρ1.set tmp (.ow (.L acc)))).bindN fun b ρ2 =>
        if b then (elt ρ2).bindN fun rv ρ3 => match rv.frz, accOf ρ3 tmp with
          | some e, some a => if a.length < 1000000 then lcL t cnd elt own tmp ds (a ++ [e]) (wipeE ρ3 own) else .no
          | _, _ => .no
        else match accOf ρ2 tmp with
          | some a => lcL t cnd elt own tmp ds a (wipeE ρ2 own)
          | none => .no
      else .no
def dLc (src : Src) (t : Tgt) (cnd : DenT) (elt : Den) (own : List Nat) (tmp : Nat) : Den := fun ρ => (src ρ).bind fun ds ρ1 => if ownOk ρ1 own = true then (lcL t cnd elt own tmp ds [] (wipeE ρ1 own)).bind fun acc ρ2 => .ok (.ow (.L acc)) (restE ρ1 ρ2 own) else .no

/-- the block's static context -/
def SC.blk (c : SC) (scope : Scope) : SC := ⟨c.N, relS scope c.sc, fun x => scope.names.lookup x == some .cell, c.k⟩
theorem blk_ok {X : Cx} (C : CtxOk G c X) (s : Shared) (H : Hp) (scope : Scope) (D : Addr) (cl : List (Str × Addr)) (fp : List Addr) : CtxOk G (c.blk scope) (X.blk s H scope (compEnvC scope cl D X.env) fp) := by
  refine ⟨C.P, C.w, C.K, C.mg, C.base, C.N, ?_, rfl, C.calm, C.room, C.nd⟩
  show relS scope X.env.scope = relS scope c.sc
  rw [C.sc]
abbrev W0 : WX := fun _ _ _ _ => False
def STs (G : GC) (c : SC) (es : List Expr) (m : DenT) : Prop := ∀ X W, CtxOk G c X → Takes X W → PTs X es (tT G W m)
theorem PTs.imp {X : Cx} {e : List Expr} {t t' : TT} (h : PTs X e t) (i : ∀ σ H Q, t' σ H Q → t σ H Q) : PTs X e t' := ⟨fun p s σ H Q I q => h.run p s σ H Q I (i σ H Q q)⟩
theorem sts_nil : STs G c [] (okT true) := fun X W C tk => PTs.imp pts_nil fun σ H Q h => okT_t h
theorem sts_one {e : Expr} {m : DenT} (h : ST G c e m) : STs G c [e] m := fun X W C tk => pts_one (h X W C tk)
/-- the facts of a block: its own names with their places, among them one that no name reaches -/
structure Blk (c : SC) (scope : Scope) (own : List (Str × Nat)) (t : Tgt) (tmp : Nat) : Prop where
  ok : BlkOk c.N c.sc scope own
  tg : ∀ i ∈ t.slots, i ∈ own.map (·.2)
  tm : tmp ∈ own.map (·.2)
  nt : ∃ x, c.N[tmp]? = some x ∧ ¬ Vis (relS scope c.sc) x
def FL (G : GC) (B : Bse) (σ : L2.St) (Q : VK) (ρ1 : PEnv) (own : List Nat) : FinT (List PD) := fun S acc ρ => FE G B σ Q S (.ow (.L acc)) (restE ρ1 ρ own)
theorem monoFL {B σ Q ρ1 own} : MonoF (FL G B σ Q ρ1 own) := fun _ _ _ _ x f _ _ _ E y => f _ _ _ E (x.trans y)
theorem lc_t {W src t cnd elt own tmp σ H Q} {K : PySem.W.Frag} (hK : K = G.K) (htg : ∀ i ∈ t.slots, i ∈ own) (htm : tmp ∈ own) (h : tE G W (dLc src t cnd elt own tmp) σ H Q) :
    tLc (tI G W src) (fun v σ H Q => gT G t v σ H fun σ' H' => ∃ o, Q (σ'.set tmp o) H') (tT G W0 cnd) (tE G W0 elt) own σ H Q := by
  obtain ⟨B, S, ρ, E, hp⟩ := h
  refine ⟨B, S, ρ, E, Post.bind hp fun ds ρ1 h1 => ?_⟩
  intro S1 H1 J E1 y sv D hD
  by_cases hown : ownOk ρ1 own = true
  case neg => rw [if_neg hown] at h1; exact h1.elim
  rw [if_pos hown] at h1
  have h1' : Post G B W (FL G B σ Q ρ1 own) S (lcL t cnd elt own tmp ds [] (wipeE ρ1 own)) := Post.bind h1 fun acc ρ2 h2 => h2
  have d0 : B.H0 D = none := E1.H0_none hD
  have nD : ∀ (j : Nat) s, ρ1[j]? = some s → s.mut = true → σ[j]? ≠ some (some (.ref D)) := fun j s hs hm z => by
    have q := E1.slot j s hs
    cases s with
    | un => cases hm
    | sh _ => cases hm
    | ow _ =>
      obtain ⟨a, o, k1, k2, _⟩ := q
      rw [k1] at z
      cases z
      rw [hD] at k2; cases k2
    | io _ =>
      obtain ⟨a, o, k1, k2, _⟩ := q
      rw [k1] at z
      cases z
      rw [hD] at k2; cases k2
  refine ⟨fun i m H' => m = ds.length - i ∧ i ≤ ds.length ∧ ∃ S' ρ' acc vs, EnvR G B S' (wipe σ own) H' ρ' ∧ Ex S1 S' ∧ H' D = some (.lst vs) ∧ RpAll G.K S' vs acc ∧ S' D = none ∧ (∀ (j : Nat) s, ρ'[j]? = some s → s.mut = true → (wipe σ own)[j]? ≠ some (some (.ref D))) ∧ (∀ i ∈ own, ∀ s, ρ'[i]? = some s → s = .un) ∧ Post G B W (FL G B σ Q ρ1 own) S' (lcL t cnd elt own tmp (ds.drop i) acc ρ'),
    ⟨ds.length, by simp, Nat.zero_le _, S1, wipeE ρ1 own, [], [], (E1.step (Step.own E1.sub hD)).wiped own, Ex.refl _, upd_same, .nil, E1.sub.free hD, fun j s hs hm => ?_, fun i hi s hs => wipeE_in hi hs, Post.mono monoFL y h1'⟩, ?_⟩
  · have nj : j ∉ own := fun z => by rw [wipeE_in z hs] at hm; cases hm
    rw [wipeE_out nj] at hs
    rw [wipe_out nj]
    exact nD j s hs hm
  rintro i m H' ⟨rfl, hi, S', ρ', acc, vs, E', x', hDv, hr, hSD, hne, hun, hp'⟩
  obtain ⟨s1, s2⟩ := sv i S' H' x' E'.sub
  by_cases hlt : i < ds.length
  · right
    have hd : ds[i]? = some ds[i] := List.getElem?_eq_getElem hlt
    obtain ⟨g1, g2⟩ := s1 _ hd
    rw [List.drop_eq_getElem_cons hlt, lcL] at hp'
    refine ⟨g1, fun H2 => ∃ S2 ρ2 acc2 vs2, EnvR G B S2 (wipe σ own) H2 ρ2 ∧ Ex S1 S2 ∧ H2 D = some (.lst vs2) ∧ RpAll G.K S2 vs2 acc2 ∧ S2 D = none ∧ (∀ (j : Nat) s, ρ2[j]? = some s → s.mut = true → (wipe σ own)[j]? ≠ some (some (.ref D))) ∧ (∀ i ∈ own, ∀ s, ρ2[i]? = some s → s = .un) ∧ Post G B W (FL G B σ Q ρ1 own) S2 (lcL t cnd elt own tmp (ds.drop (i + 1)) acc2 ρ2),
      fun H2 ⟨S2, ρ2, acc2, vs2, z⟩ => ⟨ds.length - (i + 1), by omega, rfl, hlt, S2, ρ2, acc2, vs2, z⟩, fun v H2 hy => ?_⟩
    obtain ⟨S2, T, r⟩ := g2 v H2 hy
    have E2 := E'.step T
    have hD2 : H2 D = some (.lst vs) := T.h _ _ hDv
    have hSD2 : S2 D = none := by
      cases z : S2 D with
      | none => rfl
      | some u =>
        rcases T.new D u z with z | z
        · rw [hSD] at z; cases z
        · rw [hDv] at z; cases z
    cases ha : asgT t ds[i] ρ' with
    | none => rw [ha] at hp'; exact hp'.elim
    | some ρ2 =>
      simp only [ha] at hp'
      obtain ⟨l1, l2, l3⟩ := asgT_slots t _ _ _ ha
      by_cases hf : Slot.free ρ2[tmp]? = true
      case neg => rw [if_neg hf] at hp'; exact hp'.elim
      rw [if_pos hf] at hp'
      refine ⟨B, S2, ρ', ρ2, ds[i], E2, r, ha, fun σ' E3 ag => ⟨some (.ref D), ?_⟩⟩
      have hne2 : ∀ (j : Nat) s, ρ2[j]? = some s → s.mut = true → σ'[j]? ≠ some (some (.ref D)) := fun j s hs hm => by
        have nj : j ∉ t.slots := fun z => by rw [l3 j z s hs] at hm; cases hm
        rw [ag.2 j nj]
        rw [l2 j nj] at hs
        exact hne j s hs hm
      have E4 : EnvR G B S2 (σ'.set tmp (some (.ref D))) H2 (ρ2.set tmp (.ow (.L acc))) := E3.store (rv := .ow (.L acc)) hf ⟨D, _, rfl, hD2, ⟨vs, rfl, rps_mono T.s _ hr⟩, hSD2, d0, hne2⟩
      have ag2 : Agree own (wipe σ own) (σ'.set tmp (some (.ref D))) := by
        refine ⟨by rw [List.length_set]; exact ag.1, fun j hj => ?_⟩
        rw [List.getElem?_set_ne fun z => hj (by rw [← z]; exact htm)]
        exact ag.2 j fun z => hj (htg j z)
      have htmp : (σ'.set tmp (some (V.ref D)))[tmp]? = some (some (.ref D)) := by
        have hlt2 : tmp < ρ2.length := by
          cases hq : ρ2[tmp]? with
          | none => rw [hq] at hf; cases hf
          | some s => exact (List.getElem?_eq_some_iff.mp hq).1
        exact List.getElem?_set_self (by rw [E3.len]; exact hlt2)
      generalize hσ : σ'.set tmp (some (V.ref D)) = σ2 at E4 ag2 htmp
      refine ⟨wipe_eq ag2, B, S2, _, E4, Post.bindN (Post.mono monoFL T.s hp') fun b ρ3 h3 => ?_⟩
      intro S3 H3 E5 y5
      -- the turn's end
      have turn : ∀ (S5 H5 : Hp) (ρ5 : PEnv) (a a' : List PD) (o5 : HO), EnvR G B S5 σ2 H5 ρ5 → Ex S1 S5 → accOf ρ5 tmp = some a → ContO G S5 D o5 (.L a') → Post G B W (FL G B σ Q ρ1 own) S5 (lcL t cnd elt own tmp (ds.drop (i + 1)) a' (wipeE ρ5 own)) →
          ∃ S2 ρ2 acc2 vs2, EnvR G B S2 (wipe σ own) (upd H5 D o5) ρ2 ∧ Ex S1 S2 ∧ (upd H5 D o5) D = some (.lst vs2) ∧ RpAll G.K S2 vs2 acc2 ∧ S2 D = none ∧ (∀ (j : Nat) s, ρ2[j]? = some s → s.mut = true → (wipe σ own)[j]? ≠ some (some (.ref D))) ∧ (∀ i ∈ own, ∀ s, ρ2[i]? = some s → s = .un) ∧ Post G B W (FL G B σ Q ρ1 own) S2 (lcL t cnd elt own tmp (ds.drop (i + 1)) acc2 ρ2) := by
        intro S5 H5 ρ5 a a' o5 E6 x6 ha6 hc6 hp6
        have hg6 := accOf_get ha6
        have hm6 : mutC ρ5 tmp = some (.L a) := by unfold mutC; rw [hg6]
        obtain ⟨vs6, rfl, hr6⟩ := hc6
        have E7 := (E6.write (ct' := .L a') hm6 htmp ⟨vs6, rfl, hr6⟩).wiped own
        rw [wipe_eq ag2] at E7
        have hset : setC ρ5 tmp (.L a') = ρ5.set tmp (.ow (.L a')) := by unfold setC; rw [hg6]
        have hwe : wipeE (setC ρ5 tmp (.L a')) own = wipeE ρ5 own := by
          rw [hset]
          refine List.ext_getElem? fun j => ?_
          by_cases hj : j ∈ own
          · cases z1 : (wipeE (ρ5.set tmp (.ow (.L a'))) own)[j]? with
            | none =>
              rw [List.getElem?_eq_none_iff, wipeE_len, List.length_set] at z1
              rw [List.getElem?_eq_none (by rw [wipeE_len]; exact z1)]
            | some s =>
              have hl3 := (List.getElem?_eq_some_iff.mp z1).1
              rw [wipeE_len, List.length_set] at hl3
              have hl4 : j < (wipeE ρ5 own).length := by rw [wipeE_len]; exact hl3
              rw [wipeE_in hj z1, List.getElem?_eq_getElem hl4, wipeE_in hj (List.getElem?_eq_getElem hl4)]
          · rw [wipeE_out hj, wipeE_out hj, List.getElem?_set_ne fun z => hj (by rw [← z]; exact htm)]
        rw [hwe] at E7
        refine ⟨S5, wipeE ρ5 own, a', vs6, E7, x6, upd_same, hr6, ?_, fun j s hs hm z => ?_, fun j hj s hs => wipeE_in hj hs, hp6⟩
        · obtain ⟨b, o, k1, k2, k3, k4⟩ := mutC_ok E6 hm6
          rw [htmp] at k1
          cases k1
          exact k4
        · have nj : j ∉ own := fun z => by rw [wipeE_in z hs] at hm; cases hm
          rw [wipeE_out nj] at hs
          rw [← ag2.2 j nj, ← htmp] at z
          exact nj (by rw [E6.dis j tmp _ _ hs hg6 hm rfl z]; exact htm)
      cases b with
      | false =>
        rw [if_neg Bool.false_ne_true] at h3 ⊢
        cases ha3 : accOf ρ3 tmp with
        | none => rw [ha3] at h3; exact h3.elim
        | some a =>
          rw [ha3] at h3
          have hm3 : mutC ρ3 tmp = some (.L a) := by unfold mutC; rw [accOf_get ha3]
          obtain ⟨b, o, k1, k2, k3, k4⟩ := mutC_ok E5 hm3
          rw [htmp] at k1
          cases k1
          have e3 : upd H3 D o = H3 := by
            funext q
            by_cases hq : q = D
            · subst hq; rw [upd_same, k2]
            · rw [upd_ne hq]
          have z := turn S3 H3 ρ3 a a o E5 (x'.trans (T.s.trans y5)) ha3 k3 (Post.mono monoFL y5 h3)
          rw [e3] at z
          exact z
      | true =>
        rw [if_pos rfl] at h3 ⊢
        refine ⟨B, S3, ρ3, E5, Post.bindN (Post.mono monoFL y5 h3) fun rv ρ4 h4 => ?_⟩
        intro S4 H4 w E6 y6 R6
        cases hfz : rv.frz with
        | none => rw [hfz] at h4; exact h4.elim
        | some e =>
          cases ha4 : accOf ρ4 tmp with
          | none => rw [hfz, ha4] at h4; exact h4.elim
          | some a =>
            rw [hfz, ha4] at h4
            simp only at h4
            by_cases hz : a.length < 1000000
            case neg => rw [if_neg hz] at h4; exact h4.elim
            rw [if_pos hz] at h4
            obtain ⟨S5, E7, y7, r7⟩ := frz_ok E6 R6 hfz
            have hm4 : mutC ρ4 tmp = some (.L a) := by unfold mutC; rw [accOf_get ha4]
            obtain ⟨b, o, k1, k2, ⟨vs4, rfl, k3⟩, k4⟩ := mutC_ok E7 hm4
            rw [htmp] at k1
            cases k1
            refine ⟨vs4, k2, by rw [rpall_len k3, sizeLine_eq]; omega, ?_⟩
            exact turn S5 H4 ρ4 a (a ++ [e]) _ E7 (x'.trans (T.s.trans (y5.trans (y6.trans y7)))) ha4 ⟨_, rfl, k3.snoc r7⟩ (Post.mono monoFL (y6.trans y7) h4)
  · have hi2 : i = ds.length := by omega
    left
    refine ⟨s2 hi2, ?_⟩
    rw [hi2, List.drop_length] at hp'
    have hp2 : FE G B σ Q S' (.ow (.L acc)) (restE ρ1 ρ' own) := hp'
    refine hp2 S' H' (.ref D) (E1.unwipe E' x' hown hun) (Ex.refl _) ⟨D, _, rfl, hDv, ⟨vs, rfl, hr⟩, hSD, d0, fun j s hs hm => ?_⟩
    by_cases hj : j ∈ own
    · have e := restE_in hj hs
      subst e
      have := List.all_eq_true.mp hown j hj
      rw [hm] at this
      cases this
    · rw [restE_out hj] at hs
      have := hne j s hs hm
      rw [wipe_out hj] at this
      exact this
section
variable {elt tg iter : Expr} {ifs : List Expr} {scope : Scope} {own : List (Str × Nat)} {pos : Pos} {src : Src} {t : Tgt} {cnd : DenT} {m : Den} {tmp : Nat}
theorem se_lc (bk : Blk c scope own t tmp) (hi : SI G c tg iter src) (hg : SG G (c.blk scope) tg t) (ht : STs G (c.blk scope) ifs cnd) (he : SE G (c.blk scope) elt m) (hs : ∀ env x, foldedSetIterable iter env x = pure x := by intro _ _; rfl) :
    SE G c (.ListComp elt [⟨tg, iter, ifs, 0⟩] scope pos) (dLc src t cnd m (own.map (·.2)) tmp) := fun X W C tk =>
  PE.imp (pe_lc (own := own) (g := fun v σ H Q => gT G t v σ H fun σ' H' => ∃ o, Q (σ'.set tmp o) H') C.calm C.nN (hi X W C tk) (by rw [C.N, C.sc]; exact bk.ok)
    (fun s H D cl fp => by
      obtain ⟨x, hx, nv⟩ := bk.nt
      exact pg_ghost (hg _ (blk_ok C s H scope D cl fp)) (x := x) (by show X.N[tmp]? = _; rw [C.N]; exact hx) (by show ¬ Vis (relS scope X.env.scope) x; rw [C.sc]; exact nv))
    (fun s H D cl fp => ht _ _ (blk_ok C s H scope D cl fp) takes0) (fun s H D cl fp => he _ _ (blk_ok C s H scope D cl fp) takes0) (hs _)) fun σ H Q h => lc_t rfl bk.tg bk.tm h
theorem ss_setLc {y : Str} {i : Nat} {py spos : Pos} (bk : Blk c scope own t tmp) (hy : c.N[i]? = some y) (hyl : c.sc.names.lookup y = some .local) (hk : c.sc.kind = .function) (hl : (py.line == pos.line) = true) (ha : (scope.names.any fun (n, k) => n == y && (k == .local || k == .cell)) = false)
    (hi : SI G c tg iter src) (hg : SG G (c.blk scope) tg t) (ht : STs G (c.blk scope) ifs cnd) (he : SE G (c.blk scope) elt m) (hs : ∀ env x, foldedSetIterable iter env x = pure x := by intro _ _; rfl) :
    SS G c (.Assign [.Name y py] (.ListComp elt [⟨tg, iter, ifs, 0⟩] scope pos) spos) (dSet i (dLc src t cnd m (own.map (·.2)) tmp)) := fun X W C tk hp =>
  PS.imp (ps_setLc (i := i) (own := own) (g := fun v σ H Q => gT G t v σ H fun σ' H' => ∃ o, Q (σ'.set tmp o) H') C.calm C.nN (by rw [C.N]; exact hy) (by rw [C.sc]; exact hyl) (sw_true (by rw [C.sc]; exact hk) (by rw [C.sc]; exact hyl) hl ha) (hi X W C tk) (by rw [C.N, C.sc]; exact bk.ok)
    (fun s H D cl fp => by
      obtain ⟨x, hx, nv⟩ := bk.nt
      exact pg_ghost (hg _ (blk_ok C s H scope D cl fp)) (x := x) (by show X.N[tmp]? = _; rw [C.N]; exact hx) (by show ¬ Vis (relS scope X.env.scope) x; rw [C.sc]; exact nv))
    (fun s H D cl fp => ht _ _ (blk_ok C s H scope D cl fp) takes0) (fun s H D cl fp => he _ _ (blk_ok C s H scope D cl fp) takes0) (hs _)) fun D σ H h => lc_t rfl bk.tg bk.tm (set_t h)
end
end DL
/-! DL, part i: defs and their calls -/
namespace DL
open PySem PySem.Spec PyProof.Rows L2
variable {G : GC} {c : SC}

/-! ### a def by its body -/
abbrev FD := List Slot → Res RV
def runF (n : Nat) (body : DenS) : FD := fun args => match body (args ++ List.replicate (n - args.length) .un) with
  | .ok .nx ρ => .ok (.sh .none) ρ
  | .ok (.rt rv) ρ => .ok rv ρ
  | .exc c ρ => .exc c ρ
  | _ => .no
/-- what comes out of a call -/
def RV0 (G : GC) (S' H' H : Hp) (v : V) : RV → Prop
  | .sh d => Rp G.K S' v d
  | .ow ct => ∃ a o, v = .ref a ∧ H' a = some o ∧ ContO G S' a o ct ∧ S' a = none ∧ H a = none
/-- a def's promise: plain arguments -/
def spF (G : GC) (F : FD) (np : Nat) : Sp := fun vs H Q E => ∃ S ds, vs.length = np ∧ Ex S H ∧ RpAll G.K S vs ds ∧ match F (ds.map .sh) with
  | .ok rv _ => ∀ S' H' v, Step S H S' H' → RV0 G S' H' H v rv → Q v H'
  | .exc k _ => ∀ H', Ex H H' → E (G.ex k) none H'
  | .no => False
/-- .. the first argument a list (or a dict) that the def changes -/
def spG (G : GC) (F : FD) (np : Nat) : Sp := fun vs H Q E => ∃ S ds a o ct ws, vs = .ref a :: ws ∧ vs.length = np ∧ H a = some o ∧ ContO G S a o ct ∧ S a = none ∧ Ex S H ∧ RpAll G.K S ws ds ∧ match F (.io ct :: ds.map .sh) with
  | .ok rv ρ => ∃ ct', ρ[0]? = some (.io ct') ∧ ∀ S' H' v o', Ex S S' → Ex S' H' → (∀ b u, S' b = some u → S b = some u ∨ H b = none) → (∀ b u, b ≠ a → H b = some u → H' b = some u) → H' a = some o' → ContO G S' a o' ct' → RV0 G S' H' H v rv → Q v H'
  | _ => False

/-- the static context of a def's body -/
def scFn (N : List Str) (sc : Scope) (k : Nat) : SC := ⟨N, sc, fun _ => true, k⟩
theorem rp_slots {K S} : ∀ {vs : List V} {ds : List PD} {i : Nat} {s : Slot}, RpAll K S vs ds → (ds.map Slot.sh)[i]? = some s → ∃ v d, vs[i]? = some v ∧ s = .sh d ∧ Rp K S v d := by
  intro vs ds i s h e
  rw [List.getElem?_map, Option.map_eq_some_iff] at e
  obtain ⟨d, e1, e2⟩ := e
  obtain ⟨v, k1, k2⟩ := h.get' e1
  exact ⟨v, d, k1, e2.symm, k2⟩
theorem start_get {N : List Str} {vs : List V} {i : Nat} {v : V} (h : vs[i]? = some v) : (L2.start N vs)[i]? = some (some v) := by
  unfold L2.start
  rw [List.getElem?_append_left (by rw [List.length_map]; exact (List.getElem?_eq_some_iff.mp h).1), List.getElem?_map, h]
  rfl
theorem start_len {N : List Str} {vs : List V} (h : vs.length ≤ N.length) : (L2.start N vs).length = N.length := by
  unfold L2.start
  rw [List.length_append, List.length_map, List.length_replicate]
  omega
theorem env_start {N : List Str} {S H : Hp} {vs : List V} {ds : List PD} (hl : vs.length ≤ N.length) (x : Ex S H) (r : RpAll G.K S vs ds) :
    EnvR G ⟨S, H, fun _ => False⟩ S (L2.start N vs) H (ds.map .sh ++ List.replicate (N.length - (ds.map Slot.sh).length) .un) := by
  have hd := rpall_len r
  refine ⟨?_, Ex.refl _, fun a o h => .inl h, x, fun a o h _ => h, fun a h => h.elim, fun i s hs => ?_, fun i j si sj hi hj mi mj _ => ?_⟩
  · rw [start_len hl, List.length_append, List.length_replicate, List.length_map]
    omega
  · by_cases hi : i < (ds.map Slot.sh).length
    · rw [List.getElem?_append_left hi] at hs
      obtain ⟨v, d, k1, rfl, k2⟩ := rp_slots r hs
      exact ⟨v, start_get k1, k2⟩
    · rw [List.getElem?_append_right (by omega), List.getElem?_replicate] at hs
      split at hs
      · cases hs
        trivial
      · cases hs
  · exfalso
    by_cases hi' : i < (ds.map Slot.sh).length
    · rw [List.getElem?_append_left hi'] at hi
      obtain ⟨v, d, k1, rfl, k2⟩ := rp_slots r hi
      cases mi
    · rw [List.getElem?_append_right (by omega), List.getElem?_replicate] at hi
      split at hi
      · cases hi
        cases mi
      · cases hi
section
variable {x qual : Str} {st : Stmt} {f : Addr} {fd : FuncData} {N ps : List Str} {k : Nat} {m : DenS}
theorem fn_ok (F : Fun G.K x qual st f fd) (Sc : FnScope N ps (defScope st)) (hps : ps.length ≤ N.length) (hb : SSs G (scFn N (defScope st) k) (defBody st) m) :
    FnOk G.P G.w G.K G.mg G.base (L2.CX G.P G.w) (k + 1) f fd ps (spF G (runF N.length m) ps.length) := by
  refine F.okX Sc (fun vs H Q E ⟨S, ds, h1, _⟩ => h1) fun cdv A outer s H vs Q E hr hsp => ?_
  obtain ⟨S, ds, h1, h2, h3, h4⟩ := hsp
  have C : CtxOk G (scFn N (defScope st) k) (cxOf (L2.CX G.P G.w) G.P G.w G.K G.mg G.base N qual (defScope st) f cdv A outer s H E) := ⟨rfl, rfl, rfl, rfl, rfl, rfl, rfl, rfl, rfl, hr, Sc.nd⟩
  have tk : Takes (cxOf (L2.CX G.P G.w) G.P G.w G.K G.mg G.base N qual (defScope st) f cdv A outer s H E) (fun cls d _ H => E cls d H) := takes_of rfl rfl rfl rfl
  refine ⟨_, hb _ _ C tk (passes_of rfl), ⟨S, H, fun _ => False⟩, S, _, env_start (by rw [h1]; exact hps) h2 h3, ?_⟩
  have hE := env_start (G := G) (N := N) (by rw [h1]; exact hps) h2 h3
  unfold runF at h4
  generalize hm : m (ds.map Slot.sh ++ List.replicate (N.length - (ds.map Slot.sh).length) .un) = r at h4 ⊢
  have stp : ∀ {σ' S' H' ρ'}, EnvR G ⟨S, H, fun _ => False⟩ S' σ' H' ρ' → Ex S S' → Step S H S' H' := fun {σ' S' H' ρ'} E' x' => ⟨x', fun a o h => E'.keep a o h (fun z => z), E'.sub, E'.new⟩
  cases r with
  | no => exact h4.elim
  | exc kk ρ => exact fun σ' S' H' E' x' => h4 H' fun a o h => E'.keep a o h (fun z => z)
  | ok fl ρ =>
    cases fl with
    | bk => exact h4.elim
    | ct => exact h4.elim
    | nx => exact fun σ' S' H' E' x' => h4 S' H' .non (stp E' x') .non
    | rt rv =>
      intro σ' S' H' v E' x' R
      refine h4 S' H' v (stp E' x') ?_
      cases rv with
      | sh d => exact R
      | ow ct =>
        obtain ⟨a, o, k1, k2, k3, k4, k5, _⟩ := R
        exact ⟨a, o, k1, k2, k3, k4, k5⟩
theorem env_startG {S H : Hp} {vs : List V} {ds : List PD} {a : Addr} {o : HO} {ct : Cont} (hl : vs.length + 1 ≤ N.length) (x : Ex S H) (r : RpAll G.K S vs ds) (ha : H a = some o) (hc : ContO G S a o ct) (hS : S a = none) :
    EnvR G ⟨S, H, fun b => b = a⟩ S (L2.start N (.ref a :: vs)) H (.io ct :: ds.map .sh ++ List.replicate (N.length - (Slot.io ct :: ds.map Slot.sh).length) .un) := by
  have hd := rpall_len r
  refine ⟨?_, Ex.refl _, fun a o h => .inl h, x, fun a o h _ => h, fun b h => ?_, fun i s hs => ?_, fun i j si sj hi hj mi mj _ => ?_⟩
  · rw [start_len (by rw [List.length_cons]; exact hl), List.length_append, List.length_replicate, List.length_cons, List.length_map]
    omega
  · have e : b = a := h
    subst e
    exact ⟨hS, ⟨o, ha⟩, o, ha⟩
  · cases i with
    | zero =>
      cases hs
      exact ⟨a, o, start_get rfl, ha, hc, rfl⟩
    | succ i =>
      rw [List.cons_append, List.getElem?_cons_succ] at hs
      by_cases hi : i < (ds.map Slot.sh).length
      · rw [List.getElem?_append_left hi] at hs
        obtain ⟨v, d, k1, rfl, k2⟩ := rp_slots r hs
        exact ⟨v, start_get k1, k2⟩
      · rw [List.getElem?_append_right (by omega), List.getElem?_replicate] at hs
        split at hs
        · cases hs
          trivial
        · cases hs
  · have key : ∀ (i : Nat) s, (Slot.io ct :: ds.map Slot.sh ++ List.replicate (N.length - (Slot.io ct :: ds.map Slot.sh).length) .un)[i]? = some s → s.mut = true → i = 0 := fun i s hs hm => by
      cases i with
      | zero => rfl
      | succ i =>
        exfalso
        rw [List.cons_append, List.getElem?_cons_succ] at hs
        by_cases hi : i < (ds.map Slot.sh).length
        · rw [List.getElem?_append_left hi] at hs
          obtain ⟨v, d, k1, rfl, k2⟩ := rp_slots r hs
          cases hm
        · rw [List.getElem?_append_right (by omega), List.getElem?_replicate] at hs
          split at hs
          · cases hs
            cases hm
          · cases hs
    rw [key i si hi mi, key j sj hj mj]
theorem fn_okG (F : Fun G.K x qual st f fd) (Sc : FnScope N ps (defScope st)) (hps : ps.length ≤ N.length) (hb : SSs G (scFn N (defScope st) k) (defBody st) m) :
    FnOk G.P G.w G.K G.mg G.base (L2.CX G.P G.w) (k + 1) f fd ps (spG G (runF N.length m) ps.length) := by
  refine F.okX Sc (fun vs H Q E ⟨S, ds, a, o, ct, ws, _, h1, _⟩ => h1) fun cdv A outer s H vs Q E hr hsp => ?_
  obtain ⟨S, ds, a, o, ct, ws, rfl, h1, ha, hc, hS, h2, h3, h4⟩ := hsp
  have C : CtxOk G (scFn N (defScope st) k) (cxOf (L2.CX G.P G.w) G.P G.w G.K G.mg G.base N qual (defScope st) f cdv A outer s H E) := ⟨rfl, rfl, rfl, rfl, rfl, rfl, rfl, rfl, rfl, hr, Sc.nd⟩
  have tk : Takes (cxOf (L2.CX G.P G.w) G.P G.w G.K G.mg G.base N qual (defScope st) f cdv A outer s H E) (fun cls d _ H => E cls d H) := takes_of rfl rfl rfl rfl
  have hE := env_startG (G := G) (N := N) (by rw [List.length_cons] at h1; omega) h2 h3 ha hc hS
  refine ⟨_, hb _ _ C tk (passes_of rfl), _, S, _, hE, ?_⟩
  unfold runF at h4
  generalize hm : m (.io ct :: ds.map Slot.sh ++ List.replicate (N.length - (Slot.io ct :: ds.map Slot.sh).length) .un) = r at h4 ⊢
  have fin : ∀ {σ' S' H' ρ' rv v}, EnvR G ⟨S, H, fun b => b = a⟩ S' σ' H' ρ' → Ex S S' → RV0 G S' H' H v rv →
      (∃ ct', ρ'[0]? = some (.io ct') ∧ ∀ S' H' v o', Ex S S' → Ex S' H' → (∀ b u, S' b = some u → S b = some u ∨ H b = none) → (∀ b u, b ≠ a → H b = some u → H' b = some u) → H' a = some o' → ContO G S' a o' ct' → RV0 G S' H' H v rv → Q v H') → Q v H' := fun {σ' S' H' ρ' rv v} E' x' R hh => by
    obtain ⟨ct', e1, h5⟩ := hh
    obtain ⟨b, u, k1, k2, k3, k4⟩ := E'.slot 0 _ e1
    have e : b = a := k4
    subst e
    exact h5 S' H' v u x' E'.sub E'.new (fun b u hb h => E'.keep b u h hb) k2 k3 R
  cases r with
  | no => exact h4.elim
  | exc kk ρ => exact h4.elim
  | ok fl ρ =>
    cases fl with
    | bk => exact h4.elim
    | ct => exact h4.elim
    | nx => exact fun σ' S' H' E' x' => fin (v := V.non) (rv := .sh .none) E' x' .non h4
    | rt rv =>
      intro σ' S' H' v E' x' R
      refine fin E' x' ?_ h4
      cases rv with
      | sh d => exact R
      | ow ct =>
        obtain ⟨a, o, k1, k2, k3, k4, k5, _⟩ := R
        exact ⟨a, o, k1, k2, k3, k4, k5⟩
end

/-! ### calls -/
def dCall (F : FD) (m : PEnv → Res (List PD)) : Den := fun ρ => (m ρ).bind fun ds ρ1 => match F (ds.map .sh) with
  | .ok rv _ => .ok rv ρ1
  | .exc k _ => .exc k ρ1
  | .no => .no
theorem rv0_rvr {B S σ H ρ S' H' v rv} (E : EnvR G B S σ H ρ) (R : RV0 G S' H' H v rv) : RVR G B S' H' σ ρ v rv := by
  cases rv with
  | sh d => exact R
  | ow ct =>
    obtain ⟨a, o, rfl, k2, k3, k4, k5⟩ := R
    refine ⟨a, o, rfl, k2, k3, k4, E.H0_none k5, fun i s hs hm z => ?_⟩
    have q := E.slot i s hs
    cases s with
    | un => cases hm
    | sh _ => cases hm
    | ow _ =>
      obtain ⟨b, u, g1, g2, _⟩ := q
      rw [g1] at z
      cases z
      rw [k5] at g2; cases g2
    | io _ =>
      obtain ⟨b, u, g1, g2, _⟩ := q
      rw [g1] at z
      cases z
      rw [k5] at g2; cases g2
section
variable {x : Str} {f : Addr} {fd : FuncData} {ps : List Str} {k : Nat} {F : FD} {np : Nat} {e : Expr} {es : List Expr} {m : PEnv → Res (List PD)} {p pos : Pos}
theorem fnok_cx {X : Cx} (C : CtxOk G c X) {sp : Sp} (h : FnOk G.P G.w G.K G.mg G.base (L2.CX G.P G.w) k f fd ps sp) : FnOk X.prog X.w X.K X.mg X.base (L2.CX X.prog X.w) k f fd ps sp := by
  rw [C.P, C.w, C.K, C.mg, C.base]
  exact h
theorem se_call (hF : FnOk G.P G.w G.K G.mg G.base (L2.CX G.P G.w) k f fd ps (spF G F ps.length)) (hk : k ≤ c.k) (hg : GlC c x) (hm : G.mg x = some (.ref f)) (kp : PySem.W.keepIn G.K (.ref f) = true) (hb : Binds G.K fd ps []) (hn : (e :: es).length = ps.length) (ha : SA G c (e :: es) m)
    (hd : (x == ("__debug__" : Str)) = false := by decide) (he : ∀ env, starEach (e :: es) env = (false, eval e env) :: starEach es env := by intro _; rfl) (hpl : ∀ env, (backTo pos (starEach es env)).any (·.1) = false := by intro _; rfl)
    (hlen : ∀ ρ ds ρ', m ρ = .ok ds ρ' → ds.length = (e :: es).length) : SE G c (.Call (.Name x p) (e :: es) [] pos) (dCall F m) := fun X W C tk =>
  PE.imp (pe_callS (E := WE W) (fnok_cx C hF) (C.room.mono hk) (gl_of C hg) (by rw [C.mg]; exact hm) (by rw [C.K]; exact kp) (by rw [C.K]; exact hb) (passAt tk) (ha X W C tk) hd (he _) (hpl _)) fun σ H Q h => by
    obtain ⟨B, S, ρ, E, hp⟩ := h
    have hds := fun ds ρ1 (e1 : m ρ = .ok ds ρ1) => hlen ρ ds ρ1 e1
    refine ⟨B, S, ρ, E, ?_⟩
    unfold dCall at hp
    generalize hmr : m ρ = r at hp ⊢
    cases r with
    | no => exact hp
    | exc k ρ => exact hp
    | ok ds ρ1 =>
      intro S1 H1 vs E1 y r
      have hlv : vs.length = ps.length := by rw [rpall_len r, hds ds ρ1 hmr]; exact hn
      refine ⟨S1, ds, hlv, E1.sub, r, ?_⟩
      have hp' : Post G B W (FE G B σ Q) S (match F (ds.map .sh) with
        | .ok rv _ => .ok rv ρ1
        | .exc k _ => .exc k ρ1
        | .no => .no) := hp
      cases hF2 : F (ds.map .sh) with
      | no => rw [hF2] at hp'; exact hp'
      | exc kk ρ' =>
        rw [hF2] at hp'
        exact fun H' x' => hp' σ S1 H' (E1.step ⟨Ex.refl _, x', E1.sub.trans x', fun _ _ h => .inl h⟩) y
      | ok rv ρ' =>
        rw [hF2] at hp'
        exact fun S' H' v T R => hp' S' H' v (E1.step T) (y.trans T.s) (rv0_rvr E1 R)
end
theorem evs_len : ∀ {ms : List Den} {ρ : PEnv} {ds : List PD} {ρ' : PEnv}, evs ms ρ = .ok ds ρ' → ds.length = ms.length
  | [], ρ, ds, ρ', h => by cases h; rfl
  | m :: ms, ρ, ds, ρ', h => by
    simp only [evs] at h
    cases h1 : m ρ with
    | no => rw [h1] at h; cases h
    | exc _ _ => rw [h1] at h; cases h
    | ok rv ρ1 =>
      rw [h1] at h
      simp only [Res.bind] at h
      cases h2 : rv.frz with
      | none => rw [h2] at h; cases h
      | some d =>
        rw [h2] at h
        simp only at h
        cases h3 : evs ms ρ1 with
        | no => rw [h3] at h; cases h
        | exc _ _ => rw [h3] at h; cases h
        | ok es ρ2 =>
          rw [h3] at h
          cases h
          rw [List.length_cons, List.length_cons, evs_len h3]
section
variable {x : Str} {f : Addr} {fd : FuncData} {ps : List Str} {k : Nat} {F : FD} {e : Expr} {es : List Expr} {ms : List Den} {p pos : Pos}
/-- f(a, ..) -/
theorem se_fn (hF : FnOk G.P G.w G.K G.mg G.base (L2.CX G.P G.w) k f fd ps (spF G F ps.length)) (hk : k ≤ c.k) (hg : GlC c x) (hm : G.mg x = some (.ref f)) (kp : PySem.W.keepIn G.K (.ref f) = true) (hb : Binds G.K fd ps []) (ha : SA G c (e :: es) (evs ms)) (hn : (e :: es).length = ps.length := by rfl) (hn2 : ms.length = (e :: es).length := by rfl)
    (hd : (x == ("__debug__" : Str)) = false := by decide) (he : ∀ env, starEach (e :: es) env = (false, eval e env) :: starEach es env := by intro _; rfl) (hpl : ∀ env, (backTo pos (starEach es env)).any (·.1) = false := by intro _; rfl) : SE G c (.Call (.Name x p) (e :: es) [] pos) (dCall F (evs ms)) :=
  se_call hF hk hg hm kp hb hn ha hd he hpl fun ρ ds ρ' h => (evs_len h).trans hn2
/-- f(xs, ..), xs a list of the caller's own that f changes -/
def dCallG (F : FD) (i : Nat) (m : PEnv → Res (List PD)) : Den := fun ρ => match mutC ρ i with
  | some _ => (m ρ).bind fun ds ρ1 => match mutC ρ1 i with
    | some ct => match F (.io ct :: ds.map .sh) with
      | .ok rv ρ' => match ρ'[0]? with
        | some (Slot.io ct') => .ok rv (setC ρ1 i ct')
        | _ => .no
      | _ => .no
    | none => .no
  | none => .no
theorem se_fnG {i : Nat} (hF : FnOk G.P G.w G.K G.mg G.base (L2.CX G.P G.w) k f fd ps (spG G F ps.length)) (hk : k ≤ c.k) (hg : GlC c x) (hm : G.mg x = some (.ref f)) (kp : PySem.W.keepIn G.K (.ref f) = true) (hb : Binds G.K fd ps []) (hv : IsV c e i) (ha : SA G c es (evs ms)) (hn : (e :: es).length = ps.length := by rfl) (hn2 : ms.length = es.length := by rfl)
    (hd : (x == ("__debug__" : Str)) = false := by decide) (he : ∀ env, starEach (e :: es) env = (false, eval e env) :: starEach es env := by intro _; rfl) (hpl : ∀ env, (backTo pos (starEach es env)).any (·.1) = false := by intro _; rfl) : SE G c (.Call (.Name x p) (e :: es) [] pos) (dCallG F i (evs ms)) := fun X W C tk =>
  PE.imp (pe_callS (E := WE W) (fnok_cx C hF) (C.room.mono hk) (gl_of C hg) (by rw [C.mg]; exact hm) (by rw [C.K]; exact kp) (by rw [C.K]; exact hb) (passAt tk) (pa_cons (isv_pe hv C) (ha X W C tk) (he _)) hd (he _) (hpl _)) fun σ H Q h => by
    obtain ⟨B, S, ρ, E, hp⟩ := h
    unfold dCallG at hp
    cases hm0 : mutC ρ i with
    | none => rw [hm0] at hp; exact hp.elim
    | some ct0 =>
      rw [hm0] at hp
      obtain ⟨a, o0, ha0, _⟩ := mutC_ok E hm0
      refine ⟨.ref a, ha0, B, S, ρ, E, ?_⟩
      have hds := fun ds ρ1 (e1 : evs ms ρ = .ok ds ρ1) => evs_len e1
      generalize hmr : evs ms ρ = r at hp ⊢
      cases r with
      | no => exact hp
      | exc k ρ => exact hp
      | ok ds ρ1 =>
        intro S1 H1 vs E1 y r
        have hp' : Post G B W (FE G B σ Q) S (match mutC ρ1 i with
          | some ct => match F (.io ct :: ds.map .sh) with
            | .ok rv ρ' => match ρ'[0]? with
              | some (Slot.io ct') => .ok rv (setC ρ1 i ct')
              | _ => .no
            | _ => .no
          | none => .no) := hp
        cases hm1 : mutC ρ1 i with
        | none => rw [hm1] at hp'; exact hp'.elim
        | some ct =>
          rw [hm1] at hp'
          obtain ⟨a', o, k1, k2, k3, k4⟩ := mutC_ok E1 hm1
          rw [ha0] at k1
          cases k1
          refine ⟨S1, ds, a, o, ct, vs, rfl, ?_, k2, k3, k4, E1.sub, r, ?_⟩
          · rw [List.length_cons, rpall_len r, hds ds ρ1 hmr, hn2, ← hn, List.length_cons]
          · simp only at hp'
            cases hF2 : F (.io ct :: ds.map .sh) with
            | no => rw [hF2] at hp'; exact hp'.elim
            | exc _ _ => rw [hF2] at hp'; exact hp'.elim
            | ok rv ρ' =>
              rw [hF2] at hp'
              simp only at hp'
              cases hz : ρ'[0]? with
              | none => rw [hz] at hp'; exact hp'.elim
              | some s0 =>
                rw [hz] at hp'
                cases s0 with
                | un => exact hp'.elim
                | sh _ => exact hp'.elim
                | ow _ => exact hp'.elim
                | io ct' =>
                  refine ⟨ct', hz, fun S' H' v o' x1 x2 nw kp' ha' hc' R => ?_⟩
                  have na : S' a = none := by
                    cases z : S' a with
                    | none => rfl
                    | some u =>
                      rcases nw a u z with z | z
                      · rw [k4] at z; cases z
                      · rw [k2] at z; cases z
                  have T : Step S1 H1 S' (upd H' a o) := by
                    refine ⟨x1, fun b u hb => ?_, fun b u hb => ?_, nw⟩
                    · by_cases z : b = a
                      · subst z
                        rw [upd_same, ← hb, k2]
                      · rw [upd_ne z]
                        exact kp' b u z hb
                    · rw [upd_ne fun z => by rw [z, na] at hb; cases hb]
                      exact x2 b u hb
                  have E2 := (E1.step T).write (ct' := ct') hm1 ha0 hc'
                  have e2 : upd (upd H' a o) a o' = H' := by
                    funext b
                    by_cases z : b = a
                    · subst z
                      rw [upd_same, ha']
                    · rw [upd_ne z, upd_ne z]
                  rw [e2] at E2
                  refine hp' S' H' v E2 (y.trans x1) ?_
                  have R1 := rv0_rvr E1 R
                  cases rv with
                  | sh d => exact R1
                  | ow cc =>
                    obtain ⟨b, u, g1, g2, g3, g4, g5, g6⟩ := R1
                    refine ⟨b, u, g1, g2, g3, g4, g5, fun j s hs hm z => ?_⟩
                    have : ∃ s', ρ1[j]? = some s' ∧ s'.mut = true := by
                      unfold setC at hs
                      unfold mutC at hm1
                      cases hi : ρ1[i]? with
                      | none => rw [hi] at hm1; cases hm1
                      | some si =>
                        rw [hi] at hs hm1
                        have go : ∀ t : Slot, (ρ1.set i t)[j]? = some s → si.mut = true → ∃ s', ρ1[j]? = some s' ∧ s'.mut = true := fun t ht hsi => by
                          by_cases hj : i = j
                          · subst hj
                            exact ⟨si, hi, hsi⟩
                          · rw [List.getElem?_set_ne hj] at ht
                            exact ⟨s, ht, hm⟩
                        cases si with
                        | un => cases hm1
                        | sh _ => cases hm1
                        | ow _ => exact go _ hs rfl
                        | io _ => exact go _ hs rfl
                    obtain ⟨s', q1, q2⟩ := this
                    exact g6 j s' q1 q2 z
end
end DL
/-! DL, part j: sets of tuples of ints, more built-in words -/
namespace DL
open PySem PySem.Spec PyProof.Rows L2
variable {G : GC} {c : SC}
section
variable {P : Program} {w : World} {A : Around} {E : Value → Shared → Prop} {s : Shared} {a : Addr} {L : List (Addr × List Int)} {es : Array (Int × Value)} {ep : Nat} {t : SetTable}
theorem sadd_tup {x : Addr} {k : List Int} {Q : Value → Shared → Prop} (R : SetTR P w s.heap a L es ep t) (hx : IsT P w s.heap k x) (hu : A.units + 3 < cLine) (hfew : L.length + 1 < 64)
    (hQ : ∀ h' tk L' es' ep' t', Heap.SameBut a s.heap h' → SetTR P w h' a L' es' ep' t' → (k ∈ L.map (·.2) → L' = L) → (k ∉ L.map (·.2) → L'.Perm ((x, k) :: L)) → Q .none { s with heap := h', toks := tk }) :
    wpAny (model P w) A (call (.builtin "set.add") [.ref a, .ref x]) Q E s := by
  have hT : s.TypeIs (.ref a) "set" := by
    obtain ⟨o, ho, hex, _⟩ := R.ob
    exact ⟨o, ho, hex.1⟩
  refine wpAny_call_entry F.slot_set_add hT F.entry_set_add ?_ (F.args_set_add_2 _ _)
  unfold Builtin.«set.add» Builtin.Frozenset.oneOther Builtin.Frozenset.addrOf setAdd
  simp only [List.isEmpty_nil, bind_assoc]
  refine wpAny_bind (wpAny_pure ?_)
  try dsimp only
  refine wpAny_bind (wpAny_pure ?_)
  try dsimp only
  refine wpAny_bind (wpAny_holding ?_)
  refine wpAny_bind (wpAny_pyHash_tuple (by simp; omega) hx ?_)
  refine add_at (s := { s with toks := s.toks + (k.length + 1) }) R hx (by simp; omega) hfew fun b h' L' es' ep' t' sb R' c1 c2 => ?_
  show wpAny _ _ (ret Value.none) _ _ _
  exact wpAny_pure ⟨_, rfl, hQ h' _ L' es' ep' t' sb R' c1 c2⟩
end
/-- len({x for x in xs}), xs a list of tuples of ints -/
def tLenScT (K : PySem.W.Frag) (ta : TE) : TE := fun σ H Q => ta σ H fun v H1 => ∃ (l : Addr) (ks : List (Addr × List Int)), v = V.ref l ∧ SqL K H1 l (ks.map fun p => V.ref p.1) ∧ (∀ p ∈ ks, SqT K H1 p.1 (p.2.map V.int)) ∧ ks.length < 63 ∧
  ∀ L : List (List Int), L.Nodup → (∀ k, k ∈ L ↔ k ∈ ks.map (·.2)) → Q (.int L.length) H1
section
variable {X : Cx}
theorem pe_lenScT {e : Expr} {ta : TE} {x : Str} {p p1 p2 p3 pos : Pos} {scope : Scope} (hc : X.calm = true) (hu : X.A.units + 64 < cLine) (hg : Gl X "len") (hm : X.mg "len" = none) (ha : PE X e ta)
    (hnof : ∀ y ∈ scope.names, y.2 ≠ .free) (hcell : ∀ y ∈ scope.names, y.2 ≠ .cell) (hkind : scope.kind = .function) (hnames : ∀ y ∈ scope.names, y.2 = .local → scope.names.lookup y.1 = some .local) (hx : scope.names.lookup x = some .local) (hxd : (x == ("__debug__" : Str)) = false)
    (hs : ∀ z, foldedSetIterable e X.env z = pure z := by intro _; rfl)
    (na : starEach [.SetComp (.Name x p1) [⟨.Name x p2, e, [], 0⟩] scope p3] X.env = (false, eval (.SetComp (.Name x p1) [⟨.Name x p2, e, [], 0⟩] scope p3) X.env) :: starEach [] X.env := by rfl) :
    PE X (.Call (.Name "len" p) [.SetComp (.Name x p1) [⟨.Name x p2, e, [], 0⟩] scope p3] [] pos) (tLenScT X.K ta) := by
  refine ⟨fun pins s σ H Q I h => ?_⟩
  refine Call_ (ld_blt I hg hm PySem.boot_len ?_)
  refine PyProof.Rows.callWith_builtin1 (PyProof.Rows.args_cons ?_ na) rfl rfl
  refine SetComp_goes (closure_ok fun y hy e => absurd e (hnof y hy)) hcell hkind hnames (thn (ha.run pins s σ H _ I h) fun v s1 ⟨xv, H1, I1, r1, q1⟩ => ?_) hs
  obtain ⟨l, ks, rfl, hq, hk, hfew, q1⟩ := q1
  cases r1
  obtain ⟨its, rv, pl, hz⟩ := I1.list hq
  have hl := pl.isList
  have hit : its = ks.map fun p => Value.ref p.1 := refs_of_vals rv
  have hn : its.toArray.size = ks.length := by rw [List.size_toArray, hit, List.length_map]
  have hls : l < s1.heap.objs.size := by obtain ⟨o, ho, _⟩ := hl; exact Heap.lt_size ho
  have isT0 : ∀ p ∈ ks, IsT X.prog X.w s1.heap p.2 p.1 := fun p hp => I1.isT (hk p hp)
  refine wpAny_pyIter_list hl ?_
  generalize hs2 : ({ s1 with heap := s1.heap.push { cls := .type "list_iterator", data := .fields #[.ref l, .int 0 0] } } : Shared) = s2
  have k12 : ∀ b o, s1.heap.get? b = some o → s2.heap.get? b = some o := fun b o e => by rw [← hs2]; exact Heap.get?_push_of_some _ e
  have z12 : s2.heap.objs.size = s1.heap.objs.size + 1 := by rw [← hs2]; exact Heap.size_push ..
  refine ⟨_, _, _, _, _, _, rfl, Goes.list (I1.ok.hd hc) s1.heap.objs.size l (Nat.ne_of_lt hls) its.toArray, ⟨?_, hl.at fun o e => k12 _ o e⟩, fun D C s3 hB hD => ?_⟩
  · rw [← hs2]
    exact ⟨_, Heap.get?_push_size _ rfl, rfl, rfl⟩
  obtain ⟨⟨h3, tk3, rfl⟩, old, nD, nC, hDC, hnm⟩ := hB
  have nD' : s1.heap.objs.size + 1 ≤ D := by rw [← z12]; exact nD
  have nC' : s1.heap.objs.size + 1 ≤ C := by rw [← z12]; exact nC
  have kinds : (compEnvC scope [] C X.env).kindOf x = some .local := lookup_relabel_local hx
  have hp : ((compEnvC scope [] C X.env).scope.kind == .class || ((compEnvC scope [] C X.env).scope.kind == .module && (compEnvC scope [] C X.env).locals != (compEnvC scope [] C X.env).globals)) = false := by
    show (scope.kind == .class || (scope.kind == .module && _)) = false
    rw [hkind]; rfl
  have lo : ∀ b o, s1.heap.get? b = some o → b < s1.heap.objs.size := fun b o e => Heap.lt_size e
  refine ⟨fun i s' => ∃ h' tk m, s' = { s2 with heap := h', toks := tk } ∧ h'.Ns C m ∧ (∃ L es ep t, SetTR X.prog X.w h' D L es ep t ∧ Got ks i L) ∧ ∀ b o, s1.heap.get? b = some o → h'.get? b = some o,
    ⟨h3, tk3, _, rfl, hnm, ⟨[], _, _, _, setTR_fresh hD, Got.zero ks⟩, fun b o e => old b o (k12 b o e)⟩, ?_, ?_, ?_⟩
  · rintro i s' h' tk ⟨h4, tk4, m, rfl, n4, ⟨L, es, ep, t, R, g⟩, k4⟩ hk' _
    have off : ∀ b : Addr, b ≠ s1.heap.objs.size → b ∉ [s1.heap.objs.size] := fun b hb z => hb (List.mem_singleton.mp z)
    have k5 : ∀ b o, s1.heap.get? b = some o → h'.get? b = some o := fun b o e => hk' b o (off b (Nat.ne_of_lt (lo b o e))) (k4 b o e)
    exact ⟨h', tk, m, rfl, n4.at' fun o e => hk' _ o (off _ (Nat.ne_of_gt nC')) e, ⟨L, es, ep, t, R.keep (fun o e => hk' _ o (off _ (Nat.ne_of_gt nD')) e) fun p hp => isT_keep (isT0 p (List.mem_of_mem_take (g.sub p hp))) k5, g⟩, k5⟩
  · rintro i v s' hi hv st ⟨h4, tk4, m, rfl, n4, ⟨L, es, ep, t, R, g⟩, k4⟩
    have hi' : i < ks.length := by rw [← hn]; exact hi
    have hv' : v = .ref ks[i].1 ∧ ks[i]? = some ks[i] := by
      have hv2 : its[i]? = some v := by simpa using hv
      rw [hit, List.getElem?_map, List.getElem?_eq_getElem hi'] at hv2
      exact ⟨(Option.some.inj hv2).symm, List.getElem?_eq_getElem hi'⟩
    obtain ⟨rfl, hki⟩ := hv'
    refine wpAny_assign_Name (wpAny_storeName_local kinds n4 (fun h5 n5 s5 => ?_) hp)
    refine wpAny_tests_nil ?_
    show wpAny _ _ _ _ _ _
    rw [eval_Name _ _ _ hxd]
    refine wpAny_bind (wpAny_standAt (wpAny_loadName_local hkind kinds n5 (v := .ref ks[i].1) (by simp) ?_))
    have k5 : ∀ b o, s1.heap.get? b = some o → h5.get? b = some o := fun b o e => s5.extBut b o (Nat.ne_of_lt (Nat.lt_of_lt_of_le (lo b o e) (Nat.le_of_succ_le nC'))) (k4 b o e)
    have R5 : SetTR X.prog X.w h5 D L es ep t := R.keep (fun o e => s5.extBut D o hDC e) fun p hp => isT_keep (isT0 p (List.mem_of_mem_take (g.sub p hp))) k5
    have x5 : IsT X.prog X.w h5 ks[i].2 ks[i].1 := isT_keep (isT0 _ (List.getElem_mem hi')) k5
    refine sadd_tup (s := { s2 with heap := h5, toks := _ }) R5 x5 (by omega) (by have := g.len; omega) fun h6 tk6 L6 es6 ep6 t6 s6 R6 c1 c2 => ⟨⟨h6, tk6, _, rfl, n5.sameBut s6 (Ne.symm hDC), ⟨L6, es6, ep6, t6, R6, ?_⟩, fun b o e => ?_⟩, ?_⟩
    · rcases Classical.em (ks[i].2 ∈ L.map (·.2)) with c | c
      · rw [c1 c]; exact g.same hki c
      · exact g.more hki (c2 c)
    · exact s6.extBut b o (Nat.ne_of_lt (Nat.lt_of_lt_of_le (lo b o e) (Nat.le_of_succ_le nD'))) (k5 b o e)
    · have cI : s1.heap.objs.size ≠ C := Nat.ne_of_lt nC'
      have dI : s1.heap.objs.size ≠ D := Nat.ne_of_lt nD'
      have cl : l ≠ C := Nat.ne_of_lt (Nat.lt_trans hls nC')
      have dl : l ≠ D := Nat.ne_of_lt (Nat.lt_trans hls nD')
      exact ⟨st.1.at fun o e => s6.extBut _ o dI (s5.extBut _ o cI e), st.2.at fun o e => s6.extBut _ o dl (s5.extBut _ o cl e)⟩
  · rintro s' ⟨h4, tk4, m, rfl, n4, ⟨L, es, ep, t, R, g⟩, k4⟩
    refine ⟨m, n4, fun h5 s5 => ?_⟩
    have k5 : ∀ b o, s1.heap.get? b = some o → h5.get? b = some o := fun b o e => s5.extBut b o (Nat.ne_of_lt (Nat.lt_of_lt_of_le (lo b o e) (Nat.le_of_succ_le nC'))) (k4 b o e)
    rw [hn] at g
    have R5 : SetTR X.prog X.w h5 D L es ep t := R.keep (fun o e => s5.extBut D o hDC e) fun p hp => isT_keep (isT0 p (List.mem_of_mem_take (g.sub p hp))) k5
    refine PyProof.Rows.args_nil ?_
    obtain ⟨o, ho, hex, hd⟩ := R5.ob
    have sz : es.size = L.length := SetTR.size (s := { s2 with heap := h5, toks := tk4 }) R5
    have I5 : Inv X pins σ H1 { s2 with heap := h5, toks := tk4 } := by
      have z := I1.kept (h' := h5) (t' := tk4) k5
      rw [← hs2]
      exact z
    refine call_len_set (s := { s2 with heap := h5, toks := tk4 }) ho hex hd (SetTR.fits (s := { s2 with heap := h5, toks := tk4 }) R5) (by have := R5.few; omega) ⟨.int es.size, H1, I5.tok _, ⟨_, rfl⟩, ?_⟩
    rw [sz]
    have q2 := q1 (L.map (·.2)) R5.nd (fun k => ⟨fun hk => ?_, fun hk => ?_⟩)
    · rw [List.length_map] at q2
      exact q2
    · obtain ⟨p, hp, rfl⟩ := List.mem_map.mp hk
      exact List.mem_map.mpr ⟨p, List.mem_of_mem_take (g.sub p hp), rfl⟩
    · obtain ⟨p, hp, rfl⟩ := List.mem_map.mp hk
      exact g.all p (by rw [List.take_length]; exact hp)
end

/-! ### counts of different things -/
def uniq {α : Type} [DecidableEq α] : List α → List α
  | [] => []
  | x :: xs => if x ∈ uniq xs then uniq xs else x :: uniq xs
theorem mem_uniq {α : Type} [DecidableEq α] {k : α} : ∀ {l : List α}, k ∈ uniq l ↔ k ∈ l
  | [] => by rw [uniq]
  | x :: xs => by
    rw [uniq, List.mem_cons]
    split
    · rename_i h
      rw [mem_uniq]
      exact ⟨.inr, fun z => z.elim (fun e => by rw [e]; exact mem_uniq.mp h) id⟩
    · rw [List.mem_cons, mem_uniq]
theorem nodup_uniq {α : Type} [DecidableEq α] : ∀ l : List α, (uniq l).Nodup
  | [] => by rw [uniq]; exact List.nodup_nil
  | x :: xs => by
    rw [uniq]
    split
    · exact nodup_uniq xs
    · rename_i h
      exact List.nodup_cons.mpr ⟨h, nodup_uniq xs⟩
theorem uniq_len {α : Type} [DecidableEq α] {l m : List α} (h : l.Nodup) (e : ∀ k, k ∈ l ↔ k ∈ m) : l.length = (uniq m).length :=
  ((List.perm_ext_iff_of_nodup h (nodup_uniq m)).mpr fun k => by rw [mem_uniq, e]).length_eq
/-- tuples of whole numbers -/
def tupsOf : List PD → Option (List (List Int))
  | [] => some []
  | .tuple xs :: ds => match intsOf xs, tupsOf ds with
    | some n, some ns => some (n :: ns)
    | _, _ => none
  | _ :: _ => none
theorem tupsOf_eq : ∀ {ds : List PD} {ks : List (List Int)}, tupsOf ds = some ks → ds = ks.map fun k => PyData.tuple (k.map .int)
  | [], ks, h => by cases h; rfl
  | .tuple xs :: ds, ks, h => by
    rw [tupsOf] at h
    cases h1 : intsOf xs with
    | none => simp only [h1] at h; cases h
    | some n =>
      cases h2 : tupsOf ds with
      | none => simp only [h1, h2] at h; cases h
      | some ns =>
        simp only [h1, h2] at h
        cases h
        rw [List.map_cons, ← tupsOf_eq h2, ← intsOf_eq h1]
  | .none :: _, _, h => by cases h
  | .bool _ :: _, _, h => by cases h
  | .int _ :: _, _, h => by cases h
  | .str _ :: _, _, h => by cases h
  | .list _ :: _, _, h => by cases h
  | .dict _ :: _, _, h => by cases h
theorem rp_tups {K S} : ∀ {xs : List V} {ks : List (List Int)}, RpAll K S xs (ks.map fun k => PyData.tuple (k.map .int)) → ∃ ps : List (Addr × List Int), xs = ps.map (fun p => V.ref p.1) ∧ ps.map (·.2) = ks ∧ ∀ p ∈ ps, SqT K S p.1 (p.2.map V.int)
  | _, [], h => by
    cases h
    exact ⟨[], rfl, rfl, fun p hp => by cases hp⟩
  | _, k :: ks, h => by
    cases h with
    | cons a t =>
      obtain ⟨ps, rfl, rfl, h3⟩ := rp_tups t
      cases a with
      | @tup a us _ h1 h2 =>
        have e := h2.ints
        subst e
        refine ⟨(a, k) :: ps, rfl, rfl, fun p hp => ?_⟩
        rcases List.mem_cons.mp hp with rfl | hp
        · exact h1
        · exact h3 p hp
def lenSetD : PD → Option RV
  | .list ds => match tupsOf ds with
    | some ks => if ks.length < 63 then some (.sh (.int (uniq ks).length)) else none
    | none => none
  | _ => none
def rLenSet (K : PySem.W.Frag) : V → Hp → VK → Prop := fun v H1 Q => ∃ (l : Addr) (ks : List (Addr × List Int)), v = V.ref l ∧ SqL K H1 l (ks.map fun p => V.ref p.1) ∧ (∀ p ∈ ks, SqT K H1 p.1 (p.2.map V.int)) ∧ ks.length < 63 ∧
  ∀ L : List (List Int), L.Nodup → (∀ k, k ∈ L ↔ k ∈ ks.map (·.2)) → Q (.int L.length) H1
theorem is_lenSet : Is1 G (rLenSet G.K) lenSetD := by
  intro B S H σ ρ x dx rv Q E hx e q
  cases hx with
  | @lst a xs ds h1 h2 =>
    simp only [lenSetD] at e
    cases hn : tupsOf ds with
    | none => rw [hn] at e; cases e
    | some ks =>
      rw [hn] at e
      simp only at e
      by_cases hl : ks.length < 63
      · rw [if_pos hl] at e
        have e2 := tupsOf_eq hn
        subst e2
        obtain ⟨ps, rfl, rfl, h3⟩ := rp_tups h2
        refine ⟨a, ps, rfl, SqL.of h1, fun p hp => ex_t E.sub (h3 p hp), by rw [List.length_map] at hl; exact hl, fun L nd hm => ?_⟩
        rw [uniq_len nd hm]
        exact is2_end E (fun _ => .int _) e q
      · rw [if_neg hl] at e; cases e
  | _ => cases e
/-- len({x for x in e}) -/
theorem se_lenSet {e : Expr} {oe : Opn} {x : Str} {p p1 p2 p3 pos : Pos} {scope : Scope} (hg : GlC c "len") (hm : G.mg "len" = none) (ha : SO G c e oe)
    (hnof : ∀ y ∈ scope.names, y.2 ≠ .free) (hcell : ∀ y ∈ scope.names, y.2 ≠ .cell) (hkind : scope.kind = .function) (hnames : ∀ y ∈ scope.names, y.2 = .local → scope.names.lookup y.1 = some .local) (hx : scope.names.lookup x = some .local) (hxd : (x == ("__debug__" : Str)) = false := by decide)
    (hs : ∀ env z, foldedSetIterable e env z = pure z := by intro _ _; rfl)
    (na : ∀ env, starEach [.SetComp (.Name x p1) [⟨.Name x p2, e, [], 0⟩] scope p3] env = (false, eval (.SetComp (.Name x p1) [⟨.Name x p2, e, [], 0⟩] scope p3) env) :: starEach [] env := by intro _; rfl) :
    SE G c (.Call (.Name "len" p) [.SetComp (.Name x p1) [⟨.Name x p2, e, [], 0⟩] scope p3] [] pos) (op1 lenSetD oe) := fun X W C tk =>
  PE.imp (pe_lenScT C.calm (by have := C.room.un; omega) (gl_of C hg) (by rw [C.mg]; exact hm) (so_pe ha C tk) hnof hcell hkind hnames hx hxd (hs _) (na _)) fun σ H Q h => by
    rw [C.K]
    exact op1_t (r := rLenSet G.K) is_lenSet h
end DL
/-! DL, part k: len(dict(pairs)), min of tuples, in, reversed tuples, repeated tuples -/
namespace DL
open PySem PySem.Spec PyProof.Rows L2
variable {G : GC} {c : SC}
abbrev PairE := Addr × (Addr × List Int) × V
def rLenDict (K : PySem.W.Frag) : V → Hp → VK → Prop := fun v H1 Q => ∃ (l : Addr) (ps : List PairE), v = V.ref l ∧ SqL K H1 l (ps.map fun p => V.ref p.1) ∧ (∀ p ∈ ps, SqT K H1 p.1 [.ref p.2.1.1, p.2.2] ∧ SqT K H1 p.2.1.1 (p.2.1.2.map V.int)) ∧ ps.length ≤ 1000000 ∧
  ∀ L : List (List Int), L.Nodup → (∀ k, k ∈ L ↔ k ∈ ps.map (·.2.1.2)) → Q (.int L.length) H1
theorem keys_storedAll {K : Type} [DecidableEq K] : ∀ (more kvs : List (K × Value)) (k : K), k ∈ (merged kvs more).map (·.1) ↔ k ∈ kvs.map (·.1) ∨ k ∈ more.map (·.1)
  | [], kvs, k => by simp [merged]
  | m :: more, kvs, k => by
    have := keys_storedAll more (stored kvs m.1 m.2) k
    show k ∈ (merged (stored kvs m.1 m.2) more).map (·.1) ↔ _
    rw [this, keys_stored, List.map_cons, List.mem_cons]
    split
    · rename_i h
      constructor
      · rintro (z | z)
        · exact .inl z
        · exact .inr (.inr z)
      · rintro (z | z | z)
        · exact .inl z
        · subst z; exact .inl h
        · exact .inr z
    · rw [List.mem_append, List.mem_singleton]
      constructor
      · rintro ((z | z) | z)
        · exact .inl z
        · exact .inr (.inl z)
        · exact .inr (.inr z)
      · rintro (z | z | z)
        · exact .inl (.inl z)
        · exact .inl (.inr z)
        · exact .inr z
section
variable {X : Cx}
theorem pe_lenDict {e : Expr} {ta : TE} {p p2 q pos : Pos} (hc : X.calm = true) (hu : X.A.units + 64 < cLine) (hg : Gl X "len") (hm : X.mg "len" = none) (hg2 : Gl X "dict") (hm2 : X.mg "dict" = none) (ha : PE X e ta)
    (na : starEach [e] X.env = (false, eval e X.env) :: starEach [] X.env := by rfl) : PE X (.Call (.Name "len" p) [.Call (.Name "dict" p2) [e] [] q] [] pos) (tUn (rLenDict X.K) ta) := by
  refine ⟨fun pins s σ H Q I h => ?_⟩
  refine Call_ (ld_blt I hg hm PySem.boot_len ?_)
  refine PyProof.Rows.callWith_builtin1 (PyProof.Rows.args_cons ?_ rfl) rfl rfl
  refine Call_ (ld_blt I hg2 hm2 (u := .type "dict") (by decide +kernel) ?_)
  refine PyProof.Rows.callWith_type1 (PyProof.Rows.args_cons (thn (ha.run pins s σ H _ I h) fun v s1 ⟨x, H1, I1, r1, q1⟩ => PyProof.Rows.args_nil ?_) na) na rfl
  obtain ⟨l, ps, rfl, hq, hk, hfew, q1⟩ := q1
  cases r1
  obtain ⟨its, rv, pl, hz⟩ := I1.list hq
  have hit : its = ps.map fun p => Value.ref p.1 := by
    have := refs_of_vals (ks := ps.map fun p => (p.1, ([] : List Int))) (us := its) (by rw [List.map_map]; exact rv)
    rw [this, List.map_map]
    rfl
  have hval : ∀ p ∈ ps, ∃ u, s1.heap.IsTuple p.1 #[.ref p.2.1.1, u] := fun p hp => by
    obtain ⟨its, r, ht, _⟩ := I1.tuple (hk p hp).1
    cases r with
    | cons a t =>
      cases t with
      | cons b t =>
        cases t
        cases a
        exact ⟨_, ht⟩
  have isT0 : ∀ p ∈ ps, IsT X.prog X.w s1.heap p.2.1.2 p.2.1.1 := fun p hp => I1.isT (hk p hp).2
  obtain ⟨f, hf⟩ : ∃ f : PairE → Value, ∀ p ∈ ps, s1.heap.IsTuple p.1 #[.ref p.2.1.1, f p] := by
    refine ⟨fun p => Classical.epsilon fun u => s1.heap.IsTuple p.1 #[.ref p.2.1.1, u], fun p hp => ?_⟩
    exact Classical.epsilon_spec (hval p hp)
  refine call_dict_pairsH (knd := TK X.prog X.w) (ps := ps.map fun p => (p.2.1.2, p.2.1.1, f p)) (PairArg.list l its.toArray (fun j => (ps.getD j (0, (0, []), .non)).1) (ps.map fun p => (Value.ref p.2.1.1, f p))) (I1.ok.hd hc) (show X.A.in1.in1.units < cLine by simp; omega) ⟨?_, ?_⟩ ⟨by simp, fun i k v hi => ?_⟩ (fun h' hk' x hx => ?_) (by simp; rw [sizeLine_eq]; omega) fun h' tk hd hkp => ?_
  · obtain ⟨o, n, ho, h1, h2, h3⟩ := pl
    exact ⟨o, n, ho, h1, h2, h3⟩
  · refine ⟨by rw [hit]; simp, fun j k v hj => ?_⟩
    rw [List.getElem?_map, Option.map_eq_some_iff] at hj
    obtain ⟨p, hp, e2⟩ := hj
    cases e2
    have hD : ps.getD j (0, (0, []), .non) = p := by rw [List.getD_eq_getElem?_getD, hp]; rfl
    simp only [hD]
    refine ⟨?_, .inl (hf p (List.mem_of_getElem? hp))⟩
    rw [hit]
    simp [hp]
  · have hi : (ps.map fun p => (Value.ref p.2.1.1, f p))[i]? = some (k, v) := hi
    rw [List.getElem?_map, Option.map_eq_some_iff] at hi
    obtain ⟨p, hp, e2⟩ := hi
    cases e2
    exact ⟨p.2.1.2, p.2.1.1, by rw [List.getElem?_map, hp]; rfl, rfl⟩
  · obtain ⟨p, hp, rfl⟩ := List.mem_map.mp hx
    have big : ∀ b o, s1.heap.get? b = some o → h'.get? b = some o := fun b o e => hk' b o (Nat.ne_of_lt (Heap.lt_size e)) (by simp) e
    exact isT_keep (isT0 p hp) big
  · have k5 : ∀ b o, s1.heap.get? b = some o → h'.get? b = some o := fun b o e => hkp b o (by simp) e
    refine PyProof.Rows.args_nil ?_
    have I5 : Inv X pins σ H1 { s1 with heap := h', toks := tk } := I1.kept k5
    have hne : (s1.heap.objs.size == sysModules) = false := beq_eq_false_iff_ne.mpr (Nat.ne_of_gt I1.big)
    have hkd : h'.DictKeyed (TK X.prog X.w) s1.heap.objs.size (merged [] (ps.map fun p => (p.2.1.2, f p))) := ⟨_, hd, by
      rw [pairsH_storedAllH]
      unfold pairsH
      rw [List.map_map]
      rfl⟩
    have hlen : (merged [] (ps.map fun p => (p.2.1.2, f p))).length ≤ 1000000 := by
      have := merged_length (K := List Int) [] (ps.map fun p => (p.2.1.2, f p))
      rw [List.length_map] at this
      simp only [List.length_nil] at this
      omega
    refine call_len_slot (s := { s1 with heap := h', toks := tk }) (n := (merged [] (ps.map fun p => (p.2.1.2, f p))).length) hkd.typeIs F.slot_dict_len (fun Q' hq => len_keyed hne hkd hq) (by omega) (by omega) ?_
    refine ⟨.int (merged [] (ps.map fun p => (p.2.1.2, f p))).length, H1, I5.tok _, ⟨_, rfl⟩, ?_⟩
    have q2 := q1 ((merged [] (ps.map fun p => (p.2.1.2, f p))).map (·.1)) hkd.nodup fun k => by
      rw [keys_storedAll, List.map_map]
      simp only [List.map_nil, List.not_mem_nil, false_or]
      rfl
    rw [List.length_map] at q2
    exact q2
end

/-- pairs (tuple of ints, thing) -/
def pairKs : List PD → Option (List (List Int))
  | [] => some []
  | .tuple [.tuple xs, _] :: ds => match intsOf xs, pairKs ds with
    | some n, some ns => some (n :: ns)
    | _, _ => none
  | _ :: _ => none
theorem rp_pairs {K S} : ∀ {xs : List V} {ds : List PD} {ks : List (List Int)}, RpAll K S xs ds → pairKs ds = some ks → ∃ ps : List PairE, xs = ps.map (fun p => V.ref p.1) ∧ ps.map (·.2.1.2) = ks ∧ ∀ p ∈ ps, SqT K S p.1 [.ref p.2.1.1, p.2.2] ∧ SqT K S p.2.1.1 (p.2.1.2.map V.int)
  | _, [], ks, h, e => by
    cases h
    cases e
    exact ⟨[], rfl, rfl, fun p hp => by cases hp⟩
  | _, d :: ds, ks, h, e => by
    unfold pairKs at e
    split at e
    · rename_i z; cases z
    · rename_i xs y ds' z
      injection z with z1 z2
      subst z1
      subst z2
      split at e
      · rename_i n ns e1 e2
        cases e
        cases h with
        | cons a t =>
          obtain ⟨ps, rfl, rfl, h3⟩ := rp_pairs t e2
          cases a with
          | @tup a us _ h1 h2 =>
            cases h2 with
            | @cons v0 vs0 d0 ds0 a0 t0 =>
              cases t0 with
              | @cons v1 _ _ _ a1 t1 =>
                cases t1
                cases a0 with
                | @tup b ws _ g1 g2 =>
                  have e3 := intsOf_eq e1
                  subst e3
                  have e4 := g2.ints
                  subst e4
                  refine ⟨(a, (b, n), v1) :: ps, rfl, rfl, fun p hp => ?_⟩
                  rcases List.mem_cons.mp hp with rfl | hp
                  · exact ⟨h1, g1⟩
                  · exact h3 p hp
      · cases e
    · cases e
def lenDictD : PD → Option RV
  | .list ds => match pairKs ds with
    | some ks => if ks.length ≤ 1000000 then some (.sh (.int (uniq ks).length)) else none
    | none => none
  | _ => none
theorem is_lenDict : Is1 G (rLenDict G.K) lenDictD := by
  intro B S H σ ρ x dx rv Q E hx e q
  cases hx with
  | @lst a xs ds h1 h2 =>
    simp only [lenDictD] at e
    cases hn : pairKs ds with
    | none => rw [hn] at e; cases e
    | some ks =>
      rw [hn] at e
      simp only at e
      by_cases hl : ks.length ≤ 1000000
      · rw [if_pos hl] at e
        obtain ⟨ps, rfl, rfl, h3⟩ := rp_pairs h2 hn
        refine ⟨a, ps, rfl, SqL.of h1, fun p hp => ⟨ex_t E.sub (h3 p hp).1, ex_t E.sub (h3 p hp).2⟩, by rw [List.length_map] at hl; exact hl, fun L nd hm => ?_⟩
        rw [uniq_len nd hm]
        exact is2_end E (fun _ => .int _) e q
      · rw [if_neg hl] at e; cases e
  | _ => cases e
/-- len(dict(e)) -/
theorem se_lenDict {e : Expr} {oe : Opn} {p p2 q pos : Pos} (hg : GlC c "len") (hm : G.mg "len" = none) (hg2 : GlC c "dict") (hm2 : G.mg "dict" = none) (ha : SO G c e oe)
    (na : ∀ env, starEach [e] env = (false, eval e env) :: starEach [] env := by intro _; rfl) : SE G c (.Call (.Name "len" p) [.Call (.Name "dict" p2) [e] [] q] [] pos) (op1 lenDictD oe) := fun X W C tk =>
  PE.imp (pe_lenDict C.calm (by have := C.room.un; omega) (gl_of C hg) (by rw [C.mg]; exact hm) (gl_of C hg2) (by rw [C.mg]; exact hm2) (so_pe ha C tk) (na _)) fun σ H Q h => by
    rw [C.K]
    exact op1_t (r := rLenDict G.K) is_lenDict h

/-! ### in, not in -/
section
variable {a b : Expr} {oa ob : Opn} {pos : Pos}
theorem se_in (ha : SO G c a oa) (hb : SO G c b ob) (hm : behindInMarks .In b = false := by rfl) : SE G c (.Compare a [.In] [b] pos) (op2 (inD false) oa ob) := se_cmpr (r := rInA false) (fun _ C => op_inA (by have := C.room.un; omega)) is_in hm ha hb
theorem se_nin (ha : SO G c a oa) (hb : SO G c b ob) (hm : behindInMarks .NotIn b = false := by rfl) : SE G c (.Compare a [.NotIn] [b] pos) (op2 (inD true) oa ob) := se_cmpr (r := rInA true) (fun _ C => op_ninA (by have := C.room.un; omega)) is_in hm ha hb
theorem st_in (ha : SO G c a oa) (hb : SO G c b ob) (hm : behindInMarks .In b = false := by rfl) : ST G c (.Compare a [.In] [b] pos) (tb (op2 (inD false) oa ob)) := st_cmpr (r := rInA false) (fun _ C => op_inA (by have := C.room.un; omega)) is_in hm ha hb
theorem st_nin (ha : SO G c a oa) (hb : SO G c b ob) (hm : behindInMarks .NotIn b = false := by rfl) : ST G c (.Compare a [.NotIn] [b] pos) (tb (op2 (inD true) oa ob)) := st_cmpr (r := rInA true) (fun _ C => op_ninA (by have := C.room.un; omega)) is_in hm ha hb
end

/-! ### min of data -/
section
variable {prog : Program} {w : World} {A : Around} {E : Value → Shared → Prop} {s : Shared}
open PySem.W in
theorem min_two_data {a b : Value} {x y : PD} {as bs : List Addr} {Q : Value → Shared → Prop} (hh : A.handled = none) (ra : Reads s.heap a x as) (rb : Reads s.heap b y bs) (ha : AlikeAll [x, y]) (hu : A.units + 1 + PyData.depthAll [x, y] < cLine)
    (h : ∀ h' tk, (∀ b o, s.heap.get? b = some o → h'.get? b = some o) → Q (if dataLt y x = true then b else a) { s with heap := h', toks := tk }) : wpAny (model prog w) A (call (.builtin "min") [a, b]) Q E s := by
  have hloop : (toString "min" ++ toString ".loop" : String) = "min.loop" := by decide
  refine call_function_tree F.kind_min F.plain_min F.entry_min (F.args_min2 _ _) ?_
  show wpAny _ A.in1 (Builtin.Builtins.bindParams "min" ["key", "default"] 0 ⟨[], []⟩ >>= _) _ _ s
  have hb0 : Builtin.Builtins.bindParams "min" ["key", "default"] 0 ⟨[], []⟩ = pure [none, none] := rfl
  refine wpAny_bind (wpAny_of_eq hb0 ?_)
  show wpAny _ A.in1 (newTuple [a, b] >>= _) _ _ s
  refine wpAny_bind (wpAny_newObj_type ?_)
  generalize hs1 : ({ s with heap := s.heap.push { cls := .type "tuple", data := .seq #[a, b] } } : Shared) = s1
  have k01 : ∀ b o, s.heap.get? b = some o → s1.heap.get? b = some o := fun b o e => by rw [← hs1]; exact Heap.get?_push_of_some _ e
  have z01 : s1.heap.objs.size = s.heap.objs.size + 1 := by rw [← hs1]; exact Heap.size_push ..
  have hT : s1.heap.IsTuple s.heap.objs.size #[a, b] := by rw [← hs1]; exact ⟨_, Heap.get?_push_size _ rfl, rfl, 0, rfl⟩
  have hr : ReadsAll s1.heap (#[a, b] : Array Value).toList [x, y] (as ++ (bs ++ [])) := .cons (Reads.keeps k01 ra) (.cons (Reads.keeps k01 rb) .nil)
  refine wpAny_bind (iter_tupleW (A := A.in1) hh hT fun s2 e W st hfp hw hk => ?_)
  refine wpAny_bind (wpAny_newObj_type ?_)
  have hSf : s2.heap.objs.size ∉ [s1.heap.objs.size, s.heap.objs.size] := fun hm => Nat.lt_irrefl _ (hfp _ hm)
  rw [hloop]
  refine wpAny_pure ⟨plainId_quiet F.plain_min_loop _, codeAny_min_loop_firstH W s1.heap hw _ (cmpIn_lt (A := A.in1) hr ha ?_) s2.heap.objs.size hSf (fresh_in hk) _ (by simp) (fun b o e => Heap.get?_push_of_some _ (hk b o e)) (W.frame 0 s2 _ s2.toks st (Nat.le_refl _) fun b _ o e => Heap.get?_push_of_some _ e) (Heap.get?_push_size _ rfl) fun v s' hP hm => ?_⟩
  · show A.units + 1 + _ < _
    exact hu
  · obtain ⟨h', tk, rfl, hk'⟩ := moved_old e rfl (Moved.drop_new (tk := s2.toks) hm (Nat.le_refl _))
    have q := h h' tk fun b o e => hk' b o (k01 b o e)
    have hv : v = if dataLt y x = true then b else a := by
      cases hc : dataLt y x <;> simp [argBest, hc] at hP <;> simp [hP]
    rw [hv]
    subst hs1
    exact q
end
end DL
set_option maxHeartbeats 4000000
/-! DL, part l: tuples turned about, repeated -/
namespace DL
open PySem PySem.Spec PyProof.Rows L2
variable {G : GC} {c : SC}
section
variable {prog : Program} {w : World} {A : Around} {E : Value → Shared → Prop} {s : Shared}
theorem places_back (n : Nat) : Builtin.Slice.slicePlaces ((n : Int) - 1) (-1) (-1) = n := by
  unfold Builtin.Slice.slicePlaces
  rw [if_neg (by omega)]
  by_cases h : (n : Int) - 1 > -1
  · rw [if_pos h]
    simp
  · rw [if_neg h]
    have : n = 0 := by omega
    subst this
    rfl
theorem applied_back {sl : Addr} {n : Nat} {t : Tok} {Q : Int × Int × Nat → Shared → Prop} (hs : s.heap.IsSliceOf sl .none .none (.int (-1) t)) (h : Q ((n : Int) - 1, -1, n) s) : wpAny (model prog w) A (Builtin.Slice.sliceApplied (.ref sl) (pure (n : Int))) Q E s := by
  obtain ⟨os, hos, hcs, hds⟩ := id hs
  unfold Builtin.Slice.sliceApplied Builtin.Slice.sliceFields
  refine wpAny_bind (wpAny_bind (wpAny_field hos hds (x := .none) rfl (wpAny_bind (wpAny_field hos hds (x := .none) rfl (wpAny_bind (wpAny_field hos hds (x := .int (-1) t) rfl (wpAny_pure ?_)))))))
  refine wpAny_bind (slicePart_int ?_)
  show wpAny _ _ (if ((-1 : Int) == 0) = true then _ else _) _ _ s
  rw [if_neg (by decide)]
  refine wpAny_bind (slicePart_none (wpAny_bind (slicePart_none (wpAny_bind (wpAny_pure ?_)))))
  show wpAny _ _ (pure ((n : Int) - 1, (-1 : Int), Builtin.Slice.slicePlaces ((n : Int) - 1) (-1) (-1))) _ _ s
  rw [places_back]
  exact wpAny_pure h
theorem fm_congr {α β : Type} {f g : α → Option β} : ∀ {l : List α}, (∀ x ∈ l, f x = g x) → l.filterMap f = l.filterMap g
  | [], _ => rfl
  | x :: l, h => by
    rw [List.filterMap_cons, List.filterMap_cons, h x List.mem_cons_self, fm_congr fun y hy => h y (List.mem_cons_of_mem _ hy)]
theorem pick_back (xs : List Value) : ((List.range xs.length).filterMap fun (m : Nat) => xs.toArray[(((xs.length : Int) - 1) + (m : Int) * (-1)).toNat]?) = xs.reverse := by
  have e : ∀ m ∈ List.range xs.length, xs.toArray[(((xs.length : Int) - 1) + (m : Int) * (-1)).toNat]? = xs.reverse[m]? := fun m hm => by
    have hl := List.mem_range.mp hm
    have : (((xs.length : Int) - 1) + (m : Int) * (-1)).toNat = xs.length - 1 - m := by omega
    rw [this, List.getElem?_reverse hl]
    simp
  rw [fm_congr e]
  have := PySem.W.krv_all xs.reverse.toArray
  simpa using this
theorem getItem_back {t sl : Addr} {items : List Value} {k : Tok} {Q : Value → Shared → Prop} (ht : IsTup s.heap t items.toArray) (hs : s.heap.IsSliceOf sl .none .none (.int (-1) k)) (hsz : items.length ≤ sizeLine)
    (h : Q (.ref s.heap.objs.size) { s with heap := s.heap.push { cls := .type "tuple", data := .seq items.reverse.toArray } }) : wpAny (model prog w) A (getItem (.ref t) (.ref sl)) Q E s := by
  have hok : sizeOk (.seq items.reverse.toArray) := by
    show items.reverse.toArray.size ≤ sizeLine
    simpa using hsz
  obtain ⟨os, hos, hcs, hds⟩ := id hs
  have hTs : s.TypeIs (.ref sl) "slice" := ⟨os, hos, hcs⟩
  unfold getItem
  try with_reducible refine wpAny_holding ?_
  first | refine wpAny_bind (wpAny_pure ?_) | skip
  refine wpAny_bind (wpAny_sequenceKey ht.typeIs (by decide) ?_)
  refine wpAny_bind (wpAny_callSpecial?_slot (name := Str.ofString "__getitem__") ht.typeIs PyProof.Rows.slot_tuple_getitem
    (wpAny_call_entry PyProof.Rows.slot_tuple_getitem ht.typeIs entry_tuple_getitem ?_ (args_tuple_getitem _ _)))
  show wpAny _ _ (Builtin.Tuple.tupleItemsOf (.ref t) >>= _) _ _ s
  refine wpAny_bind (tupleItemsOf_ ht ?_)
  refine wpAny_bind (wpAny_typeOf hTs ?_)
  rw [if_pos (by decide)]
  have hn : items.toArray.size = items.length := by simp
  rw [hn]
  refine wpAny_bind (applied_back hs ?_)
  show wpAny _ _ (if ((((items.length : Int) - 1) == 0 && (-1 : Int) == 1 && items.length == items.toArray.size) = true) then _ else _) _ _ s
  rw [if_neg (by simp), pick_back]
  first
    | exact wpAny_bind (m := Builtin.Tuple.tupleExact _) (wpAny_newObj_type (wpAny_pure ⟨_, rfl, wpAny_pure h⟩) hok)
    | exact wpAny_bind (wpAny_bind (m := Builtin.Tuple.tupleExact _) (wpAny_newObj_type (wpAny_pure (wpAny_pure ⟨_, rfl, wpAny_pure h⟩)) hok))
    | exact wpAny_bind (wpAny_bind (m := Builtin.Tuple.tupleExact _) (wpAny_newObj_type (wpAny_pure ⟨_, rfl, wpAny_pure h⟩) hok))
end
end DL
namespace DL
open PySem PySem.Spec PyProof.Rows L2
theorem tuple_mulS (l : Addr) (items : Array Value) (n : Nat) (dd : Option Addr) (sl : Array (Option Value)) (x : Int) (u : Tok) (c0 : (decide (x < -(2 ^ 63)) || decide (x ≥ 2 ^ 63)) = false) (c1 : (items.isEmpty || x == 1) = true) :
    Meets (Builtin.«tuple.__mul__» ⟨[.ref l, .int x u], []⟩) (fun _ R s => s.heap.get? l = some { cls := .type "tuple", dict := dd, data := .seq items n, slots := sl } ∧ R (.ok (.ret (Value.ref l))) s) :=
  .of_wp fun prog w A R s h => by
    obtain ⟨hp, g, d, tk, os⟩ := s
    obtain ⟨hl, h⟩ := h
    have f1 := AutoSeq1.idx_int
    wp_walk using wpAny_loadPart' hl
    repeat (first
      | (refine wpAny_ite_false (decide_eq_false (by rw [c0]; exact Bool.false_ne_true)) ?_; wp_walk using wpAny_loadPart' hl)
      | (refine wpAny_ite_true (decide_eq_true c1) ?_; wp_walk using wpAny_loadPart' hl))
    all_goals exact ⟨_, rfl, h⟩
end DL
namespace DL
open PySem PySem.Spec PyProof.Rows L2
variable {G : GC} {c : SC}
def rRepS (K : PySem.W.Frag) : R2 := fun x y H Q => ∃ l k xs, x = .ref l ∧ y = .int k ∧ SqT K H l xs ∧ (xs = [] ∨ k = 1) ∧ -1000 ≤ k ∧ k ≤ 1000 ∧ Q (.ref l) H
theorem op_repS {X : Cx} : OpR X (binaryOp .Mult) (rRepS X.K) := by
  intro pins s σ H x y v u Q I rx ry h
  obtain ⟨l, k, xs, rfl, rfl, hT, hc, h1, h2, q⟩ := h
  cases rx
  obtain ⟨t, rfl⟩ := ry
  obtain ⟨its, r, ⟨⟨cls, dd, data, sl⟩, ho, hcl, n, hd⟩, hs⟩ := I.tuple hT
  simp only at hcl hd
  subst hcl hd
  have c0 : (decide (k < -(2 ^ 63)) || decide (k ≥ 2 ^ 63)) = false := by
    rw [decide_eq_false (by omega), decide_eq_false (by omega)] <;> rfl
  have c1 : (its.toArray.isEmpty || k == 1) = true := by
    rcases hc with rfl | rfl
    · cases r
      rfl
    · simp
  exact wpAny_binaryOp_repeat_ref (T := "tuple") (U := "int") (by decide) ⟨_, ho, rfl⟩ (fun s' => typeIs_int s' k t) noFill_tuple_mul F.fills_int_mul F.slot_int_rmul repeat_tuple F.slot_int_index.lookup
    (call_meets F.slot_int_rmul (typeIs_int s k t) F.entry_int_rmul (F.args_int_rmul_2 _ _) (int_rmul_tuple k t l its.toArray n dd sl)
      ⟨ho, rfl, ⟨_, ho, rfl⟩, call_meets F.slot_tuple_mul ⟨_, ho, rfl⟩ F.entry_tuple_mul (F.args_tuple_mul_2 _ _) (tuple_mulS l its.toArray n dd sl k t c0 c1) ⟨ho, .ref l, H, I, rfl, q⟩⟩)
def mulE : PD → PD → Option RV
  | .tuple xs, .int k => if (xs = [] ∨ k = 1) ∧ -1000 ≤ k ∧ k ≤ 1000 then some (.sh (.tuple xs)) else mulD (.tuple xs) (.int k)
  | x, y => mulD x y
theorem is_mulE : Is2 G (fun x y H Q => rMulD G.K x y H Q ∨ rRepS G.K x y H Q) mulE := by
  intro B S H σ ρ x y dx dy rv Q E hx hy e q
  have old : mulD dx dy = some rv → rMulD G.K x y H Q ∨ rRepS G.K x y H Q := fun e => .inl (is_mul B S H σ ρ x y dx dy rv Q E hx hy e q)
  unfold mulE at e
  split at e
  · rename_i xs k
    split at e
    · rename_i hc
      cases e
      cases hx with
      | @tup a vs _ h1 h2 =>
        cases hy
        refine .inr ⟨a, k, vs, rfl, rfl, ex_t E.sub h1, hc.1.imp (fun z => ?_) id, hc.2.1, hc.2.2, q S H _ E (Ex.refl _) (.tup h1 h2)⟩
        subst z
        cases h2
        rfl
    · exact old e
  · exact old e
section
variable {a b : Expr} {oa ob : Opn} {pos p1 p2 p3 : Pos} {k : Nat}
theorem se_mulE (ha : SO G c a oa) (hb : SO G c b ob) : SE G c (.BinOp a .Mult b pos) (op2 mulE oa ob) :=
  se_bin (r := fun K x y H Q => rMulD K x y H Q ∨ rRepS K x y H Q) (fun _ => op_mulD.or op_repS) is_mulE ha hb
def rRevA (K : PySem.W.Frag) : V → Hp → VK → Prop := fun x H1 Q => ∃ l xs, x = .ref l ∧ ((SqL K H1 l xs ∧ ∀ p, H1 p = none → Q (.ref p) (upd H1 p (.lst xs.reverse))) ∨ (SqT K H1 l xs ∧ ∀ p, H1 p = none → Q (.ref p) (upd H1 p (.tup xs.reverse))))
theorem pe_revA {X : Cx} {e : Expr} {te : TE} (he : PE X e te) : PE X (.Subscript e (.Slice none none (some (.UnaryOp .USub (.Constant (.int 1) k p1) p2)) p3) pos) (tUn (rRevA X.K) te) := by
  refine ⟨fun pins s σ H Q I h => Subscript_ (thn (he.run pins s σ H _ I h) fun v s1 ⟨x, H1, I1, r1, q1⟩ => ?_)⟩
  obtain ⟨a, xs, rfl, q⟩ := q1
  cases r1
  have hm1 : PO X (some (.UnaryOp .USub (.Constant (.int 1) k p1) p2)) (tPart (tUn (rU fun i => .int (-i)) (tC (.int 1)))) := po_some (pe_un un_neg pe_int)
  refine wpAny_Slice (thn (po_none.run pins s1 σ H1 (fun o H2 => o = none ∧ H2 = H1) I1 ⟨rfl, rfl⟩) fun vl s2 ⟨l, H2, I2, pl, z1⟩ => ?_)
  obtain ⟨rfl, rfl⟩ := z1
  refine thn (po_none.run pins s2 σ H2 (fun o H3 => o = none ∧ H3 = H2) I2 ⟨rfl, rfl⟩) fun vu s3 ⟨u, H3, I3, pu, z2⟩ => ?_
  obtain ⟨rfl, rfl⟩ := z2
  refine thn (hm1.run pins s3 σ H3 (fun o H4 => o = some (-1) ∧ H4 = H3) I3 ⟨1, rfl, -1, rfl, rfl, rfl⟩) fun vs s4 ⟨o, H4, I4, ps, z3⟩ => ?_
  obtain ⟨rfl, rfl⟩ := z3
  cases pl
  cases pu
  cases ps with
  | int i t =>
  have I5 : Inv X pins σ H4 { s4 with heap := s4.heap.push { cls := .type "slice", data := .fields #[.none, .none, .int (-1) t] } } := I4.kept (t' := s4.toks) fun b ob q => Heap.get?_push_of_some _ q
  show wpAny (model X.prog X.w) X.A (subscriptTail e (.Slice none none (some (.UnaryOp .USub (.Constant (.int 1) k p1) p2)) p3) (.ref a) (.ref s4.heap.objs.size)) (EP X pins σ Q) X.xe { s4 with heap := s4.heap.push { cls := .type "slice", data := .fields #[.none, .none, .int (-1) t] } }
  rcases q with ⟨hx, q⟩ | ⟨hx, q⟩
  · obtain ⟨its, r, ht, hz⟩ := I5.list hx
    have hlen := r.length
    refine tail_any (ops := [.ref a, .ref s4.heap.objs.size]) ht.isList.typeIs (PySem.slot_list_getitem.lookup) ?_ (by with_unfolding_all rfl)
    refine wpAny_getItem_list_slice ht.isList (Heap.IsSliceOf.new _ .none .none (.int (-1) t)) .none .none (.int (-1) t) (by decide) ?_ (by rw [List.size_toArray]; omega)
    rw [PySem.W.krv_pick]
    refine ⟨.ref _, _, I5.laid (t' := s4.toks) (o := .lst xs.reverse) (fun b ob q => Heap.get?_push_of_some _ q) (Nat.le_refl _) ?_, rfl, q _ (I5.hok.fresh (Nat.le_refl _))⟩
    exact ⟨by rw [List.length_reverse]; exact hz, _, 0, r.reverse, Heap.get?_push_size _ rfl⟩
  · obtain ⟨its, r, ht, hz⟩ := I5.tuple hx
    have hlen := r.length
    refine tail_any (ops := [.ref a, .ref s4.heap.objs.size]) ht.typeIs (PyProof.Rows.slot_tuple_getitem.lookup) ?_ (by with_unfolding_all rfl)
    refine getItem_back ht (Heap.IsSliceOf.new _ .none .none (.int (-1) t)) (by omega) ?_
    refine ⟨.ref _, _, I5.laid (t' := s4.toks) (o := .tup xs.reverse) (fun b ob q => Heap.get?_push_of_some _ q) (Nat.le_refl _) ?_, rfl, q _ (I5.hok.fresh (Nat.le_refl _))⟩
    exact ⟨by rw [List.length_reverse]; exact hz, _, r.reverse, IsTup.new _ _⟩
theorem rps_rev {K H} {vs : List V} {ds : List PD} (h : RpAll K H vs ds) : RpAll K H vs.reverse ds.reverse := h.reverse
def revD : PD → Option RV
  | .list ds => some (.ow (.L ds.reverse))
  | .tuple ds => some (.sh (.tuple ds.reverse))
  | _ => none
theorem is_rev : Is1 G (rRevA G.K) revD := by
  intro B S H σ ρ x dx rv Q E hx e q
  cases hx with
  | @lst a xs ds h1 h2 =>
    cases e
    refine ⟨a, xs, rfl, .inl ⟨SqL.of h1, fun p hp => ?_⟩⟩
    obtain ⟨E1, r⟩ := own_new (c := .L ds.reverse) (o := .lst xs.reverse) E hp ⟨_, rfl, rps_rev h2⟩
    exact q _ _ _ E1 (Ex.refl _) r
  | @tup a xs ds h1 h2 =>
    cases e
    refine ⟨a, xs, rfl, .inr ⟨ex_t E.sub h1, fun p hp => ?_⟩⟩
    obtain ⟨E1, x1, r⟩ := tup_new E hp (rps_rev h2)
    exact q _ _ _ E1 x1 r
  | _ => cases e
/-- xs[::-1] -/
theorem se_rev (ha : SO G c a oa) : SE G c (.Subscript a (.Slice none none (some (.UnaryOp .USub (.Constant (.int 1) k p1) p2)) p3) pos) (op1 revD oa) := fun X W C tk =>
  PE.imp (pe_revA (so_pe ha C tk)) fun σ H Q h => by
    rw [C.K]
    exact op1_t (r := rRevA G.K) is_rev h
end

/-! ### min of things of one kind -/
def minL (d : PD) (ds : List PD) : PD := PySem.W.minD d ds
/-- comparable, not deep, no dict -/
def AlikeOk (ds : List PD) : Prop := PySem.W.AlikeAll ds ∧ ∀ d ∈ ds, d.depth ≤ 32 ∧ d.canLay0 = true
theorem depthAll_le {n : Nat} : ∀ {ds : List PD}, (∀ d ∈ ds, d.depth ≤ n) → PyData.depthAll ds ≤ n
  | [], _ => by simp [PyData.depthAll]
  | d :: ds, h => by
    rw [PyData.depthAll]
    exact Nat.max_le.mpr ⟨h d List.mem_cons_self, depthAll_le fun e he => h e (List.mem_cons_of_mem _ he)⟩
theorem rps_reads {X : Cx} {pins : List (Addr × Obj)} {σ : L2.St} {H S : Hp} {s : Shared} (I : Inv X pins σ H s) (hx : Ex S H) : ∀ {vs : List V} {us : List Value} {ds : List PD}, Vals vs us → RpAll X.K S vs ds → (∀ d ∈ ds, plainD d = true) → ∃ as, ReadsAll s.heap us ds as
  | _, _, _, .nil, .nil, _ => ⟨_, .nil⟩
  | _, _, _, .cons r1 r2, .cons (d := d) a t, h => by
    obtain ⟨as, h1⟩ := Dp.reads I d _ _ (rp_dp d (h d List.mem_cons_self) (rp_mono hx d a)) r1
    obtain ⟨bs, h2⟩ := rps_reads I hx r2 t fun e he => h e (List.mem_cons_of_mem _ he)
    exact ⟨_, .cons h1 h2⟩
def rMinL (G : GC) : List V → Hp → VK → Prop := fun xs H Q => ∃ (a : Addr) (vs : List V) (d : PD) (ds : List PD) (S : Hp), xs = [.ref a] ∧ H a = some (.lst vs) ∧ RpAll G.K S vs (d :: ds) ∧ Ex S H ∧ AlikeOk (d :: ds) ∧
  ∀ v, Rp G.K S v (minL d ds) → Q v H
theorem vals_at : ∀ {vs : List V} {us : List Value} {i : Nat} {u : Value}, Vals vs us → us[i]? = some u → ∃ v, vs[i]? = some v ∧ RelV v u
  | _, _, 0, _, .cons r _, h => by
    cases h
    exact ⟨_, rfl, r⟩
  | _, _, i + 1, _, .cons _ t, h => by
    rw [List.getElem?_cons_succ] at h
    obtain ⟨v, h1, h2⟩ := vals_at t h
    exact ⟨v, by rw [List.getElem?_cons_succ]; exact h1, h2⟩
theorem cr_minL {X : Cx} (C : CtxOk G c X) : CallR X (.builtin "min") (rMinL G) := by
  intro pins s σ H xs us Q I r h
  obtain ⟨a, vs, d, ds, S, rfl, h1, h2, hx, ⟨o1, o2⟩, q⟩ := h
  obtain ⟨u, rfl, ru⟩ := vals1 r
  cases ru
  rw [← C.K] at h2
  obtain ⟨its, rv, pl, hz⟩ := I.list (SqL.of h1)
  obtain ⟨as, hr⟩ := rps_reads I hx rv h2 fun e he => plain_lay e (o2 e he).2
  have hd : PyData.depthAll (d :: ds) ≤ 32 := depthAll_le fun e he => (o2 e he).1
  refine PySem.W.min_list_data (I.ok.hd C.calm) pl.isList (x := d) (xs := ds) (as := as) (by simpa using hr) o1 (by have := C.room.un; omega) fun i v h' tk bs hv hrd kp => ?_
  obtain ⟨w, w1, w2⟩ := vals_at rv (by simpa using hv)
  obtain ⟨e, e1, e2⟩ := h2.get w1
  have he := List.mem_of_getElem? e1
  have I' : Inv X pins σ H { s with heap := h', toks := tk } := I.kept kp
  obtain ⟨cs, hrd2⟩ := Dp.reads I' e _ _ (rp_dp e (plain_lay e (o2 e he).2) (rp_mono hx e e2)) w2
  have ee : e = minL d ds := (Reads.unique hrd2 _ _ hrd).1
  refine ⟨w, H, I', w2, q w ?_⟩
  rw [← ee, ← C.K]
  exact e2
open Classical in
noncomputable def minLD : PD → Option RV
  | .list (d :: ds) => if AlikeOk (d :: ds) then some (.sh (minL d ds)) else none
  | _ => none
theorem is_minL : Is1 G (fun x => rMinL G [x]) minLD := by
  intro B S H σ ρ x dx rv Q E hx e q
  cases hx with
  | @lst a xs ds h1 h2 =>
    cases ds with
    | nil => cases e
    | cons d ds =>
      simp only [minLD] at e
      split at e
      · rename_i hc
        cases e
        exact ⟨a, xs, d, ds, S, rfl, h1, h2, E.sub, hc, fun v hv => q S H v E (Ex.refl _) hv⟩
      · cases e
  | _ => cases e
def rMin2L (G : GC) : List V → Hp → VK → Prop := fun xs H Q => ∃ (v1 v2 : V) (d1 d2 : PD) (S : Hp), xs = [v1, v2] ∧ Rp G.K S v1 d1 ∧ Rp G.K S v2 d2 ∧ Ex S H ∧ AlikeOk [d1, d2] ∧ Q (if PySem.W.dataLt d2 d1 = true then v2 else v1) H
theorem cr_min2L {X : Cx} (C : CtxOk G c X) : CallR X (.builtin "min") (rMin2L G) := by
  intro pins s σ H xs us Q I r h
  obtain ⟨v1, v2, d1, d2, S, rfl, h1, h2, hx, ⟨o1, o2⟩, q⟩ := h
  obtain ⟨u1, u2, rfl, r1, r2⟩ := vals2 r
  rw [← C.K] at h1 h2
  obtain ⟨as, ra⟩ := Dp.reads I d1 _ _ (rp_dp d1 (plain_lay d1 (o2 d1 (by simp)).2) (rp_mono hx d1 h1)) r1
  obtain ⟨bs, rb⟩ := Dp.reads I d2 _ _ (rp_dp d2 (plain_lay d2 (o2 d2 (by simp)).2) (rp_mono hx d2 h2)) r2
  have hd : PyData.depthAll [d1, d2] ≤ 32 := depthAll_le fun e he => (o2 e he).1
  refine min_two_data (I.ok.hd C.calm) ra rb o1 (by have := C.room.un; omega) fun h' tk kp => ⟨_, H, I.kept kp, ?_, q⟩
  split
  · exact r2
  · exact r1
open Classical in
noncomputable def min2LD (d e : PD) : Option RV := if AlikeOk [d, e] then some (.sh (if PySem.W.dataLt e d = true then e else d)) else none
/-- borrowed values of tuples and the like -/
def stillD : PD → Bool
  | .list _ => false
  | .dict _ => false
  | _ => true
open Classical in
noncomputable def min2TD (d e : PD) : Option RV := if stillD d = true ∧ stillD e = true then min2LD d e else none
theorem dpo_rp {K S H v d} (h : DpO K S H v d) (hs : stillD d = true) : Rp K S v d := by
  cases h with
  | non => exact .non
  | bl b => exact .bl b
  | int i => exact .int i
  | str x => exact .str x
  | lst _ _ => cases hs
  | scr _ _ => cases hs
  | tup h1 h2 => exact .tup h1 h2
theorem is_min2L : Is2 G (fun x y => rMin2L G [x, y]) min2TD := by
  intro B S H σ ρ x y dx dy rv Q E hx hy e q
  unfold min2TD at e
  split at e
  · rename_i hs
    unfold min2LD at e
    split at e
    · rename_i hc
      cases e
      refine ⟨x, y, dx, dy, S, rfl, dpo_rp hx hs.1, dpo_rp hy hs.2, E.sub, hc, q S H _ E (Ex.refl _) ?_⟩
      show Rp G.K S _ _
      split
      · exact dpo_rp hy hs.2
      · exact dpo_rp hx hs.1
    · cases e
  · cases e
section
variable {a b : Expr} {oa ob : Opn} {pos p : Pos}
theorem se_callG1 {id : String} {x : Str} {r : List V → Hp → VK → Prop} {f : PD → Option RV} (hc : ∀ X : Cx, CtxOk G c X → CallR X (.builtin id) r) (hf : Is1 G (fun x => r [x]) f) (hg : GlC c x) (hm : G.mg x = none) (hv : bootBuiltins x = some (.builtin id)) (ha : SO G c a oa)
    (hs : ∀ env, starEach [a] env = (false, eval a env) :: starEach [] env) (hn : x ≠ "__name__") (hdb : (x == ("__debug__" : Str)) = false) : SE G c (.Call (.Name x p) [a] [] pos) (op1 f oa) := fun X W C tk =>
  PE.imp (pe_callB (hc X C) (gl_of C hg) (by rw [C.mg]; exact hm) hv (pa_cons (so_pe ha C tk) pa_nil (hs _)) hn hdb (hs _) (by rfl)) fun σ H Q h => op1_call hf h
theorem se_callG2 {id : String} {x : Str} {r : List V → Hp → VK → Prop} {f : PD → PD → Option RV} (hc : ∀ X : Cx, CtxOk G c X → CallR X (.builtin id) r) (hf : Is2 G (fun x y => r [x, y]) f) (hg : GlC c x) (hm : G.mg x = none) (hv : bootBuiltins x = some (.builtin id)) (ha : SO G c a oa) (hb : SO G c b ob)
    (hs : ∀ env, starEach [a, b] env = (false, eval a env) :: starEach [b] env) (hs2 : ∀ env, starEach [b] env = (false, eval b env) :: starEach [] env) (hn : x ≠ "__name__") (hdb : (x == ("__debug__" : Str)) = false) : SE G c (.Call (.Name x p) [a, b] [] pos) (op2 f oa ob) := fun X W C tk =>
  PE.imp (pe_callB (hc X C) (gl_of C hg) (by rw [C.mg]; exact hm) hv (pa_cons (so_pe ha C tk) (pa_cons (so_pe hb C tk) pa_nil (hs2 _)) (hs _)) hn hdb (hs _) (by rw [hs2]; rfl)) fun σ H Q h => op2_call hf h
theorem se_minL (hg : GlC c "min") (hm : G.mg "min" = none) (ha : SO G c a oa) (hs : ∀ env, starEach [a] env = (false, eval a env) :: starEach [] env := by intro _; rfl) : SE G c (.Call (.Name "min" p) [a] [] pos) (op1 minLD oa) :=
  se_callG1 (fun _ C => cr_minL C) is_minL hg hm (by decide +kernel) ha hs (by decide) (by decide)
theorem se_min2L (hg : GlC c "min") (hm : G.mg "min" = none) (ha : SO G c a oa) (hb : SO G c b ob) (hs : ∀ env, starEach [a, b] env = (false, eval a env) :: starEach [b] env := by intro _; rfl) (hs2 : ∀ env, starEach [b] env = (false, eval b env) :: starEach [] env := by intro _; rfl) : SE G c (.Call (.Name "min" p) [a, b] [] pos) (op2 min2TD oa ob) :=
  se_callG2 (fun _ C => cr_min2L C) is_min2L hg hm (by decide +kernel) ha hb hs hs2 (by decide) (by decide)
end
end DL
/-! DL, part m: a, b = e1, e2 with what is owned -/
namespace DL
open PySem PySem.Spec PyProof.Rows L2
variable {G : GC} {c : SC}
def evT : List (Den × Nat) → PEnv → Res Unit
  | [], ρ => .ok () ρ
  | (m, t) :: r, ρ => (m ρ).bind fun rv ρ1 => if Slot.free ρ1[t]? = true then evT r (ρ1.set t rv.slot) else .no
def AtT : List Nat → List V → L2.St → Prop
  | [], [], _ => True
  | t :: ts, v :: vs, σ => σ[t]? = some (some v) ∧ AtT ts vs σ
  | _, _, _ => False
def FTs (G : GC) (B : Bse) (σ : L2.St) (ts : List Nat) (Q : List V → Hp → Prop) : FinT Unit := fun S _ ρ => ∀ S' H' σ' vs, EnvR G B S' σ' H' ρ → Ex S S' → Agree ts σ σ' → AtT ts vs σ' → Q vs H'
theorem monoFTs {B σ ts Q} : MonoF (FTs G B σ ts Q) := fun _ _ _ _ x f _ _ _ _ E y => f _ _ _ _ E (x.trans y)
def tEvT (G : GC) (W : WX) (ms : List (Den × Nat)) : TA := fun σ H Q => ∃ B S ρ, EnvR G B S σ H ρ ∧ Post G B W (FTs G B σ (ms.map (·.2)) Q) S (evT ms ρ)
def STA (G : GC) (c : SC) (es : List Expr) (ms : List (Den × Nat)) : Prop := ∀ X W, CtxOk G c X → Takes X W → PA X es (tEvT G W ms)
theorem sat_nil : STA G c [] [] := fun X W C tk => PA.imp pa_nil fun σ H Q h => by
  obtain ⟨B, S, ρ, E, hp⟩ := h
  exact hp S H σ [] E (Ex.refl _) ⟨rfl, fun _ _ => rfl⟩ trivial
theorem free_lt {ρ : PEnv} {t : Nat} (h : Slot.free ρ[t]? = true) : t < ρ.length := by
  cases e : ρ[t]? with
  | none => rw [e] at h; cases h
  | some s => exact (List.getElem?_eq_some_iff.mp e).1
theorem Post.imp2 {B W S} {α : Type} {F F' : FinT α} {r : Res α} (h : Post G B W F S r) (i : ∀ a ρ, F S a ρ → F' S a ρ) : Post G B W F' S r := by
  cases r with
  | ok a ρ => exact i a ρ h
  | exc k ρ => exact h
  | no => exact h
theorem sat_cons {e : Expr} {es : List Expr} {m : Den} {ms : List (Den × Nat)} {t : Nat} (h : SE G c e m) (hr : STA G c es ms) (hN : ∃ x, c.N[t]? = some x ∧ ¬ Vis c.sc x) (ht : t ∉ ms.map (·.2)) (hs : ∀ env, starEach (e :: es) env = (false, eval e env) :: starEach es env := by intro _; rfl) : STA G c (e :: es) ((m, t) :: ms) := fun X W C tk => by
  refine ⟨fun pos pins s σ H Q I hq => ?_⟩
  rw [hs]
  show wpAny _ _ (spliced ((false, eval e X.env) :: backTo pos (starEach es X.env))) _ _ s
  obtain ⟨x0, n1, n2⟩ := hN
  rw [← C.N] at n1
  rw [← C.sc] at n2
  refine Calls.spliced_cons (thn ((h X W C tk).run pins s σ H (fun v H1 => tEvT G W ms (σ.set t (some v)) H1 fun vs H2 => Q (v :: vs) H2) I ?_) fun u s1 ⟨x, H1, I1, r1, q1⟩ => ?_)
  · obtain ⟨B, S, ρ, E, hp⟩ := hq
    refine ⟨B, S, ρ, E, Post.bind hp fun rv ρ1 h1 => ?_⟩
    intro S1 H1 v E1 y R
    by_cases hf : Slot.free ρ1[t]? = true
    · rw [if_pos hf] at h1
      have hlt : t < σ.length := by rw [E1.len]; exact free_lt hf
      refine ⟨B, S1, _, E1.store hf R, Post.imp2 (Post.mono monoFTs y h1) fun _ ρ2 f S2 H2 σ2 vs E2 y2 ag at2 => ?_⟩
      refine f S2 H2 σ2 (v :: vs) E2 y2 ⟨ag.1.trans List.length_set, fun j hj => ?_⟩ ⟨?_, at2⟩
      · have hj' : j ≠ t ∧ j ∉ ms.map (·.2) := by
          refine ⟨fun z => hj ?_, fun z => hj ?_⟩
          · rw [z]; exact List.mem_cons_self
          · exact List.mem_cons_of_mem _ z
        rw [ag.2 j hj'.2, List.getElem?_set_ne (Ne.symm hj'.1)]
      · rw [ag.2 t ht, List.getElem?_set_self hlt]
    · rw [if_neg hf] at h1
      exact h1.elim
  · refine thn ((hr X W C tk).run pos pins s1 (σ.set t (some x)) H1 _ (inv_tmp I1 n1 n2 (some x)) q1) fun us s2 ⟨xs, H2, I2, r2, q2⟩ => ⟨x :: xs, H2, ?_, .cons r1 r2, q2⟩
    have I3 := inv_tmp I2 n1 n2 (σ.getD t none)
    rw [List.set_set] at I3
    have e3 : σ.set t (σ.getD t none) = σ := by
      refine List.ext_getElem? fun j => ?_
      by_cases hj : t = j
      · subst hj
        by_cases hl : t < σ.length
        · rw [List.getElem?_set_self hl, List.getD_eq_getElem?_getD, List.getElem?_eq_getElem hl]
          rfl
        · rw [List.getElem?_eq_none (by rw [List.length_set]; omega), List.getElem?_eq_none (by omega)]
      · rw [List.getElem?_set_ne hj]
    rw [e3] at I3
    exact I3
/-- a slot's content to another slot -/
def mvT (i t : Nat) (ρ : PEnv) : Option PEnv := match ρ[t]? with
  | some (.sh d) => if Slot.free ρ[i]? = true ∧ i ≠ t then some ((ρ.set t .un).set i (.sh d)) else none
  | some (.ow k) => if Slot.free ρ[i]? = true ∧ i ≠ t then some ((ρ.set t .un).set i (.ow k)) else none
  | _ => none
theorem mvT_ok {B S σ H ρ ρ' i t v} (E : EnvR G B S σ H ρ) (h : mvT i t ρ = some ρ') (hv : σ[t]? = some (some v)) : EnvR G B S (σ.set i (some v)) H ρ' ∧ ρ'[t]? = some .un ∧ ∀ j, j ≠ t → j ≠ i → ρ'[j]? = ρ[j]? := by
  unfold mvT at h
  cases hs : ρ[t]? with
  | none => rw [hs] at h; cases h
  | some s =>
    have ht := (List.getElem?_eq_some_iff.mp hs).1
    rw [hs] at h
    have q := E.slot t s hs
    have fin : ∀ {rv : RV}, Slot.free ρ[i]? = true ∧ i ≠ t → RVR G B S H σ (ρ.set t .un) v rv → EnvR G B S (σ.set i (some v)) H ((ρ.set t .un).set i rv.slot) ∧ ((ρ.set t .un).set i rv.slot)[t]? = some .un ∧ ∀ j, j ≠ t → j ≠ i → ((ρ.set t .un).set i rv.slot)[j]? = ρ[j]? := fun {rv} hf R => by
      have E1 : EnvR G B S σ H (ρ.set t .un) := E.setSlot t .un rfl trivial
      refine ⟨E1.store (by rw [List.getElem?_set_ne (Ne.symm hf.2)]; exact hf.1) R, ?_, fun j h1 h2 => ?_⟩
      · rw [List.getElem?_set_ne hf.2, List.getElem?_set_self ht]
      · rw [List.getElem?_set_ne (Ne.symm h2), List.getElem?_set_ne (Ne.symm h1)]
    cases s with
    | un => cases h
    | io _ => cases h
    | sh d =>
      simp only at h
      split at h
      · rename_i hf
        cases h
        obtain ⟨u, h1, h2⟩ := q
        rw [hv] at h1
        cases h1
        exact fin (rv := .sh d) hf h2
      · cases h
    | ow k =>
      simp only at h
      split at h
      · rename_i hf
        cases h
        obtain ⟨a, o, h1, h2, h3, h4, h5⟩ := q
        rw [hv] at h1
        cases h1
        exact fin (rv := .ow k) hf ⟨a, o, rfl, h2, h3, h4, h5, mut_not E hs hv⟩
      · cases h
/-- slots that hold nothing may stand for anything -/
theorem EnvR.other {B S σ σ' H ρ} (E : EnvR G B S σ H ρ) (hl : σ'.length = σ.length) (hu : ∀ (k : Nat) (s : Slot), ρ[k]? = some s → s ≠ Slot.un → σ'[k]? = σ[k]?) : EnvR G B S σ' H ρ := by
  refine ⟨hl.trans E.len, E.s0, E.new, E.sub, E.keep, E.ios, fun j s hs => ?_, fun j k sj sk hj hk mj mk he => ?_⟩
  · cases s with
    | un => trivial
    | _ =>
      rw [hu j _ hs (by intro z; cases z)]
      exact E.slot j _ hs
  · refine E.dis j k sj sk hj hk mj mk ?_
    rw [← hu j sj hj (fun z => by rw [z] at mj; cases mj), ← hu k sk hk (fun z => by rw [z] at mk; cases mk)]
    exact he
/-- i, j = e1, e2 (t, u: temps) -/
def dPar (i j t u : Nat) (m n : Den) : DenS := fun ρ => (evT [(m, t), (n, u)] ρ).bind fun _ ρ1 => match (mvT i t ρ1).bind (mvT j u) with
  | some ρ2 => .ok .nx ρ2
  | none => .no
def dPar3 (i j l t u w : Nat) (m n o : Den) : DenS := fun ρ => (evT [(m, t), (n, u), (o, w)] ρ).bind fun _ ρ1 => match ((mvT i t ρ1).bind (mvT j u)).bind (mvT l w) with
  | some ρ2 => .ok .nx ρ2
  | none => .no
theorem set_eq {l l' : L2.St} {k i : Nat} {o : Option V} (h : l'.length = l.length) (e : k ≠ i → l'[k]? = l[k]?) : (l'.set i o)[k]? = (l.set i o)[k]? := by
  by_cases z : k = i
  · subst z
    by_cases hk : k < l.length
    · rw [List.getElem?_set_self hk, List.getElem?_set_self (by omega)]
    · rw [List.getElem?_eq_none (by rw [List.length_set]; omega), List.getElem?_eq_none (by rw [List.length_set]; omega)]
  · rw [List.getElem?_set_ne (Ne.symm z), List.getElem?_set_ne (Ne.symm z), e z]
section
variable {x y z : Str} {a b e : Expr} {m n o : Den} {i j l t u w : Nat} {px py pz pt pos : Pos} {kt k2 : Nat} {pt2 : Pos}
theorem ss_par (hi : IsL c x i) (hj : IsL c y j) (hx : c.sc.names.lookup x = some .local) (hy : c.sc.names.lookup y = some .local) (ha : STA G c [a, b] [(m, t), (n, u)]) (hd : [i, j, t, u].Nodup)
    (hw : ∀ env, env.scope = c.sc → swappedStores [.Tuple [.Name x px, .Name y py] kt pt] (.Tuple [a, b] k2 pt2) env = pure (some [x, y]))
    (hs : ∀ env, swapsWithSole [.Tuple [.Name x px, .Name y py] kt pt] (.Tuple [a, b] k2 pt2) pos.line env = pure false := by intro _; rfl) :
    SS G c (.Assign [.Tuple [.Name x px, .Name y py] kt pt] (.Tuple [a, b] k2 pt2) pos) (dPar i j t u m n) := fun X W C tk hp => by
  simp only [List.nodup_cons, List.mem_cons, List.not_mem_nil, or_false, not_or, List.nodup_nil, and_true, not_false_eq_true] at hd
  obtain ⟨⟨d1, d2, d3⟩, ⟨d4, d5⟩, d6⟩ := hd
  refine PS.imp (ps_par C.calm C.nN (hi.hN C) (hj.hN C) d1 (by rw [C.sc]; exact hx) (by rw [C.sc]; exact hy) (ha X W C tk) (hw _ C.sc) (hs _)) fun D σ H h => ?_
  obtain ⟨B, S, ρ, E, hp⟩ := h
  refine ⟨B, S, ρ, E, Post.bind hp fun _ ρ1 h1 S1 H1 σ1 vs E1 y1 ag at1 => ?_⟩
  match vs, at1 with
  | [v, w], at1 =>
    obtain ⟨a1, a2, _⟩ := at1
    refine ⟨v, w, rfl, ?_⟩
    cases e1 : mvT i t ρ1 with
    | none => rw [e1] at h1; exact h1.elim
    | some ρ2 =>
      rw [e1, Option.bind_some] at h1
      cases e2 : mvT j u ρ2 with
      | none => rw [e2] at h1; exact h1.elim
      | some ρ3 =>
        rw [e2] at h1
        obtain ⟨E2, u2, k2⟩ := mvT_ok E1 e1 a1
        obtain ⟨E3, u3, k3⟩ := mvT_ok E2 e2 (by rw [List.getElem?_set_ne d3]; exact a2)
        refine h1 _ S1 H1 (E3.other (by simp [ag.1]) fun k s hk hu => ?_) y1
        have kt : k ≠ t := fun z => hu (by
          rw [z, k3 t d6 (Ne.symm d4), u2] at hk
          exact (Option.some.inj hk).symm)
        have ku : k ≠ u := fun z => hu (by
          rw [z, u3] at hk
          exact (Option.some.inj hk).symm)
        have e0 : σ1[k]? = σ[k]? := ag.2 k (by simp [kt, ku])
        exact (set_eq (by simp [ag.1]) fun _ => set_eq ag.1 fun _ => e0).symm
theorem ss_par3 (hi : IsL c x i) (hj : IsL c y j) (hl : IsL c z l) (hx : c.sc.names.lookup x = some .local) (hy : c.sc.names.lookup y = some .local) (hz : c.sc.names.lookup z = some .local) (ha : STA G c [a, b, e] [(m, t), (n, u), (o, w)]) (hd : [i, j, l, t, u, w].Nodup)
    (hw : ∀ env, env.scope = c.sc → swappedStores [.Tuple [.Name x px, .Name y py, .Name z pz] kt pt] (.Tuple [a, b, e] k2 pt2) env = pure (some [x, y, z]))
    (hs : ∀ env, swapsWithSole [.Tuple [.Name x px, .Name y py, .Name z pz] kt pt] (.Tuple [a, b, e] k2 pt2) pos.line env = pure false := by intro _; rfl) :
    SS G c (.Assign [.Tuple [.Name x px, .Name y py, .Name z pz] kt pt] (.Tuple [a, b, e] k2 pt2) pos) (dPar3 i j l t u w m n o) := fun X W C tk hp => by
  simp only [List.nodup_cons, List.mem_cons, List.not_mem_nil, or_false, not_or, List.nodup_nil, and_true, not_false_eq_true] at hd
  obtain ⟨⟨d1, d2, d3, d4, d5⟩, ⟨f2, f3, f4, f5⟩, ⟨g3, g4, g5⟩, ⟨h4, h5⟩, k5⟩ := hd
  refine PS.imp (ps_par3 C.calm C.nN (hi.hN C) (hj.hN C) (hl.hN C) d1 d2 f2 (by rw [C.sc]; exact hx) (by rw [C.sc]; exact hy) (by rw [C.sc]; exact hz) (ha X W C tk) (hw _ C.sc) (hs _)) fun D σ H h => ?_
  obtain ⟨B, S, ρ, E, hp⟩ := h
  refine ⟨B, S, ρ, E, Post.bind hp fun _ ρ1 h1 S1 H1 σ1 vs E1 y1 ag at1 => ?_⟩
  match vs, at1 with
  | [v1, v2, v3], at1 =>
    obtain ⟨a1, a2, a3, _⟩ := at1
    refine ⟨v1, v2, v3, rfl, ?_⟩
    cases e1 : mvT i t ρ1 with
    | none => rw [e1] at h1; exact h1.elim
    | some ρ2 =>
      rw [e1, Option.bind_some] at h1
      cases e2 : mvT j u ρ2 with
      | none => rw [e2] at h1; exact h1.elim
      | some ρ3 =>
        rw [e2, Option.bind_some] at h1
        cases e3 : mvT l w ρ3 with
        | none => rw [e3] at h1; exact h1.elim
        | some ρ4 =>
          rw [e3] at h1
          obtain ⟨E2, u2, k2⟩ := mvT_ok E1 e1 a1
          obtain ⟨E3, u3, k3⟩ := mvT_ok E2 e2 (by rw [List.getElem?_set_ne d4]; exact a2)
          obtain ⟨E4, u4, k4⟩ := mvT_ok E3 e3 (by rw [List.getElem?_set_ne f5, List.getElem?_set_ne d5]; exact a3)
          refine h1 _ S1 H1 (E4.other (by simp [ag.1]) fun k s hk hu => ?_) y1
          have kw : k ≠ w := fun z => hu (by
            rw [z, u4] at hk
            exact (Option.some.inj hk).symm)
          have ku : k ≠ u := fun z => hu (by
            rw [z, k4 u k5 (Ne.symm g4), u3] at hk
            exact (Option.some.inj hk).symm)
          have kt : k ≠ t := fun z => hu (by
            rw [z, k4 t h5 (Ne.symm g3), k3 t h4 (Ne.symm f3), u2] at hk
            exact (Option.some.inj hk).symm)
          have e0 : σ1[k]? = σ[k]? := ag.2 k (by simp [kt, ku, kw])
          exact (set_eq (by simp [ag.1]) fun _ => set_eq (by simp [ag.1]) fun _ => set_eq ag.1 fun _ => e0).symm
end

/-! ### words of the printed proofs -/
theorem so_b {e : Expr} (i : Nat) (h : IsV c e i) : SO G c e (.b i) := h
theorem so_e {e : Expr} {m : Den} (h : SE G c e m) : SO G c e (.e m) := h
theorem ss_unpC {tg e : Expr} {t : Tgt} {m : Den} {pos : Pos} (ht : SG G c tg t) (h : SE G c e m) (hw : ∀ env, env.scope = c.sc → swappedStores [tg] e env = pure none) (hs : ∀ env, swapsWithSole [tg] e pos.line env = pure false := by intro _; rfl)
    (h1 : ∀ env, (assignEach [tg] env).map (·.2) = [assign tg env] := by intro _; rfl) : SS G c (.Assign [tg] e pos) (dUnp t m) := fun X W C tk hp =>
  PS.imp (ps_asg (h X W C tk) (ht X C) (hs _) (hw _ C.sc) (h1 _)) fun D σ H h => by
    obtain ⟨B, S, ρ, E, hp⟩ := h
    refine ⟨B, S, ρ, E, Post.bind hp fun rv ρ1 h1 => ?_⟩
    intro S1 H1 v E1 y R
    cases hf : rv.frz with
    | none => rw [hf] at h1; exact h1.elim
    | some d =>
      rw [hf, Option.bind_some] at h1
      cases ha : asgT t d ρ1 with
      | none => rw [ha] at h1; exact h1.elim
      | some ρ2 =>
        rw [ha] at h1
        obtain ⟨S2, E2, y2, r⟩ := frz_ok E1 R hf
        exact ⟨B, S2, ρ1, ρ2, d, E2, r, ha, fun σ' E3 ag => h1 σ' S2 H1 E3 (y.trans y2)⟩

/-- a, b = xs, xs looked at only -/
def dUnpB (ts : List Tgt) (i : Nat) : DenS := fun ρ => match rdv ρ i with
  | some (.list ds) => match asgTs ts ds ρ with
    | some ρ2 => .ok .nx ρ2
    | none => .no
  | some (.tuple ds) => match asgTs ts ds ρ with
    | some ρ2 => .ok .nx ρ2
    | none => .no
  | _ => .no
theorem ss_unpB {es : List Expr} {e : Expr} {ts : List Tgt} {i k : Nat} {tpos pos : Pos} (he : IsV c e i) (h : SGs G c es ts) (hn : ∀ env, (assignEach es env).length = ts.length := by intro _; rfl) (hst : ∀ env, (assignEach es env).findIdx? (·.1) = none := by intro _; rfl)
    (hs : ∀ env, swapsWithSole [.Tuple es k tpos] e pos.line env = pure false := by intro _; rfl) (hw : ∀ env, swappedStores [.Tuple es k tpos] e env = pure none := by intro _; rfl)
    (h1 : ∀ env, (assignEach [.Tuple es k tpos] env).map (·.2) = [assign (.Tuple es k tpos) env] := by intro _; rfl) : SS G c (.Assign [.Tuple es k tpos] e pos) (dUnpB ts i) := fun X W C tk hp =>
  PS.imp (ps_asg (isv_pe he C) (PG.or (pg_tup (n := ts.length) C.calm (h X C) (hn _) (hst _)) (pg_lst (n := ts.length) C.calm (h X C) (hn _) (hst _))) (hs _) (hw _) (h1 _)) fun D σ H h => by
    obtain ⟨B, S, ρ, E, hp⟩ := h
    unfold dUnpB at hp
    cases hr : rdv ρ i with
    | none => rw [hr] at hp; exact hp.elim
    | some d =>
      rw [hr] at hp
      obtain ⟨v, hv, D1⟩ := rdv_ok E hr
      refine ⟨v, hv, ?_⟩
      cases D1 with
      | @lst a xs ds h1 h2 =>
        simp only at hp
        cases ha : asgTs ts ds ρ with
        | none => rw [ha] at hp; exact hp.elim
        | some ρ2 =>
          rw [ha] at hp
          exact .inr ⟨a, xs, rfl, SqL.of h1, by rw [rpall_len h2]; exact asgTs_len ha, B, S, ρ, ρ2, ds, E, h2, ha, fun σ' E2 ag => hp σ' S H E2 (Ex.refl _)⟩
      | @tup a xs ds h1 h2 =>
        simp only at hp
        cases ha : asgTs ts ds ρ with
        | none => rw [ha] at hp; exact hp.elim
        | some ρ2 =>
          rw [ha] at hp
          exact .inl ⟨a, xs, rfl, by rw [C.K]; exact ex_t E.sub h1, by rw [rpall_len h2]; exact asgTs_len ha, B, S, ρ, ρ2, ds, E, h2, ha, fun σ' E2 ag => hp σ' S H E2 (Ex.refl _)⟩
      | _ => exact hp.elim
end DL
/-! DL, part n: the law's end -/
namespace DL
open PySem PySem.Spec PyProof.Rows L2
def Gx (P : Program) (w : World) (K : PySem.W.Frag) (mg : Str → Option Value) (base : Heap) (ex : Nat → Value) : GC := ⟨P, w, K, mg, base, ex⟩
/-- the law's promise: the script in, True out -/
def spL (K : PySem.W.Frag) (F : FD) : Sp := fun vs H Q _ => ∃ (S : Hp) (v : V) (d : PD), vs = [v] ∧ Ex S H ∧ Rp K S v d ∧ (∃ ρ, F [.sh d] = .ok (.sh (.bool true)) ρ) ∧ ∀ H', Q (.bl true) H'
theorem spL_F {G : GC} {F : FD} {vs : List V} {H : Hp} {Q : VK} {E : XK} (h : spL G.K F vs H Q E) : spF G F 1 vs H Q E := by
  obtain ⟨S, v, d, rfl, h1, h2, ⟨ρ, h3⟩, h4⟩ := h
  refine ⟨S, [d], rfl, h1, .cons h2 .nil, ?_⟩
  show match F [.sh d] with
    | .ok rv _ => ∀ S' H' v, Step S H S' H' → RV0 G S' H' H v rv → Q v H'
    | .exc k _ => ∀ H', Ex H H' → E (G.ex k) none H'
    | .no => False
  rw [h3]
  intro S' H' u T R
  cases R
  exact h4 H'

theorem walk_end {l : PySem.W.OpenLaw} {q : Program} {loose : List Str} {XP : (Str → Option Value) → Heap → Prop} {YP : World → Heap → Prop} {d : DefRec} {K : Params → PySem.W.Frag} {lev : Nat} {F : FD} (hn : l.most = some 63) (hdf : d.params.defaults = []) (hr : Room lev callerA)
    (hY : ∀ (w : World) (h : Heap), YP w h → (K w.params).In h)
    (hp : ∀ ns : List Int, ns.length ≤ 63 → ∃ ρ, F [.sh (scrD ns)] = .ok (.sh (.bool true)) ρ)
    (hF : ∀ (w : World) (mg : Str → Option Value) (fa : Addr) (h : Heap), (K w.params).In h → h.Ns mainGlobals mg → mg d.name = some (.ref fa) →
      ∃ fd : FuncData, (∀ (s : Shared) (u : Value), BindsTo s fd ⟨[u], []⟩ [("script", u)]) ∧ ∀ base : Heap, (K w.params).In base → base.Ns mainGlobals mg → FnOk l.prog w (K w.params) mg base (L2.CX l.prog w) lev fa fd ["script"] (spL (K w.params) F)) :
    PySem.W.WalkO q loose XP YP l.row.toRowW d [] (fun f vs => PySem.call f vs) :=
  L2.walk_of (n := 63) (k := lev) (x := "script") (CX := fun w => L2.CX l.prog w) (sp := fun w => spL (K w.params) F) hn (by decide) hdf hr hY hF
    (fun w H a ns hl _ hS => ⟨H, .ref a, scrD ns, rfl, Ex.refl _, .scr (scrOf_map ns) hS, hp ns hl, fun _ => rfl⟩) fun _ _ _ _ _ ⟨_, _, _, _, _, _, _, _, _, _, _, _, z⟩ => z
end DL
/-! DL, part p: the terms reckoned -/
namespace DL
open PySem L2
inductive Out where
  | ok (rv : RV)
  | exc (k : Nat)
  | no
def outF (F : FD) (args : List Slot) : Out := match F args with
  | .ok rv _ => .ok rv
  | .exc k _ => .exc k
  | .no => .no
def Out.go (o : Out) (ρ : PEnv) : Res RV := match o with
  | .ok rv => .ok rv ρ
  | .exc k => .exc k ρ
  | .no => .no
inductive OutG where
  | ok (rv : RV) (c : Cont)
  | no
def outG (F : FD) (c : Cont) (args : List Slot) : OutG := match F (.io c :: args) with
  | .ok rv ρ' => match ρ'[0]? with
    | some (Slot.io c') => .ok rv c'
    | _ => .no
  | _ => .no
def OutG.go (o : OutG) (i : Nat) (ρ : PEnv) : Res RV := match o with
  | .ok rv c => .ok rv (setC ρ i c)
  | .no => .no
section
variable {α β : Type}
@[simp] theorem bind_ok (a : α) (ρ : PEnv) (k : α → PEnv → Res β) : Res.bind (.ok a ρ) k = k a ρ := rfl
@[simp] theorem bind_exc (c : Nat) (ρ : PEnv) (k : α → PEnv → Res β) : Res.bind (.exc c ρ) k = .exc c ρ := rfl
@[simp] theorem bind_no (k : α → PEnv → Res β) : Res.bind (.no : Res α) k = .no := rfl
@[simp] theorem bindN_ok (a : α) (ρ : PEnv) (k : α → PEnv → Res β) : Res.bindN (.ok a ρ) k = k a ρ := rfl
@[simp] theorem out_go_ok (rv : RV) (ρ : PEnv) : (Out.ok rv).go ρ = .ok rv ρ := rfl
@[simp] theorem outG_go_ok (rv : RV) (c : Cont) (i : Nat) (ρ : PEnv) : (OutG.ok rv c).go i ρ = .ok rv (setC ρ i c) := rfl
end
theorem dCall_e (F : FD) (m : PEnv → Res (List PD)) (ρ : PEnv) : dCall F m ρ = (m ρ).bind fun ds ρ1 => (outF F (ds.map .sh)).go ρ1 := by
  unfold dCall
  cases m ρ with
  | ok ds ρ1 =>
    simp only [bind_ok]
    unfold outF
    cases F (ds.map .sh) <;> rfl
  | exc _ _ => rfl
  | no => rfl
theorem dCallG_e (F : FD) (i : Nat) (m : PEnv → Res (List PD)) (ρ : PEnv) : dCallG F i m ρ = match mutC ρ i with
    | some _ => (m ρ).bind fun ds ρ1 => match mutC ρ1 i with
      | some ct => (outG F ct (ds.map .sh)).go i ρ1
      | none => .no
    | none => .no := by
  unfold dCallG
  cases mutC ρ i with
  | none => rfl
  | some _ =>
    simp only
    cases m ρ with
    | exc _ _ => rfl
    | no => rfl
    | ok ds ρ1 =>
      simp only [bind_ok]
      cases mutC ρ1 i with
      | none => rfl
      | some ct =>
        simp only
        unfold outG
        cases F (.io ct :: ds.map .sh) with
        | exc _ _ => rfl
        | no => rfl
        | ok rv ρ' =>
          simp only
          cases ρ'[0]? with
          | none => rfl
          | some s => cases s <;> rfl
/-- what a def's body gives back -/
def Rets (m : DenS) (ρ : PEnv) (rv : RV) : Prop := ∃ ρ', m ρ = .ok (.rt rv) ρ'
theorem outF_of {n : Nat} {m : DenS} {args : List Slot} {rv : RV} (h : Rets m (args ++ List.replicate (n - args.length) .un) rv) : outF (runF n m) args = .ok rv := by
  obtain ⟨ρ', h⟩ := h
  unfold outF runF
  rw [h]
theorem outG_of {n : Nat} {m : DenS} {c c' : Cont} {args : List Slot} {rv : RV} (h : ∃ ρ', m (.io c :: args ++ List.replicate (n - (args.length + 1)) .un) = .ok (.rt rv) (.io c' :: ρ')) : outG (runF n m) c args = .ok rv c' := by
  obtain ⟨ρ', h⟩ := h
  unfold outG runF
  rw [List.length_cons, h]
  rfl
theorem seq_e {m n : DenS} {ρ ρ1 : PEnv} (h : m ρ = .ok .nx ρ1) : dSeq m n ρ = n ρ1 := by
  unfold dSeq
  rw [h]
  rfl
theorem Rets.seq {m n : DenS} {ρ ρ1 : PEnv} {rv : RV} (h : m ρ = .ok .nx ρ1) (h2 : Rets n ρ1 rv) : Rets (dSeq m n) ρ rv := by
  unfold Rets
  rw [seq_e h]
  exact h2

/-! ### the terms applied -/
def seqL : PD → Option (List PD)
  | .list ds => some ds
  | .tuple ds => some ds
  | .str x => some (signs x)
  | .dict kvs => (scrOf kvs).map fun ns => ns.map .int
  | _ => none
@[simp] theorem seqL_list (ds : List PD) : seqL (.list ds) = some ds := rfl
@[simp] theorem seqL_tup (ds : List PD) : seqL (.tuple ds) = some ds := rfl
@[simp] theorem seqL_scr (ns : List Int) : seqL (scrD ns) = some (ns.map .int) := by
  show (scrOf [(.none, .list (ns.map .int))]).map _ = _
  rw [scrOf_map]
  rfl
section
variable {ρ : PEnv}
@[simp] theorem dC_e (d : PD) : dC d ρ = .ok (.sh d) ρ := rfl
@[simp] theorem dVar_e (i : Nat) : dVar i ρ = match ρ[i]? with
  | some (.sh d) => .ok (.sh d) ρ
  | some (.ow (.L ds)) => .ok (.sh (.list ds)) (ρ.set i (.sh (.list ds)))
  | _ => .no := rfl
@[simp] theorem dMove_e (i : Nat) : dMove i ρ = match ρ[i]? with
  | some (.sh d) => .ok (.sh d) ρ
  | some (.ow c) => .ok (.ow c) (ρ.set i .un)
  | _ => .no := rfl
@[simp] theorem rdv_e (i : Nat) : rdv ρ i = match ρ[i]? with
  | some (.sh d) => some d
  | some (.ow (.L ds)) => some (.list ds)
  | some (.io (.L ds)) => some (.list ds)
  | _ => none := rfl
@[simp] theorem gob_e {α : Type} (i : Nat) (k : (PEnv → Option PD) → PEnv → Res α) : (Opn.b i).go k ρ = match rdv ρ i with
  | some _ => k (fun ρ' => rdv ρ' i) ρ
  | none => .no := rfl
@[simp] theorem goe_e {α : Type} (m : Den) (k : (PEnv → Option PD) → PEnv → Res α) : (Opn.e m).go k ρ = (m ρ).bind fun rv ρ1 => match rv.frz with
  | some d => k (fun _ => some d) ρ1
  | none => .no := rfl
@[simp] theorem frz_sh (d : PD) : (RV.sh d).frz = some d := rfl
@[simp] theorem frz_ow (ds : List PD) : (RV.ow (.L ds)).frz = some (.list ds) := rfl
@[simp] theorem slot_sh (d : PD) : (RV.sh d).slot = .sh d := rfl
@[simp] theorem slot_ow (c : Cont) : (RV.ow c).slot = .ow c := rfl
@[simp] theorem free_un : Slot.free (some .un) = true := rfl
@[simp] theorem free_sh (d : PD) : Slot.free (some (.sh d)) = true := rfl
@[simp] theorem free_ow (c : Cont) : Slot.free (some (.ow c)) = true := rfl
@[simp] theorem fin_some (rv : RV) : fin (some rv) ρ = .ok rv ρ := rfl
@[simp] theorem op2_e (f : PD → PD → Option RV) (a b : Opn) : op2 f a b ρ = a.go (fun g => b.go fun g' ρ => match g ρ, g' ρ with
  | some d, some e => fin (f d e) ρ
  | _, _ => .no) ρ := rfl
@[simp] theorem op1_e (f : PD → Option RV) (a : Opn) : op1 f a ρ = a.go (fun g ρ => match g ρ with
  | some d => fin (f d) ρ
  | none => .no) ρ := rfl
@[simp] theorem evs_nil : evs [] ρ = .ok [] ρ := rfl
@[simp] theorem evs_cons (m : Den) (ms : List Den) : evs (m :: ms) ρ = (m ρ).bind fun rv ρ1 => match rv.frz with
  | some d => (evs ms ρ1).bind fun ds ρ2 => .ok (d :: ds) ρ2
  | none => .no := rfl
@[simp] theorem dTup_e (m : PEnv → Res (List PD)) : dTup m ρ = (m ρ).bind fun ds ρ1 => if ds.length ≤ 1000000 then .ok (.sh (.tuple ds)) ρ1 else .no := rfl
@[simp] theorem dLst_e (m : PEnv → Res (List PD)) : dLst m ρ = (m ρ).bind fun ds ρ1 => if ds.length ≤ 1000000 then .ok (.ow (.L ds)) ρ1 else .no := rfl
@[simp] theorem dSl_e (a : Opn) (lo hi : Part) : dSl a lo hi ρ = a.go (fun g => lo.go fun l => hi.go fun u ρ => match g ρ with
  | some d => fin (slD l u d) ρ
  | none => .no) ρ := rfl
@[simp] theorem part_no {α : Type} (k : Option Int → PEnv → Res α) : Part.no.go k ρ = k none ρ := rfl
@[simp] theorem part_at {α : Type} (m : Den) (k : Option Int → PEnv → Res α) : (Part.at m).go k ρ = (m ρ).bind fun rv ρ1 => match rv with
  | .sh (.int i) => k (some i) ρ1
  | _ => .no := rfl
@[simp] theorem dAnd_e (a b : Den) : dAnd a b ρ = (a ρ).bind fun rv ρ1 => match rv with
  | .sh (.bool x) => (if x then b else dC (.bool false)) ρ1
  | _ => .no := rfl
@[simp] theorem dOr_e (a b : Den) : dOr a b ρ = (a ρ).bind fun rv ρ1 => match rv with
  | .sh (.bool x) => (if x then dC (.bool true) else b) ρ1
  | _ => .no := rfl
@[simp] theorem dNot_e (a : Den) : dNot a ρ = (a ρ).bind fun rv ρ1 => match rv with
  | .sh (.bool x) => .ok (.sh (.bool (!x))) ρ1
  | _ => .no := rfl
@[simp] theorem okT_e (b : Bool) : okT b ρ = .ok b ρ := rfl
@[simp] theorem tAnd_e (a b : DenT) : tAnd' a b ρ = (a ρ).bind fun x ρ1 => (if x then b else okT false) ρ1 := rfl
@[simp] theorem tOr_e (a b : DenT) : tOr' a b ρ = (a ρ).bind fun x ρ1 => (if x then okT true else b) ρ1 := rfl
@[simp] theorem tNot_e (a : DenT) : tNot' a ρ = (a ρ).bind fun x ρ1 => .ok (!x) ρ1 := rfl
@[simp] theorem tb_e (m : Den) : tb m ρ = (m ρ).bind fun rv ρ' => match rv with
  | .sh (.bool b) => .ok b ρ'
  | _ => .no := rfl
@[simp] theorem tru_e (o : Opn) : tru o ρ = o.go (fun g ρ => match (g ρ).bind truD with
  | some b => .ok b ρ
  | none => .no) ρ := rfl
@[simp] theorem dIf_e (t : DenT) (m n : Den) : dIf t m n ρ = (t ρ).bind fun b ρ1 => (if b then m else n) ρ1 := rfl
@[simp] theorem dIfS_e (t : DenT) (m n : DenS) : dIfS t m n ρ = (t ρ).bind fun b ρ1 => (if b then m else n) ρ1 := rfl
@[simp] theorem dNx_e : dNx ρ = .ok .nx ρ := rfl
@[simp] theorem dBk_e : dBk ρ = .ok .bk ρ := rfl
@[simp] theorem dCt_e : dCt ρ = .ok .ct ρ := rfl
@[simp] theorem dRet_e (m : Den) : dRet m ρ = (m ρ).bind fun rv ρ1 => .ok (.rt rv) ρ1 := rfl
@[simp] theorem dRetN_e : dRetN ρ = .ok (.rt (.sh .none)) ρ := rfl
@[simp] theorem dDrop_e (m : Den) : dDrop m ρ = (m ρ).bind fun _ ρ1 => .ok .nx ρ1 := rfl
@[simp] theorem dSet_e (i : Nat) (m : Den) : dSet i m ρ = (m ρ).bind fun rv ρ1 => if Slot.free ρ1[i]? = true then .ok .nx (ρ1.set i rv.slot) else .no := rfl
@[simp] theorem dApp_e (i : Nat) (m : Den) : dApp i m ρ = if isLst ρ i = true then (m ρ).bind fun rv ρ1 => match rv.frz, mutC ρ1 i with
  | some d, some (.L ds) => if ds.length < 1000000 then .ok (.sh .none) (setC ρ1 i (.L (ds ++ [d]))) else .no
  | _, _ => .no else .no := rfl
@[simp] theorem mutC_e (i : Nat) : mutC ρ i = match ρ[i]? with
  | some (.ow c) => some c
  | some (.io c) => some c
  | _ => none := rfl
@[simp] theorem setC_e (i : Nat) (c : Cont) : setC ρ i c = match ρ[i]? with
  | some (.ow _) => ρ.set i (.ow c)
  | some (.io _) => ρ.set i (.io c)
  | _ => ρ := rfl
@[simp] theorem isLst_e (i : Nat) : isLst ρ i = match mutC ρ i with
  | some (.L _) => true
  | _ => false := rfl
@[simp] theorem dFor_e (src : Src) (t : Tgt) (body : DenS) : dFor src t body ρ = (src ρ).bind fun ds ρ1 => forL t body ds ρ1 := rfl
@[simp] theorem srcSeq_e (m : Den) : srcSeq m ρ = (m ρ).bind fun rv ρ1 => match rv.frz.bind seqL with
  | some ds => .ok ds ρ1
  | none => .no := by
  unfold srcSeq
  cases m ρ with
  | exc _ _ => rfl
  | no => rfl
  | ok rv ρ1 =>
    simp only [bind_ok]
    cases rv.frz with
    | none => rfl
    | some d =>
      cases d with
      | dict kvs =>
        simp only [Option.bind_some, seqL]
        cases scrOf kvs <;> rfl
      | _ => rfl
@[simp] theorem srcRng1_e (m : PEnv → Res (List PD)) : srcRng1 m ρ = (m ρ).bind fun ds ρ1 => match ds with
  | [.int j] => if RgB j then .ok (rangeL 0 j) ρ1 else .no
  | _ => .no := rfl
@[simp] theorem srcRng2_e (m : PEnv → Res (List PD)) : srcRng2 m ρ = (m ρ).bind fun ds ρ1 => match ds with
  | [.int i, .int j] => if RgB i ∧ RgB j then .ok (rangeL i j) ρ1 else .no
  | _ => .no := rfl
@[simp] theorem dLc_e (src : Src) (t : Tgt) (cnd : DenT) (elt : Den) (own : List Nat) (tmp : Nat) : dLc src t cnd elt own tmp ρ = (src ρ).bind fun ds ρ1 => if ownOk ρ1 own = true then (lcL t cnd elt own tmp ds [] (wipeE ρ1 own)).bind fun acc ρ2 => .ok (.ow (.L acc)) (restE ρ1 ρ2 own) else .no := rfl
@[simp] theorem dUnpB_e (ts : List Tgt) (i : Nat) : dUnpB ts i ρ = match rdv ρ i with
  | some (.list ds) => match asgTs ts ds ρ with
    | some ρ2 => .ok .nx ρ2
    | none => .no
  | some (.tuple ds) => match asgTs ts ds ρ with
    | some ρ2 => .ok .nx ρ2
    | none => .no
  | _ => .no := rfl
@[simp] theorem asgTs_nil : asgTs [] [] ρ = some ρ := by rw [asgTs]
@[simp] theorem asgTs_cons (t : Tgt) (ts : List Tgt) (d : PD) (ds : List PD) : asgTs (t :: ts) (d :: ds) ρ = (asgT t d ρ).bind fun ρ1 => asgTs ts ds ρ1 := by
  rw [asgTs]
  cases asgT t d ρ <;> rfl
@[simp] theorem asgT_nm (i : Nat) (d : PD) : asgT (.nm i) d ρ = if Slot.free ρ[i]? = true then some (ρ.set i (.sh d)) else none := by rw [asgT]
@[simp] theorem asgT_tup (ts : List Tgt) (ds : List PD) : asgT (.tup ts) (.tuple ds) ρ = asgTs ts ds ρ := by rw [asgT]
@[simp] theorem dSetIx_e (i : Nat) (ix m : Den) : dSetIx i ix m ρ = (m ρ).bind fun rv ρ1 => match rv.frz with
  | some d => if isLst ρ1 i = true then (ix ρ1).bind fun rk ρ2 => match rk, mutC ρ2 i with
    | .sh (.int k), some (.L ds) => match ixN ds.length k with
      | some j => .ok .nx (setC ρ2 i (.L (ds.set j d)))
      | none => .no
    | _, _ => .no else .no
  | none => .no := rfl
theorem dSeq_e (m n : DenS) : dSeq m n ρ = (m ρ).bind fun f ρ1 => match f with
  | .nx => n ρ1
  | f => .ok f ρ1 := by
  unfold dSeq
  cases m ρ with
  | ok f ρ1 => cases f <;> rfl
  | exc _ _ => rfl
  | no => rfl
@[simp] theorem opChain_e (f f' : PD → PD → Option RV) (a b d : Opn) : opChain f f' a b d ρ = a.go (fun g => b.go fun g' ρ => match g ρ, g' ρ with
  | some x, some y => match f x y with
    | some (.sh (.bool true)) => (d.go fun g'' ρ2 => match g' ρ2, g'' ρ2 with
      | some y, some z => fin (f' y z) ρ2
      | _, _ => .no) ρ
    | some (.sh (.bool false)) => .ok (.sh (.bool false)) ρ
    | _ => .no
  | _, _ => .no) ρ := rfl
@[simp] theorem evT_nil : evT [] ρ = .ok () ρ := rfl
@[simp] theorem evT_cons (m : Den) (t : Nat) (r : List (Den × Nat)) : evT ((m, t) :: r) ρ = (m ρ).bind fun rv ρ1 => if Slot.free ρ1[t]? = true then evT r (ρ1.set t rv.slot) else .no := rfl
@[simp] theorem dPar_e (i j t u : Nat) (m n : Den) : dPar i j t u m n ρ = (evT [(m, t), (n, u)] ρ).bind fun _ ρ1 => match (mvT i t ρ1).bind (mvT j u) with
  | some ρ2 => .ok .nx ρ2
  | none => .no := rfl
@[simp] theorem mvT_e (i t : Nat) : mvT i t ρ = match ρ[t]? with
  | some (.sh d) => if Slot.free ρ[i]? = true ∧ i ≠ t then some ((ρ.set t .un).set i (.sh d)) else none
  | some (.ow k) => if Slot.free ρ[i]? = true ∧ i ≠ t then some ((ρ.set t .un).set i (.ow k)) else none
  | _ => none := rfl
@[simp] theorem wipeE_nil : wipeE ρ [] = ρ := rfl
@[simp] theorem wipeE_cons (v : Nat) (vs : List Nat) : wipeE ρ (v :: vs) = (wipeE ρ vs).set v .un := rfl
@[simp] theorem restE_nil (ρ1 : PEnv) : restE ρ1 ρ [] = ρ := rfl
@[simp] theorem restE_cons (ρ1 : PEnv) (v : Nat) (vs : List Nat) : restE ρ1 ρ (v :: vs) = (restE ρ1 ρ vs).set v (ρ1.getD v .un) := rfl
end
/-! ### what the operations give -/
@[simp] theorem addD_int (i j : Int) : addD (.int i) (.int j) = some (.sh (.int (i + j))) := rfl
@[simp] theorem subD_int (i j : Int) : subD (.int i) (.int j) = some (.sh (.int (i - j))) := rfl
@[simp] theorem modD_int (i j : Int) : modD (.int i) (.int j) = if 0 < j then some (.sh (.int (i % j))) else none := rfl
@[simp] theorem xorD_int (i j : Int) : xorD (.int i) (.int j) = some (.sh (.int (Builtin.bitXor i j))) := rfl
theorem mulE_int (i j : Int) : mulE (.int i) (.int j) = if MulOk i j then some (.sh (.int (i * j))) else none := rfl
@[simp] theorem mulE_r (i j : Int) (h1 : -18446744073709551616 < j) (h2 : j < 18446744073709551616) : mulE (.int i) (.int j) = some (.sh (.int (i * j))) := by
  rw [mulE_int, if_pos (.inl (.inr ⟨h1, h2⟩))]
@[simp] theorem pow_2_61 : powD (.int 2) (.int 61) = some (.sh (.int 2305843009213693952)) := by
  rw [show powD (.int 2) (.int 61) = if PowOk 2 61 then some (.sh (.int (2 ^ (61 : Int).toNat))) else none from rfl, if_pos (by decide)]
  rfl
@[simp] theorem pow_10_18 : powD (.int 10) (.int 18) = some (.sh (.int 1000000000000000000)) := by
  rw [show powD (.int 10) (.int 18) = if PowOk 10 18 then some (.sh (.int (10 ^ (18 : Int).toNat))) else none from rfl, if_pos (by decide)]
  rfl
@[simp] theorem shr_int (i j : Int) (h : 0 ≤ j) : shrD (.int i) (.int j) = some (.sh (.int (i / 2 ^ j.toNat))) := by
  rw [show shrD (.int i) (.int j) = if 0 ≤ j then some (.sh (.int (i / 2 ^ j.toNat))) else none from rfl, if_pos h]
@[simp] theorem fdivD_pos (i j : Int) (h : 0 < j) (h2 : j < 1000000000000) : fdivD (.int i) (.int j) = some (.sh (.int (i / j))) := by
  show (if 0 < j ∧ j.natAbs.log2 < 9000 then _ else _) = _
  rw [if_pos ⟨h, Nat.lt_trans ((Nat.log2_lt (n := j.natAbs) (k := 40) (by omega)).2 (by omega)) (by decide)⟩]
@[simp] theorem cmpD_int (p : Int → Int → Bool) (i j : Int) : cmpD p (.int i) (.int j) = some (.sh (.bool (p i j))) := rfl
@[simp] theorem lenD_list (xs : List PD) : lenD (.list xs) = some (.sh (.int xs.length)) := rfl
@[simp] theorem lenD_tup (xs : List PD) : lenD (.tuple xs) = some (.sh (.int xs.length)) := rfl
@[simp] theorem intD_int (i : Int) : intD (.int i) = some (.sh (.int i)) := rfl
@[simp] theorem absD_int (i : Int) : absD (.int i) = some (.sh (.int (if i < 0 then -i else i))) := rfl
@[simp] theorem tupleD_list (xs : List PD) : tupleD (.list xs) = some (.sh (.tuple xs)) := rfl
@[simp] theorem tupleD_tup (xs : List PD) : tupleD (.tuple xs) = some (.sh (.tuple xs)) := rfl
@[simp] theorem listD_tup (xs : List PD) : listD (.tuple xs) = some (.ow (.L xs)) := rfl
@[simp] theorem listD_list (xs : List PD) : listD (.list xs) = some (.ow (.L xs)) := rfl
@[simp] theorem isD_none (neg : Bool) (d : PD) : isD neg d .none = some (.sh (.bool (neg != match d with | .none => true | _ => false))) := by cases d <;> rfl
@[simp] theorem isD_bool (neg a b : Bool) : isD neg (.bool a) (.bool b) = some (.sh (.bool (neg != decide (a = b)))) := rfl
@[simp] theorem truD_bool (b : Bool) : truD (.bool b) = some b := rfl
@[simp] theorem revD_tup (xs : List PD) : revD (.tuple xs) = some (.sh (.tuple xs.reverse)) := rfl
@[simp] theorem slD_tup (lo hi : Option Int) (xs : List PD) : slD lo hi (.tuple xs) = some (.sh (.tuple (cutL xs lo hi))) := rfl
@[simp] theorem slD_scr (lo hi : Option Int) (ns : List Int) : slD lo hi (scrD ns) = some (.ow (.L (cutL (ns.map .int) lo hi))) := by
  show (scrOf [(.none, .list (ns.map .int))]).map _ = _
  rw [scrOf_map]
  rfl
/-- a tuple of ints -/
def TUI (ns : List Int) : PD := .tuple (ns.map .int)
@[simp] theorem seqL_TUI (ns : List Int) : seqL (TUI ns) = some (ns.map .int) := rfl

@[simp] theorem ixD_list (xs : List PD) (i : Int) : ixD (.list xs) (.int i) = (atI xs i).map .sh := rfl
@[simp] theorem ixD_tup (xs : List PD) (i : Int) : ixD (.tuple xs) (.int i) = (atI xs i).map .sh := rfl
theorem atI_n {α : Type} {xs : List α} {i : Nat} {x : α} (h : xs[i]? = some x) : atI xs (i : Int) = some x := by
  have hl := (List.getElem?_eq_some_iff.mp h).1
  unfold atI ixN
  rw [if_pos (by omega), if_pos (by omega), Option.bind_some, Int.toNat_natCast, h]
theorem atI_mod {α : Type} {xs : List α} (i : Int) (h : xs ≠ []) : ∃ x, x ∈ xs ∧ atI xs (i % (xs.length : Int)) = some x := by
  have hl : 0 < xs.length := List.length_pos_iff.mpr h
  have h0 := Int.emod_nonneg i (b := (xs.length : Int)) (by omega)
  have h1 := Int.emod_lt_of_pos i (b := (xs.length : Int)) (by omega)
  obtain ⟨k, hk⟩ : ∃ k : Nat, i % (xs.length : Int) = k := ⟨(i % (xs.length : Int)).toNat, by omega⟩
  have hk2 : k < xs.length := by omega
  exact ⟨xs[k], List.getElem_mem hk2, by rw [hk]; exact atI_n (List.getElem?_eq_getElem hk2)⟩

/-! ### comprehensions whose turns leave all as it is -/
theorem lcL_map {α : Type} {i tmp : Nat} {own : List Nat} {cnd : DenT} {elt : Den} {ρ : PEnv} (φ : α → PD) (b : α → Bool) (e : α → PD) :
    ∀ (xs : List α) (acc : List PD), (∀ x ∈ xs, ∀ a, cnd ((ρ.set i (.sh (φ x))).set tmp (.ow (.L a))) = .ok (b x) ((ρ.set i (.sh (φ x))).set tmp (.ow (.L a)))) →
      (∀ x ∈ xs, b x = true → ∀ a, ∃ rv, elt ((ρ.set i (.sh (φ x))).set tmp (.ow (.L a))) = .ok rv ((ρ.set i (.sh (φ x))).set tmp (.ow (.L a))) ∧ rv.frz = some (e x)) →
      (∀ x a, wipeE ((ρ.set i (.sh (φ x))).set tmp (.ow (.L a))) own = ρ) → Slot.free ρ[i]? = true → (∀ x, Slot.free (ρ.set i (.sh (φ x)))[tmp]? = true) → acc.length + xs.length ≤ 1000000 →
      lcL (.nm i) cnd elt own tmp (xs.map φ) acc ρ = .ok (acc ++ (xs.filter b).map e) ρ
  | [], acc, _, _, _, _, _, _ => by simp [lcL]
  | x :: xs, acc, hc, he, hw, hi, ht, hl => by
    have hlt : tmp < ρ.length := by
      have := free_lt (ht x)
      rwa [List.length_set] at this
    have hacc : accOf ((ρ.set i (.sh (φ x))).set tmp (.ow (.L acc))) tmp = some acc := by
      unfold accOf
      rw [List.getElem?_set_self (by rw [List.length_set]; exact hlt)]
    rw [List.length_cons] at hl
    rw [List.map_cons, lcL, asgT_nm, if_pos hi]
    simp only
    rw [if_pos (ht x), hc x List.mem_cons_self]
    simp only [bindN_ok]
    cases hb : b x with
    | false =>
      simp only [Bool.false_eq_true, if_false, hacc, hw]
      rw [lcL_map φ b e xs acc (fun y hy => hc y (List.mem_cons_of_mem _ hy)) (fun y hy => he y (List.mem_cons_of_mem _ hy)) hw hi ht (by omega), List.filter_cons_of_neg (by rw [hb]; exact Bool.false_ne_true)]
    | true =>
      obtain ⟨rv, h1, h2⟩ := he x List.mem_cons_self hb acc
      simp only [if_true, h1, bindN_ok, h2, hacc]
      rw [if_pos (by omega), hw, lcL_map φ b e xs (acc ++ [e x]) (fun y hy => hc y (List.mem_cons_of_mem _ hy)) (fun y hy => he y (List.mem_cons_of_mem _ hy)) hw hi ht (by rw [List.length_append]; simp; omega), List.filter_cons_of_pos hb, List.map_cons, List.append_assoc]
      rfl
theorem cut_none (ds : List PD) : cutL ds none none = ds := by simp [cutL, HT.sIx]
theorem cut_to (ds : List PD) (k : Nat) : cutL ds none (some (k : Int)) = ds.take k := by
  simp only [cutL, HT.sIx_none, HT.sIx_nat, List.drop_zero, Nat.sub_zero]
  rw [List.take_eq_take_iff]
  simp [Nat.min_comm, Nat.min_left_comm]
theorem cut_from (ds : List PD) (k : Nat) : cutL ds (some (k : Int)) none = ds.drop k := by
  simp only [cutL, HT.sIx_none, HT.sIx_nat]
  by_cases h : k ≤ ds.length
  · rw [Nat.min_eq_left h, List.take_of_length_le (by rw [List.length_drop]; omega)]
  · rw [List.drop_eq_nil_of_le (by omega), List.drop_eq_nil_of_le (by omega)]
    simp

@[simp] theorem addD_list (xs ys : List PD) (h : xs.length + ys.length ≤ 1000000) : addD (.list xs) (.list ys) = some (.ow (.L (xs ++ ys))) := by
  show (if xs.length + ys.length ≤ 1000000 then _ else _) = _
  rw [if_pos h]
@[simp] theorem addD_tup (xs ys : List PD) (h : xs.length + ys.length ≤ 1000000) : addD (.tuple xs) (.tuple ys) = some (.sh (.tuple (xs ++ ys))) := by
  show (if xs.length + ys.length ≤ 1000000 then _ else _) = _
  rw [if_pos h]
@[simp] theorem ownOk_nil (ρ : PEnv) : ownOk ρ [] = true := rfl
@[simp] theorem ownOk_cons (ρ : PEnv) (v : Nat) (vs : List Nat) : ownOk ρ (v :: vs) = (!(ρ.getD v .un).mut && ownOk ρ vs) := rfl
@[simp] theorem mut_un : Slot.mut .un = false := rfl
@[simp] theorem mut_sh (d : PD) : Slot.mut (.sh d) = false := rfl

theorem lcL_all {α : Type} {i tmp : Nat} {own : List Nat} {elt : Den} {ρ : PEnv} (φ e : α → PD) (xs : List α)
    (he : ∀ x ∈ xs, ∀ a, ∃ rv, elt ((ρ.set i (.sh (φ x))).set tmp (.ow (.L a))) = .ok rv ((ρ.set i (.sh (φ x))).set tmp (.ow (.L a))) ∧ rv.frz = some (e x))
    (hw : ∀ x a, wipeE ((ρ.set i (.sh (φ x))).set tmp (.ow (.L a))) own = ρ) (hi : Slot.free ρ[i]? = true) (ht : ∀ x, Slot.free (ρ.set i (.sh (φ x)))[tmp]? = true) (hl : xs.length ≤ 1000000) :
    lcL (.nm i) (okT true) elt own tmp (xs.map φ) [] ρ = .ok (xs.map e) ρ := by
  rw [lcL_map (cnd := okT true) φ (fun _ => true) e xs [] (fun _ _ _ => rfl) (fun x hx _ a => he x hx a) hw hi ht (by simpa using hl), List.filter_eq_self.mpr (by simp)]
  rfl

theorem range_nat (n : Nat) : rangeL 0 (n : Int) = (List.range n).map fun (k : Nat) => PyData.int (k : Int) := by
  unfold rangeL
  simp
theorem range1_nat (n : Nat) : rangeL 1 (n : Int) = (List.range (n - 1)).map fun (k : Nat) => PyData.int ((k : Int) + 1) := by
  unfold rangeL
  have : ((n : Int) - 1).toNat = n - 1 := by omega
  rw [this]
  refine List.map_congr_left fun k _ => ?_
  congr 1
  omega
theorem RgB_nat {n : Nat} (h : n ≤ 1000000) : RgB (n : Int) := ⟨by omega, by omega⟩
theorem forL_st {α β : Type} {i : Nat} {body : DenS} (φ : α → PD) (E : β → PEnv) (f : β → α → β) : ∀ (xs : List α) (s : β),
    (∀ x ∈ xs, ∀ s, Slot.free (E s)[i]? = true ∧ body ((E s).set i (.sh (φ x))) = .ok .nx (E (f s x))) → forL (.nm i) body (xs.map φ) (E s) = .ok .nx (E (xs.foldl f s))
  | [], s, _ => rfl
  | x :: xs, s, h => by
    obtain ⟨h1, h2⟩ := h x List.mem_cons_self s
    rw [List.map_cons, forL, asgT_nm, if_pos h1]
    simp only [h2, bind_ok]
    exact forL_st φ E f xs _ fun y hy => h y (List.mem_cons_of_mem _ hy)
/-- the same, with what holds ahead of each turn -/
theorem forL_inv {α β : Type} {i : Nat} {body : DenS} (φ : α → PD) (E : β → PEnv) (f : β → α → β) (P : β → Prop) : ∀ (xs : List α) (s : β), P s →
    (∀ x ∈ xs, ∀ s, P s → P (f s x) ∧ Slot.free (E s)[i]? = true ∧ body ((E s).set i (.sh (φ x))) = .ok .nx (E (f s x))) → P (xs.foldl f s) ∧ forL (.nm i) body (xs.map φ) (E s) = .ok .nx (E (xs.foldl f s))
  | [], s, p, _ => ⟨p, rfl⟩
  | x :: xs, s, p, h => by
    obtain ⟨h0, h1, h2⟩ := h x List.mem_cons_self s p
    rw [List.map_cons, forL, asgT_nm, if_pos h1]
    simp only [h2, bind_ok]
    exact forL_inv φ E f P xs _ h0 fun y hy => h y (List.mem_cons_of_mem _ hy)

theorem inD_list (neg : Bool) (d : PD) (es : List PD) : inD neg d (.list es) = if flatD d = true ∧ es.all flatD = true then some (.sh (.bool (neg != es.any fun z => PyData.eqv z d))) else if SeqAt.shaped d = true ∧ SeqAt.shaped (.list es) = true then some (.sh (.bool (neg != es.any fun z => PyData.eqv z d))) else none := rfl
theorem inD_deep (neg : Bool) (d : PD) (es : List PD) (h1 : SeqAt.shaped d = true) (h2 : SeqAt.shaped (.list es) = true) : inD neg d (.list es) = some (.sh (.bool (neg != es.any fun z => PyData.eqv z d))) := by
  rw [inD_list]
  split
  · rfl
  · rw [if_pos ⟨h1, h2⟩]

/-- .. and by the number of the turn -/
theorem forL_ix {α β : Type} {i : Nat} {body : DenS} (φ : α → PD) (E : β → PEnv) (f : β → α → β) (P : Nat → β → Prop) : ∀ (xs : List α) (n : Nat) (s : β), P n s →
    (∀ j x s, xs[j]? = some x → P (n + j) s → P (n + j + 1) (f s x) ∧ Slot.free (E s)[i]? = true ∧ body ((E s).set i (.sh (φ x))) = .ok .nx (E (f s x))) → P (n + xs.length) (xs.foldl f s) ∧ forL (.nm i) body (xs.map φ) (E s) = .ok .nx (E (xs.foldl f s))
  | [], n, s, p, _ => ⟨p, rfl⟩
  | x :: xs, n, s, p, h => by
    obtain ⟨h0, h1, h2⟩ := h 0 x s rfl p
    rw [List.map_cons, forL, asgT_nm, if_pos h1]
    simp only [h2, bind_ok]
    have := forL_ix φ E f P xs (n + 1) (f s x) h0 fun j y s' hy hp => by
      have e : n + 1 + j = n + (j + 1) := by omega
      rw [e] at hp ⊢
      exact h (j + 1) y s' (by rw [List.getElem?_cons_succ]; exact hy) hp
    rw [List.length_cons, List.foldl_cons, Nat.add_comm xs.length 1, ← Nat.add_assoc]
    exact this

/-- turns that change the def's own things too -/
theorem lcL_ex {α σ : Type} {i tmp : Nat} {own : List Nat} {elt : Den} (φ : α → PD) (E : σ → PEnv) (R : PD → Prop) : ∀ (xs : List α) (s : σ) (acc : List PD),
    (∀ x ∈ xs, ∀ s a, ∃ rv d s', elt (((E s).set i (.sh (φ x))).set tmp (.ow (.L a))) = .ok rv (((E s').set i (.sh (φ x))).set tmp (.ow (.L a))) ∧ rv.frz = some d ∧ R d) →
    (∀ s x a, wipeE (((E s).set i (.sh (φ x))).set tmp (.ow (.L a))) own = E s) → (∀ s, Slot.free (E s)[i]? = true) → (∀ s x, Slot.free ((E s).set i (.sh (φ x)))[tmp]? = true) → acc.length + xs.length ≤ 1000000 →
    ∃ ds s', lcL (.nm i) (okT true) elt own tmp (xs.map φ) acc (E s) = .ok (acc ++ ds) (E s') ∧ ds.length = xs.length ∧ ∀ d ∈ ds, R d
  | [], s, acc, _, _, _, _, _ => ⟨[], s, by simp [lcL], rfl, fun d hd => by cases hd⟩
  | x :: xs, s, acc, he, hw, hi, ht, hl => by
    obtain ⟨rv, d, s', h1, h2, h3⟩ := he x List.mem_cons_self s acc
    have hlt : tmp < (E s').length := by
      have := free_lt (ht s' x)
      rwa [List.length_set] at this
    have hacc : accOf (((E s').set i (.sh (φ x))).set tmp (.ow (.L acc))) tmp = some acc := by
      unfold accOf
      rw [List.getElem?_set_self (by rw [List.length_set]; exact hlt)]
    rw [List.length_cons] at hl
    obtain ⟨ds, s2, g1, g2, g3⟩ := lcL_ex φ E R xs s' (acc ++ [d]) (fun y hy => he y (List.mem_cons_of_mem _ hy)) hw hi ht (by rw [List.length_append]; simp; omega)
    refine ⟨d :: ds, s2, ?_, by rw [List.length_cons, List.length_cons, g2], fun e he' => ?_⟩
    · rw [List.map_cons, lcL, asgT_nm, if_pos (hi s)]
      simp only
      rw [if_pos (ht s x)]
      show Res.bindN (.ok true _) _ = _
      simp only [bindN_ok, if_true, h1, h2, hacc]
      rw [if_pos (by omega), hw, g1, List.append_assoc]
      rfl
    · rcases List.mem_cons.mp he' with rfl | hm
      · exact h3
      · exact g3 e hm
theorem ints_of : ∀ {ds : List PD}, (∀ d ∈ ds, ∃ n, d = PyData.int n) → ∃ ns : List Int, ds = ns.map .int
  | [], _ => ⟨[], rfl⟩
  | d :: ds, h => by
    obtain ⟨n, rfl⟩ := h d List.mem_cons_self
    obtain ⟨ns, rfl⟩ := ints_of fun e he => h e (List.mem_cons_of_mem _ he)
    exact ⟨n :: ns, rfl⟩

theorem srcRng2_ok {m : PEnv → Res (List PD)} {ρ ρ1 : PEnv} {i j : Int} (h : m ρ = .ok [.int i, .int j] ρ1) (hi : RgB i) (hj : RgB j) : srcRng2 m ρ = .ok (rangeL i j) ρ1 := by
  rw [srcRng2_e, h, bind_ok]
  exact if_pos ⟨hi, hj⟩
end DL
namespace K53
open PySem PySem.Spec PyProof.Rows L2 DL
noncomputable section
def top (i : Nat) : Stmt := PySem.Challenge.pw_mendyard_k53_whole_rows_round_rings.main.body.getD i (.Pass ⟨0, 0, 0, 0⟩)
abbrev s_turns_of : Stmt := top 1
abbrev s_are_alike : Stmt := top 2
abbrev s_are_alike_either_side : Stmt := top 3
abbrev s_plain_round : Stmt := top 4
abbrev s_plain_either_side : Stmt := top 5
abbrev s_how_many_round : Stmt := top 6
abbrev s__law_open : Stmt := top 8
abbrev s__law_mixed : Stmt := top 9
abbrev s__law_draw : Stmt := top 10
abbrev s__law_int : Stmt := top 11
abbrev s__law_same : Stmt := top 12
abbrev s__law_turned : Stmt := top 13
abbrev s_law : Stmt := top 14
def N_turns_of : List Str := ["row", "k", "%0"]
def c_turns_of_0 : Den :=
    op2 addD (.e (dSl (.b 0) (.at (dVar 1)) .no)) (.e (dSl (.b 0) .no (.at (dVar 1))))
def d_turns_of : DenS :=
    dRet (dLc (srcRng1 (evs [op2 max2D (.e (dC (.int 1))) (.e (op1 lenD (.b 0)))])) (.nm 1) (okT true) (c_turns_of_0) [1, 2] 2)
def F_turns_of : FD := runF 3 d_turns_of
def N__law_open : List Str := ["script", "cells", "cell", "%0"]
def c__law_open_0 : Den :=
    op1 absD (.e (op1 intD (.b 2)))
def d__law_open : DenS :=
    dSeq (dSet 1 (dLc (srcSeq (dSl (.b 0) .no (.at (dC (.int 63))))) (.nm 2) (okT true) (c__law_open_0) [2, 3] 3))
    (dRet (dLst (evs [dC (.int 0), dC (.int 0), op2 addD (.b 1) (.e (dLst (evs [dC (.int 0)])))])))
def F__law_open : FD := runF 4 d__law_open
def N__law_mixed : List Str := ["cell", "turn", "number"]
def d__law_mixed : DenS :=
    dSeq (dSet 2 (op2 modD (.e (op2 addD (.e (op2 addD (.e (op2 mulE (.e (op2 modD (.b 0) (.e (op2 subD (.e (op2 powD (.e (dC (.int 2))) (.e (dC (.int 61))))) (.e (dC (.int 1))))))) (.e (dC (.int 6364136223846793005))))) (.e (op2 mulE (.b 1) (.e (dC (.int 1442695040888963407))))))) (.e (dC (.int 97))))) (.e (op2 powD (.e (dC (.int 2))) (.e (dC (.int 61)))))))
    (dSeq (dSet 2 (op2 modD (.e (op2 mulE (.e (op2 xorD (.b 2) (.e (op2 shrD (.b 2) (.e (dC (.int 29))))))) (.e (dC (.int 3935559000370003845))))) (.e (op2 powD (.e (dC (.int 2))) (.e (dC (.int 61)))))))
    (dRet (op2 modD (.e (op2 mulE (.e (op2 xorD (.b 2) (.e (op2 shrD (.b 2) (.e (dC (.int 31))))))) (.e (dC (.int 2862933555777941757))))) (.e (op2 powD (.e (dC (.int 2))) (.e (dC (.int 61))))))))
def F__law_mixed : FD := runF 3 d__law_mixed
def N__law_int : List Str := ["value"]
def d__law_int : DenS :=
    dRet (dAnd (op1 (instD .int) (.b 0)) (dNot (op1 (instD .bool) (.b 0))))
def F__law_int : FD := runF 1 d__law_int
def N__law_same : List Str := ["told", "due"]
def d__law_same : DenS :=
    dRet (dIf (tru (.b 1)) (op2 (isD false) (.b 0) (.e (dC (.bool true)))) (op2 (isD false) (.b 0) (.e (dC (.bool false)))))
def F__law_same : FD := runF 2 d__law_same
def N__law_turned : List Str := ["row", "told", "k", "j", "%0"]
def c__law_turned_0 : Den :=
    op2 ixD (.b 0) (.e (op2 modD (.e (op1 intD (.e (op2 addD (.b 3) (.b 2))))) (.e (op1 lenD (.b 0)))))
def b__law_turned_0 : DenS :=
    dDrop (dApp 1 (op1 tupleD (.e (dLc (srcRng1 (evs [op1 lenD (.b 0)])) (.nm 3) (okT true) (c__law_turned_0) [3, 4] 4))))
def d__law_turned : DenS :=
    dSeq (dSet 1 (dLst (evs [dVar 0])))
    (dSeq (dFor (srcRng2 (evs [dC (.int 1), op1 lenD (.b 0)])) (.nm 2) (b__law_turned_0))
    (dRet (dMove 1)))
def F__law_turned : FD := runF 5 d__law_turned
def N_are_alike : List Str := ["one", "other"]
def d_are_alike : DenS :=
    dRet (op2 (inD false) (.b 1) (.e (dCall F_turns_of (evs [dVar 0]))))
def F_are_alike : FD := runF 2 d_are_alike
def N_are_alike_either_side : List Str := ["one", "other"]
def d_are_alike_either_side : DenS :=
    dRet (dOr (op2 (inD false) (.b 1) (.e (dCall F_turns_of (evs [dVar 0])))) (op2 (inD false) (.b 1) (.e (dCall F_turns_of (evs [op1 revD (.b 0)])))))
def F_are_alike_either_side : FD := runF 2 d_are_alike_either_side
def N_plain_round : List Str := ["row"]
def d_plain_round : DenS :=
    dRet (op1 minLD (.e (dCall F_turns_of (evs [dVar 0]))))
def F_plain_round : FD := runF 1 d_plain_round
def N_how_many_round : List Str := ["row"]
def d_how_many_round : DenS :=
    dRet (op1 lenSetD (.e (dCall F_turns_of (evs [dVar 0]))))
def F_how_many_round : FD := runF 1 d_how_many_round
def N__law_draw : List Str := ["draws", "size", "turn", "left", "cells", "cell"]
def s__law_draw_0 : DenS :=
    dUnpB [.nm 2, .nm 3, .nm 4] 0
def s__law_draw_1 : DenS :=
    dIfS (tb (op2 ltD (.b 3) (.b 1))) (dSeq (dSet 5 (op2 ixD (.b 4) (.e (op2 modD (.b 2) (.e (op1 lenD (.b 4)))))))
    (dSeq (dSet 3 (dIf (tAnd' (tb (op2 ltD (.b 2) (.e (op1 lenD (.b 4))))) (tb (op2 geD (.b 5) (.e (op2 powD (.e (dC (.int 10))) (.e (dC (.int 18)))))))) (dVar 5) (dCall F__law_mixed (evs [dVar 5, dVar 2]))))
    (dSet 2 (op2 addD (.b 2) (.e (dC (.int 1))))))) (dNx)
def s__law_draw_2 : DenS :=
    dSetIx 0 (dC (.int 0)) (dVar 2)
def s__law_draw_3 : DenS :=
    dSetIx 0 (dC (.int 1)) (op2 fdivD (.b 3) (.b 1))
def s__law_draw_4 : DenS :=
    dRet (op2 modD (.b 3) (.b 1))
def d__law_draw : DenS :=
    dSeq (s__law_draw_0)
    (dSeq (s__law_draw_1)
    (dSeq (s__law_draw_2)
    (dSeq (s__law_draw_3)
    (s__law_draw_4))))
def F__law_draw : FD := runF 6 d__law_draw
def N_plain_either_side : List Str := ["row"]
def d_plain_either_side : DenS :=
    dRet (op2 min2TD (.e (dCall F_plain_round (evs [dVar 0]))) (.e (dCall F_plain_round (evs [op1 revD (.b 0)]))))
def F_plain_either_side : FD := runF 1 d_plain_either_side
def N_law : List Str := ["script", "draws", "wide", "one", "k", "turns", "back", "other", "kind", "thing", "at", "due", "either", "steps", "many", "row", "%0", "%1", "%2", "%3", "%4", "%5", "%6", "%7"]
def c_law_0 : Den :=
    dCallG F__law_draw 1 (evs [dVar 2])
def c_law_1 : Den :=
    op2 ixD (.b 3) (.e (op2 subD (.e (op2 subD (.e (op1 lenD (.b 3))) (.e (dC (.int 1))))) (.b 4)))
def c_law_2 : Den :=
    op2 ixD (.b 7) (.e (op2 subD (.e (op2 subD (.e (op1 lenD (.b 7))) (.e (dC (.int 1))))) (.b 4)))
def c_law_3 : Den :=
    dCallG F__law_draw 1 (evs [dVar 2])
def c_law_4 : Den :=
    dVar 4
def q_law_0 : DenT :=
    tb (op2 eqD (.e (op2 addD (.e (dSl (.b 3) (.at (dVar 4)) .no)) (.e (dSl (.b 3) .no (.at (dVar 4)))))) (.b 3))
def c_law_5 : Den :=
    dTup (evs [dVar 15, dC (.int 1)])
def s_law_0 : DenS :=
    dSet 1 (dCall F__law_open (evs [dVar 0]))
def s_law_1 : DenS :=
    dSet 2 (op2 addD (.e (dC (.int 1))) (.e (dCallG F__law_draw 1 (evs [dC (.int 4)]))))
def s_law_2 : DenS :=
    dSet 3 (op1 tupleD (.e (dLc (srcRng1 (evs [dCallG F__law_draw 1 (evs [dC (.int 7)])])) (.nm 4) (okT true) (c_law_0) [4, 16] 16)))
def s_law_3 : DenS :=
    dSet 3 (dIf (tb (op2 ltD (.e (op1 lenD (.b 3))) (.e (dC (.int 4))))) (op2 mulE (.b 3) (.e (op2 addD (.e (dC (.int 1))) (.e (dCallG F__law_draw 1 (evs [dC (.int 3)])))))) (dVar 3))
def s_law_4 : DenS :=
    dSet 5 (dCall F__law_turned (evs [dVar 3]))
def s_law_5 : DenS :=
    dSet 6 (op1 tupleD (.e (dLc (srcRng1 (evs [op1 lenD (.b 3)])) (.nm 4) (okT true) (c_law_1) [4, 17] 17)))
def s_law_6 : DenS :=
    dSet 7 (op2 ixD (.b 5) (.e (dCallG F__law_draw 1 (evs [op1 lenD (.b 5)]))))
def s_law_7 : DenS :=
    dSet 8 (dCallG F__law_draw 1 (evs [dC (.int 4)]))
def s_law_8 : DenS :=
    dIfS (tb (op2 eqD (.b 8) (.e (dC (.int 1))))) (dSet 7 (op1 tupleD (.e (dLc (srcRng1 (evs [op1 lenD (.b 7)])) (.nm 4) (okT true) (c_law_2) [4, 18] 18)))) (dNx)
def s_law_9 : DenS :=
    dIfS (tb (op2 eqD (.b 8) (.e (dC (.int 2))))) (dSet 7 (op1 tupleD (.e (dLc (srcSeq (dVar 3)) (.nm 9) (okT true) (c_law_3) [9, 19] 19)))) (dNx)
def s_law_10 : DenS :=
    dIfS (tAnd' (tb (op2 eqD (.b 8) (.e (dC (.int 3))))) (tb (op2 neD (.b 3) (.e (dTup (evs [])))))) (dSeq (dSet 10 (dCallG F__law_draw 1 (evs [op1 lenD (.b 3)])))
    (dSet 7 (op2 addD (.e (op2 addD (.e (dSl (.b 7) .no (.at (dVar 10)))) (.e (dTup (evs [op2 addD (.e (op2 ixD (.b 7) (.b 10))) (.e (dC (.int 1)))]))))) (.e (dSl (.b 7) (.at (op2 addD (.b 10) (.e (dC (.int 1))))) .no))))) (dNx)
def s_law_11 : DenS :=
    dPar 11 12 20 21 (op2 (inD false) (.b 7) (.b 5)) (op2 (inD false) (.b 7) (.e (op2 addD (.b 5) (.e (dCall F__law_turned (evs [dVar 6]))))))
def s_law_12 : DenS :=
    dIfS (tOr' (tNot' (tru (.e (dCall F__law_same (evs [dCall F_are_alike (evs [dVar 3, dVar 7]), dVar 11]))))) (tOr' (tNot' (tru (.e (dCall F__law_same (evs [dCall F_are_alike_either_side (evs [dVar 3, dVar 7]), dVar 12]))))) (tb (op2 (isD true) (.e (dCall F_are_alike (evs [dVar 3, op2 addD (.b 3) (.e (dTup (evs [dC (.int 0)])))]))) (.e (dC (.bool false))))))) (dRet (dC (.bool false))) (dNx)
def s_law_13 : DenS :=
    dIfS (tOr' (tb (op2 neD (.e (dCall F_plain_round (evs [dVar 3]))) (.e (op1 minLD (.b 5))))) (tb (op2 neD (.e (dCall F_plain_either_side (evs [dVar 3]))) (.e (op1 minLD (.e (op2 addD (.b 5) (.e (dCall F__law_turned (evs [dVar 6])))))))))) (dRet (dC (.bool false))) (dNx)
def s_law_14 : DenS :=
    dIfS (tOr' (tb (op2 neD (.e (op2 eqD (.e (dCall F_plain_round (evs [dVar 3]))) (.e (dCall F_plain_round (evs [dVar 7]))))) (.b 11))) (tb (op2 neD (.e (op2 eqD (.e (dCall F_plain_either_side (evs [dVar 3]))) (.e (dCall F_plain_either_side (evs [dVar 7]))))) (.b 12)))) (dRet (dC (.bool false))) (dNx)
def s_law_15 : DenS :=
    dSet 13 (dLc (srcRng2 (evs [dC (.int 1), op2 addD (.e (op1 lenD (.b 3))) (.e (dC (.int 1)))])) (.nm 4) (q_law_0) (c_law_4) [4, 22] 22)
def s_law_16 : DenS :=
    dSet 14 (dCall F_how_many_round (evs [dVar 3]))
def s_law_17 : DenS :=
    dIfS (tOr' (tb (op2 neD (.b 14) (.e (dIf (tb (op2 neD (.b 13) (.e (dLst (evs []))))) (op2 ixD (.b 13) (.e (dC (.int 0)))) (dC (.int 1)))))) (tNot' (tru (.e (dCall F__law_int (evs [dVar 14])))))) (dRet (dC (.bool false))) (dNx)
def s_law_18 : DenS :=
    dRet (dOr (op2 eqD (.e (op1 lenD (.b 3))) (.e (dC (.int 0)))) (dAnd (op2 eqD (.e (op2 modD (.e (op1 intD (.e (op1 lenD (.b 3))))) (.b 14))) (.e (dC (.int 0)))) (op2 eqD (.b 14) (.e (op1 lenDictD (.e (dLc (srcSeq (dVar 5)) (.nm 15) (okT true) (c_law_5) [15, 23] 23)))))))
def d_law : DenS :=
    dSeq (s_law_0)
    (dSeq (s_law_1)
    (dSeq (s_law_2)
    (dSeq (s_law_3)
    (dSeq (s_law_4)
    (dSeq (s_law_5)
    (dSeq (s_law_6)
    (dSeq (s_law_7)
    (dSeq (s_law_8)
    (dSeq (s_law_9)
    (dSeq (s_law_10)
    (dSeq (s_law_11)
    (dSeq (s_law_12)
    (dSeq (s_law_13)
    (dSeq (s_law_14)
    (dSeq (s_law_15)
    (dSeq (s_law_16)
    (dSeq (s_law_17)
    (s_law_18))))))))))))))))))
def F_law : FD := runF 24 d_law
structure Tx (G : GC) where
  f_turns_of : Addr
  fd_turns_of : FuncData
  F_turns_of : Fun G.K "turns_of" "turns_of" s_turns_of f_turns_of fd_turns_of
  m_turns_of : G.mg "turns_of" = some (.ref f_turns_of)
  k_turns_of : PySem.W.keepIn G.K (.ref f_turns_of) = true
  bd_turns_of : Binds G.K fd_turns_of ["row"] []
  f_are_alike : Addr
  fd_are_alike : FuncData
  F_are_alike : Fun G.K "are_alike" "are_alike" s_are_alike f_are_alike fd_are_alike
  m_are_alike : G.mg "are_alike" = some (.ref f_are_alike)
  k_are_alike : PySem.W.keepIn G.K (.ref f_are_alike) = true
  bd_are_alike : Binds G.K fd_are_alike ["one", "other"] []
  f_are_alike_either_side : Addr
  fd_are_alike_either_side : FuncData
  F_are_alike_either_side : Fun G.K "are_alike_either_side" "are_alike_either_side" s_are_alike_either_side f_are_alike_either_side fd_are_alike_either_side
  m_are_alike_either_side : G.mg "are_alike_either_side" = some (.ref f_are_alike_either_side)
  k_are_alike_either_side : PySem.W.keepIn G.K (.ref f_are_alike_either_side) = true
  bd_are_alike_either_side : Binds G.K fd_are_alike_either_side ["one", "other"] []
  f_plain_round : Addr
  fd_plain_round : FuncData
  F_plain_round : Fun G.K "plain_round" "plain_round" s_plain_round f_plain_round fd_plain_round
  m_plain_round : G.mg "plain_round" = some (.ref f_plain_round)
  k_plain_round : PySem.W.keepIn G.K (.ref f_plain_round) = true
  bd_plain_round : Binds G.K fd_plain_round ["row"] []
  f_plain_either_side : Addr
  fd_plain_either_side : FuncData
  F_plain_either_side : Fun G.K "plain_either_side" "plain_either_side" s_plain_either_side f_plain_either_side fd_plain_either_side
  m_plain_either_side : G.mg "plain_either_side" = some (.ref f_plain_either_side)
  k_plain_either_side : PySem.W.keepIn G.K (.ref f_plain_either_side) = true
  bd_plain_either_side : Binds G.K fd_plain_either_side ["row"] []
  f_how_many_round : Addr
  fd_how_many_round : FuncData
  F_how_many_round : Fun G.K "how_many_round" "how_many_round" s_how_many_round f_how_many_round fd_how_many_round
  m_how_many_round : G.mg "how_many_round" = some (.ref f_how_many_round)
  k_how_many_round : PySem.W.keepIn G.K (.ref f_how_many_round) = true
  bd_how_many_round : Binds G.K fd_how_many_round ["row"] []
  f__law_open : Addr
  fd__law_open : FuncData
  F__law_open : Fun G.K "_law_open" "_law_open" s__law_open f__law_open fd__law_open
  m__law_open : G.mg "_law_open" = some (.ref f__law_open)
  k__law_open : PySem.W.keepIn G.K (.ref f__law_open) = true
  bd__law_open : Binds G.K fd__law_open ["script"] []
  f__law_mixed : Addr
  fd__law_mixed : FuncData
  F__law_mixed : Fun G.K "_law_mixed" "_law_mixed" s__law_mixed f__law_mixed fd__law_mixed
  m__law_mixed : G.mg "_law_mixed" = some (.ref f__law_mixed)
  k__law_mixed : PySem.W.keepIn G.K (.ref f__law_mixed) = true
  bd__law_mixed : Binds G.K fd__law_mixed ["cell", "turn"] []
  f__law_draw : Addr
  fd__law_draw : FuncData
  F__law_draw : Fun G.K "_law_draw" "_law_draw" s__law_draw f__law_draw fd__law_draw
  m__law_draw : G.mg "_law_draw" = some (.ref f__law_draw)
  k__law_draw : PySem.W.keepIn G.K (.ref f__law_draw) = true
  bd__law_draw : Binds G.K fd__law_draw ["draws", "size"] []
  f__law_int : Addr
  fd__law_int : FuncData
  F__law_int : Fun G.K "_law_int" "_law_int" s__law_int f__law_int fd__law_int
  m__law_int : G.mg "_law_int" = some (.ref f__law_int)
  k__law_int : PySem.W.keepIn G.K (.ref f__law_int) = true
  bd__law_int : Binds G.K fd__law_int ["value"] []
  f__law_same : Addr
  fd__law_same : FuncData
  F__law_same : Fun G.K "_law_same" "_law_same" s__law_same f__law_same fd__law_same
  m__law_same : G.mg "_law_same" = some (.ref f__law_same)
  k__law_same : PySem.W.keepIn G.K (.ref f__law_same) = true
  bd__law_same : Binds G.K fd__law_same ["told", "due"] []
  f__law_turned : Addr
  fd__law_turned : FuncData
  F__law_turned : Fun G.K "_law_turned" "_law_turned" s__law_turned f__law_turned fd__law_turned
  m__law_turned : G.mg "_law_turned" = some (.ref f__law_turned)
  k__law_turned : PySem.W.keepIn G.K (.ref f__law_turned) = true
  bd__law_turned : Binds G.K fd__law_turned ["row"] []
  f_law : Addr
  fd_law : FuncData
  F_law : Fun G.K "law" "law" s_law f_law fd_law
  m_law : G.mg "law" = some (.ref f_law)
  k_law : PySem.W.keepIn G.K (.ref f_law) = true
  bd_law : Binds G.K fd_law ["script"] []
  b_abs : G.mg "abs" = none
  b_bool : G.mg "bool" = none
  b_dict : G.mg "dict" = none
  b_int : G.mg "int" = none
  b_isinstance : G.mg "isinstance" = none
  b_len : G.mg "len" = none
  b_max : G.mg "max" = none
  b_min : G.mg "min" = none
  b_range : G.mg "range" = none
  b_tuple : G.mg "tuple" = none
section
variable {G : GC}
theorem sc_turns_of : FnScope N_turns_of ["row"] (defScope s_turns_of) := ⟨rfl, rfl, rfl, by decide +kernel, rfl, by decide +kernel, by decide +kernel⟩
theorem ss_turns_of (T : Tx G) : SSs G (scFn N_turns_of (defScope s_turns_of) 0) (defBody s_turns_of) d_turns_of :=
    sss_one (ss_ret (se_lc (own := [("k", 1), ("%0", 2)]) (t := .nm 1) (tmp := 2) ⟨⟨rfl, by decide +kernel, by decide +kernel, by decide +kernel, by decide +kernel⟩, by decide, by decide, ⟨_, rfl, by unfold L2.Vis; decide +kernel⟩⟩ (si_rng1 rfl T.b_range (sa_cons (se_max2 rfl T.b_max (so_e (se_int)) (so_e (se_len rfl T.b_len (so_b 0 (isv 0))))) (sa_nil))) (sg_nm (isl 1)) (sts_nil) (se_add (so_e (se_sl (so_b 0 (isv 0)) (show SP' _ _ (some _) (.at _) from se_var (isv 1)) (show SP' _ _ none .no from trivial))) (so_e (se_sl (so_b 0 (isv 0)) (show SP' _ _ none .no from trivial) (show SP' _ _ (some _) (.at _) from se_var (isv 1)))))))
theorem ok_turns_of (T : Tx G) : FnOk G.P G.w G.K G.mg G.base (L2.CX G.P G.w) 1 T.f_turns_of T.fd_turns_of ["row"] (spF G F_turns_of 1) := fn_ok T.F_turns_of sc_turns_of (by decide) (ss_turns_of T)
theorem sc__law_open : FnScope N__law_open ["script"] (defScope s__law_open) := ⟨rfl, rfl, rfl, by decide +kernel, rfl, by decide +kernel, by decide +kernel⟩
theorem ss__law_open (T : Tx G) : SSs G (scFn N__law_open (defScope s__law_open) 0) (defBody s__law_open) d__law_open :=
    sss_cons (ss_setLc (own := [("cell", 2), ("%0", 3)]) (t := .nm 2) (tmp := 3) ⟨⟨rfl, by decide +kernel, by decide +kernel, by decide +kernel, by decide +kernel⟩, by decide, by decide, ⟨_, rfl, by unfold L2.Vis; decide +kernel⟩⟩ (i := 1) rfl rfl rfl rfl (by decide +kernel) (si_seq (se_sl (so_b 0 (isv 0)) (show SP' _ _ none .no from trivial) (show SP' _ _ (some _) (.at _) from se_int))) (sg_nm (isl 2)) (sts_nil) (se_abs rfl T.b_abs (so_e (se_int1 rfl T.b_int (so_b 2 (isv 2))))))
    (sss_one (ss_ret (se_lst (sa_cons (se_int) (sa_cons (se_int) (sa_cons (se_add (so_b 1 (isv 1)) (so_e (se_lst (sa_cons (se_int) (sa_nil))))) (sa_nil)))))))
theorem ok__law_open (T : Tx G) : FnOk G.P G.w G.K G.mg G.base (L2.CX G.P G.w) 1 T.f__law_open T.fd__law_open ["script"] (spF G F__law_open 1) := fn_ok T.F__law_open sc__law_open (by decide) (ss__law_open T)
theorem sc__law_mixed : FnScope N__law_mixed ["cell", "turn"] (defScope s__law_mixed) := ⟨rfl, rfl, rfl, by decide +kernel, rfl, by decide +kernel, by decide +kernel⟩
theorem ss__law_mixed (T : Tx G) : SSs G (scFn N__law_mixed (defScope s__law_mixed) 0) (defBody s__law_mixed) d__law_mixed :=
    sss_cons (ss_set (isl 2) (se_mod (so_e (se_add (so_e (se_add (so_e (se_mulE (so_e (se_mod (so_b 0 (isv 0)) (so_e (se_sub (so_e (se_pow (so_e (se_int)) (so_e (se_int)))) (so_e (se_int)))))) (so_e (se_int)))) (so_e (se_mulE (so_b 1 (isv 1)) (so_e (se_int)))))) (so_e (se_int)))) (so_e (se_pow (so_e (se_int)) (so_e (se_int))))))
    (sss_cons (ss_set (isl 2) (se_mod (so_e (se_mulE (so_e (se_xor (so_b 2 (isv 2)) (so_e (se_shr (so_b 2 (isv 2)) (so_e (se_int)))))) (so_e (se_int)))) (so_e (se_pow (so_e (se_int)) (so_e (se_int))))))
    (sss_one (ss_ret (se_mod (so_e (se_mulE (so_e (se_xor (so_b 2 (isv 2)) (so_e (se_shr (so_b 2 (isv 2)) (so_e (se_int)))))) (so_e (se_int)))) (so_e (se_pow (so_e (se_int)) (so_e (se_int))))))))
theorem ok__law_mixed (T : Tx G) : FnOk G.P G.w G.K G.mg G.base (L2.CX G.P G.w) 1 T.f__law_mixed T.fd__law_mixed ["cell", "turn"] (spF G F__law_mixed 2) := fn_ok T.F__law_mixed sc__law_mixed (by decide) (ss__law_mixed T)
theorem sc__law_int : FnScope N__law_int ["value"] (defScope s__law_int) := ⟨rfl, rfl, rfl, by decide +kernel, rfl, by decide +kernel, by decide +kernel⟩
theorem ss__law_int (T : Tx G) : SSs G (scFn N__law_int (defScope s__law_int) 0) (defBody s__law_int) d__law_int :=
    sss_one (ss_ret (se_and (se_inst (.int) rfl T.b_isinstance rfl T.b_int (so_b 0 (isv 0)) (by intro _; rfl) (by decide) (by decide)) (se_one (se_not (se_inst (.bool) rfl T.b_isinstance rfl T.b_bool (so_b 0 (isv 0)) (by intro _; rfl) (by decide) (by decide))))))
theorem ok__law_int (T : Tx G) : FnOk G.P G.w G.K G.mg G.base (L2.CX G.P G.w) 1 T.f__law_int T.fd__law_int ["value"] (spF G F__law_int 1) := fn_ok T.F__law_int sc__law_int (by decide) (ss__law_int T)
theorem sc__law_same : FnScope N__law_same ["told", "due"] (defScope s__law_same) := ⟨rfl, rfl, rfl, by decide +kernel, rfl, by decide +kernel, by decide +kernel⟩
theorem ss__law_same (T : Tx G) : SSs G (scFn N__law_same (defScope s__law_same) 0) (defBody s__law_same) d__law_same :=
    sss_one (ss_ret (se_if (st_tru (so_b 1 (isv 1))) (se_is (so_b 0 (isv 0)) (so_e (se_bl))) (se_is (so_b 0 (isv 0)) (so_e (se_bl)))))
theorem ok__law_same (T : Tx G) : FnOk G.P G.w G.K G.mg G.base (L2.CX G.P G.w) 1 T.f__law_same T.fd__law_same ["told", "due"] (spF G F__law_same 2) := fn_ok T.F__law_same sc__law_same (by decide) (ss__law_same T)
theorem sc__law_turned : FnScope N__law_turned ["row"] (defScope s__law_turned) := ⟨rfl, rfl, rfl, by decide +kernel, rfl, by decide +kernel, by decide +kernel⟩
theorem ss__law_turned (T : Tx G) : SSs G (scFn N__law_turned (defScope s__law_turned) 0) (defBody s__law_turned) d__law_turned :=
    sss_cons (ss_set (isl 1) (se_lst (sa_cons (se_var (isv 0)) (sa_nil))))
    (sss_cons (ss_for (si_rng2 rfl T.b_range (sa_cons (se_int) (sa_cons (se_len rfl T.b_len (so_b 0 (isv 0))) (sa_nil)))) (sg_nm (isl 2)) (sss_one (ss_expr (se_append (isv 1) (se_tuple rfl T.b_tuple (so_e (se_lc (own := [("j", 3), ("%0", 4)]) (t := .nm 3) (tmp := 4) ⟨⟨rfl, by decide +kernel, by decide +kernel, by decide +kernel, by decide +kernel⟩, by decide, by decide, ⟨_, rfl, by unfold L2.Vis; decide +kernel⟩⟩ (si_rng1 rfl T.b_range (sa_cons (se_len rfl T.b_len (so_b 0 (isv 0))) (sa_nil))) (sg_nm (isl 3)) (sts_nil) (se_ix (so_b 0 (isv 0)) (so_e (se_mod (so_e (se_int1 rfl T.b_int (so_e (se_add (so_b 3 (isv 3)) (so_b 2 (isv 2)))))) (so_e (se_len rfl T.b_len (so_b 0 (isv 0))))))))))))))
    (sss_one (ss_ret (se_move (isv 1)))))
theorem ok__law_turned (T : Tx G) : FnOk G.P G.w G.K G.mg G.base (L2.CX G.P G.w) 1 T.f__law_turned T.fd__law_turned ["row"] (spF G F__law_turned 1) := fn_ok T.F__law_turned sc__law_turned (by decide) (ss__law_turned T)
theorem sc_are_alike : FnScope N_are_alike ["one", "other"] (defScope s_are_alike) := ⟨rfl, rfl, rfl, by decide +kernel, rfl, by decide +kernel, by decide +kernel⟩
theorem ss_are_alike (T : Tx G) : SSs G (scFn N_are_alike (defScope s_are_alike) 1) (defBody s_are_alike) d_are_alike :=
    sss_one (ss_ret (se_in (so_b 1 (isv 1)) (so_e (se_fn (ok_turns_of T) (by decide) rfl T.m_turns_of T.k_turns_of T.bd_turns_of (sa_cons (se_var (isv 0)) (sa_nil))))))
theorem ok_are_alike (T : Tx G) : FnOk G.P G.w G.K G.mg G.base (L2.CX G.P G.w) 2 T.f_are_alike T.fd_are_alike ["one", "other"] (spF G F_are_alike 2) := fn_ok T.F_are_alike sc_are_alike (by decide) (ss_are_alike T)
theorem sc_are_alike_either_side : FnScope N_are_alike_either_side ["one", "other"] (defScope s_are_alike_either_side) := ⟨rfl, rfl, rfl, by decide +kernel, rfl, by decide +kernel, by decide +kernel⟩
theorem ss_are_alike_either_side (T : Tx G) : SSs G (scFn N_are_alike_either_side (defScope s_are_alike_either_side) 1) (defBody s_are_alike_either_side) d_are_alike_either_side :=
    sss_one (ss_ret (se_or (se_in (so_b 1 (isv 1)) (so_e (se_fn (ok_turns_of T) (by decide) rfl T.m_turns_of T.k_turns_of T.bd_turns_of (sa_cons (se_var (isv 0)) (sa_nil))))) (se_one (se_in (so_b 1 (isv 1)) (so_e (se_fn (ok_turns_of T) (by decide) rfl T.m_turns_of T.k_turns_of T.bd_turns_of (sa_cons (se_rev (so_b 0 (isv 0))) (sa_nil))))))))
theorem ok_are_alike_either_side (T : Tx G) : FnOk G.P G.w G.K G.mg G.base (L2.CX G.P G.w) 2 T.f_are_alike_either_side T.fd_are_alike_either_side ["one", "other"] (spF G F_are_alike_either_side 2) := fn_ok T.F_are_alike_either_side sc_are_alike_either_side (by decide) (ss_are_alike_either_side T)
theorem sc_plain_round : FnScope N_plain_round ["row"] (defScope s_plain_round) := ⟨rfl, rfl, rfl, by decide +kernel, rfl, by decide +kernel, by decide +kernel⟩
theorem ss_plain_round (T : Tx G) : SSs G (scFn N_plain_round (defScope s_plain_round) 1) (defBody s_plain_round) d_plain_round :=
    sss_one (ss_ret (se_minL rfl T.b_min (so_e (se_fn (ok_turns_of T) (by decide) rfl T.m_turns_of T.k_turns_of T.bd_turns_of (sa_cons (se_var (isv 0)) (sa_nil))))))
theorem ok_plain_round (T : Tx G) : FnOk G.P G.w G.K G.mg G.base (L2.CX G.P G.w) 2 T.f_plain_round T.fd_plain_round ["row"] (spF G F_plain_round 1) := fn_ok T.F_plain_round sc_plain_round (by decide) (ss_plain_round T)
theorem sc_how_many_round : FnScope N_how_many_round ["row"] (defScope s_how_many_round) := ⟨rfl, rfl, rfl, by decide +kernel, rfl, by decide +kernel, by decide +kernel⟩
theorem ss_how_many_round (T : Tx G) : SSs G (scFn N_how_many_round (defScope s_how_many_round) 1) (defBody s_how_many_round) d_how_many_round :=
    sss_one (ss_ret (se_lenSet rfl T.b_len (so_e (se_fn (ok_turns_of T) (by decide) rfl T.m_turns_of T.k_turns_of T.bd_turns_of (sa_cons (se_var (isv 0)) (sa_nil)))) (by decide +kernel) (by decide +kernel) rfl (by decide +kernel) rfl))
theorem ok_how_many_round (T : Tx G) : FnOk G.P G.w G.K G.mg G.base (L2.CX G.P G.w) 2 T.f_how_many_round T.fd_how_many_round ["row"] (spF G F_how_many_round 1) := fn_ok T.F_how_many_round sc_how_many_round (by decide) (ss_how_many_round T)
theorem sc__law_draw : FnScope N__law_draw ["draws", "size"] (defScope s__law_draw) := ⟨rfl, rfl, rfl, by decide +kernel, rfl, by decide +kernel, by decide +kernel⟩
theorem ss__law_draw (T : Tx G) : SSs G (scFn N__law_draw (defScope s__law_draw) 1) (defBody s__law_draw) d__law_draw :=
    sss_cons (ss_unpB (isv 0) (sgs_cons (sg_nm (isl 2)) (sgs_cons (sg_nm (isl 3)) (sgs_cons (sg_nm (isl 4)) (sgs_nil)))))
    (sss_cons (ss_if (st_lt (so_b 3 (isv 3)) (so_b 1 (isv 1))) (sss_cons (ss_set (isl 5) (se_ix (so_b 4 (isv 4)) (so_e (se_mod (so_b 2 (isv 2)) (so_e (se_len rfl T.b_len (so_b 4 (isv 4))))))))
    (sss_cons (ss_set (isl 3) (se_if (sw_pt (sw_and (st_lt (so_b 2 (isv 2)) (so_e (se_len rfl T.b_len (so_b 4 (isv 4))))) (sw_and1 (st_ge (so_b 5 (isv 5)) (so_e (se_pow (so_e (se_int)) (so_e (se_int)))))))) (se_var (isv 5)) (se_fn (ok__law_mixed T) (by decide) rfl T.m__law_mixed T.k__law_mixed T.bd__law_mixed (sa_cons (se_var (isv 5)) (sa_cons (se_var (isv 2)) (sa_nil))))))
    (sss_one (ss_set (isl 2) (se_add (so_b 2 (isv 2)) (so_e (se_int))))))) (sss_nil))
    (sss_cons (ss_setIx (isv 0) (se_int) (se_var (isv 2)))
    (sss_cons (ss_setIx (isv 0) (se_int) (se_fdiv (so_b 3 (isv 3)) (so_b 1 (isv 1))))
    (sss_one (ss_ret (se_mod (so_b 3 (isv 3)) (so_b 1 (isv 1))))))))
theorem ok__law_draw (T : Tx G) : FnOk G.P G.w G.K G.mg G.base (L2.CX G.P G.w) 2 T.f__law_draw T.fd__law_draw ["draws", "size"] (spG G F__law_draw 2) := fn_okG T.F__law_draw sc__law_draw (by decide) (ss__law_draw T)
theorem sc_plain_either_side : FnScope N_plain_either_side ["row"] (defScope s_plain_either_side) := ⟨rfl, rfl, rfl, by decide +kernel, rfl, by decide +kernel, by decide +kernel⟩
theorem ss_plain_either_side (T : Tx G) : SSs G (scFn N_plain_either_side (defScope s_plain_either_side) 2) (defBody s_plain_either_side) d_plain_either_side :=
    sss_one (ss_ret (se_min2L rfl T.b_min (so_e (se_fn (ok_plain_round T) (by decide) rfl T.m_plain_round T.k_plain_round T.bd_plain_round (sa_cons (se_var (isv 0)) (sa_nil)))) (so_e (se_fn (ok_plain_round T) (by decide) rfl T.m_plain_round T.k_plain_round T.bd_plain_round (sa_cons (se_rev (so_b 0 (isv 0))) (sa_nil))))))
theorem ok_plain_either_side (T : Tx G) : FnOk G.P G.w G.K G.mg G.base (L2.CX G.P G.w) 3 T.f_plain_either_side T.fd_plain_either_side ["row"] (spF G F_plain_either_side 1) := fn_ok T.F_plain_either_side sc_plain_either_side (by decide) (ss_plain_either_side T)
theorem sc_law : FnScope N_law ["script"] (defScope s_law) := ⟨rfl, rfl, rfl, by decide +kernel, rfl, by decide +kernel, by decide +kernel⟩
theorem ss_law (T : Tx G) : SSs G (scFn N_law (defScope s_law) 3) (defBody s_law) d_law :=
    sss_cons (ss_set (isl 1) (se_fn (ok__law_open T) (by decide) rfl T.m__law_open T.k__law_open T.bd__law_open (sa_cons (se_var (isv 0)) (sa_nil))))
    (sss_cons (ss_set (isl 2) (se_add (so_e (se_int)) (so_e (se_fnG (i := 1) (ok__law_draw T) (by decide) rfl T.m__law_draw T.k__law_draw T.bd__law_draw (isv 1) (sa_cons (se_int) (sa_nil))))))
    (sss_cons (ss_set (isl 3) (se_tuple rfl T.b_tuple (so_e (se_lc (own := [("k", 4), ("%0", 16)]) (t := .nm 4) (tmp := 16) ⟨⟨rfl, by decide +kernel, by decide +kernel, by decide +kernel, by decide +kernel⟩, by decide, by decide, ⟨_, rfl, by unfold L2.Vis; decide +kernel⟩⟩ (si_rng1 rfl T.b_range (sa_cons (se_fnG (i := 1) (ok__law_draw T) (by decide) rfl T.m__law_draw T.k__law_draw T.bd__law_draw (isv 1) (sa_cons (se_int) (sa_nil))) (sa_nil))) (sg_nm (isl 4)) (sts_nil) (se_fnG (i := 1) (ok__law_draw T) (by decide) rfl T.m__law_draw T.k__law_draw T.bd__law_draw (isv 1) (sa_cons (se_var (isv 2)) (sa_nil)))))))
    (sss_cons (ss_set (isl 3) (se_if (st_lt (so_e (se_len rfl T.b_len (so_b 3 (isv 3)))) (so_e (se_int))) (se_mulE (so_b 3 (isv 3)) (so_e (se_add (so_e (se_int)) (so_e (se_fnG (i := 1) (ok__law_draw T) (by decide) rfl T.m__law_draw T.k__law_draw T.bd__law_draw (isv 1) (sa_cons (se_int) (sa_nil))))))) (se_var (isv 3))))
    (sss_cons (ss_set (isl 5) (se_fn (ok__law_turned T) (by decide) rfl T.m__law_turned T.k__law_turned T.bd__law_turned (sa_cons (se_var (isv 3)) (sa_nil))))
    (sss_cons (ss_set (isl 6) (se_tuple rfl T.b_tuple (so_e (se_lc (own := [("k", 4), ("%1", 17)]) (t := .nm 4) (tmp := 17) ⟨⟨rfl, by decide +kernel, by decide +kernel, by decide +kernel, by decide +kernel⟩, by decide, by decide, ⟨_, rfl, by unfold L2.Vis; decide +kernel⟩⟩ (si_rng1 rfl T.b_range (sa_cons (se_len rfl T.b_len (so_b 3 (isv 3))) (sa_nil))) (sg_nm (isl 4)) (sts_nil) (se_ix (so_b 3 (isv 3)) (so_e (se_sub (so_e (se_sub (so_e (se_len rfl T.b_len (so_b 3 (isv 3)))) (so_e (se_int)))) (so_b 4 (isv 4)))))))))
    (sss_cons (ss_set (isl 7) (se_ix (so_b 5 (isv 5)) (so_e (se_fnG (i := 1) (ok__law_draw T) (by decide) rfl T.m__law_draw T.k__law_draw T.bd__law_draw (isv 1) (sa_cons (se_len rfl T.b_len (so_b 5 (isv 5))) (sa_nil))))))
    (sss_cons (ss_set (isl 8) (se_fnG (i := 1) (ok__law_draw T) (by decide) rfl T.m__law_draw T.k__law_draw T.bd__law_draw (isv 1) (sa_cons (se_int) (sa_nil))))
    (sss_cons (ss_if (st_eq (so_b 8 (isv 8)) (so_e (se_int))) (sss_one (ss_set (isl 7) (se_tuple rfl T.b_tuple (so_e (se_lc (own := [("k", 4), ("%2", 18)]) (t := .nm 4) (tmp := 18) ⟨⟨rfl, by decide +kernel, by decide +kernel, by decide +kernel, by decide +kernel⟩, by decide, by decide, ⟨_, rfl, by unfold L2.Vis; decide +kernel⟩⟩ (si_rng1 rfl T.b_range (sa_cons (se_len rfl T.b_len (so_b 7 (isv 7))) (sa_nil))) (sg_nm (isl 4)) (sts_nil) (se_ix (so_b 7 (isv 7)) (so_e (se_sub (so_e (se_sub (so_e (se_len rfl T.b_len (so_b 7 (isv 7)))) (so_e (se_int)))) (so_b 4 (isv 4)))))))))) (sss_nil))
    (sss_cons (ss_if (st_eq (so_b 8 (isv 8)) (so_e (se_int))) (sss_one (ss_set (isl 7) (se_tuple rfl T.b_tuple (so_e (se_lc (own := [("thing", 9), ("%3", 19)]) (t := .nm 9) (tmp := 19) ⟨⟨rfl, by decide +kernel, by decide +kernel, by decide +kernel, by decide +kernel⟩, by decide, by decide, ⟨_, rfl, by unfold L2.Vis; decide +kernel⟩⟩ (si_seq (se_var (isv 3))) (sg_nm (isl 9)) (sts_nil) (se_fnG (i := 1) (ok__law_draw T) (by decide) rfl T.m__law_draw T.k__law_draw T.bd__law_draw (isv 1) (sa_cons (se_var (isv 2)) (sa_nil)))))))) (sss_nil))
    (sss_cons (ss_if (sw_pt (sw_and (st_eq (so_b 8 (isv 8)) (so_e (se_int))) (sw_and1 (st_ne (so_b 3 (isv 3)) (so_e (se_tup (sa_nil))))))) (sss_cons (ss_set (isl 10) (se_fnG (i := 1) (ok__law_draw T) (by decide) rfl T.m__law_draw T.k__law_draw T.bd__law_draw (isv 1) (sa_cons (se_len rfl T.b_len (so_b 3 (isv 3))) (sa_nil))))
    (sss_one (ss_set (isl 7) (se_add (so_e (se_add (so_e (se_sl (so_b 7 (isv 7)) (show SP' _ _ none .no from trivial) (show SP' _ _ (some _) (.at _) from se_var (isv 10)))) (so_e (se_tup (sa_cons (se_add (so_e (se_ix (so_b 7 (isv 7)) (so_b 10 (isv 10)))) (so_e (se_int))) (sa_nil)))))) (so_e (se_sl (so_b 7 (isv 7)) (show SP' _ _ (some _) (.at _) from se_add (so_b 10 (isv 10)) (so_e (se_int))) (show SP' _ _ none .no from trivial))))))) (sss_nil))
    (sss_cons (ss_par (isl 11) (isl 12) rfl rfl (sat_cons (se_in (so_b 7 (isv 7)) (so_b 5 (isv 5))) (sat_cons (se_in (so_b 7 (isv 7)) (so_e (se_add (so_b 5 (isv 5)) (so_e (se_fn (ok__law_turned T) (by decide) rfl T.m__law_turned T.k__law_turned T.bd__law_turned (sa_cons (se_var (isv 6)) (sa_nil))))))) (sat_nil) ⟨_, rfl, by unfold L2.Vis; decide +kernel⟩ (by decide)) ⟨_, rfl, by unfold L2.Vis; decide +kernel⟩ (by decide)) (by decide) (by intro env h; unfold swappedStores Env.blockKind Env.kindOf; rw [h]; rfl))
    (sss_cons (ss_if (sw_pt (sw_or (st_not (st_tru (so_e (se_fn (ok__law_same T) (by decide) rfl T.m__law_same T.k__law_same T.bd__law_same (sa_cons (se_fn (ok_are_alike T) (by decide) rfl T.m_are_alike T.k_are_alike T.bd_are_alike (sa_cons (se_var (isv 3)) (sa_cons (se_var (isv 7)) (sa_nil)))) (sa_cons (se_var (isv 11)) (sa_nil))))))) (sw_or (st_not (st_tru (so_e (se_fn (ok__law_same T) (by decide) rfl T.m__law_same T.k__law_same T.bd__law_same (sa_cons (se_fn (ok_are_alike_either_side T) (by decide) rfl T.m_are_alike_either_side T.k_are_alike_either_side T.bd_are_alike_either_side (sa_cons (se_var (isv 3)) (sa_cons (se_var (isv 7)) (sa_nil)))) (sa_cons (se_var (isv 12)) (sa_nil))))))) (sw_or1 (st_isn (so_e (se_fn (ok_are_alike T) (by decide) rfl T.m_are_alike T.k_are_alike T.bd_are_alike (sa_cons (se_var (isv 3)) (sa_cons (se_add (so_b 3 (isv 3)) (so_e (se_tup (sa_cons (se_int) (sa_nil))))) (sa_nil))))) (so_e (se_bl))))))) (sss_one (ss_ret (se_bl))) (sss_nil))
    (sss_cons (ss_if (sw_pt (sw_or (st_ne (so_e (se_fn (ok_plain_round T) (by decide) rfl T.m_plain_round T.k_plain_round T.bd_plain_round (sa_cons (se_var (isv 3)) (sa_nil)))) (so_e (se_minL rfl T.b_min (so_b 5 (isv 5))))) (sw_or1 (st_ne (so_e (se_fn (ok_plain_either_side T) (by decide) rfl T.m_plain_either_side T.k_plain_either_side T.bd_plain_either_side (sa_cons (se_var (isv 3)) (sa_nil)))) (so_e (se_minL rfl T.b_min (so_e (se_add (so_b 5 (isv 5)) (so_e (se_fn (ok__law_turned T) (by decide) rfl T.m__law_turned T.k__law_turned T.bd__law_turned (sa_cons (se_var (isv 6)) (sa_nil)))))))))))) (sss_one (ss_ret (se_bl))) (sss_nil))
    (sss_cons (ss_if (sw_pt (sw_or (st_ne (so_e (se_eq (so_e (se_fn (ok_plain_round T) (by decide) rfl T.m_plain_round T.k_plain_round T.bd_plain_round (sa_cons (se_var (isv 3)) (sa_nil)))) (so_e (se_fn (ok_plain_round T) (by decide) rfl T.m_plain_round T.k_plain_round T.bd_plain_round (sa_cons (se_var (isv 7)) (sa_nil)))))) (so_b 11 (isv 11))) (sw_or1 (st_ne (so_e (se_eq (so_e (se_fn (ok_plain_either_side T) (by decide) rfl T.m_plain_either_side T.k_plain_either_side T.bd_plain_either_side (sa_cons (se_var (isv 3)) (sa_nil)))) (so_e (se_fn (ok_plain_either_side T) (by decide) rfl T.m_plain_either_side T.k_plain_either_side T.bd_plain_either_side (sa_cons (se_var (isv 7)) (sa_nil)))))) (so_b 12 (isv 12)))))) (sss_one (ss_ret (se_bl))) (sss_nil))
    (sss_cons (ss_setLc (own := [("k", 4), ("%6", 22)]) (t := .nm 4) (tmp := 22) ⟨⟨rfl, by decide +kernel, by decide +kernel, by decide +kernel, by decide +kernel⟩, by decide, by decide, ⟨_, rfl, by unfold L2.Vis; decide +kernel⟩⟩ (i := 13) rfl rfl rfl rfl (by decide +kernel) (si_rng2 rfl T.b_range (sa_cons (se_int) (sa_cons (se_add (so_e (se_len rfl T.b_len (so_b 3 (isv 3)))) (so_e (se_int))) (sa_nil)))) (sg_nm (isl 4)) (sts_one (st_eq (so_e (se_add (so_e (se_sl (so_b 3 (isv 3)) (show SP' _ _ (some _) (.at _) from se_var (isv 4)) (show SP' _ _ none .no from trivial))) (so_e (se_sl (so_b 3 (isv 3)) (show SP' _ _ none .no from trivial) (show SP' _ _ (some _) (.at _) from se_var (isv 4)))))) (so_b 3 (isv 3)))) (se_var (isv 4)))
    (sss_cons (ss_set (isl 14) (se_fn (ok_how_many_round T) (by decide) rfl T.m_how_many_round T.k_how_many_round T.bd_how_many_round (sa_cons (se_var (isv 3)) (sa_nil))))
    (sss_cons (ss_if (sw_pt (sw_or (st_ne (so_b 14 (isv 14)) (so_e (se_if (st_ne (so_b 13 (isv 13)) (so_e (se_lst (sa_nil)))) (se_ix (so_b 13 (isv 13)) (so_e (se_int))) (se_int)))) (sw_or1 (st_not (st_tru (so_e (se_fn (ok__law_int T) (by decide) rfl T.m__law_int T.k__law_int T.bd__law_int (sa_cons (se_var (isv 14)) (sa_nil))))))))) (sss_one (ss_ret (se_bl))) (sss_nil))
    (sss_one (ss_ret (se_or (se_eq (so_e (se_len rfl T.b_len (so_b 3 (isv 3)))) (so_e (se_int))) (se_one (se_and (se_eq (so_e (se_mod (so_e (se_int1 rfl T.b_int (so_e (se_len rfl T.b_len (so_b 3 (isv 3)))))) (so_b 14 (isv 14)))) (so_e (se_int))) (se_one (se_eq (so_b 14 (isv 14)) (so_e (se_lenDict rfl T.b_len rfl T.b_dict (so_e (se_lc (own := [("row", 15), ("%7", 23)]) (t := .nm 15) (tmp := 23) ⟨⟨rfl, by decide +kernel, by decide +kernel, by decide +kernel, by decide +kernel⟩, by decide, by decide, ⟨_, rfl, by unfold L2.Vis; decide +kernel⟩⟩ (si_seq (se_var (isv 5))) (sg_nm (isl 15)) (sts_nil) (se_tup (sa_cons (se_var (isv 15)) (sa_cons (se_int) (sa_nil))))))))))))))))))))))))))))))))
theorem ok_law (T : Tx G) : FnOk G.P G.w G.K G.mg G.base (L2.CX G.P G.w) 4 T.f_law T.fd_law ["script"] (spF G F_law 1) := fn_ok T.F_law sc_law (by decide) (ss_law T)
end
theorem all_mk {l : PySem.W.OpenLaw} {w : World} {K : PySem.W.Frag} {h : Heap} {mg : Str → Option Value} {fa : Addr} {f0 f1 f2 f3 f4 f5 f6 f7 f8 f9 f10 f11 f12 : Addr} (X : K.In h) (G0 : h.Ns mainGlobals mg) (hfa : mg "law" = some (.ref fa))
    {od0 an0 od1 an1 od2 an2 od3 an3 od4 an4 od5 an5 od6 an6 od7 an7 od8 an8 od9 an9 od10 an10 od11 an11 od12 an12 : Option Addr} {sl0 sl1 sl2 sl3 sl4 sl5 sl6 sl7 sl8 sl9 sl10 sl11 sl12 : Array (Option Value)} {oc0 kV0 dc0 pm0 cd0 ct0 oc1 kV1 dc1 pm1 cd1 ct1 oc2 kV2 dc2 pm2 cd2 ct2 oc3 kV3 dc3 pm3 cd3 ct3 oc4 kV4 dc4 pm4 cd4 ct4 oc5 kV5 dc5 pm5 cd5 ct5 oc6 kV6 dc6 pm6 cd6 ct6 oc7 kV7 dc7 pm7 cd7 ct7 oc8 kV8 dc8 pm8 cd8 ct8 oc9 kV9 dc9 pm9 cd9 ct9 oc10 kV10 dc10 pm10 cd10 ct10 oc11 kV11 dc11 pm11 cd11 ct11 oc12 kV12 dc12 pm12 cd12 ct12 : Value}
    (a_turns_of : PySem.W.nsIn K mainGlobals "turns_of" = some (some (.ref f0))) (l_turns_of : K.lookup f0 = some ⟨oc0, od0, .func (PySem.W.fnOf "turns_of" "turns_of" (defArgs s_turns_of) (defBody s_turns_of) (defScope s_turns_of) .none kV0 dc0 pm0 an0 cd0 ct0), sl0⟩) (c_turns_of : PySem.W.codeIn K cd0 "turns_of" = true) (k_turns_of : PySem.W.keepIn K (.ref f0) = true)
    (a_are_alike : PySem.W.nsIn K mainGlobals "are_alike" = some (some (.ref f1))) (l_are_alike : K.lookup f1 = some ⟨oc1, od1, .func (PySem.W.fnOf "are_alike" "are_alike" (defArgs s_are_alike) (defBody s_are_alike) (defScope s_are_alike) .none kV1 dc1 pm1 an1 cd1 ct1), sl1⟩) (c_are_alike : PySem.W.codeIn K cd1 "are_alike" = true) (k_are_alike : PySem.W.keepIn K (.ref f1) = true)
    (a_are_alike_either_side : PySem.W.nsIn K mainGlobals "are_alike_either_side" = some (some (.ref f2))) (l_are_alike_either_side : K.lookup f2 = some ⟨oc2, od2, .func (PySem.W.fnOf "are_alike_either_side" "are_alike_either_side" (defArgs s_are_alike_either_side) (defBody s_are_alike_either_side) (defScope s_are_alike_either_side) .none kV2 dc2 pm2 an2 cd2 ct2), sl2⟩) (c_are_alike_either_side : PySem.W.codeIn K cd2 "are_alike_either_side" = true) (k_are_alike_either_side : PySem.W.keepIn K (.ref f2) = true)
    (a_plain_round : PySem.W.nsIn K mainGlobals "plain_round" = some (some (.ref f3))) (l_plain_round : K.lookup f3 = some ⟨oc3, od3, .func (PySem.W.fnOf "plain_round" "plain_round" (defArgs s_plain_round) (defBody s_plain_round) (defScope s_plain_round) .none kV3 dc3 pm3 an3 cd3 ct3), sl3⟩) (c_plain_round : PySem.W.codeIn K cd3 "plain_round" = true) (k_plain_round : PySem.W.keepIn K (.ref f3) = true)
    (a_plain_either_side : PySem.W.nsIn K mainGlobals "plain_either_side" = some (some (.ref f4))) (l_plain_either_side : K.lookup f4 = some ⟨oc4, od4, .func (PySem.W.fnOf "plain_either_side" "plain_either_side" (defArgs s_plain_either_side) (defBody s_plain_either_side) (defScope s_plain_either_side) .none kV4 dc4 pm4 an4 cd4 ct4), sl4⟩) (c_plain_either_side : PySem.W.codeIn K cd4 "plain_either_side" = true) (k_plain_either_side : PySem.W.keepIn K (.ref f4) = true)
    (a_how_many_round : PySem.W.nsIn K mainGlobals "how_many_round" = some (some (.ref f5))) (l_how_many_round : K.lookup f5 = some ⟨oc5, od5, .func (PySem.W.fnOf "how_many_round" "how_many_round" (defArgs s_how_many_round) (defBody s_how_many_round) (defScope s_how_many_round) .none kV5 dc5 pm5 an5 cd5 ct5), sl5⟩) (c_how_many_round : PySem.W.codeIn K cd5 "how_many_round" = true) (k_how_many_round : PySem.W.keepIn K (.ref f5) = true)
    (a__law_open : PySem.W.nsIn K mainGlobals "_law_open" = some (some (.ref f6))) (l__law_open : K.lookup f6 = some ⟨oc6, od6, .func (PySem.W.fnOf "_law_open" "_law_open" (defArgs s__law_open) (defBody s__law_open) (defScope s__law_open) .none kV6 dc6 pm6 an6 cd6 ct6), sl6⟩) (c__law_open : PySem.W.codeIn K cd6 "_law_open" = true) (k__law_open : PySem.W.keepIn K (.ref f6) = true)
    (a__law_mixed : PySem.W.nsIn K mainGlobals "_law_mixed" = some (some (.ref f7))) (l__law_mixed : K.lookup f7 = some ⟨oc7, od7, .func (PySem.W.fnOf "_law_mixed" "_law_mixed" (defArgs s__law_mixed) (defBody s__law_mixed) (defScope s__law_mixed) .none kV7 dc7 pm7 an7 cd7 ct7), sl7⟩) (c__law_mixed : PySem.W.codeIn K cd7 "_law_mixed" = true) (k__law_mixed : PySem.W.keepIn K (.ref f7) = true)
    (a__law_draw : PySem.W.nsIn K mainGlobals "_law_draw" = some (some (.ref f8))) (l__law_draw : K.lookup f8 = some ⟨oc8, od8, .func (PySem.W.fnOf "_law_draw" "_law_draw" (defArgs s__law_draw) (defBody s__law_draw) (defScope s__law_draw) .none kV8 dc8 pm8 an8 cd8 ct8), sl8⟩) (c__law_draw : PySem.W.codeIn K cd8 "_law_draw" = true) (k__law_draw : PySem.W.keepIn K (.ref f8) = true)
    (a__law_int : PySem.W.nsIn K mainGlobals "_law_int" = some (some (.ref f9))) (l__law_int : K.lookup f9 = some ⟨oc9, od9, .func (PySem.W.fnOf "_law_int" "_law_int" (defArgs s__law_int) (defBody s__law_int) (defScope s__law_int) .none kV9 dc9 pm9 an9 cd9 ct9), sl9⟩) (c__law_int : PySem.W.codeIn K cd9 "_law_int" = true) (k__law_int : PySem.W.keepIn K (.ref f9) = true)
    (a__law_same : PySem.W.nsIn K mainGlobals "_law_same" = some (some (.ref f10))) (l__law_same : K.lookup f10 = some ⟨oc10, od10, .func (PySem.W.fnOf "_law_same" "_law_same" (defArgs s__law_same) (defBody s__law_same) (defScope s__law_same) .none kV10 dc10 pm10 an10 cd10 ct10), sl10⟩) (c__law_same : PySem.W.codeIn K cd10 "_law_same" = true) (k__law_same : PySem.W.keepIn K (.ref f10) = true)
    (a__law_turned : PySem.W.nsIn K mainGlobals "_law_turned" = some (some (.ref f11))) (l__law_turned : K.lookup f11 = some ⟨oc11, od11, .func (PySem.W.fnOf "_law_turned" "_law_turned" (defArgs s__law_turned) (defBody s__law_turned) (defScope s__law_turned) .none kV11 dc11 pm11 an11 cd11 ct11), sl11⟩) (c__law_turned : PySem.W.codeIn K cd11 "_law_turned" = true) (k__law_turned : PySem.W.keepIn K (.ref f11) = true)
    (a_law : PySem.W.nsIn K mainGlobals "law" = some (some (.ref f12))) (l_law : K.lookup f12 = some ⟨oc12, od12, .func (PySem.W.fnOf "law" "law" (defArgs s_law) (defBody s_law) (defScope s_law) .none kV12 dc12 pm12 an12 cd12 ct12), sl12⟩) (c_law : PySem.W.codeIn K cd12 "law" = true) (k_law : PySem.W.keepIn K (.ref f12) = true)
    (z_abs : PySem.W.nsIn K mainGlobals "abs" = some none)
    (z_bool : PySem.W.nsIn K mainGlobals "bool" = some none)
    (z_dict : PySem.W.nsIn K mainGlobals "dict" = some none)
    (z_int : PySem.W.nsIn K mainGlobals "int" = some none)
    (z_isinstance : PySem.W.nsIn K mainGlobals "isinstance" = some none)
    (z_len : PySem.W.nsIn K mainGlobals "len" = some none)
    (z_max : PySem.W.nsIn K mainGlobals "max" = some none)
    (z_min : PySem.W.nsIn K mainGlobals "min" = some none)
    (z_range : PySem.W.nsIn K mainGlobals "range" = some none)
    (z_tuple : PySem.W.nsIn K mainGlobals "tuple" = some none)
    : ∃ fd : FuncData, (∀ (s : Shared) (v : Value), BindsTo s fd ⟨[v], []⟩ [("script", v)]) ∧ ∀ base : Heap, K.In base → base.Ns mainGlobals mg → FnOk l.prog w K mg base (L2.CX l.prog w) 4 fa fd ["script"] (spL K F_law) := by
  have e := hfa.symm.trans (PySem.W.mg_of X G0 a_law)
  cases e
  have F0 := fun_mk (st := s_turns_of) l_turns_of c_turns_of k_turns_of
  have b0 := F0.binds (ps := ["row"]) fun _ _ _ _ _ _ us hl => match us, hl with | [_], _ => rfl
  have F1 := fun_mk (st := s_are_alike) l_are_alike c_are_alike k_are_alike
  have b1 := F1.binds (ps := ["one", "other"]) fun _ _ _ _ _ _ us hl => match us, hl with | [_, _], _ => rfl
  have F2 := fun_mk (st := s_are_alike_either_side) l_are_alike_either_side c_are_alike_either_side k_are_alike_either_side
  have b2 := F2.binds (ps := ["one", "other"]) fun _ _ _ _ _ _ us hl => match us, hl with | [_, _], _ => rfl
  have F3 := fun_mk (st := s_plain_round) l_plain_round c_plain_round k_plain_round
  have b3 := F3.binds (ps := ["row"]) fun _ _ _ _ _ _ us hl => match us, hl with | [_], _ => rfl
  have F4 := fun_mk (st := s_plain_either_side) l_plain_either_side c_plain_either_side k_plain_either_side
  have b4 := F4.binds (ps := ["row"]) fun _ _ _ _ _ _ us hl => match us, hl with | [_], _ => rfl
  have F5 := fun_mk (st := s_how_many_round) l_how_many_round c_how_many_round k_how_many_round
  have b5 := F5.binds (ps := ["row"]) fun _ _ _ _ _ _ us hl => match us, hl with | [_], _ => rfl
  have F6 := fun_mk (st := s__law_open) l__law_open c__law_open k__law_open
  have b6 := F6.binds (ps := ["script"]) fun _ _ _ _ _ _ us hl => match us, hl with | [_], _ => rfl
  have F7 := fun_mk (st := s__law_mixed) l__law_mixed c__law_mixed k__law_mixed
  have b7 := F7.binds (ps := ["cell", "turn"]) fun _ _ _ _ _ _ us hl => match us, hl with | [_, _], _ => rfl
  have F8 := fun_mk (st := s__law_draw) l__law_draw c__law_draw k__law_draw
  have b8 := F8.binds (ps := ["draws", "size"]) fun _ _ _ _ _ _ us hl => match us, hl with | [_, _], _ => rfl
  have F9 := fun_mk (st := s__law_int) l__law_int c__law_int k__law_int
  have b9 := F9.binds (ps := ["value"]) fun _ _ _ _ _ _ us hl => match us, hl with | [_], _ => rfl
  have F10 := fun_mk (st := s__law_same) l__law_same c__law_same k__law_same
  have b10 := F10.binds (ps := ["told", "due"]) fun _ _ _ _ _ _ us hl => match us, hl with | [_, _], _ => rfl
  have F11 := fun_mk (st := s__law_turned) l__law_turned c__law_turned k__law_turned
  have b11 := F11.binds (ps := ["row"]) fun _ _ _ _ _ _ us hl => match us, hl with | [_], _ => rfl
  have F12 := fun_mk (st := s_law) l_law c_law k_law
  have b12 := F12.binds (ps := ["script"]) fun _ _ _ _ _ _ us hl => match us, hl with | [_], _ => rfl
  refine ⟨PySem.W.fnOf "law" "law" (defArgs s_law) (defBody s_law) (defScope s_law) .none kV12 dc12 pm12 an12 cd12 ct12, fun s v => .of_eq rfl, fun base _ _ => ?_⟩
  exact (ok_law (G := Gx l.prog w K mg base fun _ => .none) ⟨_, _, F0, PySem.W.mg_of X G0 a_turns_of, k_turns_of, b0, _, _, F1, PySem.W.mg_of X G0 a_are_alike, k_are_alike, b1, _, _, F2, PySem.W.mg_of X G0 a_are_alike_either_side, k_are_alike_either_side, b2, _, _, F3, PySem.W.mg_of X G0 a_plain_round, k_plain_round, b3, _, _, F4, PySem.W.mg_of X G0 a_plain_either_side, k_plain_either_side, b4, _, _, F5, PySem.W.mg_of X G0 a_how_many_round, k_how_many_round, b5, _, _, F6, PySem.W.mg_of X G0 a__law_open, k__law_open, b6, _, _, F7, PySem.W.mg_of X G0 a__law_mixed, k__law_mixed, b7, _, _, F8, PySem.W.mg_of X G0 a__law_draw, k__law_draw, b8, _, _, F9, PySem.W.mg_of X G0 a__law_int, k__law_int, b9, _, _, F10, PySem.W.mg_of X G0 a__law_same, k__law_same, b10, _, _, F11, PySem.W.mg_of X G0 a__law_turned, k__law_turned, b11, _, _, F12, PySem.W.mg_of X G0 a_law, k_law, b12, PySem.W.mg_none_of X G0 z_abs, PySem.W.mg_none_of X G0 z_bool, PySem.W.mg_none_of X G0 z_dict, PySem.W.mg_none_of X G0 z_int, PySem.W.mg_none_of X G0 z_isinstance, PySem.W.mg_none_of X G0 z_len, PySem.W.mg_none_of X G0 z_max, PySem.W.mg_none_of X G0 z_min, PySem.W.mg_none_of X G0 z_range, PySem.W.mg_none_of X G0 z_tuple⟩).imp fun _ _ _ _ z => spL_F z
end
end K53
namespace K53
open PySem L2 DL
theorem o_same (a b : Bool) : outF F__law_same [.sh (.bool a), .sh (.bool b)] = .ok (.sh (.bool (a == b))) := by
  refine outF_of ?_
  unfold Rets
  cases a <;> cases b <;> simp [d__law_same]
theorem o_int (n : Int) : outF F__law_int [.sh (.int n)] = .ok (.sh (.bool true)) := by
  refine outF_of ?_
  unfold Rets
  simp [d__law_int, instD, isT]
def mix1 (cell turn : Int) : Int := (cell % 2305843009213693951 * 6364136223846793005 + turn * 1442695040888963407 + 97) % 2305843009213693952
def mix2 (n : Int) : Int := Builtin.bitXor n (n / 536870912) * 3935559000370003845 % 2305843009213693952
def mix3 (n : Int) : Int := Builtin.bitXor n (n / 2147483648) * 2862933555777941757 % 2305843009213693952
theorem o_mixed (cell turn : Int) : outF F__law_mixed [.sh (.int cell), .sh (.int turn)] = .ok (.sh (.int (mix3 (mix2 (mix1 cell turn))))) := by
  refine outF_of ?_
  unfold Rets
  simp [d__law_mixed, dSeq_e, mix1, mix2, mix3]

abbrev DS (turn left : Int) (cells : List Int) : Cont := .L [.int turn, .int left, .list (cells.map .int)]
theorem o_draw (turn left : Int) (cells : List Int) (size : Int) (hc : cells ≠ []) (h0 : 0 < size) (h1 : size < 1000000000000) :
    ∃ v turn' left', outG F__law_draw (DS turn left cells) [.sh (.int size)] = .ok (.sh (.int v)) (DS turn' left' cells) ∧ 0 ≤ v ∧ v < size := by
  have fin : ∀ (t l : Int), 0 ≤ l % size ∧ l % size < size := fun t l => ⟨Int.emod_nonneg _ (by omega), Int.emod_lt_of_pos _ h0⟩
  by_cases hl : left < size
  · obtain ⟨x, hx, hi⟩ := atI_mod (xs := cells.map PyData.int) turn (by simpa using hc)
    obtain ⟨c, _, rfl⟩ := List.mem_map.mp hx
    have hlen : 0 < cells.length := List.length_pos_iff.mpr hc
    rw [List.length_map] at hi
    by_cases hb : turn < cells.length ∧ 1000000000000000000 ≤ c
    · refine ⟨c % size, turn + 1, c / size, outG_of ?_, fin 0 c⟩
      simp [d__law_draw, s__law_draw_0, s__law_draw_1, s__law_draw_2, s__law_draw_3, s__law_draw_4, dSeq_e, hl, hi, hlen, hb, h0, h1, ixN]
    · refine ⟨mix3 (mix2 (mix1 c turn)) % size, turn + 1, mix3 (mix2 (mix1 c turn)) / size, outG_of ?_, fin 0 _⟩
      by_cases hb1 : turn < cells.length
      · have hb2 : ¬ 1000000000000000000 ≤ c := fun z => hb ⟨hb1, z⟩
        simp [d__law_draw, s__law_draw_0, s__law_draw_1, s__law_draw_2, s__law_draw_3, s__law_draw_4, dSeq_e, hl, hi, hlen, hb1, hb2, h0, h1, ixN, dCall_e, o_mixed]
      · simp [d__law_draw, s__law_draw_0, s__law_draw_1, s__law_draw_2, s__law_draw_3, s__law_draw_4, dSeq_e, hl, hi, hlen, hb1, h0, h1, ixN, dCall_e, o_mixed]
  · refine ⟨left % size, turn, left / size, outG_of ?_, fin 0 left⟩
    simp [d__law_draw, s__law_draw_0, s__law_draw_1, s__law_draw_2, s__law_draw_3, s__law_draw_4, dSeq_e, hl, h0, h1, ixN]

theorem o_open (ns : List Int) (h : ns.length ≤ 63) : outF F__law_open [.sh (scrD ns)] = .ok (.ow (DS 0 0 (ns.map (fun n => if n < 0 then -n else n) ++ [0]))) := by
  refine outF_of ?_
  unfold Rets
  have hc : cutL (ns.map PyData.int) none (some 63) = ns.map PyData.int := by
    have := cut_to (ns.map PyData.int) 63
    rw [show ((63 : Nat) : Int) = 63 from rfl] at this
    rw [this, List.take_of_length_le (by simpa using h)]
  have hl : lcL (Tgt.nm 2) (okT true) c__law_open_0 [2, 3] 3 (List.map PyData.int ns) [] [Slot.sh (scrD ns), Slot.un, Slot.un, Slot.un] = .ok (ns.map fun n => PyData.int (if n < 0 then -n else n)) [Slot.sh (scrD ns), Slot.un, Slot.un, Slot.un] := by
    exact lcL_all (PyData.int) (fun n => PyData.int (if n < 0 then -n else n)) ns (by simp [c__law_open_0]) (by simp) (by simp) (by simp) (by omega)
  have hlen : ns.length + 1 ≤ 1000000 := by omega
  simp [d__law_open, dSeq_e, hc, hl, hlen]
end K53
/-! rows round rings: rotations, plainly -/
namespace K53
def rotk {α : Type} (l : List α) (k : Nat) : List α := l.drop k ++ l.take k
def rots {α : Type} (l : List α) : List (List α) := (List.range (max 1 l.length)).map (rotk l)
section
variable {α : Type} {l x y : List α} {k j i n : Nat}
theorem rotk_len (l : List α) (k : Nat) : (rotk l k).length = l.length := by
  unfold rotk
  rw [List.length_append, List.length_drop, List.length_take]
  omega
theorem rotk_get (hi : i < l.length) (hk : k ≤ l.length) : (rotk l k)[i]? = l[(i + k) % l.length]? := by
  unfold rotk
  by_cases h : i < l.length - k
  · rw [List.getElem?_append_left (by rw [List.length_drop]; exact h), List.getElem?_drop, Nat.mod_eq_of_lt (by omega), Nat.add_comm]
  · rw [List.getElem?_append_right (by rw [List.length_drop]; omega), List.length_drop, List.getElem?_take_of_lt (by omega)]
    have : (i + k) % l.length = i + k - l.length := by
      rw [Nat.mod_eq_sub_mod (by omega), Nat.mod_eq_of_lt (by omega)]
    rw [this]
    congr 1
    omega
theorem rotk_zero (l : List α) : rotk l 0 = l := by simp [rotk]
theorem rotk_all (l : List α) : rotk l l.length = l := by simp [rotk]
/-- equal by places -/
theorem ext_len (h1 : x.length = y.length) (h : ∀ i, i < x.length → x[i]? = y[i]?) : x = y := by
  refine List.ext_getElem? fun i => ?_
  by_cases hi : i < x.length
  · exact h i hi
  · rw [List.getElem?_eq_none (by omega), List.getElem?_eq_none (by omega)]
theorem rotk_rotk (hk : k ≤ l.length) (hj : j ≤ l.length) : rotk (rotk l k) j = rotk l ((k + j) % l.length) := by
  by_cases h0 : l.length = 0
  · have : l = [] := List.eq_nil_of_length_eq_zero h0
    subst this
    simp [rotk]
  refine ext_len (by rw [rotk_len, rotk_len, rotk_len]) fun i hi => ?_
  rw [rotk_len, rotk_len] at hi
  rw [rotk_get (by rw [rotk_len]; exact hi) (by rw [rotk_len]; exact hj), rotk_len, rotk_get (Nat.mod_lt _ (by omega)) hk, rotk_get hi (Nat.le_of_lt (Nat.mod_lt _ (by omega)))]
  congr 1
  rw [Nat.mod_add_mod, Nat.add_mod_mod]
  congr 1
  omega
theorem mem_rots : x ∈ rots l ↔ ∃ k, k ≤ l.length ∧ rotk l k = x := by
  unfold rots
  rw [List.mem_map]
  constructor
  · rintro ⟨k, hk, rfl⟩
    rw [List.mem_range] at hk
    by_cases h : k ≤ l.length
    · exact ⟨k, h, rfl⟩
    · refine ⟨0, Nat.zero_le _, ?_⟩
      have : l = [] := List.eq_nil_of_length_eq_zero (by omega)
      subst this
      simp [rotk]
  · rintro ⟨k, hk, rfl⟩
    by_cases h : k < l.length
    · exact ⟨k, List.mem_range.mpr (by omega), rfl⟩
    · have : k = l.length := by omega
      subst this
      exact ⟨0, List.mem_range.mpr (by omega), by rw [rotk_zero, rotk_all]⟩
theorem self_rots : l ∈ rots l := mem_rots.mpr ⟨0, Nat.zero_le _, rotk_zero l⟩
theorem len_rots (h : x ∈ rots l) : x.length = l.length := by
  obtain ⟨k, _, rfl⟩ := mem_rots.mp h
  exact rotk_len l k
theorem rots_trans (h : x ∈ rots l) (h2 : y ∈ rots x) : y ∈ rots l := by
  obtain ⟨k, hk, rfl⟩ := mem_rots.mp h
  obtain ⟨j, hj, rfl⟩ := mem_rots.mp h2
  rw [rotk_len] at hj
  rw [rotk_rotk hk hj]
  refine mem_rots.mpr ⟨_, ?_, rfl⟩
  by_cases h0 : l.length = 0
  · rw [h0, Nat.mod_zero]
    omega
  · exact Nat.le_of_lt (Nat.mod_lt _ (by omega))
theorem rots_symm (h : x ∈ rots l) : l ∈ rots x := by
  obtain ⟨k, hk, rfl⟩ := mem_rots.mp h
  refine mem_rots.mpr ⟨l.length - k, by rw [rotk_len]; omega, ?_⟩
  rw [rotk_rotk hk (by omega)]
  have : k + (l.length - k) = l.length := by omega
  rw [this]
  by_cases h0 : l.length = 0
  · have : l = [] := List.eq_nil_of_length_eq_zero h0
    subst this
    simp [rotk]
  · rw [Nat.mod_self, rotk_zero]
theorem rots_same (h : x ∈ rots l) : y ∈ rots x ↔ y ∈ rots l := ⟨rots_trans h, rots_trans (rots_symm h)⟩
theorem rotk_rev (hk : k ≤ l.length) : (rotk l k).reverse = rotk l.reverse (l.length - k) := by
  unfold rotk
  rw [List.reverse_append, List.reverse_take, List.reverse_drop]
theorem rots_rev (h : x ∈ rots l) : x.reverse ∈ rots l.reverse := by
  obtain ⟨k, hk, rfl⟩ := mem_rots.mp h
  exact mem_rots.mpr ⟨l.length - k, by rw [List.length_reverse]; omega, (rotk_rev hk).symm⟩
end
end K53
/-! rows round rings: the least period -/
namespace K53
open DL
section
variable {α : Type} {l x y : List α} {k j i n p q : Nat}
abbrev fl (l : List α) (i : Nat) : Option α := l[i % l.length]?
theorem fl_rot (hk : k ≤ l.length) (i : Nat) (h0 : 0 < l.length) : fl (rotk l k) i = fl l (i + k) := by
  unfold fl
  rw [rotk_len, rotk_get (Nat.mod_lt _ h0) hk, Nat.mod_add_mod]
theorem rot_ext (hl : x.length = l.length) (h0 : 0 < l.length) (h : ∀ i, fl x i = fl l i) : x = l := by
  refine ext_len hl fun i hi => ?_
  have := h i
  unfold fl at this
  rw [Nat.mod_eq_of_lt hi, Nat.mod_eq_of_lt (by omega)] at this
  exact this
theorem fl_add (l : List α) (i : Nat) : fl l (i + l.length) = fl l i := by
  unfold fl
  rw [Nat.add_mod_right]
theorem per_of (hp : p ≤ l.length) (h0 : 0 < l.length) (h : rotk l p = l) (i : Nat) : fl l (i + p) = fl l i := by
  rw [← fl_rot hp i h0, h]
theorem per_mul (h : ∀ i, fl l (i + p) = fl l i) : ∀ (q i : Nat), fl l (i + p * q) = fl l i
  | 0, i => by simp
  | q + 1, i => by
    rw [Nat.mul_succ, ← Nat.add_assoc, h, per_mul h q]
theorem rot_of_per (hp : p ≤ l.length) (h0 : 0 < l.length) (h : ∀ i, fl l (i + p) = fl l i) : rotk l p = l :=
  rot_ext (rotk_len l p) h0 fun i => by rw [fl_rot hp i h0, h]
theorem least_div (h0 : 0 < l.length) (hp0 : 0 < p) (hp : p ≤ l.length) (h : rotk l p = l) (hm : ∀ k, 0 < k → k < p → rotk l k ≠ l) : l.length % p = 0 := by
  rcases Nat.eq_zero_or_pos (l.length % p) with z | z
  · exact z
  · have hr : l.length % p < p := Nat.mod_lt _ hp0
    refine absurd (rot_of_per (p := l.length % p) (by omega) h0 fun i => ?_) (hm _ z hr)
    rw [← per_mul (per_of hp h0 h) (l.length / p) (i + l.length % p), Nat.add_assoc, Nat.mod_add_div, fl_add]
theorem rot_mod (h0 : 0 < l.length) (hp0 : 0 < p) (hp : p ≤ l.length) (h : rotk l p = l) (hk : k ≤ l.length) : rotk l k = rotk l (k % p) := by
  have hr : k % p < p := Nat.mod_lt _ hp0
  refine rot_ext (by rw [rotk_len, rotk_len]) (by rw [rotk_len]; exact h0) fun i => ?_
  rw [fl_rot hk i h0, fl_rot (by omega) i h0]
  have e : i + k = i + k % p + p * (k / p) := by
    have := Nat.mod_add_div k p
    omega
  rw [e, per_mul (per_of hp h0 h)]
theorem rot_ne (h0 : 0 < l.length) (hp : p ≤ l.length) (hm : ∀ k, 0 < k → k < p → rotk l k ≠ l) {a b : Nat} (ab : a < b) (bp : b < p) : rotk l a ≠ rotk l b := fun e => by
  refine hm (b - a) (by omega) (by omega) (rot_of_per (by omega) h0 fun i => ?_)
  have e2 : fl (rotk l a) (i + (l.length - a)) = fl (rotk l b) (i + (l.length - a)) := by rw [e]
  rw [fl_rot (by omega) _ h0, fl_rot (by omega) _ h0] at e2
  have e3 : i + (l.length - a) + a = i + l.length := by omega
  have e4 : i + (l.length - a) + b = i + (b - a) + l.length := by omega
  rw [e3, e4, fl_add, fl_add] at e2
  exact e2.symm
theorem count_rots [DecidableEq α] (h0 : 0 < l.length) (hp0 : 0 < p) (hp : p ≤ l.length) (h : rotk l p = l) (hm : ∀ k, 0 < k → k < p → rotk l k ≠ l) : (uniq (rots l)).length = p := by
  have nd : ((List.range p).map (rotk l)).Nodup := by
    refine List.Pairwise.map _ (fun a b hab => ?_) (List.pairwise_lt_range (n := p) |>.imp_of_mem (S := fun a b => a < b ∧ b < p) fun {a b} ha hb hab => ⟨hab, List.mem_range.mp hb⟩)
    exact rot_ne h0 hp hm hab.1 hab.2
  have := uniq_len nd (m := rots l) fun x => by
    rw [mem_rots, List.mem_map]
    constructor
    · rintro ⟨k, hk, rfl⟩
      rw [List.mem_range] at hk
      exact ⟨k, by omega, rfl⟩
    · rintro ⟨k, hk, rfl⟩
      exact ⟨k % p, List.mem_range.mpr (Nat.mod_lt _ hp0), (rot_mod h0 hp0 hp h hk).symm⟩
  rw [← this, List.length_map, List.length_range]
/-- the first of the steps that bring the row back -/
theorem steps_head {q : Nat → Bool} {n p : Nat} {r : List Nat} (h : ((List.range n).map (· + 1)).filter q = p :: r) : q p = true ∧ 0 < p ∧ p ≤ n ∧ ∀ k, 0 < k → k < p → q k = false := by
  have e : (((List.range n).map (· + 1)).filter q).head? = some p := by rw [h]; rfl
  rw [List.head?_filter, List.find?_map, Option.map_eq_some_iff] at e
  obtain ⟨m, e1, rfl⟩ := e
  have e2 := List.find?_range_eq_some.mp e1
  refine ⟨by simpa using e2.1, by omega, ?_, fun k h1 h2 => ?_⟩
  · have := List.mem_range.mp e2.2.1
    omega
  · have := e2.2.2 (k - 1) (by omega)
    have hk : k - 1 + 1 = k := by omega
    simpa [hk] using this
theorem steps_all [DecidableEq α] (h0 : 0 < l.length) : ∃ p r, ((List.range l.length).map (· + 1)).filter (fun k => decide (rotk l k = l)) = p :: r ∧ (uniq (rots l)).length = p ∧ l.length % p = 0 ∧ 0 < p := by
  cases e : ((List.range l.length).map (· + 1)).filter (fun k => decide (rotk l k = l)) with
  | nil =>
    exfalso
    have : l.length ∈ ((List.range l.length).map (· + 1)).filter (fun k => decide (rotk l k = l)) :=
      List.mem_filter.mpr ⟨List.mem_map.mpr ⟨l.length - 1, List.mem_range.mpr (by omega), by omega⟩, decide_eq_true (rotk_all l)⟩
    rw [e] at this
    cases this
  | cons p r =>
    obtain ⟨h1, h2, h3, h4⟩ := steps_head e
    have h1' := of_decide_eq_true h1
    have h4' : ∀ k, 0 < k → k < p → rotk l k ≠ l := fun k a b => of_decide_eq_false (h4 k a b)
    exact ⟨p, r, rfl, count_rots h0 h2 h3 h1' h4', least_div h0 h2 h3 h1' h4', h2⟩
end
end K53
/-! rows round rings: the order of rows, the least of rows -/
namespace K53
open PySem PySem.W DL
theorem lt_TUI : ∀ a b : List Int, dataLt (TUI a) (TUI b) = decide (a < b)
  | [], [] => by
    show dataLt (.tuple []) (.tuple []) = _
    rw [dataLt_tuple]
    simp [keyToksAll]
    rfl
  | [], b :: bs => by
    show dataLt (.tuple []) (.tuple (.int b :: bs.map .int)) = _
    rw [dataLt_tuple]
    simp [keyToksAll]
    rfl
  | a :: as, [] => by
    show dataLt (.tuple (.int a :: as.map .int)) (.tuple []) = _
    rw [dataLt_tuple]
    simp [keyToksAll]
    rfl
  | a :: as, b :: bs => by
    show dataLt (.tuple (.int a :: as.map .int)) (.tuple (.int b :: bs.map .int)) = _
    rw [dataLt_tuple]
    have ih := lt_TUI as bs
    rw [TUI, TUI, dataLt_tuple] at ih
    have ha : alike (.int a) (.int b) = true := by simp [alike]
    by_cases h : a = b
    · subst h
      rw [dataLt_all_yes ha (by simp [PyData.eqv]), ih]
      simp
    · rw [dataLt_all_no ha (by simp [PyData.eqv, h]), dataLt_int]
      simp [List.cons_lt_cons_iff, h]
theorem eqv_ints : ∀ a b : List Int, PyData.eqvAll (a.map .int) (b.map .int) = decide (a = b)
  | [], [] => by simp [PyData.eqvAll]
  | [], b :: bs => by simp [PyData.eqvAll]
  | a :: as, [] => by simp [PyData.eqvAll]
  | a :: as, b :: bs => by
    rw [List.map_cons, List.map_cons, PyData.eqvAll, eqv_ints as bs]
    simp [PyData.eqv, Bool.decide_and]
    rw [Bool.eq_iff_iff]
    simp
theorem eqv_TUI (a b : List Int) : PyData.eqv (TUI a) (TUI b) = decide (a = b) := by
  unfold TUI
  rw [PyData.eqv, eqv_ints]
theorem lay_ints : ∀ a : List Int, PyData.canLayAll0 (a.map .int) = true
  | [] => by simp [PyData.canLayAll0]
  | a :: as => by
    rw [List.map_cons, PyData.canLayAll0, lay_ints as]
    simp [PyData.canLay0]
theorem depth_ints : ∀ a : List Int, PyData.depthAll (a.map .int) = 0
  | [] => by simp [PyData.depthAll]
  | a :: as => by
    rw [List.map_cons, PyData.depthAll, depth_ints as]
    simp [PyData.depth]
theorem depth_TUI (a : List Int) : (TUI a).depth = 1 := by
  unfold TUI
  rw [PyData.depth, depth_ints]
theorem lay_TUI (a : List Int) : (TUI a).canLay0 = true := by
  unfold TUI
  rw [PyData.canLay0, lay_ints]
theorem shaped_TUI (a : List Int) : SeqAt.shaped (TUI a) = true := by
  unfold SeqAt.shaped
  rw [lay_TUI, depth_TUI]
  decide
theorem shaped_TUIs (as : List (List Int)) : SeqAt.shaped (.list (as.map TUI)) = true := by
  have h1 : PyData.canLayAll0 (as.map TUI) = true := by
    induction as with
    | nil => simp [PyData.canLayAll0]
    | cons a as ih => rw [List.map_cons, PyData.canLayAll0, ih, lay_TUI]; rfl
  have h2 : PyData.depthAll (as.map TUI) ≤ 1 := depthAll_le fun d hd => by
    obtain ⟨a, _, rfl⟩ := List.mem_map.mp hd
    rw [depth_TUI]
    exact Nat.le_refl 1
  unfold SeqAt.shaped
  rw [PyData.canLay0, PyData.depth, h1]
  simp
  omega
theorem alike_ints : ∀ a b : List Int, alikeAll (a.map .int) (b.map .int) = true
  | [], _ => by simp [alikeAll]
  | a :: as, [] => by simp [alikeAll]
  | a :: as, b :: bs => by
    rw [List.map_cons, List.map_cons, alikeAll, alike_ints as bs]
    simp [alike]
theorem alikeOk_TUI (as : List (List Int)) : AlikeOk (as.map TUI) := by
  refine ⟨⟨fun x hx y hy => ?_, fun x hx => ?_⟩, fun x hx => ?_⟩
  · obtain ⟨a, _, rfl⟩ := List.mem_map.mp hx
    obtain ⟨b, _, rfl⟩ := List.mem_map.mp hy
    show alikeAll (a.map .int) (b.map .int) = true
    exact alike_ints a b
  · obtain ⟨a, _, rfl⟩ := List.mem_map.mp hx
    intro z
    cases z
  · obtain ⟨a, _, rfl⟩ := List.mem_map.mp hx
    exact ⟨by rw [depth_TUI]; decide, lay_TUI a⟩
/-- the least row -/
def least (x : List Int) (xs : List (List Int)) : List Int := xs.foldl (fun a y => if y < a then y else a) x
theorem minL_TUI (x : List Int) : ∀ xs : List (List Int), minL (TUI x) (xs.map TUI) = TUI (least x xs) := by
  intro xs
  unfold minL W.minD least
  induction xs generalizing x with
  | nil => rfl
  | cons y ys ih =>
    rw [List.map_cons, List.foldl_cons, List.foldl_cons, ← ih]
    congr 1
    rw [lt_TUI]
    by_cases h : y < x <;> simp [h]
theorem least_spec (x : List Int) : ∀ xs : List (List Int), least x xs ∈ x :: xs ∧ ∀ y ∈ x :: xs, ¬ y < least x xs := by
  intro xs
  unfold least
  induction xs generalizing x with
  | nil => exact ⟨by simp, by simp⟩
  | cons z zs ih =>
    rw [List.foldl_cons]
    obtain ⟨h1, h2⟩ := ih (if z < x then z else x)
    refine ⟨?_, fun y hy => ?_⟩
    · rcases List.mem_cons.mp h1 with e | e
      · rw [e]
        split
        · exact List.mem_cons_of_mem _ List.mem_cons_self
        · exact List.mem_cons_self
      · exact List.mem_cons_of_mem _ (List.mem_cons_of_mem _ e)
    · have hh := h2 _ List.mem_cons_self
      by_cases hz : z < x
      · rw [if_pos hz] at hh h2 ⊢
        rcases List.mem_cons.mp hy with rfl | hy
        · exact fun w => hh (List.lt_trans hz w)
        · rcases List.mem_cons.mp hy with rfl | hy
          · exact hh
          · exact h2 y (List.mem_cons_of_mem _ hy)
      · rw [if_neg hz] at hh h2 ⊢
        rcases List.mem_cons.mp hy with rfl | hy
        · exact hh
        · rcases List.mem_cons.mp hy with rfl | hy
          · exact List.le_trans hh hz
          · exact h2 y (List.mem_cons_of_mem _ hy)
theorem eq_of_nlt {a b : List Int} (h1 : ¬ a < b) (h2 : ¬ b < a) : a = b := List.le_antisymm h2 h1
/-- the same rows, the same least row -/
theorem least_same {x y : List Int} {xs ys : List (List Int)} (h : ∀ z, z ∈ x :: xs ↔ z ∈ y :: ys) : least x xs = least y ys := by
  obtain ⟨a1, a2⟩ := least_spec x xs
  obtain ⟨b1, b2⟩ := least_spec y ys
  exact eq_of_nlt (b2 _ ((h _).mp a1)) (a2 _ ((h _).mpr b1))

section
open L2
variable (a b : List Int)
@[simp] theorem lenD_TUI : lenD (TUI a) = some (.sh (.int a.length)) := by
  unfold TUI
  simp
@[simp] theorem addD_TUI (h : a.length + b.length ≤ 1000000) : addD (TUI a) (TUI b) = some (.sh (TUI (a ++ b))) := by
  unfold TUI
  rw [addD_tup _ _ (by simpa using h), List.map_append]
@[simp] theorem slD_from (k : Nat) : slD (some (k : Int)) none (TUI a) = some (.sh (TUI (a.drop k))) := by
  unfold TUI
  rw [slD_tup, cut_from, List.map_drop]
@[simp] theorem slD_to (k : Nat) : slD none (some (k : Int)) (TUI a) = some (.sh (TUI (a.take k))) := by
  unfold TUI
  rw [slD_tup, cut_to, List.map_take]
@[simp] theorem ixD_TUI (i : Int) : ixD (TUI a) (.int i) = (atI a i).map fun n => .sh (.int n) := by
  unfold TUI
  rw [ixD_tup]
  cases h : atI a i with
  | none =>
    unfold atI at h ⊢
    rw [List.length_map]
    cases hx : ixN a.length i with
    | none => rfl
    | some j =>
      rw [hx, Option.bind_some] at h
      rw [Option.bind_some, List.getElem?_map, h]
      rfl
  | some n =>
    rw [atI_map h]
    rfl
@[simp] theorem tup_ints_rev : PyData.tuple (a.map .int).reverse = TUI a.reverse := by
  rw [← List.map_reverse]
  rfl
@[simp] theorem tup_ints : PyData.tuple (a.map .int) = TUI a := rfl
@[simp] theorem revD_TUI : revD (TUI a) = some (.sh (TUI a.reverse)) := by
  unfold TUI
  rw [revD_tup, List.map_reverse]
@[simp] theorem eqD_TUI : eqD (TUI a) (TUI b) = some (.sh (.bool (decide (a = b)))) := by
  unfold eqD
  rw [if_pos ⟨shaped_TUI a, shaped_TUI b⟩, eqv_TUI]
@[simp] theorem neD_TUI : neD (TUI a) (TUI b) = some (.sh (.bool (!decide (a = b)))) := by
  unfold neD
  rw [if_pos ⟨shaped_TUI a, shaped_TUI b⟩, eqv_TUI]
@[simp] theorem inD_TUI (neg : Bool) (xs : List (List Int)) : inD neg (TUI a) (.list (xs.map TUI)) = some (.sh (.bool (neg != decide (a ∈ xs)))) := by
  rw [inD_deep _ _ _ (shaped_TUI a) (shaped_TUIs xs)]
  congr 4
  rw [Bool.eq_iff_iff, List.any_eq_true, decide_eq_true_iff]
  constructor
  · rintro ⟨z, hz, e⟩
    obtain ⟨y, hy, rfl⟩ := List.mem_map.mp hz
    rw [eqv_TUI] at e
    rw [← of_decide_eq_true e]
    exact hy
  · intro h
    exact ⟨TUI a, List.mem_map.mpr ⟨a, h, rfl⟩, by rw [eqv_TUI]; simp⟩
@[simp] theorem minLD_TUI (x : List Int) (xs : List (List Int)) : minLD (.list (TUI x :: xs.map TUI)) = some (.sh (TUI (least x xs))) := by
  simp only [minLD]
  rw [if_pos (show AlikeOk (TUI x :: xs.map TUI) from alikeOk_TUI (x :: xs)), minL_TUI]
@[simp] theorem min2TD_TUI : min2TD (TUI a) (TUI b) = some (.sh (TUI (if b < a then b else a))) := by
  unfold min2TD min2LD
  rw [if_pos ⟨rfl, rfl⟩, if_pos (show AlikeOk [TUI a, TUI b] from alikeOk_TUI [a, b]), lt_TUI]
  by_cases h : b < a <;> simp [h]
theorem tupsOf_TUI : ∀ xs : List (List Int), tupsOf (xs.map TUI) = some xs
  | [] => rfl
  | x :: xs => by
    rw [List.map_cons]
    show tupsOf (.tuple (x.map .int) :: xs.map TUI) = _
    rw [tupsOf, intsOf_map, tupsOf_TUI xs]
@[simp] theorem lenSetD_TUI (xs : List (List Int)) (h : xs.length < 63) : lenSetD (.list (xs.map TUI)) = some (.sh (.int (uniq xs).length)) := by
  simp only [lenSetD]
  rw [tupsOf_TUI]
  simp only
  rw [if_pos h]
end
end K53
namespace K53
open PySem L2 DL
theorem o_turns (l : List Int) (h : l.length ≤ 1000) : outF F_turns_of [.sh (TUI l)] = .ok (.ow (.L ((rots l).map TUI))) := by
  refine outF_of ?_
  unfold Rets
  have hm : (if (l.length : Int) > 1 then (l.length : Int) else 1) = ((max 1 l.length : Nat) : Int) := by
    split <;> omega
  have hr := range_nat (max 1 l.length)
  have hl : lcL (Tgt.nm 1) (okT true) c_turns_of_0 [1, 2] 2 ((List.range (max 1 l.length)).map fun (k : Nat) => PyData.int (k : Int)) [] [Slot.sh (TUI l), Slot.un, Slot.un] = .ok ((rots l).map TUI) [Slot.sh (TUI l), Slot.un, Slot.un] := by
    rw [lcL_all (fun (k : Nat) => PyData.int (k : Int)) (fun k => TUI (rotk l k)) (List.range (max 1 l.length)) (fun k _ a => ⟨.sh (TUI (rotk l k)), ?_, rfl⟩) (by simp) (by simp) (by simp) (by simp; omega)]
    · unfold rots
      rw [List.map_map]
      rfl
    · have : (l.drop k).length + (l.take k).length ≤ 1000000 := by simp; omega
      simp [rotk, c_turns_of_0]
      rw [addD_TUI _ _ this]
      simp
  have hR : RgB ((max 1 l.length : Nat) : Int) := RgB_nat (by omega)
  have hM : max2D (.int 1) (.int (l.length : Int)) = some (.sh (.int ((max 1 l.length : Nat) : Int))) := by
    rw [← hm]
    rfl
  simp [d_turns_of, hM, hr, hR, hl]

theorem at_mod (l : List Int) (j k : Nat) (h : 0 < l.length) : atI l (((j : Int) + (k : Int)) % (l.length : Int)) = some (l[(j + k) % l.length]?.getD 0) := by
  have e : ((j : Int) + (k : Int)) % (l.length : Int) = (((j + k) % l.length : Nat) : Int) := by
    have e2 : (j : Int) + (k : Int) = ((j + k : Nat) : Int) := by omega
    rw [e2]
    rfl
  have hl := Nat.mod_lt (j + k) h
  rw [e, atI_n (List.getElem?_eq_getElem hl), List.getElem?_eq_getElem hl]
  rfl
theorem turn_eq (l : List Int) (k : Nat) (hk : k ≤ l.length) : ((List.range l.length).map fun j => l[(j + k) % l.length]?.getD 0) = rotk l k := by
  refine ext_len (by simp [rotk_len]) fun i hi => ?_
  have hi' : i < l.length := by simpa using hi
  have hl : (i + k) % l.length < l.length := Nat.mod_lt _ (by omega)
  rw [List.getElem?_map, List.getElem?_range hi', rotk_get hi' hk]
  simp [List.getElem?_eq_getElem hl]
def Et (l : List Int) (s : List PD × Slot) : PEnv := [Slot.sh (TUI l), .ow (.L s.1), s.2, .un, .un]
theorem fold_app {α : Type} (f : α → PD) (g : α → Slot) : ∀ (xs : List α) (s : List PD × Slot), (xs.foldl (fun s x => (s.1 ++ [f x], g x)) s).1 = s.1 ++ xs.map f
  | [], s => by simp
  | x :: xs, s => by
    rw [List.foldl_cons, fold_app f g xs]
    simp
theorem rots_eq (l : List Int) : rots l = l :: (List.range (l.length - 1)).map fun k => rotk l (k + 1) := by
  unfold rots
  have : max 1 l.length = l.length - 1 + 1 := by omega
  rw [this, List.range_succ_eq_map, List.map_cons, rotk_zero, List.map_map]
  rfl
theorem o_turned (l : List Int) (h : l.length ≤ 1000) : outF F__law_turned [.sh (TUI l)] = .ok (.ow (.L ((rots l).map TUI))) := by
  refine outF_of ?_
  unfold Rets
  have hfor := forL_ix (i := 2) (body := b__law_turned_0)
    (fun (k : Nat) => PyData.int ((k : Int) + 1)) (Et l) (fun s k => (s.1 ++ [TUI (rotk l (k + 1))], Slot.sh (.int ((k : Int) + 1)))) (fun j s => s.1.length = j + 1 ∧ Slot.free (some s.2) = true)
    (List.range (l.length - 1)) 0 ([TUI l], Slot.un) ⟨by simp, rfl⟩ (fun j k s hjk hs => ?_)
  · obtain ⟨_, hfor⟩ := hfor
    have hR : RgB (l.length : Int) := RgB_nat (by omega)
    have hr := range1_nat l.length
    have hE : Et l ([TUI l], Slot.un) = [Slot.sh (TUI l), .ow (.L [TUI l]), .un, .un, .un] := rfl
    rw [hE] at hfor
    have hacc := fold_app (fun k => TUI (rotk l (k + 1))) (fun k => Slot.sh (.int ((k : Int) + 1))) (List.range (l.length - 1)) ([TUI l], Slot.un)
    generalize hs : (List.range (l.length - 1)).foldl (fun s k => (s.1 ++ [TUI (rotk l (k + 1))], Slot.sh (.int ((k : Int) + 1)))) ([TUI l], Slot.un) = s at hfor hacc
    have h1 : RgB 1 := ⟨by decide, by decide⟩
    have hres : s.1 = (rots l).map TUI := by
      rw [hacc, rots_eq, List.map_cons, List.map_map]
      rfl
    rw [← hres]
    simp [d__law_turned, dSeq_e, hr, hR, h1, hfor, Et]
  · have hk' : k < l.length - 1 := by
      have := (List.getElem?_eq_some_iff.mp hjk)
      obtain ⟨a, b⟩ := this
      rw [List.length_range] at a
      rw [List.getElem_range] at b
      omega
    have hj : j < l.length - 1 := by
      have := (List.getElem?_eq_some_iff.mp hjk).1
      rwa [List.length_range] at this
    have hl0 : 0 < l.length := by omega
    obtain ⟨hs1, hs2⟩ := hs
    refine ⟨⟨by simp [hs1], rfl⟩, by simpa [Et] using hs2, ?_⟩
    have hR : RgB (l.length : Int) := RgB_nat (by omega)
    have hr := range_nat l.length
    have hlc : lcL (Tgt.nm 3) (okT true) c__law_turned_0 [3, 4] 4 ((List.range l.length).map fun (k : Nat) => PyData.int (k : Int)) [] [Slot.sh (TUI l), .ow (.L s.1), .sh (.int ((k : Int) + 1)), .un, .un] = .ok ((rotk l (k + 1)).map .int) [Slot.sh (TUI l), .ow (.L s.1), .sh (.int ((k : Int) + 1)), .un, .un] := by
      rw [lcL_all (fun (k : Nat) => PyData.int (k : Int)) (fun j => PyData.int (l[(j + (k + 1)) % l.length]?.getD 0)) (List.range l.length) (fun j _ a => ⟨.sh (.int (l[(j + (k + 1)) % l.length]?.getD 0)), ?_, rfl⟩) (by simp) (by simp) (by simp) (by simp; omega)]
      · rw [← turn_eq l (k + 1) (by omega), List.map_map]
        rfl
      · have := at_mod l j (k + 1) hl0
        push_cast at this
        simp [c__law_turned_0, hl0, this]
    have hlen : s.1.length < 1000000 := by omega
    simp [b__law_turned_0, Et, hr, hR, hlc, hlen]

theorem o_alike (a b : List Int) (h : a.length ≤ 1000) : outF F_are_alike [.sh (TUI a), .sh (TUI b)] = .ok (.sh (.bool (decide (b ∈ rots a)))) := by
  refine outF_of ?_
  unfold Rets
  simp [d_are_alike, dCall_e, o_turns, h]
theorem o_either (a b : List Int) (h : a.length ≤ 1000) : outF F_are_alike_either_side [.sh (TUI a), .sh (TUI b)] = .ok (.sh (.bool (decide (b ∈ rots a ∨ b ∈ rots a.reverse)))) := by
  refine outF_of ?_
  unfold Rets
  by_cases c : b ∈ rots a
  · simp [d_are_alike_either_side, dCall_e, o_turns, h, c]
  · simp [d_are_alike_either_side, dCall_e, o_turns, h, c]
/-- the least of a row's turns -/
def lr (a : List Int) : List Int := least a ((List.range (a.length - 1)).map fun k => rotk a (k + 1))
theorem o_plain (a : List Int) (h : a.length ≤ 1000) : outF F_plain_round [.sh (TUI a)] = .ok (.sh (TUI (lr a))) := by
  refine outF_of ?_
  unfold Rets
  have e := rots_eq a
  have := minLD_TUI a ((List.range (a.length - 1)).map fun k => rotk a (k + 1))
  rw [← List.map_cons, ← e] at this
  simp [d_plain_round, dCall_e, o_turns, h, this, lr]
def le2 (a : List Int) : List Int := if lr a.reverse < lr a then lr a.reverse else lr a
theorem o_plain2 (a : List Int) (h : a.length ≤ 1000) : outF F_plain_either_side [.sh (TUI a)] = .ok (.sh (TUI (le2 a))) := by
  refine outF_of ?_
  unfold Rets
  simp [d_plain_either_side, dCall_e, o_plain, h, le2]
theorem o_many (a : List Int) (h : a.length < 60) : outF F_how_many_round [.sh (TUI a)] = .ok (.sh (.int (uniq (rots a)).length)) := by
  refine outF_of ?_
  unfold Rets
  have h2 : a.length ≤ 1000 := by omega
  have h3 : (rots a).length < 63 := by simp [rots]; omega
  simp [d_how_many_round, dCall_e, o_turns, h2, h3]
end K53
namespace K53
open PySem L2 DL
def L (a0 a1 a2 a3 a5 a6 a7 a8 a10 a11 a12 a13 a14 : DL.Slot) : PEnv := [a0, a1, a2, a3, .un, a5, a6, a7, a8, .un, a10, a11, a12, a13, a14, .un, .un, .un, .un, .un, .un, .un, .un, .un]
section
variable {a0 a1 a2 a3 a5 a6 a7 a8 a10 a11 a12 a13 a14 : DL.Slot} {cells : List Int} {t l w : Int} {one other : List Int}
theorem w0 (ns : List Int) (h : ns.length ≤ 63) : s_law_0 (L (.sh (scrD ns)) .un .un .un .un .un .un .un .un .un .un .un .un) = .ok .nx (L (.sh (scrD ns)) (.ow (DS 0 0 (ns.map (fun n => if n < 0 then -n else n) ++ [0]))) .un .un .un .un .un .un .un .un .un .un .un) := by
  simp [s_law_0, L, dCall_e, o_open, h]
theorem w1 (hc : cells ≠ []) : ∃ t' l' w, s_law_1 (L a0 (.ow (DS t l cells)) .un .un .un .un .un .un .un .un .un .un .un) = .ok .nx (L a0 (.ow (DS t' l' cells)) (.sh (.int w)) .un .un .un .un .un .un .un .un .un .un) ∧ 0 < w ∧ w < 100 := by
  obtain ⟨v, t', l', h, h0, h1⟩ := o_draw t l cells 4 hc (by decide) (by decide)
  exact ⟨t', l', 1 + v, by simp [s_law_1, L, dCallG_e, h], by omega, by omega⟩
theorem w2 (hc : cells ≠ []) (hw : 0 < w) (hw1 : w < 100) : ∃ t' l' one, s_law_2 (L a0 (.ow (DS t l cells)) (.sh (.int w)) .un .un .un .un .un .un .un .un .un .un) = .ok .nx (L a0 (.ow (DS t' l' cells)) (.sh (.int w)) (.sh (TUI one)) .un .un .un .un .un .un .un .un .un) ∧ one.length ≤ 6 := by
  obtain ⟨v, t1, l1, h, h0, h1⟩ := o_draw t l cells 7 hc (by decide) (by decide)
  obtain ⟨n, rfl⟩ : ∃ n : Nat, v = n := ⟨v.toNat, by omega⟩
  obtain ⟨ds, s', g1, g2, g3⟩ := lcL_ex (i := 4) (tmp := 16) (own := [4, 16]) (elt := c_law_0) (fun (k : Nat) => PyData.int (k : Int)) (fun s : Int × Int => L a0 (.ow (DS s.1 s.2 cells)) (.sh (.int w)) .un .un .un .un .un .un .un .un .un .un) (fun d => ∃ n, d = .int n) (List.range n) (t1, l1) []
    (fun x hx s a => by
      obtain ⟨v, t2, l2, h, h0, h1⟩ := o_draw s.1 s.2 cells w hc hw (by omega)
      exact ⟨.sh (.int v), .int v, (t2, l2), by simp [c_law_0, L, dCallG_e, h], rfl, v, rfl⟩) (by simp [L]) (by simp [L]) (by simp [L]) (by simp; omega)
  obtain ⟨vs, rfl⟩ := ints_of g3
  refine ⟨s'.1, s'.2, vs, ?_, ?_⟩
  · have hr := range_nat n
    have hR : RgB (n : Int) := RgB_nat (by omega)
    simp only [List.nil_append] at g1
    simp [L] at g1
    simp [s_law_2, L, dCallG_e, h, hr, hR, g1]
  · simp at g2
    omega

theorem mulE_TUI (a : List Int) (k : Int) (h1 : 1 ≤ k) (h3 : k ≤ 3) (ha : a.length ≤ 10) : ∃ b : List Int, mulE (TUI a) (.int k) = some (.sh (TUI b)) ∧ b.length ≤ 3 * a.length := by
  have e : mulE (TUI a) (.int k) = if (a.map PyData.int = [] ∨ k = 1) ∧ -1000 ≤ k ∧ k ≤ 1000 then some (.sh (TUI a)) else if a.map PyData.int ≠ [] ∧ 2 ≤ k ∧ k ≤ 1000 ∧ (a.map PyData.int).length ≤ 1000 then some (.sh (.tuple (List.replicate k.toNat (a.map PyData.int)).flatten)) else none := rfl
  by_cases hc : a.map PyData.int = [] ∨ k = 1
  · exact ⟨a, by rw [e, if_pos ⟨hc, by omega, by omega⟩], by omega⟩
  · rw [not_or] at hc
    refine ⟨(List.replicate k.toNat a).flatten, ?_, ?_⟩
    · rw [e, if_neg (fun z => by rcases z.1 with z | z; exact hc.1 z; exact hc.2 z), if_pos ⟨hc.1, by omega, by omega, by rw [List.length_map]; omega⟩]
      show some (RV.sh (PyData.tuple (List.replicate k.toNat (a.map PyData.int)).flatten)) = some (RV.sh (PyData.tuple ((List.replicate k.toNat a).flatten.map PyData.int)))
      rw [List.map_flatten, List.map_replicate]
    · rw [List.length_flatten, List.map_replicate, List.sum_replicate_nat]
      have : k.toNat ≤ 3 := by omega
      exact Nat.mul_le_mul_right _ this
theorem w3 (hc : cells ≠ []) (ho : one.length ≤ 6) : ∃ t' l' b, s_law_3 (L a0 (.ow (DS t l cells)) a2 (.sh (TUI one)) .un .un .un .un .un .un .un .un .un) = .ok .nx (L a0 (.ow (DS t' l' cells)) a2 (.sh (TUI b)) .un .un .un .un .un .un .un .un .un) ∧ b.length ≤ 18 := by
  by_cases h4 : one.length < 4
  · obtain ⟨v, t1, l1, h, h0, h1⟩ := o_draw t l cells 3 hc (by decide) (by decide)
    obtain ⟨b, hb, hbl⟩ := mulE_TUI one (1 + v) (by omega) (by omega) (by omega)
    have h4' : (one.length : Int) < 4 := by omega
    exact ⟨t1, l1, b, by simp [s_law_3, L, dCallG_e, h, h4', hb], by omega⟩
  · have h4' : ¬ (one.length : Int) < 4 := by omega
    exact ⟨t, l, one, by simp [s_law_3, L, h4'], by omega⟩
theorem w4 (ho : one.length ≤ 18) : s_law_4 (L a0 a1 a2 (.sh (TUI one)) .un .un .un .un .un .un .un .un .un) = .ok .nx (L a0 a1 a2 (.sh (TUI one)) (.ow (.L ((rots one).map TUI))) .un .un .un .un .un .un .un .un) := by
  have : one.length ≤ 1000 := by omega
  simp [s_law_4, L, dCall_e, o_turned, this]
theorem rev_at (l : List Int) (k : Nat) (hk : k < l.length) : atI l ((l.length : Int) - 1 - (k : Int)) = some (l.reverse[k]?.getD 0) := by
  have e : (l.length : Int) - 1 - (k : Int) = ((l.length - 1 - k : Nat) : Int) := by omega
  rw [e, atI_n (List.getElem?_eq_getElem (by omega)), List.getElem?_reverse hk, List.getElem?_eq_getElem (by omega)]
  rfl
theorem rev_map (l : List Int) : ((List.range l.length).map fun k => l.reverse[k]?.getD 0) = l.reverse := by
  refine ext_len (by simp) fun i hi => ?_
  have hi' : i < l.length := by simpa using hi
  rw [List.getElem?_map, List.getElem?_range hi']
  have : i < l.reverse.length := by simpa using hi'
  simp [List.getElem?_eq_getElem this]
theorem w5 (ho : one.length ≤ 18) : s_law_5 (L a0 a1 a2 (.sh (TUI one)) a5 .un .un .un .un .un .un .un .un) = .ok .nx (L a0 a1 a2 (.sh (TUI one)) a5 (.sh (TUI one.reverse)) .un .un .un .un .un .un .un) := by
  have hr := range_nat one.length
  have hR : RgB (one.length : Int) := RgB_nat (by omega)
  have hl := lcL_all (i := 4) (tmp := 17) (own := [4, 17]) (elt := c_law_1) (ρ := L a0 a1 a2 (.sh (TUI one)) a5 .un .un .un .un .un .un .un .un) (fun (k : Nat) => PyData.int (k : Int)) (fun k => PyData.int (one.reverse[k]?.getD 0)) (List.range one.length)
    (fun k hk a => ⟨.sh (.int (one.reverse[k]?.getD 0)), by simp [c_law_1, L, rev_at one k (List.mem_range.mp hk)], rfl⟩) (by simp [L]) (by simp [L]) (by simp [L]) (by simp; omega)
  have e : ((List.range one.length).map fun k => PyData.int (one.reverse[k]?.getD 0)) = one.reverse.map PyData.int := by
    have z := congrArg (List.map PyData.int) (rev_map one)
    rw [List.map_map] at z
    exact z
  rw [e] at hl
  simp [L] at hl
  simp [s_law_5, L, hr, hR, hl]
theorem w6 (hc : cells ≠ []) (ho : one.length ≤ 18) : ∃ t' l' b, s_law_6 (L a0 (.ow (DS t l cells)) a2 a3 (.ow (.L ((rots one).map TUI))) a6 .un .un .un .un .un .un .un) = .ok .nx (L a0 (.ow (DS t' l' cells)) a2 a3 (.ow (.L ((rots one).map TUI))) a6 (.sh (TUI b)) .un .un .un .un .un .un) ∧ b.length = one.length := by
  have hlen : (rots one).length = max 1 one.length := by simp [rots]
  obtain ⟨v, t1, l1, h, h0, h1⟩ := o_draw t l cells ((rots one).length : Int) hc (by omega) (by omega)
  obtain ⟨n, rfl⟩ : ∃ n : Nat, v = n := ⟨v.toNat, by omega⟩
  have hn : n < (rots one).length := by omega
  refine ⟨t1, l1, (rots one)[n], ?_, len_rots (List.getElem_mem hn)⟩
  have ha : atI ((rots one).map TUI) (n : Int) = some (TUI (rots one)[n]) := atI_n (by rw [List.getElem?_map, List.getElem?_eq_getElem hn]; rfl)
  simp [s_law_6, L, dCallG_e, h, ha]
theorem w7 (hc : cells ≠ []) : ∃ t' l' k, s_law_7 (L a0 (.ow (DS t l cells)) a2 a3 a5 a6 a7 .un .un .un .un .un .un) = .ok .nx (L a0 (.ow (DS t' l' cells)) a2 a3 a5 a6 a7 (.sh (.int k)) .un .un .un .un .un) := by
  obtain ⟨v, t1, l1, h, h0, h1⟩ := o_draw t l cells 4 hc (by decide) (by decide)
  exact ⟨t1, l1, v, by simp [s_law_7, L, dCallG_e, h]⟩
theorem eqD_int (i j : Int) : eqD (.int i) (.int j) = some (.sh (.bool (decide (i = j)))) := by
  unfold eqD
  rw [if_pos ⟨by simp [SeqAt.shaped, PyData.canLay0, PyData.depth], by simp [SeqAt.shaped, PyData.canLay0, PyData.depth]⟩]
  simp [PyData.eqv]
  rfl
theorem w8 {k : Int} (ho : other.length ≤ 18) : ∃ b, s_law_8 (L a0 a1 a2 a3 a5 a6 (.sh (TUI other)) (.sh (.int k)) .un .un .un .un .un) = .ok .nx (L a0 a1 a2 a3 a5 a6 (.sh (TUI b)) (.sh (.int k)) .un .un .un .un .un) ∧ b.length = other.length := by
  by_cases hk : k = 1
  · have hr := range_nat other.length
    have hR : RgB (other.length : Int) := RgB_nat (by omega)
    have hl := lcL_all (i := 4) (tmp := 18) (own := [4, 18]) (elt := c_law_2) (ρ := L a0 a1 a2 a3 a5 a6 (.sh (TUI other)) (.sh (.int k)) .un .un .un .un .un) (fun (k : Nat) => PyData.int (k : Int)) (fun k => PyData.int (other.reverse[k]?.getD 0)) (List.range other.length)
      (fun k hk a => ⟨.sh (.int (other.reverse[k]?.getD 0)), by simp [c_law_2, L, rev_at other k (List.mem_range.mp hk)], rfl⟩) (by simp [L]) (by simp [L]) (by simp [L]) (by simp; omega)
    have e : ((List.range other.length).map fun k => PyData.int (other.reverse[k]?.getD 0)) = other.reverse.map PyData.int := by
      have z := congrArg (List.map PyData.int) (rev_map other)
      rw [List.map_map] at z
      exact z
    rw [e] at hl
    subst hk
    simp [L] at hl
    exact ⟨other.reverse, by simp [s_law_8, L, eqD_int, hr, hR, hl], by simp⟩
  · exact ⟨other, by simp [s_law_8, L, eqD_int, hk], rfl⟩

theorem w9 {k : Int} (hc : cells ≠ []) (hw : 0 < w) (hw1 : w < 100) (ho : one.length ≤ 18) (ho2 : other.length = one.length) : ∃ t' l' b, s_law_9 (L a0 (.ow (DS t l cells)) (.sh (.int w)) (.sh (TUI one)) a5 a6 (.sh (TUI other)) (.sh (.int k)) .un .un .un .un .un) = .ok .nx (L a0 (.ow (DS t' l' cells)) (.sh (.int w)) (.sh (TUI one)) a5 a6 (.sh (TUI b)) (.sh (.int k)) .un .un .un .un .un) ∧ b.length = one.length := by
  by_cases hk : k = 2
  · subst hk
    obtain ⟨ds, s', g1, g2, g3⟩ := lcL_ex (i := 9) (tmp := 19) (own := [9, 19]) (elt := c_law_3) PyData.int (fun s : Int × Int => L a0 (.ow (DS s.1 s.2 cells)) (.sh (.int w)) (.sh (TUI one)) a5 a6 (.sh (TUI other)) (.sh (.int 2)) .un .un .un .un .un) (fun d => ∃ n, d = .int n) one (t, l) []
      (fun x hx s a => by
        obtain ⟨v, t2, l2, h, h0, h1⟩ := o_draw s.1 s.2 cells w hc hw (by omega)
        exact ⟨.sh (.int v), .int v, (t2, l2), by simp [c_law_3, L, dCallG_e, h], rfl, v, rfl⟩) (by simp [L]) (by simp [L]) (by simp [L]) (by simp; omega)
    obtain ⟨vs, rfl⟩ := ints_of g3
    refine ⟨s'.1, s'.2, vs, ?_, by simpa using g2⟩
    simp only [List.nil_append] at g1
    simp [L] at g1
    simp [s_law_9, L, eqD_int, g1]
  · exact ⟨t, l, other, by simp [s_law_9, L, eqD_int, hk], ho2⟩

@[simp] theorem slD_from1 (a : List Int) (k : Nat) : slD (some ((k : Int) + 1)) none (TUI a) = some (.sh (TUI (a.drop (k + 1)))) := by
  have := slD_from a (k + 1)
  push_cast at this
  exact this
@[simp] theorem tup_nil : PyData.tuple [] = TUI [] := rfl
@[simp] theorem tup_one (i : Int) : PyData.tuple [.int i] = TUI [i] := rfl
theorem w10 {k : Int} (hc : cells ≠ []) (ho : one.length ≤ 18) (ho2 : other.length = one.length) : ∃ t' l' b s10, s_law_10 (L a0 (.ow (DS t l cells)) a2 (.sh (TUI one)) a5 a6 (.sh (TUI other)) (.sh (.int k)) .un .un .un .un .un) = .ok .nx (L a0 (.ow (DS t' l' cells)) a2 (.sh (TUI one)) a5 a6 (.sh (TUI b)) (.sh (.int k)) s10 .un .un .un .un) ∧ b.length = one.length := by
  by_cases hk : k = 3 ∧ one ≠ []
  · obtain ⟨rfl, hne⟩ := hk
    have hpos : 0 < one.length := List.length_pos_iff.mpr hne
    obtain ⟨v, t1, l1, h, h0, h1⟩ := o_draw t l cells (one.length : Int) hc (by omega) (by omega)
    obtain ⟨n, rfl⟩ : ∃ n : Nat, v = n := ⟨v.toNat, by omega⟩
    have hn : n < other.length := by omega
    have ha : atI other (n : Int) = some other[n] := atI_n (List.getElem?_eq_getElem hn)
    refine ⟨t1, l1, other.take n ++ [other[n] + 1] ++ other.drop (n + 1), .sh (.int (n : Int)), ?_, by simp; omega⟩
    have e1 : addD (TUI (other.take n)) (TUI [other[n] + 1]) = some (.sh (TUI (other.take n ++ [other[n] + 1]))) := addD_TUI _ _ (by simp; omega)
    have e2 : addD (TUI (other.take n ++ [other[n] + 1])) (TUI (other.drop (n + 1))) = some (.sh (TUI (other.take n ++ [other[n] + 1] ++ other.drop (n + 1)))) := addD_TUI _ _ (by simp; omega)
    simp only [List.append_assoc] at e2 ⊢
    simp [s_law_10, L, eqD_int, hne, dSeq_e, dCallG_e, h, ha, e1, e2]
  · refine ⟨t, l, other, .un, ?_, ho2⟩
    by_cases h3 : k = 3
    · have hne : one = [] := Classical.byContradiction fun z => hk ⟨h3, z⟩
      simp [s_law_10, L, eqD_int, h3, hne]
    · simp [s_law_10, L, eqD_int, h3]
end
end K53
namespace K53
open PySem L2 DL
/-! what the sides know -/
theorem lr_spec (a : List Int) : lr a ∈ rots a ∧ ∀ y ∈ rots a, ¬ y < lr a := by
  rw [rots_eq]
  exact least_spec a _
theorem lr_iff (a b : List Int) : lr a = lr b ↔ b ∈ rots a := by
  constructor
  · intro h
    have h1 := (lr_spec a).1
    have h2 := (lr_spec b).1
    rw [← h] at h2
    exact rots_trans h1 (rots_symm h2)
  · intro h
    exact eq_of_nlt (fun z => (lr_spec b).2 _ ((rots_same h).mpr (lr_spec a).1) z) fun z => (lr_spec a).2 _ ((rots_same h).mp (lr_spec b).1) z
/-- the turns of a row and of its mirror -/
def both (a : List Int) : List (List Int) := rots a ++ rots a.reverse
theorem mem_both {a y : List Int} : y ∈ both a ↔ y ∈ rots a ∨ y ∈ rots a.reverse := by
  unfold both
  rw [List.mem_append]
theorem le2_spec (a : List Int) : le2 a ∈ both a ∧ ∀ y ∈ both a, ¬ y < le2 a := by
  unfold le2
  split
  · rename_i h
    refine ⟨mem_both.mpr (.inr (lr_spec _).1), fun y hy => ?_⟩
    rcases mem_both.mp hy with z | z
    · exact fun w => (lr_spec a).2 y z (List.lt_trans w h)
    · exact (lr_spec _).2 y z
  · rename_i h
    refine ⟨mem_both.mpr (.inl (lr_spec _).1), fun y hy => ?_⟩
    rcases mem_both.mp hy with z | z
    · exact (lr_spec _).2 y z
    · exact List.le_trans h ((lr_spec a.reverse).2 y z)
theorem both_same {a b : List Int} (h : b ∈ both a) (y : List Int) : y ∈ both b ↔ y ∈ both a := by
  rw [mem_both, mem_both]
  rcases mem_both.mp h with z | z
  · rw [rots_same z, rots_same (rots_rev z)]
  · have z2 := rots_rev z
    rw [List.reverse_reverse] at z2
    rw [rots_same z, rots_same z2]
    exact Or.comm
theorem both_symm {a b : List Int} (h : b ∈ both a) : a ∈ both b := (both_same h a).mpr (mem_both.mpr (.inl self_rots))
theorem le2_iff (a b : List Int) : le2 a = le2 b ↔ b ∈ both a := by
  constructor
  · intro h
    have h1 := (le2_spec a).1
    have h2 := (le2_spec b).1
    rw [← h] at h2
    exact (both_same h1 b).mp (both_symm h2)
  · intro h
    exact eq_of_nlt (fun z => (le2_spec b).2 _ ((both_same h _).mpr (le2_spec a).1) z) fun z => (le2_spec a).2 _ ((both_same h _).mp (le2_spec b).1) z
theorem minLD_rots (a : List Int) : minLD (.list ((rots a).map TUI)) = some (.sh (TUI (lr a))) := by
  rw [rots_eq, List.map_cons, minLD_TUI]
  rfl
theorem minLD_both (a : List Int) : minLD (.list ((rots a).map TUI ++ (rots a.reverse).map TUI)) = some (.sh (TUI (le2 a))) := by
  rw [← List.map_append]
  have e : rots a ++ rots a.reverse = both a := rfl
  rw [e]
  cases hb : both a with
  | nil =>
    exfalso
    have := (le2_spec a).1
    rw [hb] at this
    cases this
  | cons x xs =>
    rw [List.map_cons, minLD_TUI]
    obtain ⟨h1, h2⟩ := least_spec x xs
    rw [← hb] at h1 h2
    have : least x xs = le2 a := eq_of_nlt ((le2_spec a).2 _ h1) (h2 _ (le2_spec a).1)
    rw [this]
theorem inD_both (a b : List Int) : inD false (TUI b) (.list ((rots a).map TUI ++ (rots a.reverse).map TUI)) = some (.sh (.bool (decide (b ∈ both a)))) := by
  rw [← List.map_append, inD_TUI]
  simp [both]
theorem eqD_bool (a b : Bool) : eqD (.bool a) (.bool b) = some (.sh (.bool (decide (a = b)))) := by
  unfold eqD
  rw [if_pos ⟨by simp [SeqAt.shaped, PyData.canLay0, PyData.depth], by simp [SeqAt.shaped, PyData.canLay0, PyData.depth]⟩]
  simp [PyData.eqv]
  rfl
theorem neD_bool (a b : Bool) : neD (.bool a) (.bool b) = some (.sh (.bool (!decide (a = b)))) := by
  unfold neD
  rw [if_pos ⟨by simp [SeqAt.shaped, PyData.canLay0, PyData.depth], by simp [SeqAt.shaped, PyData.canLay0, PyData.depth]⟩]
  simp [PyData.eqv]
  rfl
theorem neD_int (i j : Int) : neD (.int i) (.int j) = some (.sh (.bool (!decide (i = j)))) := by
  unfold neD
  rw [if_pos ⟨by simp [SeqAt.shaped, PyData.canLay0, PyData.depth], by simp [SeqAt.shaped, PyData.canLay0, PyData.depth]⟩]
  simp [PyData.eqv]
  rfl
theorem not_longer (a : List Int) : a ++ [0] ∉ rots a := fun h => by
  have := len_rots h
  simp at this
section
variable {a0 a1 a2 a3 a5 a6 a7 a8 a10 a11 a12 a13 a14 : DL.Slot} {one other : List Int}
theorem w11 (ho : one.length ≤ 18) : s_law_11 (L a0 a1 a2 (.sh (TUI one)) (.ow (.L ((rots one).map TUI))) (.sh (TUI one.reverse)) (.sh (TUI other)) a8 a10 .un .un .un .un) = .ok .nx (L a0 a1 a2 (.sh (TUI one)) (.ow (.L ((rots one).map TUI))) (.sh (TUI one.reverse)) (.sh (TUI other)) a8 a10 (.sh (.bool (decide (other ∈ rots one)))) (.sh (.bool (decide (other ∈ both one)))) .un .un) := by
  have h : one.reverse.length ≤ 1000 := by simp; omega
  have hl : (rots one).length + (rots one.reverse).length ≤ 1000000 := by simp [rots]; omega
  simp [s_law_11, L, dCall_e, o_turned one.reverse h, hl, inD_both]
theorem w12 (ho : one.length ≤ 18) : s_law_12 (L a0 a1 a2 (.sh (TUI one)) a5 a6 (.sh (TUI other)) a8 a10 (.sh (.bool (decide (other ∈ rots one)))) (.sh (.bool (decide (other ∈ both one)))) .un .un) = .ok .nx (L a0 a1 a2 (.sh (TUI one)) a5 a6 (.sh (TUI other)) a8 a10 (.sh (.bool (decide (other ∈ rots one)))) (.sh (.bool (decide (other ∈ both one)))) .un .un) := by
  have h : one.length ≤ 1000 := by omega
  have e1 : addD (TUI one) (TUI [0]) = some (.sh (TUI (one ++ [0]))) := addD_TUI _ _ (by simp; omega)
  have e2 : outF F_are_alike_either_side [.sh (TUI one), .sh (TUI other)] = .ok (.sh (.bool (decide (other ∈ both one)))) := by
    rw [o_either one other h]
    simp [mem_both]
  simp [s_law_12, L, dCall_e, o_alike, h, o_same, e1, e2, not_longer]
theorem w13 (ho : one.length ≤ 18) : s_law_13 (L a0 a1 a2 (.sh (TUI one)) (.ow (.L ((rots one).map TUI))) (.sh (TUI one.reverse)) a7 a8 a10 a11 a12 .un .un) = .ok .nx (L a0 a1 a2 (.sh (TUI one)) (.ow (.L ((rots one).map TUI))) (.sh (TUI one.reverse)) a7 a8 a10 a11 a12 .un .un) := by
  have h : one.length ≤ 1000 := by omega
  have h' : one.reverse.length ≤ 1000 := by simp; omega
  have hl : (rots one).length + (rots one.reverse).length ≤ 1000000 := by simp [rots]; omega
  simp [s_law_13, L, dCall_e, o_plain, o_plain2, h, o_turned one.reverse h', hl, minLD_rots, minLD_both]
theorem w14 (ho : one.length ≤ 18) (ho2 : other.length ≤ 18) : s_law_14 (L a0 a1 a2 (.sh (TUI one)) a5 a6 (.sh (TUI other)) a8 a10 (.sh (.bool (decide (other ∈ rots one)))) (.sh (.bool (decide (other ∈ both one)))) .un .un) = .ok .nx (L a0 a1 a2 (.sh (TUI one)) a5 a6 (.sh (TUI other)) a8 a10 (.sh (.bool (decide (other ∈ rots one)))) (.sh (.bool (decide (other ∈ both one)))) .un .un) := by
  have h : one.length ≤ 1000 := by omega
  have h2 : other.length ≤ 1000 := by omega
  simp [s_law_14, L, dCall_e, o_plain, o_plain2, h, h2, neD_bool, lr_iff, le2_iff]
end
end K53
namespace K53
open PySem L2 DL
theorem shaped_ints (a : List Int) : SeqAt.shaped (.list (a.map .int)) = true := by
  unfold SeqAt.shaped
  rw [PyData.canLay0, PyData.depth, lay_ints, depth_ints]
  decide
theorem neD_ints (a : List Int) : neD (.list (a.map .int)) (.list []) = some (.sh (.bool (!decide (a = [])))) := by
  unfold neD
  have h2 := shaped_ints []
  rw [List.map_nil] at h2
  rw [if_pos ⟨shaped_ints a, h2⟩, PyData.eqv]
  have := eqv_ints a []
  rw [List.map_nil] at this
  rw [this]
theorem dec_irr (p : Prop) (i j : Decidable p) : @decide p i = @decide p j := by
  have : i = j := Subsingleton.elim i j
  rw [this]
/-- the steps that bring the row back -/
def steps (l : List Int) : List Nat := ((List.range l.length).map (· + 1)).filter fun k => decide (rotk l k = l)
section
variable {a0 a1 a2 a3 a5 a6 a7 a8 a10 a11 a12 a13 a14 : DL.Slot} {one other : List Int}
theorem range_one (n : Nat) : rangeL 1 ((n : Int) + 1) = ((List.range n).map (· + 1)).map fun (k : Nat) => PyData.int (k : Int) := by
  have := range1_nat (n + 1)
  push_cast at this
  rw [this, List.map_map]
  simp
theorem w15a (ho : one.length ≤ 18) : lcL (.nm 4) q_law_0 c_law_4 [4, 22] 22 (((List.range one.length).map (· + 1)).map fun (k : Nat) => PyData.int (k : Int)) [] (L a0 a1 a2 (.sh (TUI one)) a5 a6 a7 a8 a10 a11 a12 .un .un) = .ok ((steps one).map fun (k : Nat) => PyData.int (k : Int)) (L a0 a1 a2 (.sh (TUI one)) a5 a6 a7 a8 a10 a11 a12 .un .un) := by
  have hl := lcL_map (i := 4) (tmp := 22) (own := [4, 22]) (cnd := q_law_0) (elt := c_law_4) (ρ := L a0 a1 a2 (.sh (TUI one)) a5 a6 a7 a8 a10 a11 a12 .un .un) (fun (k : Nat) => PyData.int (k : Int)) (fun k => decide (rotk one k = one)) (fun (k : Nat) => PyData.int (k : Int)) ((List.range one.length).map (· + 1)) []
    (fun k hk a => by
      have : (one.drop k).length + (one.take k).length ≤ 1000000 := by simp; omega
      have e := addD_TUI (one.drop k) (one.take k) this
      simp [q_law_0, L, e, rotk]
      exact dec_irr _ _ _) (fun k hk _ a => ⟨.sh (.int (k : Int)), by simp [c_law_4, L], rfl⟩) (by simp [L]) (by simp [L]) (by simp [L]) (by simp; omega)
  have hs : (((List.range one.length).map (· + 1)).filter fun k => decide (rotk one k = one)) = steps one := rfl
  rw [hs, List.nil_append] at hl
  exact hl
theorem w15b (ho : one.length ≤ 18) : srcRng2 (evs [dC (.int 1), op2 addD (.e (op1 lenD (.b 3))) (.e (dC (.int 1)))]) (L a0 a1 a2 (.sh (TUI one)) a5 a6 a7 a8 a10 a11 a12 .un .un) = .ok (((List.range one.length).map (· + 1)).map fun (k : Nat) => PyData.int (k : Int)) (L a0 a1 a2 (.sh (TUI one)) a5 a6 a7 a8 a10 a11 a12 .un .un) := by
  have h1 : RgB 1 := ⟨by decide, by decide⟩
  have h2 : RgB ((one.length : Int) + 1) := ⟨by omega, by omega⟩
  have hr := range_one one.length
  have he : evs [dC (.int 1), op2 addD (.e (op1 lenD (.b 3))) (.e (dC (.int 1)))] (L a0 a1 a2 (.sh (TUI one)) a5 a6 a7 a8 a10 a11 a12 .un .un) = .ok [.int 1, .int ((one.length : Int) + 1)] (L a0 a1 a2 (.sh (TUI one)) a5 a6 a7 a8 a10 a11 a12 .un .un) := by
    simp [L]
  rw [srcRng2_ok he h1 h2, hr]
theorem w15 (ho : one.length ≤ 18) : s_law_15 (L a0 a1 a2 (.sh (TUI one)) a5 a6 a7 a8 a10 a11 a12 .un .un) = .ok .nx (L a0 a1 a2 (.sh (TUI one)) a5 a6 a7 a8 a10 a11 a12 (.ow (.L ((steps one).map fun (k : Nat) => PyData.int (k : Int)))) .un) := by
  have hl := w15a (a0 := a0) (a1 := a1) (a2 := a2) (a5 := a5) (a6 := a6) (a7 := a7) (a8 := a8) (a10 := a10) (a11 := a11) (a12 := a12) ho
  have hb := w15b (a0 := a0) (a1 := a1) (a2 := a2) (a5 := a5) (a6 := a6) (a7 := a7) (a8 := a8) (a10 := a10) (a11 := a11) (a12 := a12) ho
  simp only [s_law_15, dSet_e, dLc_e, hb, bind_ok]
  simp only [L] at hl ⊢
  simp [hl, -List.map_map]
theorem w16 (ho : one.length ≤ 18) : s_law_16 (L a0 a1 a2 (.sh (TUI one)) a5 a6 a7 a8 a10 a11 a12 a13 .un) = .ok .nx (L a0 a1 a2 (.sh (TUI one)) a5 a6 a7 a8 a10 a11 a12 a13 (.sh (.int (uniq (rots one)).length))) := by
  have h : one.length < 60 := by omega
  simp [s_law_16, L, dCall_e, o_many, h]
theorem ints_nat (ks : List Nat) : (ks.map fun (k : Nat) => PyData.int (k : Int)) = (ks.map fun (k : Nat) => (k : Int)).map PyData.int := by
  rw [List.map_map]
  rfl
theorem w17 : s_law_17 (L a0 a1 a2 (.sh (TUI one)) a5 a6 a7 a8 a10 a11 a12 (.ow (.L ((steps one).map fun (k : Nat) => PyData.int (k : Int)))) (.sh (.int (uniq (rots one)).length))) = .ok .nx (L a0 a1 a2 (.sh (TUI one)) a5 a6 a7 a8 a10 a11 a12 (.ow (.L ((steps one).map fun (k : Nat) => PyData.int (k : Int)))) (.sh (.int (uniq (rots one)).length))) := by
  have hne := neD_ints ((steps one).map fun (k : Nat) => (k : Int))
  rw [← ints_nat] at hne
  by_cases h0 : 0 < one.length
  · obtain ⟨p, r, h1, h2, h3, h4⟩ := steps_all h0
    have hst : steps one = p :: r := h1
    rw [hst] at hne ⊢
    rw [h2]
    have hix : atI ((p :: r).map fun (k : Nat) => PyData.int (k : Int)) 0 = some (.int (p : Int)) := atI_n (i := 0) rfl
    simp only [List.map_cons] at hix hne
    simp [s_law_17, L, hne, hix, neD_int, dCall_e, o_int]
  · have : one = [] := List.eq_nil_of_length_eq_zero (by omega)
    subst this
    have hst : steps ([] : List Int) = [] := rfl
    rw [hst] at hne ⊢
    have hu : (uniq (rots ([] : List Int))).length = 1 := by decide
    rw [hu]
    simp only [List.map_nil] at hne
    simp [s_law_17, L, hne, neD_int, dCall_e, o_int]
theorem pairKs_rows : ∀ xs : List (List Int), pairKs (xs.map fun x => PyData.tuple [TUI x, .int 1]) = some xs
  | [] => rfl
  | x :: xs => by
    rw [List.map_cons]
    show pairKs (.tuple [.tuple (x.map .int), .int 1] :: _) = _
    unfold pairKs
    simp only [intsOf_map, pairKs_rows xs]
theorem w18 (ho : one.length ≤ 18) : Rets s_law_18 (L a0 a1 a2 (.sh (TUI one)) (.ow (.L ((rots one).map TUI))) a6 a7 a8 a10 a11 a12 a13 (.sh (.int (uniq (rots one)).length))) (.sh (.bool true)) := by
  by_cases h0 : 0 < one.length
  · obtain ⟨p, r, h1, h2, h3, h4⟩ := steps_all h0
    have hne : one ≠ [] := List.length_pos_iff.mp h0
    have hz : ¬ ((one.length : Int) = 0) := by omega
    have hp : (0 : Int) < (p : Int) := by omega
    have hmod : (one.length : Int) % (p : Int) = 0 := by
      have : (one.length : Int) % (p : Int) = ((one.length % p : Nat) : Int) := rfl
      rw [this, h3]
      rfl
    have hl := lcL_all (i := 15) (tmp := 23) (own := [15, 23]) (elt := c_law_5) (ρ := L a0 a1 a2 (.sh (TUI one)) (.sh (.list ((rots one).map TUI))) a6 a7 a8 a10 a11 a12 a13 (.sh (.int (uniq (rots one)).length))) TUI (fun x => PyData.tuple [TUI x, .int 1]) (rots one)
      (fun x hx a => ⟨.sh (.tuple [TUI x, .int 1]), by simp [c_law_5, L], rfl⟩) (by simp [L]) (by simp [L]) (by simp [L]) (by simp [rots]; omega)
    have hd : lenDictD (.list ((rots one).map fun x => PyData.tuple [TUI x, .int 1])) = some (.sh (.int (uniq (rots one)).length)) := by
      simp only [lenDictD, pairKs_rows]
      rw [if_pos (by simp [rots]; omega)]
    simp only [L] at hl
    rw [h2] at hl hd ⊢
    unfold Rets
    simp [s_law_18, L, eqD_int, hz, hne, h4, hmod, hl, hd]
  · have : one = [] := List.eq_nil_of_length_eq_zero (by omega)
    subst this
    unfold Rets
    simp [s_law_18, L, eqD_int]
end
theorem law_pure (ns : List Int) (h : ns.length ≤ 63) : ∃ ρ, F_law [.sh (scrD ns)] = .ok (.sh (.bool true)) ρ := by
  have hR : Rets d_law (L (.sh (scrD ns)) .un .un .un .un .un .un .un .un .un .un .un .un) (.sh (.bool true)) := by
    unfold d_law
    refine Rets.seq (w0 ns h) ?_
    have hc : ns.map (fun n => if n < 0 then -n else n) ++ [0] ≠ [] := by simp
    generalize ns.map (fun n => if n < 0 then -n else n) ++ [0] = cells at hc
    obtain ⟨t1, l1, w, e1, b1, b2⟩ := w1 (a0 := .sh (scrD ns)) (t := 0) (l := 0) hc
    refine Rets.seq e1 ?_
    obtain ⟨t2, l2, one0, e2, b3⟩ := w2 (a0 := .sh (scrD ns)) (t := t1) (l := l1) hc b1 b2
    refine Rets.seq e2 ?_
    obtain ⟨t3, l3, one, e3, b4⟩ := w3 (a0 := .sh (scrD ns)) (a2 := .sh (.int w)) (t := t2) (l := l2) hc b3
    refine Rets.seq e3 (Rets.seq (w4 b4) (Rets.seq (w5 b4) ?_))
    obtain ⟨t6, l6, o6, e6, b6⟩ := w6 (a0 := .sh (scrD ns)) (a2 := .sh (.int w)) (a3 := .sh (TUI one)) (a6 := .sh (TUI one.reverse)) (t := t3) (l := l3) hc b4
    refine Rets.seq e6 ?_
    obtain ⟨t7, l7, k, e7⟩ := w7 (a0 := .sh (scrD ns)) (a2 := .sh (.int w)) (a3 := .sh (TUI one)) (a5 := .ow (.L ((rots one).map TUI))) (a6 := .sh (TUI one.reverse)) (a7 := .sh (TUI o6)) (t := t6) (l := l6) hc
    refine Rets.seq e7 ?_
    obtain ⟨o8, e8, b8⟩ := w8 (a0 := .sh (scrD ns)) (a1 := .ow (DS t7 l7 cells)) (a2 := .sh (.int w)) (a3 := .sh (TUI one)) (a5 := .ow (.L ((rots one).map TUI))) (a6 := .sh (TUI one.reverse)) (other := o6) (k := k) (by omega)
    refine Rets.seq e8 ?_
    obtain ⟨t9, l9, o9, e9, b9⟩ := w9 (a0 := .sh (scrD ns)) (a5 := .ow (.L ((rots one).map TUI))) (a6 := .sh (TUI one.reverse)) (one := one) (other := o8) (k := k) (t := t7) (l := l7) hc b1 b2 b4 (by omega)
    refine Rets.seq e9 ?_
    obtain ⟨t10, l10, o10, s10, e10, b10⟩ := w10 (a0 := .sh (scrD ns)) (a2 := .sh (.int w)) (a5 := .ow (.L ((rots one).map TUI))) (a6 := .sh (TUI one.reverse)) (one := one) (other := o9) (k := k) (t := t9) (l := l9) hc b4 b9
    refine Rets.seq e10 ?_
    exact Rets.seq (w11 b4) (Rets.seq (w12 b4) (Rets.seq (w13 b4) (Rets.seq (w14 b4 (by omega)) (Rets.seq (w15 b4) (Rets.seq (w16 b4) (Rets.seq w17 (w18 b4)))))))
  have ho := outF_of (n := 24) (m := d_law) (args := [.sh (scrD ns)]) (rv := .sh (.bool true)) hR
  unfold outF at ho
  show ∃ ρ, runF 24 d_law _ = _
  cases hq : runF 24 d_law [.sh (scrD ns)] with
  | ok rv ρ =>
    rw [hq] at ho
    cases ho
    exact ⟨ρ, rfl⟩
  | exc k ρ => rw [hq] at ho; cases ho
  | no => rw [hq] at ho; cases ho
end K53
open PySem PySem.W PyProof.Rows
set_option maxRecDepth 100000 in
set_option maxHeartbeats 0 in
theorem PySem.Challenge.cw_mendyard_k53_whole_rows_round_rings_holds : PySem.Challenge.rw_mendyard_k53_whole_rows_round_rings.Holds := by
  w_on; o_law; k_head; (case hw => w_witness2)
  k_fill
  refine DL.walk_end (l := PySem.Challenge.rw_mendyard_k53_whole_rows_round_rings) (lev := 4) (F := K53.F_law) rfl rfl ⟨rfl, by decide, by decide⟩ (fun w h Y => PySem.W.kIn_of Y) K53.law_pure ?F
  case F =>
    intro w mg fa h KX G hmg
    refine' K53.all_mk KX G hmg ?a_turns_of ?l_turns_of ?c_turns_of ?k_turns_of ?a_are_alike ?l_are_alike ?c_are_alike ?k_are_alike ?a_are_alike_either_side ?l_are_alike_either_side ?c_are_alike_either_side ?k_are_alike_either_side ?a_plain_round ?l_plain_round ?c_plain_round ?k_plain_round ?a_plain_either_side ?l_plain_either_side ?c_plain_either_side ?k_plain_either_side ?a_how_many_round ?l_how_many_round ?c_how_many_round ?k_how_many_round ?a__law_open ?l__law_open ?c__law_open ?k__law_open ?a__law_mixed ?l__law_mixed ?c__law_mixed ?k__law_mixed ?a__law_draw ?l__law_draw ?c__law_draw ?k__law_draw ?a__law_int ?l__law_int ?c__law_int ?k__law_int ?a__law_same ?l__law_same ?c__law_same ?k__law_same ?a__law_turned ?l__law_turned ?c__law_turned ?k__law_turned ?a_law ?l_law ?c_law ?k_law ?z_abs ?z_bool ?z_dict ?z_int ?z_isinstance ?z_len ?z_max ?z_min ?z_range ?z_tuple
    (case a_turns_of => k_is)
    (case l_turns_of => k_is)
    (case c_turns_of => k_is)
    (case k_turns_of => k_is)
    (case a_are_alike => k_is)
    (case l_are_alike => k_is)
    (case c_are_alike => k_is)
    (case k_are_alike => k_is)
    (case a_are_alike_either_side => k_is)
    (case l_are_alike_either_side => k_is)
    (case c_are_alike_either_side => k_is)
    (case k_are_alike_either_side => k_is)
    (case a_plain_round => k_is)
    (case l_plain_round => k_is)
    (case c_plain_round => k_is)
    (case k_plain_round => k_is)
    (case a_plain_either_side => k_is)
    (case l_plain_either_side => k_is)
    (case c_plain_either_side => k_is)
    (case k_plain_either_side => k_is)
    (case a_how_many_round => k_is)
    (case l_how_many_round => k_is)
    (case c_how_many_round => k_is)
    (case k_how_many_round => k_is)
    (case a__law_open => k_is)
    (case l__law_open => k_is)
    (case c__law_open => k_is)
    (case k__law_open => k_is)
    (case a__law_mixed => k_is)
    (case l__law_mixed => k_is)
    (case c__law_mixed => k_is)
    (case k__law_mixed => k_is)
    (case a__law_draw => k_is)
    (case l__law_draw => k_is)
    (case c__law_draw => k_is)
    (case k__law_draw => k_is)
    (case a__law_int => k_is)
    (case l__law_int => k_is)
    (case c__law_int => k_is)
    (case k__law_int => k_is)
    (case a__law_same => k_is)
    (case l__law_same => k_is)
    (case c__law_same => k_is)
    (case k__law_same => k_is)
    (case a__law_turned => k_is)
    (case l__law_turned => k_is)
    (case c__law_turned => k_is)
    (case k__law_turned => k_is)
    (case a_law => k_is)
    (case l_law => k_is)
    (case c_law => k_is)
    (case k_law => k_is)
    (case z_abs => k_is)
    (case z_bool => k_is)
    (case z_dict => k_is)
    (case z_int => k_is)
    (case z_isinstance => k_is)
    (case z_len => k_is)
    (case z_max => k_is)
    (case z_min => k_is)
    (case z_range => k_is)
    (case z_tuple => k_is)
#print axioms PySem.Challenge.cw_mendyard_k53_whole_rows_round_rings_holds
