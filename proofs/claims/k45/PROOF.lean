import PyProof.Rows.All
import Wide.All
import OpenK.AllK
import Wide.FinOn
import HandS.ForMost
import HandS.Walk
import HandS.Wide
import HandS.TupAny
import HandS.Conv
import HandS.Deep
import HandS.SortInts
import HandS.RaiseMore
import HandS.Style
import HandS.Iter
import HandS.Zip
import HandS.Comp
import HandS.Defaults
import HandS.HeadEnd
import HandS.Rev
import HandS.RevTup
import KE.GoesMore
import HandS.TupLe
import KE.SortUse
import PySem.Challenge.RW_fromsomestepon_k45_whole_main_gone_throu
import HandS.Head0
import HandS.Head1
import HandS.Head2
import HandS.HeadHook1
import HandS.HeadHook2
import HandS.Words
import HandS.WordsExc
import KE.KStateDown
/-! Wk1 -/
set_option Elab.async false
set_option linter.all false
set_option maxRecDepth 100000
set_option maxHeartbeats 4000000
/-! Wk1: data, trees, the state of a frame -/
namespace Wk
open PySem PySem.Spec PyProof.Rows L2

def Ext (H H' : Hp) : Prop := ∀ a o, H a = some o → H' a = some o
theorem Ext.rfl {H : Hp} : Ext H H := fun _ _ h => h
theorem Ext.tr {H H1 H2 : Hp} (p : Ext H H1) (q : Ext H1 H2) : Ext H H2 := fun a o h => q a o (p a o h)
theorem Ext.nw {H : Hp} {p : Addr} {o : HO} (h : H p = none) : Ext H (upd H p o) := fun a u e => by
  rw [upd_ne (ne_of_none e h)]; exact e

mutual
/-- v stands for the datum d; no list of it lies in M -/
inductive Rp (K : PySem.W.Frag) (M : Addr → Prop) (H : Hp) : V → PyData → Prop
  | non : Rp K M H .non .none
  | bl (b : Bool) : Rp K M H (.bl b) (.bool b)
  | int (i : Int) : Rp K M H (.int i) (.int i)
  | str (x : Str) : Rp K M H (.str x) (.str x)
  | lst {a : Addr} {vs : List V} {ds : List PyData} : H a = some (.lst vs) → ¬ M a → RpL K M H vs ds → Rp K M H (.ref a) (.list ds)
  | tup {a : Addr} {vs : List V} {ds : List PyData} : Rd H a (.tup vs) → ¬ M a → RpL K M H vs ds → Rp K M H (.ref a) (.tuple ds)
inductive RpL (K : PySem.W.Frag) (M : Addr → Prop) (H : Hp) : List V → List PyData → Prop
  | nil : RpL K M H [] []
  | cons {v : V} {d : PyData} {vs : List V} {ds : List PyData} : Rp K M H v d → RpL K M H vs ds → RpL K M H (v :: vs) (d :: ds)
end

/-- what carries data from one state to another -/
structure Tr (M M' : Addr → Prop) (H H' : Hp) : Prop where
  m : ∀ a, M' a → M a ∨ H a = none
  k : ∀ a o, H a = some o → ¬ M a → H' a = some o
section
variable {K : PySem.W.Frag} {M M' : Addr → Prop} {H H' : Hp}
theorem Tr.rd (t : Tr M M' H H') {a : Addr} {u : HO} (h : Rd H a u) (n : ¬ M a) : Rd H' a u := by
  rcases h with h | ⟨o, h⟩
  · exact .inl (t.k _ _ h n)
  · exact .inr ⟨o, t.k _ _ h n⟩
theorem Tr.nm (t : Tr M M' H H') {a : Addr} {u : HO} (h : Rd H a u) (n : ¬ M a) : ¬ M' a := fun z => by
  rcases t.m a z with z | z
  · exact n z
  · rcases h with h | ⟨o, h⟩ <;> (rw [z] at h; cases h)
mutual
theorem Rp.tr (t : Tr M M' H H') : ∀ {v : V} {d : PyData}, Rp K M H v d → Rp K M' H' v d
  | _, _, .non => .non
  | _, _, .bl b => .bl b
  | _, _, .int i => .int i
  | _, _, .str x => .str x
  | _, _, .lst r n l => .lst (t.k _ _ r n) (t.nm (.inl r) n) (RpL.tr t l)
  | _, _, .tup r n l => .tup (t.rd r n) (t.nm r n) (RpL.tr t l)
theorem RpL.tr (t : Tr M M' H H') : ∀ {vs : List V} {ds : List PyData}, RpL K M H vs ds → RpL K M' H' vs ds
  | _, _, .nil => .nil
  | _, _, .cons a l => .cons (Rp.tr t a) (RpL.tr t l)
end
theorem RpL.len : ∀ {vs : List V} {ds : List PyData}, RpL K M H vs ds → vs.length = ds.length
  | _, _, .nil => rfl
  | _, _, .cons _ l => congrArg (· + 1) l.len
theorem RpL.get : ∀ {vs : List V} {ds : List PyData} {i : Nat} {d : PyData}, RpL K M H vs ds → ds[i]? = some d → ∃ v, vs[i]? = some v ∧ Rp K M H v d
  | _, _, _, _, .nil, e => by simp at e
  | _, _, 0, _, .cons a _, e => by
    simp only [List.getElem?_cons_zero, Option.some.injEq] at e
    subst e
    exact ⟨_, rfl, a⟩
  | _, _, i + 1, _, .cons _ l, e => by
    simp only [List.getElem?_cons_succ] at e
    obtain ⟨v, h, r⟩ := RpL.get l e
    exact ⟨v, by simpa using h, r⟩
theorem RpL.app : ∀ {vs ws : List V} {ds es : List PyData}, RpL K M H vs ds → RpL K M H ws es → RpL K M H (vs ++ ws) (ds ++ es)
  | _, _, _, _, .nil, q => q
  | _, _, _, _, .cons a l, q => .cons a (RpL.app l q)
theorem RpL.snoc {vs : List V} {ds : List PyData} {v : V} {d : PyData} (l : RpL K M H vs ds) (a : Rp K M H v d) : RpL K M H (vs ++ [v]) (ds ++ [d]) := l.app (.cons a .nil)
theorem RpL.take : ∀ {vs : List V} {ds : List PyData} (n : Nat), RpL K M H vs ds → RpL K M H (vs.take n) (ds.take n)
  | _, _, 0, _ => by simpa using RpL.nil
  | _, _, _ + 1, .nil => .nil
  | _, _, n + 1, .cons a l => .cons a (RpL.take n l)
theorem RpL.drop : ∀ {vs : List V} {ds : List PyData} (n : Nat), RpL K M H vs ds → RpL K M H (vs.drop n) (ds.drop n)
  | _, _, 0, l => l
  | _, _, _ + 1, .nil => .nil
  | _, _, n + 1, .cons _ l => RpL.drop n l
theorem RpL.set {v : V} {d : PyData} (a : Rp K M H v d) : ∀ {vs : List V} {ds : List PyData} (i : Nat), RpL K M H vs ds → RpL K M H (vs.set i v) (ds.set i d)
  | _, _, _, .nil => .nil
  | _, _, 0, .cons _ l => .cons a l
  | _, _, i + 1, .cons b l => .cons b (RpL.set a i l)
theorem RpL.eraseIdx : ∀ {vs : List V} {ds : List PyData} (i : Nat), RpL K M H vs ds → RpL K M H (vs.eraseIdx i) (ds.eraseIdx i)
  | _, _, _, .nil => .nil
  | _, _, 0, .cons _ l => l
  | _, _, i + 1, .cons b l => .cons b (RpL.eraseIdx i l)
theorem RpL.rev : ∀ {vs : List V} {ds : List PyData}, RpL K M H vs ds → RpL K M H vs.reverse ds.reverse
  | _, _, .nil => .nil
  | _, _, .cons a l => by
    rw [List.reverse_cons, List.reverse_cons]
    exact l.rev.snoc a
theorem RpL.ints : ∀ {vs : List V} {ns : List Int}, RpL K M H vs (ns.map PyData.int) → vs = ns.map V.int
  | _, [], .nil => rfl
  | _, _ :: _, .cons a l => by
    cases a
    rw [RpL.ints l]; rfl
theorem RpL.ofInts : ∀ (ns : List Int), RpL K M H (ns.map V.int) (ns.map PyData.int)
  | [] => .nil
  | n :: r => .cons (.int n) (RpL.ofInts r)
theorem RpL.bools : ∀ {vs : List V} {ns : List Bool}, RpL K M H vs (ns.map PyData.bool) → vs = ns.map V.bl
  | _, [], .nil => rfl
  | _, _ :: _, .cons a l => by
    cases a
    rw [RpL.bools l]; rfl
theorem RpL.strs : ∀ {vs : List V} {ns : List Str}, RpL K M H vs (ns.map PyData.str) → vs = ns.map V.str
  | _, [], .nil => rfl
  | _, _ :: _, .cons a l => by
    cases a
    rw [RpL.strs l]; rfl
mutual
theorem Rp.dp : ∀ {v : V} {d : PyData}, Rp K M H v d → Dp K H v d
  | _, _, .non => .non
  | _, _, .bl b => .bl b
  | _, _, .int i => .int i
  | _, _, .str x => .str x
  | _, _, .lst r _ l => .lst (.inl (.inl r)) (RpL.dp l)
  | _, _, .tup r _ l => .tup (.inl r) (RpL.dp l)
theorem RpL.dp : ∀ {vs : List V} {ds : List PyData}, RpL K M H vs ds → DpAll K H vs ds
  | _, _, .nil => .nil
  | _, _, .cons a l => .cons (Rp.dp a) (RpL.dp l)
end
end

/-! ### trees: data that is written no more, and own lists and dicts -/
inductive OT where
  | d (x : PyData)
  | l (xs : List OT)
  | k (kvs : List (Key × PyData))
  | t (kvs : List (List Key × PyData))
  /-- a list of ints that is only read (the script) -/
  | f (ns : List Int)

def RpK {κ : Type} (K : PySem.W.Frag) (M : Addr → Prop) (H : Hp) : List (κ × V) → List (κ × PyData) → Prop := Paired fun (p : κ × V) (q : κ × PyData) => p.1 = q.1 ∧ Rp K M H p.2 q.2
theorem RpK.tr {K : PySem.W.Frag} {κ : Type} {M M' : Addr → Prop} {H H' : Hp} (t : Tr M M' H H') {ps : List (κ × V)} {qs : List (κ × PyData)} (h : RpK K M H ps qs) : RpK K M' H' ps qs :=
  Paired.mapP h fun _ _ z => ⟨z.1, z.2.tr t⟩

/-- a list of ints that is only read -/
def FrL (K : PySem.W.Frag) (M : Addr → Prop) (H : Hp) (a : Addr) (ns : List Int) : Prop :=
  (Rd H a (.lst (ns.map V.int)) ∧ ¬ M a) ∨ ∃ (o : Obj) (its : Array Value) (n : Nat), K.lookup a = some o ∧ o.cls = .type "list" ∧ o.dict = none ∧ o.data = .seq its n ∧ its.size ≤ sizeLine ∧ Vals (ns.map V.int) its.toList
theorem FrL.tr {K : PySem.W.Frag} {M M' : Addr → Prop} {H H' : Hp} (t : Tr M M' H H') {a : Addr} {ns : List Int} (h : FrL K M H a ns) : FrL K M' H' a ns := h.imp (fun z => ⟨t.rd z.1 z.2, t.nm z.1 z.2⟩) id
theorem FrL.sq {K : PySem.W.Frag} {M : Addr → Prop} {H : Hp} {a : Addr} {ns : List Int} (h : FrL K M H a ns) : SqL K H a (ns.map V.int) := h.imp (fun z => z.1) id
mutual
/-- v owns the tree o; its own addresses are as -/
inductive Tk (K : PySem.W.Frag) (M : Addr → Prop) (H : Hp) : V → OT → List Addr → Prop
  | d {v : V} {x : PyData} : Rp K M H v x → Tk K M H v (.d x) []
  | l {p : Addr} {vs : List V} {xs : List OT} {as : List Addr} : H p = some (.lst vs) → TkL K M H vs xs as → Tk K M H (.ref p) (.l xs) (p :: as)
  | k {p : Addr} {ps : List (Key × V)} {qs : List (Key × PyData)} : H p = some (.dK ps) → RpK K M H ps qs → Tk K M H (.ref p) (.k qs) [p]
  | t {p : Addr} {ps : List (List Key × V)} {qs : List (List Key × PyData)} : H p = some (.dT ps) → RpK K M H ps qs → Tk K M H (.ref p) (.t qs) [p]
  | f {p : Addr} {ns : List Int} : FrL K M H p ns → Tk K M H (.ref p) (.f ns) []
inductive TkL (K : PySem.W.Frag) (M : Addr → Prop) (H : Hp) : List V → List OT → List Addr → Prop
  | nil : TkL K M H [] [] []
  | cons {v : V} {o : OT} {as : List Addr} {vs : List V} {xs : List OT} {bs : List Addr} : Tk K M H v o as → TkL K M H vs xs bs → TkL K M H (v :: vs) (o :: xs) (as ++ bs)
end
mutual
/-- the same, only to be read -/
inductive Bv (K : PySem.W.Frag) (M : Addr → Prop) (H : Hp) : V → OT → Prop
  | d {v : V} {x : PyData} : Rp K M H v x → Bv K M H v (.d x)
  | l {p : Addr} {vs : List V} {xs : List OT} : H p = some (.lst vs) → BvL K M H vs xs → Bv K M H (.ref p) (.l xs)
  | k {p : Addr} {ps : List (Key × V)} {qs : List (Key × PyData)} : Rd H p (.dK ps) → RpK K M H ps qs → Bv K M H (.ref p) (.k qs)
  | t {p : Addr} {ps : List (List Key × V)} {qs : List (List Key × PyData)} : Rd H p (.dT ps) → RpK K M H ps qs → Bv K M H (.ref p) (.t qs)
  | f {p : Addr} {ns : List Int} : FrL K M H p ns → Bv K M H (.ref p) (.f ns)
inductive BvL (K : PySem.W.Frag) (M : Addr → Prop) (H : Hp) : List V → List OT → Prop
  | nil : BvL K M H [] []
  | cons {v : V} {o : OT} {vs : List V} {xs : List OT} : Bv K M H v o → BvL K M H vs xs → BvL K M H (v :: vs) (o :: xs)
end
section
variable {K : PySem.W.Frag} {M M' : Addr → Prop} {H H' : Hp}
mutual
theorem Tk.tr (t : Tr M M' H H') : ∀ {v : V} {o : OT} {as : List Addr}, Tk K M H v o as → (∀ a ∈ as, ∀ u, H a = some u → H' a = some u) → Tk K M' H' v o as
  | _, _, _, .d r, _ => .d (r.tr t)
  | _, _, _, .l e l, k => .l (k _ List.mem_cons_self _ e) (TkL.tr t l fun a ha => k a (List.mem_cons_of_mem _ ha))
  | _, _, _, .k e l, k => .k (k _ List.mem_cons_self _ e) (l.tr t)
  | _, _, _, .t e l, k => .t (k _ List.mem_cons_self _ e) (l.tr t)
  | _, _, _, .f e, _ => .f (e.tr t)
theorem TkL.tr (t : Tr M M' H H') : ∀ {vs : List V} {xs : List OT} {as : List Addr}, TkL K M H vs xs as → (∀ a ∈ as, ∀ u, H a = some u → H' a = some u) → TkL K M' H' vs xs as
  | _, _, _, .nil, _ => .nil
  | _, _, _, .cons a l, k => .cons (Tk.tr t a fun b hb => k b (List.mem_append_left _ hb)) (TkL.tr t l fun b hb => k b (List.mem_append_right _ hb))
end
mutual
theorem Tk.bv : ∀ {v : V} {o : OT} {as : List Addr}, Tk K M H v o as → Bv K M H v o
  | _, _, _, .d r => .d r
  | _, _, _, .l e l => .l e (TkL.bv l)
  | _, _, _, .k e l => .k (.inl e) l
  | _, _, _, .t e l => .t (.inl e) l
  | _, _, _, .f e => .f e
theorem TkL.bv : ∀ {vs : List V} {xs : List OT} {as : List Addr}, TkL K M H vs xs as → BvL K M H vs xs
  | _, _, _, .nil => .nil
  | _, _, _, .cons a l => .cons (Tk.bv a) (TkL.bv l)
end
/-- all that stood stands -/
structure Tx (M M' : Addr → Prop) (H H' : Hp) : Prop where
  m : ∀ a, M' a → M a ∨ H a = none
  k : Ext H H'
theorem Tx.to (t : Tx M M' H H') : Tr M M' H H' := ⟨t.m, fun a o e _ => t.k a o e⟩
theorem Ext.rd (t : Ext H H') {a : Addr} {u : HO} (h : Rd H a u) : Rd H' a u := by
  rcases h with h | ⟨o, h⟩
  · exact .inl (t _ _ h)
  · exact .inr ⟨o, t _ _ h⟩
theorem Ext.sq (t : Ext H H') {a : Addr} {vs : List V} (h : SqL K H a vs) : SqL K H' a vs := h.imp t.rd id
mutual
theorem Bv.tx (t : Tx M M' H H') : ∀ {v : V} {o : OT}, Bv K M H v o → Bv K M' H' v o
  | _, _, .d r => .d (r.tr t.to)
  | _, _, .l e l => .l (t.k _ _ e) (BvL.tx t l)
  | _, _, .k e l => .k (t.k.rd e) (l.tr t.to)
  | _, _, .t e l => .t (t.k.rd e) (l.tr t.to)
  | _, _, .f e => .f (e.tr t.to)
theorem BvL.tx (t : Tx M M' H H') : ∀ {vs : List V} {xs : List OT}, BvL K M H vs xs → BvL K M' H' vs xs
  | _, _, .nil => .nil
  | _, _, .cons a l => .cons (Bv.tx t a) (BvL.tx t l)
end
theorem RpL.bv : ∀ {vs : List V} {ds : List PyData}, RpL K M H vs ds → BvL K M H vs (ds.map OT.d)
  | _, _, .nil => .nil
  | _, _, .cons a l => .cons (.d a) (RpL.bv l)
theorem RpL.tk : ∀ {vs : List V} {ds : List PyData}, RpL K M H vs ds → TkL K M H vs (ds.map OT.d) []
  | _, _, .nil => .nil
  | _, _, .cons a l => TkL.cons (as := []) (.d a) (RpL.tk l)
theorem BvL.rp : ∀ {vs : List V} {ds : List PyData}, BvL K M H vs (ds.map OT.d) → RpL K M H vs ds
  | _, [], .nil => .nil
  | _, _ :: _, .cons a l => by
    cases a with
    | d r => exact .cons r (BvL.rp l)
theorem TkL.rp : ∀ {vs : List V} {ds : List PyData} {as : List Addr}, TkL K M H vs (ds.map OT.d) as → RpL K M H vs ds ∧ as = []
  | _, [], _, .nil => ⟨.nil, rfl⟩
  | _, _ :: _, _, .cons a l => by
    cases a with
    | d r =>
      obtain ⟨q, e⟩ := TkL.rp l
      exact ⟨.cons r q, by rw [e]; rfl⟩
theorem Bv.rp {v : V} {x : PyData} (h : Bv K M H v (.d x)) : Rp K M H v x := by cases h; assumption
/-- a list of data, read as a list -/
theorem Bv.lv {v : V} {ds : List PyData} (h : Bv K M H v (.d (.list ds))) : Bv K M H v (.l (ds.map OT.d)) := by
  cases h with
  | d r =>
    cases r with
    | lst e _ l => exact .l e l.bv
/-- a list that is read: where it stands and what stands in it -/
theorem Bv.lst {v : V} {ds : List PyData} (h : Bv K M H v (.l (ds.map OT.d))) : ∃ a vs, v = .ref a ∧ H a = some (.lst vs) ∧ RpL K M H vs ds := by
  cases h with
  | l e l => exact ⟨_, _, rfl, e, l.rp⟩
theorem Bv.tup {v : V} {ds : List PyData} (h : Bv K M H v (.d (.tuple ds))) : ∃ a vs, v = .ref a ∧ Rd H a (.tup vs) ∧ RpL K M H vs ds := by
  cases h with
  | d r =>
    cases r with
    | tup e _ l => exact ⟨_, _, rfl, e, l⟩
theorem Bv.int {v : V} {i : Int} (h : Bv K M H v (.d (.int i))) : v = .int i := by
  cases h with
  | d r => cases r; rfl
theorem Bv.bool {v : V} {b : Bool} (h : Bv K M H v (.d (.bool b))) : v = .bl b := by
  cases h with
  | d r => cases r; rfl
theorem Bv.str {v : V} {x : Str} (h : Bv K M H v (.d (.str x))) : v = .str x := by
  cases h with
  | d r => cases r; rfl
theorem Bv.none {v : V} (h : Bv K M H v (.d .none)) : v = .non := by
  cases h with
  | d r => cases r; rfl
end
end Wk

/-! Wk2 -/
set_option Elab.async false
set_option linter.all false
set_option maxRecDepth 100000
set_option maxHeartbeats 4000000
/-! Wk2: the state of a frame -/
namespace Wk
open PySem PySem.Spec PyProof.Rows L2
abbrev St : Type := L2.St

/-- what a slot holds: nothing that is told; a tree (b: it came in as an argument) -/
inductive SE where
  | z
  | s (b : Bool) (t : OT)
@[simp] def gt : List SE → Nat → SE
  | [], _ => .z
  | e :: _, 0 => e
  | _ :: r, n + 1 => gt r n
structure Ct where
  H0 : Hp
  ex : Addr → Prop
  Av : Addr → Prop
  fix : List (Nat × V)
  K : PySem.W.Frag
  exav : ∀ a, ex a → Av a
  fix0 : ∀ p ∈ fix, p.1 = 0
def Own (c : Ct) (b : Bool) (a : Addr) : Prop := (b = true ∧ c.ex a) ∨ (c.H0 a = none ∧ ¬ c.Av a)
def Ent (c : Ct) (M : Addr → Prop) (H : Hp) (x : Option V) (e : SE) (as : List Addr) : Prop := match e with
  | .z => as = []
  | .s b t => ∃ v, x = some v ∧ Tk c.K M H v t as ∧ ∀ a ∈ as, Own c b a
inductive Sl (c : Ct) (M : Addr → Prop) (H : Hp) : List SE → St → List Addr → Prop
  | nil : Sl c M H [] [] []
  | cons {e : SE} {x : Option V} {as : List Addr} {es : List SE} {σ : St} {bs : List Addr} : Ent c M H x e as → Sl c M H es σ bs → Sl c M H (e :: es) (x :: σ) (as ++ bs)

section
variable {K : PySem.W.Frag} {c : Ct} {M M' : Addr → Prop} {H H' : Hp}
mutual
theorem Tk.trk : ∀ {v : V} {o : OT} {as : List Addr}, Tk K M H v o as → ∀ a ∈ as, H a ≠ none
  | _, _, _, .d _, a, h => by simp at h
  | _, _, _, .l e l, a, h => by
    rcases List.mem_cons.mp h with z | z
    · rw [z, e]; simp
    · exact TkL.trk l a z
  | _, _, _, .k e _, a, h => by
    rw [List.mem_singleton] at h
    rw [h, e]; simp
  | _, _, _, .t e _, a, h => by
    rw [List.mem_singleton] at h
    rw [h, e]; simp
  | _, _, _, .f _, a, h => by simp at h
theorem TkL.trk : ∀ {vs : List V} {xs : List OT} {as : List Addr}, TkL K M H vs xs as → ∀ a ∈ as, H a ≠ none
  | _, _, _, .nil, a, h => by simp at h
  | _, _, _, .cons x l, a, h => by
    rcases List.mem_append.mp h with z | z
    · exact Tk.trk x a z
    · exact TkL.trk l a z
end
theorem Ent.trk {x : Option V} {e : SE} {as : List Addr} (h : Ent c M H x e as) : ∀ a ∈ as, H a ≠ none := by
  cases e with
  | z => intro a z; rw [show as = [] from h] at z; simp at z
  | s b t => obtain ⟨v, _, k, _⟩ := h; exact k.trk
theorem Ent.tr (t : Tr M M' H H') {x : Option V} {e : SE} {as : List Addr} (h : Ent c M H x e as) (k : ∀ a ∈ as, ∀ u, H a = some u → H' a = some u) : Ent c M' H' x e as := by
  cases e with
  | z => exact h
  | s b o => obtain ⟨v, e1, q, w⟩ := h; exact ⟨v, e1, q.tr t k, w⟩
theorem Sl.trk : ∀ {es : List SE} {σ : St} {as : List Addr}, Sl c M H es σ as → ∀ a ∈ as, H a ≠ none
  | _, _, _, .nil, a, h => by simp at h
  | _, _, _, .cons x l, a, h => by
    rcases List.mem_append.mp h with z | z
    · exact x.trk a z
    · exact l.trk a z
theorem Sl.tr (t : Tr M M' H H') : ∀ {es : List SE} {σ : St} {as : List Addr}, Sl c M H es σ as → (∀ a ∈ as, ∀ u, H a = some u → H' a = some u) → Sl c M' H' es σ as
  | _, _, _, .nil, _ => .nil
  | _, _, _, .cons x l, k => .cons (x.tr t fun a h => k a (List.mem_append_left _ h)) (l.tr t fun a h => k a (List.mem_append_right _ h))
theorem Sl.len : ∀ {es : List SE} {σ : St} {as : List Addr}, Sl c M H es σ as → es.length = σ.length
  | _, _, _, .nil => rfl
  | _, _, _, .cons _ l => congrArg (· + 1) l.len
/-- the i-th slot apart -/
theorem Sl.split : ∀ {es : List SE} {σ : St} {as : List Addr} {i : Nat}, Sl c M H es σ as → i < es.length →
    ∃ as1 ai as2 x, as = as1 ++ (ai ++ as2) ∧ σ[i]? = some x ∧ Ent c M H x (gt es i) ai ∧
      ∀ (M' : Addr → Prop) (H' : Hp) (x' : Option V) (e' : SE) (ai' : List Addr), Tr M M' H H' → (∀ a, a ∈ as1 ∨ a ∈ as2 → ∀ u, H a = some u → H' a = some u) → Ent c M' H' x' e' ai' → Sl c M' H' (es.set i e') (σ.set i x') (as1 ++ (ai' ++ as2))
  | _, _, _, i, .nil, h => absurd h (Nat.not_lt_zero i)
  | _, _, _, 0, .cons (as := a1) (bs := b1) x l, _ => ⟨[], a1, b1, _, rfl, rfl, x, fun M' H' x' e' ai' t k q => show Sl c M' H' (e' :: _) (x' :: _) (ai' ++ b1) from .cons q (l.tr t fun a h => k a (.inr h))⟩
  | _, _, _, i + 1, .cons (as := a1) (bs := b1) x l, h => by
    obtain ⟨s1, ai, s2, y, e1, e2, q, f⟩ := Sl.split (i := i) l (Nat.lt_of_succ_lt_succ h)
    subst e1
    refine ⟨a1 ++ s1, ai, s2, y, by rw [List.append_assoc], by simpa using e2, q, fun M' H' x' e' ai' t k q' => ?_⟩
    rw [List.append_assoc]
    refine .cons (x.tr t fun a h => k a (.inl (List.mem_append_left _ h))) (f M' H' x' e' ai' t (fun a h => k a ?_) q')
    rcases h with h | h
    · exact .inl (List.mem_append_right _ h)
    · exact .inr h
theorem gt_lt : ∀ {es : List SE} {i : Nat} {b : Bool} {t : OT}, gt es i = .s b t → i < es.length
  | [], _, _, _, h => nomatch h
  | _ :: _, 0, _, _, _ => Nat.succ_pos _
  | _ :: es, i + 1, _, _, h => Nat.succ_lt_succ (gt_lt (es := es) h)
theorem set_self : ∀ {σ : St} {i : Nat} {x : Option V}, σ[i]? = some x → σ.set i x = σ
  | [], _, _, h => by simp at h
  | y :: r, 0, x, h => by
    have e : y = x := by simpa using h
    rw [e]; rfl
  | y :: r, i + 1, x, h => by
    have q : r[i]? = some x := by simpa using h
    show y :: r.set i x = y :: r
    rw [set_self q]
end

def Mf (c : Ct) (as : List Addr) : Addr → Prop := fun a => c.Av a ∨ a ∈ as
/-- a temporary value: to be read; owned -/
inductive TO where
  | b (o : OT)
  | w (o : OT)
inductive Tm (c : Ct) (M : Addr → Prop) (H : Hp) : List V → List TO → List Addr → Prop
  | nil : Tm c M H [] [] []
  | b {v : V} {o : OT} {tv : List V} {ts : List TO} {as : List Addr} : Bv c.K M H v o → Tm c M H tv ts as → Tm c M H (v :: tv) (.b o :: ts) as
  | w {v : V} {o : OT} {bs : List Addr} {tv : List V} {ts : List TO} {as : List Addr} : Tk c.K M H v o bs → (∀ a ∈ bs, Own c false a) → Tm c M H tv ts as → Tm c M H (v :: tv) (.w o :: ts) (bs ++ as)
/-- nothing among them is borrowed of a slot -/
def AllD : List TO → Prop
  | [] => True
  | .b (.d _) :: r => AllD r
  | .b (.f _) :: r => AllD r
  | .w _ :: r => AllD r
  | _ :: _ => False
section
variable {K : PySem.W.Frag} {c : Ct} {M M' : Addr → Prop} {H H' : Hp}
theorem Tm.tr (t : Tr M M' H H') : ∀ {tv : List V} {ts : List TO} {as : List Addr}, Tm c M H tv ts as → AllD ts → (∀ a ∈ as, ∀ u, H a = some u → H' a = some u) → Tm c M' H' tv ts as
  | _, _, _, .nil, _, _ => .nil
  | _, _, _, .b (.d r) l, h, k => .b (.d (r.tr t)) (Tm.tr t l h k)
  | _, _, _, .b (.l _ _) _, h, _ => h.elim
  | _, _, _, .b (.k _ _) _, h, _ => h.elim
  | _, _, _, .b (.t _ _) _, h, _ => h.elim
  | _, _, _, .b (.f r) l, h, k => .b (.f (r.tr t)) (Tm.tr t l h k)
  | _, _, _, .w q o l, h, k => .w (q.tr t fun a ha => k a (List.mem_append_left _ ha)) o (Tm.tr t l h fun a ha => k a (List.mem_append_right _ ha))
theorem Tm.tx (t : Tx M M' H H') : ∀ {tv : List V} {ts : List TO} {as : List Addr}, Tm c M H tv ts as → Tm c M' H' tv ts as
  | _, _, _, .nil => .nil
  | _, _, _, .b r l => .b (r.tx t) (l.tx t)
  | _, _, _, .w q o l => .w (q.tr t.to fun a _ u e => t.k a u e) o (l.tx t)
theorem Tm.trk : ∀ {tv : List V} {ts : List TO} {as : List Addr}, Tm c M H tv ts as → ∀ a ∈ as, H a ≠ none
  | _, _, _, .nil, a, h => by simp at h
  | _, _, _, .b _ l, a, h => l.trk a h
  | _, _, _, .w q _ l, a, h => by
    rcases List.mem_append.mp h with z | z
    · exact q.trk a z
    · exact l.trk a z
end

structure RlA (c : Ct) (ts : List TO) (tv : List V) (es : List SE) (σ : St) (H : Hp) (as bs : List Addr) : Prop where
  nd : (as ++ bs).Nodup
  sl : Sl c (Mf c (as ++ bs)) H es σ bs
  tm : Tm c (Mf c (as ++ bs)) H tv ts as
  keep : ∀ a o, c.H0 a = some o → ¬ c.ex a → H a = some o
  av : ∀ a, c.Av a → H a ≠ none
  fix : ∀ p ∈ c.fix, σ[p.1]? = some (some p.2)
/-- the state: the temporary values tv stand for ts, the slots σ for es -/
def Rl (c : Ct) (ts : List TO) (tv : List V) (es : List SE) (σ : St) (H : Hp) : Prop := ∃ as bs, RlA c ts tv es σ H as bs

section
variable {K : PySem.W.Frag} {c : Ct} {ts : List TO} {tv : List V} {es : List SE} {σ : St} {H H' : Hp} {as bs : List Addr}
theorem RlA.trk (r : RlA c ts tv es σ H as bs) : ∀ a ∈ as ++ bs, H a ≠ none := fun a z => (List.mem_append.mp z).elim (r.tm.trk a) (r.sl.trk a)
theorem RlA.nw (r : RlA c ts tv es σ H as bs) {p : Addr} (h : H p = none) : c.H0 p = none ∧ ¬ c.Av p ∧ p ∉ as ++ bs := by
  have na : ¬ c.Av p := fun z => r.av p z h
  refine ⟨?_, na, fun z => r.trk p z h⟩
  cases q : c.H0 p with
  | none => rfl
  | some o =>
    have := r.keep p o q fun z => na (c.exav p z)
    rw [h] at this; cases this
/-- all that stood stands -/
theorem RlA.ext (r : RlA c ts tv es σ H as bs) (k : Ext H H') : RlA c ts tv es σ H' as bs :=
  ⟨r.nd, r.sl.tr ⟨fun _ z => .inl z, fun a o e _ => k a o e⟩ fun a _ u e => k a u e, r.tm.tx ⟨fun _ z => .inl z, k⟩, fun a o e n => k a o (r.keep a o e n), fun a z => by
    cases q : H a with
    | none => exact absurd q (r.av a z)
    | some o => rw [k a o q]; simp, r.fix⟩
theorem Rl.ext (r : Rl c ts tv es σ H) (k : Ext H H') : Rl c ts tv es σ H' := let ⟨as, bs, a⟩ := r; ⟨as, bs, a.ext k⟩
theorem Rl.push (r : Rl c ts tv es σ H) {o : OT} {v : V} (f : ∀ M as, Tm c M H tv ts as → Bv c.K M H v o) : Rl c (.b o :: ts) (v :: tv) es σ H :=
  let ⟨as, bs, a⟩ := r; ⟨as, bs, a.nd, a.sl, .b (f _ _ a.tm) a.tm, a.keep, a.av, a.fix⟩
/-- the temporaries told otherwise; own ones may be forgotten -/
theorem Rl.mapT (r : Rl c ts tv es σ H) {ts' : List TO} {tv' : List V} (f : ∀ M as, Tm c M H tv ts as → ∃ as', as'.Sublist as ∧ Tm c M H tv' ts' as') : Rl c ts' tv' es σ H := by
  obtain ⟨as, bs, a⟩ := r
  obtain ⟨as', s, t'⟩ := f _ _ a.tm
  have sub : ∀ b, b ∈ as' ++ bs → b ∈ as ++ bs := fun b z => (s.append (List.Sublist.refl bs)).subset z
  have t : Tx (Mf c (as ++ bs)) (Mf c (as' ++ bs)) H H := ⟨fun b z => .inl (z.imp id (sub b)), Ext.rfl⟩
  exact ⟨as', bs, a.nd.sublist (s.append (List.Sublist.refl bs)), a.sl.tr t.to fun _ _ _ z => z, t'.tx t, a.keep, a.av, a.fix⟩
theorem Rl.pop {o : TO} {v : V} (r : Rl c (o :: ts) (v :: tv) es σ H) : Rl c ts tv es σ H := r.mapT fun M as h => by
  cases h with
  | b _ l => exact ⟨_, List.Sublist.refl _, l⟩
  | w _ _ l => exact ⟨_, List.sublist_append_right _ _, l⟩
/-- the one beneath goes -/
theorem Rl.pop2 {o o' : TO} {v v' : V} (r : Rl c (o :: o' :: ts) (v :: v' :: tv) es σ H) : Rl c (o :: ts) (v :: tv) es σ H := r.mapT fun M as h => by
  cases h with
  | b q l =>
    cases l with
    | b _ l => exact ⟨_, List.Sublist.refl _, .b q l⟩
    | w _ _ l => exact ⟨_, List.sublist_append_right _ _, .b q l⟩
  | w q ow l =>
    cases l with
    | b _ l => exact ⟨_, List.Sublist.refl _, .w q ow l⟩
    | w _ _ l => exact ⟨_, (List.Sublist.refl _).append (List.sublist_append_right _ _), .w q ow l⟩
theorem Rl.tms (r : Rl c ts tv es σ H) : ∃ M as, Tm c M H tv ts as := let ⟨_, _, a⟩ := r; ⟨_, _, a.tm⟩
theorem Rl.top {o : OT} {v : V} (r : Rl c (.b o :: ts) (v :: tv) es σ H) : ∃ M, Bv c.K M H v o := by
  obtain ⟨M, as, h⟩ := r.tms
  cases h with
  | b x _ => exact ⟨_, x⟩
theorem Rl.int (r : Rl c ts tv es σ H) (i : Int) : Rl c (.b (.d (.int i)) :: ts) (.int i :: tv) es σ H := r.push fun _ _ _ => .d (.int i)
theorem Rl.bool (r : Rl c ts tv es σ H) (b : Bool) : Rl c (.b (.d (.bool b)) :: ts) (.bl b :: tv) es σ H := r.push fun _ _ _ => .d (.bl b)
theorem Rl.str (r : Rl c ts tv es σ H) (x : Str) : Rl c (.b (.d (.str x)) :: ts) (.str x :: tv) es σ H := r.push fun _ _ _ => .d (.str x)
theorem Rl.non (r : Rl c ts tv es σ H) : Rl c (.b (.d .none) :: ts) (.non :: tv) es σ H := r.push fun _ _ _ => .d .non
/-- a name's value -/
theorem Rl.var (r : Rl c ts tv es σ H) {i : Nat} {b : Bool} {t : OT} (h : gt es i = .s b t) : ∃ v, σ[i]? = some (some v) ∧ Rl c (.b t :: ts) (v :: tv) es σ H := by
  obtain ⟨as, bs, a⟩ := r
  obtain ⟨s1, ai, s2, x, e1, e2, q, f⟩ := a.sl.split (gt_lt h)
  rw [h] at q
  obtain ⟨v, ex, k, w⟩ := q
  subst ex
  exact ⟨v, e2, as, bs, a.nd, a.sl, .b k.bv a.tm, a.keep, a.av, a.fix⟩
/-- a new tuple of what stands -/
theorem Rl.newT (r : Rl c ts tv es σ H) {p : Addr} {vs : List V} {ds : List PyData} (h : H p = none) (f : ∀ M as, Tm c M H tv ts as → RpL c.K M H vs ds) : Rl c (.b (.d (.tuple ds)) :: ts) (.ref p :: tv) es σ (upd H p (.tup vs)) := by
  obtain ⟨as, bs, a⟩ := r
  have n := a.nw h
  have b := a.ext (Ext.nw (o := .tup vs) h)
  refine ⟨as, bs, b.nd, b.sl, .b (.d (.tup (.inl upd_same) (fun z => ?_) ?_)) b.tm, b.keep, b.av, b.fix⟩
  · exact z.elim n.2.1 n.2.2
  · exact (f _ _ a.tm).tr ⟨fun _ z => .inl z, fun x o e _ => Ext.nw h x o e⟩
/-- a new list of what stands, owned -/
theorem Rl.newL (r : Rl c ts tv es σ H) {p : Addr} {vs : List V} {ds : List PyData} (h : H p = none) (f : ∀ M as, Tm c M H tv ts as → RpL c.K M H vs ds) :
    Rl c (.w (.l (ds.map .d)) :: ts) (.ref p :: tv) es σ (upd H p (.lst vs)) := by
  obtain ⟨as, bs, a⟩ := r
  have n := a.nw h
  have b := a.ext (Ext.nw (o := .lst vs) h)
  have t : Tx (Mf c (as ++ bs)) (Mf c ((p :: as) ++ bs)) H (upd H p (.lst vs)) := ⟨fun x z => by
    rcases z with z | z
    · exact .inl (.inl z)
    · rcases List.mem_cons.mp z with z | z
      · exact .inr (z ▸ h)
      · exact .inl (.inr z), Ext.nw h⟩
  refine ⟨[p] ++ as, bs, List.nodup_cons.mpr ⟨n.2.2, a.nd⟩, a.sl.tr t.to fun x _ u e => Ext.nw h x u e, .w (.l upd_same ((f _ _ a.tm).tr t.to).tk) (fun x z => ?_) (a.tm.tx t), b.keep, b.av, b.fix⟩
  rw [List.mem_singleton] at z
  exact .inr (z ▸ ⟨n.1, n.2.1⟩)

/-! ### freezing, storing -/
def fz : OT → Option PyData
  | .d x => some x
  | .l xs => (fzL xs).map .list
  | .k _ => none
  | .t _ => none
  | .f _ => none
where fzL : List OT → Option (List PyData)
  | [] => some []
  | x :: r => match fz x, fzL r with
    | some a, some b => some (a :: b)
    | _, _ => none
mutual
theorem Tk.fz {M M' : Addr → Prop} {H : Hp} (m : ∀ a, M' a → M a) : ∀ {v : V} {o : OT} {as : List Addr} {x : PyData}, Tk K M H v o as → (∀ a ∈ as, ¬ M' a) → Wk.fz o = some x → Rp K M' H v x
  | _, _, _, x, .d r, _, e => by
    have z : _ = x := Option.some.inj (show some _ = some x from e)
    rw [← z]
    exact r.tr ⟨fun a q => .inl (m a q), fun a o q _ => q⟩
  | _, _, _, x, .l (xs := xs) e0 l, n, e => by
    have e' : (fz.fzL xs).map PyData.list = some x := by rw [Wk.fz] at e; exact e
    cases q : fz.fzL xs with
    | none => rw [q] at e'; cases e'
    | some ds =>
      rw [q] at e'
      have z : PyData.list ds = x := Option.some.inj e'
      rw [← z]
      exact .lst e0 (n _ List.mem_cons_self) (TkL.fz m l (fun a h => n a (List.mem_cons_of_mem _ h)) q)
  | _, _, _, _, .k _ _, _, e => by rw [Wk.fz] at e; cases e
  | _, _, _, _, .t _ _, _, e => by rw [Wk.fz] at e; cases e
  | _, _, _, _, .f _, _, e => by rw [Wk.fz] at e; cases e
theorem TkL.fz {M M' : Addr → Prop} {H : Hp} (m : ∀ a, M' a → M a) : ∀ {vs : List V} {xs : List OT} {as : List Addr} {ds : List PyData}, TkL K M H vs xs as → (∀ a ∈ as, ¬ M' a) → fz.fzL xs = some ds → RpL K M' H vs ds
  | _, _, _, ds, .nil, _, e => by
    have z : [] = ds := Option.some.inj (show some [] = some ds from e)
    rw [← z]; exact .nil
  | _, _, _, ds, .cons (o := o) (xs := xs) a l, n, e => by
    rw [fz.fzL] at e
    cases q1 : Wk.fz o with
    | none => rw [q1] at e; cases e
    | some y =>
      cases q2 : fz.fzL xs with
      | none => rw [q1, q2] at e; cases e
      | some ys =>
        rw [q1, q2] at e
        have z : y :: ys = ds := Option.some.inj e
        rw [← z]
        exact .cons (Tk.fz m a (fun b h => n b (List.mem_append_left _ h)) q1) (TkL.fz m l (fun b h => n b (List.mem_append_right _ h)) q2)
end
theorem Rl.len (r : Rl c ts tv es σ H) : es.length = σ.length := let ⟨_, _, a⟩ := r; a.sl.len
/-- an own tree becomes data -/
theorem Rl.freeze {o : OT} {v : V} {x : PyData} (r : Rl c (.w o :: ts) (v :: tv) es σ H) (e : fz o = some x) : Rl c (.b (.d x) :: ts) (v :: tv) es σ H := by
  obtain ⟨as, bs, a⟩ := r
  have tm := a.tm
  cases tm with
  | w q ow l =>
    rename_i cs as
    have sub : ∀ b, b ∈ as ++ bs → b ∈ cs ++ as ++ bs := fun b z => by
      simp only [List.mem_append] at z ⊢
      exact z.elim (fun z => .inl (.inr z)) .inr
    have nd := a.nd
    rw [List.append_assoc] at nd
    obtain ⟨n1, n2, n3⟩ := List.nodup_append.mp nd
    have t : Tx (Mf c (cs ++ as ++ bs)) (Mf c (as ++ bs)) H H := ⟨fun b z => .inl (z.imp id (sub b)), Ext.rfl⟩
    refine ⟨as, bs, n2, a.sl.tr t.to fun _ _ _ z => z, .b (.d (q.fz (fun b z => z.imp id (sub b)) (fun b hb z => ?_) e)) (l.tx t), a.keep, a.av, a.fix⟩
    rcases z with z | z
    · rcases ow b hb with u | u
      · exact Bool.noConfusion u.1
      · exact u.2 z
    · exact n3 b hb b z rfl
theorem set_fix {i : Nat} {x : Option V} (h : ∀ p ∈ c.fix, σ[p.1]? = some (some p.2)) (n : ∀ p ∈ c.fix, p.1 ≠ i) : ∀ p ∈ c.fix, (σ.set i x)[p.1]? = some (some p.2) := fun p hp => by
  rw [List.getElem?_set_ne (Ne.symm (n p hp))]
  exact h p hp
theorem nd_perm {l l' r : List Addr} (h : l.Nodup) (p : l.Perm (r ++ l')) : l'.Nodup := (List.nodup_append.mp ((p.nodup_iff).mp h)).2.1
/-- what is told of a temporary, told of a slot -/
@[simp] def seOf : TO → SE
  | .b (.d x) => .s false (.d x)
  | .w o => .s false o
  | .b _ => .z
/-- the topmost temporary goes into a slot -/
theorem Rl.move {i : Nat} {o : TO} {v : V} (r : Rl c (o :: ts) (v :: tv) es σ H) (hi : i < es.length) (n : ∀ p ∈ c.fix, p.1 ≠ i) : Rl c ts tv (es.set i (seOf o)) (σ.set i (some v)) H := by
  obtain ⟨as, bs, a⟩ := r
  obtain ⟨u1, ai, u2, y, e2, e3, q2, f⟩ := a.sl.split hi
  subst e2
  have tm := a.tm
  cases tm with
  | b q l =>
    have sub : ∀ b, b ∈ as ++ (u1 ++ ([] ++ u2)) → b ∈ as ++ (u1 ++ (ai ++ u2)) := fun b z => by
      simp only [List.mem_append, List.nil_append] at z ⊢
      rcases z with z | z | z
      · exact .inl z
      · exact .inr (.inl z)
      · exact .inr (.inr (.inr z))
    have t : Tx (Mf c (as ++ (u1 ++ (ai ++ u2)))) (Mf c (as ++ (u1 ++ ([] ++ u2)))) H H := ⟨fun b z => .inl (z.imp id (sub b)), Ext.rfl⟩
    refine ⟨as, u1 ++ ([] ++ u2), nd_perm (r := ai) a.nd (List.perm_iff_count.mpr fun b => by simp only [List.count_append, List.nil_append]; omega), f _ H (some v) _ [] t.to (fun _ _ _ z => z) ?_, l.tx t, a.keep, a.av, set_fix a.fix n⟩
    cases q with
    | d q => exact ⟨v, rfl, .d (q.tr t.to), fun _ z => absurd z (by simp)⟩
    | l _ _ => exact Eq.refl []
    | k _ _ => exact Eq.refl []
    | t _ _ => exact Eq.refl []
    | f _ => exact Eq.refl []
  | w q ow l =>
    rename_i cs as
    have sub : ∀ b, b ∈ as ++ (u1 ++ (cs ++ u2)) → b ∈ cs ++ as ++ (u1 ++ (ai ++ u2)) := fun b z => by
      simp only [List.mem_append] at z ⊢
      rcases z with z | z | z | z
      · exact .inl (.inr z)
      · exact .inr (.inl z)
      · exact .inl (.inl z)
      · exact .inr (.inr (.inr z))
    have t : Tx (Mf c (cs ++ as ++ (u1 ++ (ai ++ u2)))) (Mf c (as ++ (u1 ++ (cs ++ u2)))) H H := ⟨fun b z => .inl (z.imp id (sub b)), Ext.rfl⟩
    exact ⟨as, u1 ++ (cs ++ u2), nd_perm (r := ai) a.nd (List.perm_iff_count.mpr fun b => by simp only [List.count_append]; omega), f _ H (some v) _ cs t.to (fun _ _ _ z => z) ⟨v, rfl, q.tr t.to fun _ _ _ z => z, ow⟩, l.tx t, a.keep, a.av, set_fix a.fix n⟩
/-- some of the slots, the others forgotten -/
inductive Pk : List SE → St → List SE → St → Prop
  | n {es : List SE} {σ : St} : Pk [] [] es σ
  | k {e : SE} {x : Option V} {es' es : List SE} {ws σ : St} : Pk es' ws es σ → Pk (e :: es') (x :: ws) (e :: es) (x :: σ)
  | w {e : SE} {x y : Option V} {es' es : List SE} {ws σ : St} : Pk es' ws es σ → Pk (.z :: es') (y :: ws) (e :: es) (x :: σ)
theorem Sl.pick {M : Addr → Prop} : ∀ {es' es : List SE} {ws σ : St} {as : List Addr}, Pk es' ws es σ → Sl c M H es σ as → ∃ bs, bs.Sublist as ∧ Sl c M H es' ws bs
  | _, _, _, _, _, .n, _ => ⟨[], List.nil_sublist _, .nil⟩
  | _, _, _, _, _, .k h, .cons (as := a1) q l => by
    obtain ⟨bs, s, l'⟩ := Sl.pick h l
    exact ⟨a1 ++ bs, (List.Sublist.refl a1).append s, .cons q l'⟩
  | _, _, _, _, _, .w h, .cons (as := a1) q l => by
    obtain ⟨bs, s, l'⟩ := Sl.pick h l
    refine ⟨bs, s.trans (List.sublist_append_right _ _), ?_⟩
    exact Sl.cons (as := []) (show Ent c M H _ .z [] from Eq.refl []) l'
theorem Rl.pick {es' : List SE} {ws : St} (r : Rl c ts tv es σ H) (h : Pk es' ws es σ) (hf : ∀ p ∈ c.fix, ws[p.1]? = some (some p.2)) : Rl c ts tv es' ws H := by
  obtain ⟨as, bs, a⟩ := r
  obtain ⟨cs, s, l⟩ := a.sl.pick h
  have s' : (as ++ cs).Sublist (as ++ bs) := (List.Sublist.refl as).append s
  have t : Tx (Mf c (as ++ bs)) (Mf c (as ++ cs)) H H := ⟨fun b z => .inl (z.imp id fun z => s'.subset z), Ext.rfl⟩
  exact ⟨as, cs, a.nd.sublist s', l.tr t.to fun _ _ _ z => z, a.tm.tx t, a.keep, a.av, hf⟩
/-- es' tells less than es -/
inductive Le : List SE → List SE → Prop
  | n : Le [] []
  | k {e : SE} {es es' : List SE} : Le es es' → Le (e :: es) (e :: es')
  | w {e : SE} {es es' : List SE} : Le es es' → Le (.z :: es) (e :: es')
theorem Le.rfl : ∀ {es : List SE}, Le es es
  | [] => .n
  | _ :: _ => .k Le.rfl
theorem Le.pk : ∀ {es' es : List SE} {σ : St}, Le es' es → es.length = σ.length → Pk es' σ es σ
  | _, _, [], .n, _ => .n
  | _, _, _ :: _, .k h, e => .k (h.pk (Nat.succ.inj e))
  | _, _, _ :: _, .w h, e => .w (h.pk (Nat.succ.inj e))
theorem Rl.le {es' : List SE} (r : Rl c ts tv es σ H) (h : Le es' es) : Rl c ts tv es' σ H := r.pick (h.pk r.len) (let ⟨_, _, a⟩ := r; a.fix)

/-! ### an own list is changed -/
theorem TkL.len {M : Addr → Prop} {H : Hp} : ∀ {vs : List V} {xs : List OT} {as : List Addr}, TkL K M H vs xs as → vs.length = xs.length
  | _, _, _, .nil => rfl
  | _, _, _, .cons _ l => congrArg (· + 1) l.len
theorem upn {H : Hp} {x p : Addr} {o u : HO} (n : x ≠ p) (h : H x = some u) : upd H p o x = some u := by rw [upd_ne n]; exact h
theorem TkL.sub {ys : List OT} {M : Addr → Prop} {H : Hp} : ∀ {vs : List V} {xs : List OT} {as : List Addr} {j : Nat}, TkL K M H vs xs as → xs[j]? = some (.l ys) → ∃ q ws a1 ac a2, as = a1 ++ (q :: ac ++ a2) ∧ vs[j]? = some (.ref q) ∧ H q = some (.lst ws) ∧ TkL K M H ws ys ac ∧
      ∀ (M' : Addr → Prop) (H' : Hp) (ws' : List V) (ys' : List OT), Tr M M' H H' → (∀ a, a ∈ a1 ∨ a ∈ a2 → ∀ u, H a = some u → H' a = some u) → H' q = some (.lst ws') → TkL K M' H' ws' ys' ac → TkL K M' H' vs (xs.set j (.l ys')) as
  | _, _, _, _, .nil, e => by simp at e
  | _, _, _, 0, .cons (bs := bs) a l, e => by
    have z := Option.some.inj ((List.getElem?_cons_zero).symm.trans e)
    subst z
    cases a with
    | l hq lq =>
      rename_i q ws ac
      exact ⟨q, ws, [], ac, bs, rfl, rfl, hq, lq, fun M' H' ws' ys' t k hq' l' => .cons (.l hq' l') (l.tr t fun a ha => k a (.inr ha))⟩
  | _, _, _, j + 1, .cons (as := a1) a l, e => by
    obtain ⟨q, ws, c1, ac, c2, e1, e2, hq, lq, f⟩ := TkL.sub (j := j) l (by simpa using e)
    subst e1
    refine ⟨q, ws, a1 ++ c1, ac, c2, by simp [List.append_assoc], by simpa using e2, hq, lq, fun M' H' ws' ys' t k hq' l' => ?_⟩
    exact .cons (a.tr t fun x hx => k x (.inl (List.mem_append_left _ hx))) (f M' H' ws' ys' t (fun x hx => k x (hx.imp (fun z => List.mem_append_right _ z) id)) hq' l')
theorem TkL.setd {M : Addr → Prop} {v : V} {y y0 : PyData} (q : Rp K M H v y) : ∀ {vs : List V} {xs : List OT} {as : List Addr} {j : Nat}, TkL K M H vs xs as → xs[j]? = some (.d y0) → TkL K M H (vs.set j v) (xs.set j (.d y)) as
  | _, _, _, _, .nil, e => by simp at e
  | _, _, _, 0, .cons a l, e => by
    have z := Option.some.inj ((List.getElem?_cons_zero).symm.trans e)
    subst z
    cases a with
    | d _ => exact TkL.cons (as := []) (.d q) l
  | _, _, _, j + 1, .cons a l, e => .cons a (TkL.setd q l (by simpa using e))
theorem TkL.snocd {M : Addr → Prop} {v : V} {y : PyData} (q : Rp K M H v y) : ∀ {vs : List V} {xs : List OT} {as : List Addr}, TkL K M H vs xs as → TkL K M H (vs ++ [v]) (xs ++ [.d y]) as
  | _, _, _, .nil => TkL.cons (as := []) (.d q) .nil
  | _, _, _, .cons a l => .cons a (TkL.snocd q l)
/-- the list at slot i: it may become any list of the same own parts -/
theorem Rl.mut {i : Nat} {b : Bool} {xs : List OT} (r : Rl c ts tv es σ H) (ha : AllD ts) (h : gt es i = .s b (.l xs)) :
    ∃ p vs, σ[i]? = some (some (.ref p)) ∧ H p = some (.lst vs) ∧ (∃ M, BvL c.K M H vs xs) ∧
      ∀ (vs' : List V) (xs' : List OT) (ts' : List TO) (tv' : List V), (∀ (M : Addr → Prop) (H' : Hp) as bs, Tm c M H' tv ts bs → TkL c.K M H' vs xs as → TkL c.K M H' vs' xs' as ∧ Tm c M H' tv' ts' bs) → Rl c ts' tv' (es.set i (.s b (.l xs'))) σ (upd H p (.lst vs')) := by
  obtain ⟨as, bs, a⟩ := r
  obtain ⟨u1, ai, u2, y, e2, e3, q2, f⟩ := a.sl.split (gt_lt h)
  subst e2
  rw [h] at q2
  obtain ⟨v, e4, k, ow⟩ := q2
  subst e4
  cases k with
  | l hp l =>
    rename_i p vs ac
    refine ⟨p, vs, e3, hp, ⟨_, l.bv⟩, fun vs' xs' ts' tv' g => ?_⟩
    have nd := a.nd
    have ndb := (List.nodup_append.mp nd).2.1
    have pn : p ∉ ac := (List.nodup_cons.mp (List.nodup_append.mp (List.nodup_append.mp ndb).2.1).1).1
    have p0 : p ∉ as := fun z => (List.nodup_append.mp nd).2.2 p z p (by simp) rfl
    have p1 : p ∉ u1 := fun z => (List.nodup_append.mp ndb).2.2 p z p (List.mem_append_left _ List.mem_cons_self) rfl
    have p2 : p ∉ u2 := fun z => (List.nodup_append.mp (List.nodup_append.mp ndb).2.1).2.2 p List.mem_cons_self p z rfl
    have t : Tr (Mf c (as ++ (u1 ++ (p :: ac ++ u2)))) (Mf c (as ++ (u1 ++ (p :: ac ++ u2)))) H (upd H p (.lst vs')) := ⟨fun _ z => .inl z, fun x o q n => upn (fun e => n (.inr (by rw [e]; simp))) q⟩
    have tm' := a.tm.tr t ha fun x hx u q => upn (fun e => p0 (e ▸ hx)) q
    have l' := l.tr t fun x hx u q => upn (fun e => pn (e ▸ hx)) q
    obtain ⟨g1, g2⟩ := g _ _ _ _ tm' l'
    have sl := f _ (upd H p (.lst vs')) (some (.ref p)) (.s b (.l xs')) (p :: ac) t (fun x hx u q => upn (fun e => hx.elim (fun z => p1 (e ▸ z)) fun z => p2 (e ▸ z)) q) ⟨.ref p, rfl, .l upd_same g1, ow⟩
    rw [set_self e3] at sl
    refine ⟨_, _, nd, sl, g2, fun x o q n => ?_, fun x z => ?_, a.fix⟩
    · have ne : x ≠ p := fun e => by
        rcases ow p List.mem_cons_self with z | z
        · exact n (e ▸ z.2)
        · rw [← e, q] at z; exact nomatch z.1
      exact upn ne (a.keep x o q n)
    · by_cases e : x = p
      · rw [e, upd_same]; simp
      · rw [upd_ne e]; exact a.av x z
/-- the list that stands in the list at slot i, at j -/
theorem Rl.mut1 {i j : Nat} {b : Bool} {xs ys : List OT} (r : Rl c ts tv es σ H) (ha : AllD ts) (h : gt es i = .s b (.l xs)) (hj : xs[j]? = some (.l ys)) :
    ∃ p vs q ws, σ[i]? = some (some (.ref p)) ∧ H p = some (.lst vs) ∧ vs[j]? = some (.ref q) ∧ H q = some (.lst ws) ∧ vs.length = xs.length ∧ (∃ M, BvL c.K M H ws ys) ∧
      ∀ (ws' : List V) (ys' : List OT) (ts' : List TO) (tv' : List V), (∀ (M : Addr → Prop) (H' : Hp) as bs, Tm c M H' tv ts bs → TkL c.K M H' ws ys as → TkL c.K M H' ws' ys' as ∧ Tm c M H' tv' ts' bs) → Rl c ts' tv' (es.set i (.s b (.l (xs.set j (.l ys'))))) σ (upd H q (.lst ws')) := by
  obtain ⟨as, bs, a⟩ := r
  obtain ⟨u1, ai, u2, y, e2, e3, q2, f⟩ := a.sl.split (gt_lt h)
  subst e2
  rw [h] at q2
  obtain ⟨v, e4, k, ow⟩ := q2
  subst e4
  cases k with
  | l hp l =>
    rename_i p vs ac
    obtain ⟨q, ws, c1, aq, c2, e1, ej, hq, lq, g⟩ := TkL.sub l hj
    subst e1
    refine ⟨p, vs, q, ws, e3, hp, ej, hq, l.len, ⟨_, lq.bv⟩, fun ws' ys' ts' tv' w => ?_⟩
    have nd := a.nd
    have ndb := (List.nodup_append.mp nd).2.1
    have qin : q ∈ as ++ (u1 ++ (p :: (c1 ++ (q :: aq ++ c2)) ++ u2)) := by simp
    have nd2 := (List.nodup_append.mp ndb).2.1
    have nd3 := (List.nodup_append.mp nd2).1
    have nd4 := (List.nodup_cons.mp nd3)
    have nd5 := List.nodup_append.mp nd4.2
    have nd6 := List.nodup_append.mp nd5.2.1
    have nd7 := List.nodup_cons.mp nd6.1
    have q0 : q ∉ as := fun z => (List.nodup_append.mp nd).2.2 q z q (by simp) rfl
    have q1 : q ∉ u1 := fun z => (List.nodup_append.mp ndb).2.2 q z q (by simp) rfl
    have q2 : q ∉ u2 := fun z => (List.nodup_append.mp nd2).2.2 q (by simp) q z rfl
    have qp : p ≠ q := fun e => nd4.1 (by rw [e]; simp)
    have qc1 : q ∉ c1 := fun z => nd5.2.2 q z q (by simp) rfl
    have qc2 : q ∉ c2 := fun z => nd6.2.2 q List.mem_cons_self q z rfl
    have t : Tr (Mf c (as ++ (u1 ++ (p :: (c1 ++ (q :: aq ++ c2)) ++ u2)))) (Mf c (as ++ (u1 ++ (p :: (c1 ++ (q :: aq ++ c2)) ++ u2)))) H (upd H q (.lst ws')) := ⟨fun _ z => .inl z, fun x o z n => upn (fun e => n (.inr (by rw [e]; exact qin))) z⟩
    have tm' := a.tm.tr t ha fun x hx u z => upn (fun e => q0 (e ▸ hx)) z
    have lq' := lq.tr t fun x hx u z => upn (fun e => nd7.1 (by rw [← e]; exact hx)) z
    obtain ⟨g1, g2⟩ := w _ _ _ _ tm' lq'
    have l' := g _ _ ws' ys' t (fun x hx u z => upn (fun e => hx.elim (fun z => qc1 (e ▸ z)) fun z => qc2 (e ▸ z)) z) upd_same g1
    have sl := f _ (upd H q (.lst ws')) (some (.ref p)) (.s b (.l (xs.set j (.l ys')))) (p :: (c1 ++ (q :: aq ++ c2))) t (fun x hx u z => upn (fun e => hx.elim (fun z => q1 (e ▸ z)) fun z => q2 (e ▸ z)) z) ⟨.ref p, rfl, .l (upn qp hp) l', ow⟩
    rw [set_self e3] at sl
    refine ⟨_, _, nd, sl, g2, fun x o z n => ?_, fun x z => ?_, a.fix⟩
    · have ne : x ≠ q := fun e => by
        rcases ow q (by simp) with y | y
        · exact n (e ▸ y.2)
        · rw [← e, z] at y; exact nomatch y.1
      exact upn ne (a.keep x o z n)
    · by_cases e : x = q
      · rw [e, upd_same]; simp
      · rw [upd_ne e]; exact a.av x z
end
end Wk

/-! Wk3 -/
set_option Elab.async false
set_option linter.all false
set_option maxRecDepth 100000
set_option maxHeartbeats 4000000
/-! Wk3: calls, contracts -/
namespace Wk
open PySem PySem.Spec PyProof.Rows L2

section
variable {c : Ct} {ts : List TO} {tv : List V} {es : List SE} {σ : St} {H H' : Hp} {as bs : List Addr}
theorem Own.back {as bs : List Addr} (r : RlA c ts tv es σ H as bs) {a : Addr} (h : H a = none) (b : Bool) : Own c b a := .inr ⟨(r.nw h).1, (r.nw h).2.1⟩
/-- the context of a callee that changes nothing -/
def Ct.c0 (c : Ct) (H : Hp) (as : List Addr) : Ct := ⟨H, fun _ => False, Mf c as, [], c.K, fun _ z => z.elim, fun _ z => nomatch z⟩
/-- .. that may change the tree at ai, of the value v -/
def Ct.c1 (c : Ct) (H : Hp) (as ai : List Addr) (v : V) (h : ∀ a ∈ ai, a ∈ as) : Ct := ⟨H, fun a => a ∈ ai, Mf c as, [(0, v)], c.K, fun a z => .inr (h a z), fun p hp => by rw [List.mem_singleton.mp hp]⟩
@[simp] def dS (ds : List PyData) : List SE := ds.map fun d => .s false (.d d)
theorem RpL.sl {c : Ct} {M : Addr → Prop} {H : Hp} : ∀ {vs : List V} {ds : List PyData}, RpL c.K M H vs ds → Sl c M H (dS ds) (vs.map some) []
  | _, _, .nil => .nil
  | _, _, .cons a l => by
    show Sl c M H (_ :: dS _) (some _ :: _) ([] ++ [])
    exact .cons ⟨_, rfl, .d a, fun _ z => absurd z (by simp)⟩ (RpL.sl l)
/-- into a callee that changes nothing, and back -/
theorem Rl.call0 (r : Rl c ts tv es σ H) {vs : List V} {ds : List PyData} (f : ∀ M as, Tm c M H tv ts as → RpL c.K M H vs ds) :
    ∃ c', c'.K = c.K ∧ c'.fix = [] ∧ Rl c' [] [] (dS ds) (vs.map some) H ∧ ∀ (v : V) (o : TO) (es' : List SE) (ws : St) (H' : Hp), Rl c' [o] [v] es' ws H' → AllD [o] → Ext H H' ∧ Rl c (o :: ts) (v :: tv) es σ H' := by
  obtain ⟨as, bs, a⟩ := r
  refine ⟨c.c0 H (as ++ bs), rfl, rfl, ⟨[], [], List.nodup_nil, ?_, .nil, fun _ _ e _ => e, fun x z => z.elim (a.av x) (a.trk x), fun _ z => absurd z (by simp [Ct.c0])⟩, fun v o es' ws H' r' ha => ?_⟩
  · exact RpL.sl (c := c.c0 H (as ++ bs)) ((f _ _ a.tm).tr ⟨fun x z => z.elim .inl fun z => absurd z (by simp), fun _ _ e _ => e⟩)
  · obtain ⟨cs, ds', a'⟩ := r'
    have ex : Ext H H' := fun x u e => a'.keep x u e id
    refine ⟨ex, ?_⟩
    have b := a.ext ex
    have tm := a'.tm
    cases tm with
    | b q l =>
      refine ⟨as, bs, b.nd, b.sl, .b ?_ b.tm, b.keep, b.av, b.fix⟩
      cases q with
      | d q => exact .d (q.tr ⟨fun x z => .inl (.inl z), fun _ _ e _ => e⟩)
      | l _ _ => exact ha.elim
      | k _ _ => exact ha.elim
      | t _ _ => exact ha.elim
      | f q => exact .f (q.tr ⟨fun x z => .inl (.inl z), fun _ _ e _ => e⟩)
    | w q ow l =>
      rename_i xs ys
      cases l
      have fresh : ∀ x ∈ xs, H x = none ∧ x ∉ as ++ bs := fun x hx => by
        rcases ow x hx with z | z
        · exact z.2.elim
        · exact ⟨z.1, fun y => z.2 (.inr y)⟩
      have nd' : xs.Nodup := (List.nodup_append.mp (List.nodup_append.mp a'.nd).1).1
      have t : Tx (Mf c (as ++ bs)) (Mf c (xs ++ as ++ bs)) H H' := ⟨fun x z => by
        rcases z with z | z
        · exact .inl (.inl z)
        · rw [List.append_assoc] at z
          rcases List.mem_append.mp z with z | z
          · exact .inr (fresh x z).1
          · exact .inl (.inr z), ex⟩
      refine ⟨xs ++ as, bs, ?_, a.sl.tr t.to fun x _ u e => ex x u e, .w (q.tr ⟨fun x z => ?_, fun _ _ e _ => e⟩ fun _ _ _ e => e) (fun x hx => Own.back a (fresh x hx).1 _) (a.tm.tx t), b.keep, b.av, b.fix⟩
      · rw [List.append_assoc]
        exact List.nodup_append.mpr ⟨nd', a.nd, fun x hx y hy e => (fresh x hx).2 (e ▸ hy)⟩
      · rcases z with z | z
        · exact .inl (.inl (.inl z))
        · rw [List.append_assoc] at z
          rcases List.mem_append.mp z with z | z
          · exact .inl (.inr (by simp [z]))
          · exact .inl (.inl (.inr z))
/-- into a callee that may change the tree of slot i, its first argument, and back -/
theorem Rl.call1 (r : Rl c ts tv es σ H) (ha : AllD ts) {i : Nat} {b : Bool} {t : OT} (h : gt es i = .s b t) {vs : List V} {ds : List PyData} {v0 : V} (h0 : σ[i]? = some (some v0)) (f : ∀ M as, Tm c M H tv ts as → RpL c.K M H vs ds) :
    ∃ c', c'.K = c.K ∧ c'.fix = [(0, v0)] ∧ Rl c' [] [] (.s true t :: dS ds) (some v0 :: vs.map some) H ∧ ∀ (v : V) (o : TO) (t' : OT) (es' : List SE) (ws : St) (H' : Hp), Rl c' [o] [v] (.s true t' :: es') (some v0 :: ws) H' → AllD [o] → Rl c (o :: ts) (v :: tv) (es.set i (.s b t')) σ H' := by
  obtain ⟨as, bs, a⟩ := r
  obtain ⟨u1, ai, u2, x, e2, e3, q2, g⟩ := a.sl.split (gt_lt h)
  subst e2
  rw [h] at q2
  obtain ⟨v1, e4, k, ow⟩ := q2
  subst e4
  have ev : v1 = v0 := Option.some.inj (Option.some.inj (e3.symm.trans h0))
  subst ev
  have hin : ∀ a ∈ ai, a ∈ as ++ (u1 ++ (ai ++ u2)) := fun a z => by simp [z]
  have nd := a.nd
  have ndb := (List.nodup_append.mp nd).2.1
  have ndi := (List.nodup_append.mp (List.nodup_append.mp ndb).2.1).1
  have d0 : ∀ x ∈ ai, x ∉ as := fun x z y => (List.nodup_append.mp nd).2.2 x y x (by simp [z]) rfl
  have d1 : ∀ x ∈ ai, x ∉ u1 := fun x z y => (List.nodup_append.mp ndb).2.2 x y x (by simp [z]) rfl
  have d2 : ∀ x ∈ ai, x ∉ u2 := fun x z y => (List.nodup_append.mp (List.nodup_append.mp ndb).2.1).2.2 x z x y rfl
  refine ⟨c.c1 H (as ++ (u1 ++ (ai ++ u2))) ai v1 hin, rfl, rfl, ⟨[], ai ++ [], by simpa using ndi, ?_, .nil, fun _ _ e _ => e, fun x z => z.elim (a.av x) (a.trk x), fun p hp => ?_⟩, fun v o t' es' ws H' r' hao => ?_⟩
  · have tr : Tr (Mf c (as ++ (u1 ++ (ai ++ u2)))) (Mf (c.c1 H (as ++ (u1 ++ (ai ++ u2))) ai v1 hin) ([] ++ (ai ++ []))) H H := ⟨fun x z => z.elim .inl fun z => .inl (.inr (hin x (by simpa using z))), fun _ _ e _ => e⟩
    exact .cons ⟨v1, rfl, k.tr tr fun _ _ _ e => e, fun x z => .inl ⟨rfl, z⟩⟩ (RpL.sl (c := c.c1 H (as ++ (u1 ++ (ai ++ u2))) ai v1 hin) ((f _ _ a.tm).tr tr))
  · rw [show (c.c1 H (as ++ (u1 ++ (ai ++ u2))) ai v1 hin).fix = [(0, v1)] from rfl, List.mem_singleton] at hp
    subst hp
    rfl
  · obtain ⟨xs, ys, a'⟩ := r'
    have sl' := a'.sl
    cases sl' with
    | cons q' l' =>
      rename_i a0 b0
      obtain ⟨v2, e5, k', ow'⟩ := q'
      cases e5
      -- what is owned now: old, or new
      have w0 : ∀ x ∈ a0, x ∈ ai ∨ (H x = none ∧ x ∉ as ++ (u1 ++ (ai ++ u2))) := fun x hx => by
        rcases ow' x hx with z | z
        · exact .inl z.2
        · exact .inr ⟨z.1, fun y => z.2 (.inr y)⟩
      have keepH : ∀ x u, H x = some u → x ∉ ai → H' x = some u := fun x u e n => a'.keep x u e n
      have tm' := a'.tm
      -- the result's own addresses
      have res : ∃ cs : List Addr, cs.Nodup ∧ (∀ x ∈ cs, (H x = none ∧ x ∉ as ++ (u1 ++ (ai ++ u2)) ∧ x ∉ a0) ∧ x ∈ xs) ∧ ∀ tvs tss, Tm c (Mf c (cs ++ as ++ (u1 ++ (a0 ++ u2)))) H' tvs tss as → Tm c (Mf c (cs ++ as ++ (u1 ++ (a0 ++ u2)))) H' (v :: tvs) (o :: tss) (cs ++ as) := by
        have back : ∀ cs : List Addr, (∀ x ∈ cs, x ∈ xs) → ∀ x, Mf c (cs ++ as ++ (u1 ++ (a0 ++ u2))) x → Mf (c.c1 H (as ++ (u1 ++ (ai ++ u2))) ai v1 hin) (xs ++ (a0 ++ b0)) x := fun cs hc x z => by
          rcases z with z | z
          · exact .inl (.inl z)
          · simp only [List.mem_append] at z
            rcases z with (z | z) | z | z | z
            · exact .inr (List.mem_append_left _ (hc x z))
            · exact .inl (.inr (by simp [z]))
            · exact .inl (.inr (by simp [z]))
            · exact .inr (by simp [z])
            · exact .inl (.inr (by simp [z]))
        cases tm' with
        | b q l =>
          refine ⟨[], List.nodup_nil, fun x z => absurd z (by simp), fun tvs tss hh => .b ?_ hh⟩
          cases q with
          | d q => exact .d (q.tr ⟨fun x z => .inl (back [] (fun _ y => absurd y (by simp)) x z), fun _ _ e _ => e⟩)
          | l _ _ => exact hao.elim
          | k _ _ => exact hao.elim
          | t _ _ => exact hao.elim
          | f q => exact .f (q.tr ⟨fun x z => .inl (back [] (fun _ y => absurd y (by simp)) x z), fun _ _ e _ => e⟩)
        | w q ow2 l =>
          rename_i cs zs
          cases l
          have nd' := a'.nd
          have f2 : ∀ x ∈ cs, H x = none ∧ x ∉ as ++ (u1 ++ (ai ++ u2)) := fun x hx => by
            rcases ow2 x hx with z | z
            · exact Bool.noConfusion z.1
            · exact ⟨z.1, fun y => z.2 (.inr y)⟩
          refine ⟨cs, (List.nodup_append.mp (List.nodup_append.mp nd').1).1, fun x hx => ⟨⟨(f2 x hx).1, (f2 x hx).2, fun y => (List.nodup_append.mp nd').2.2 x (by simp [hx]) x (by simp [y]) rfl⟩, by simp [hx]⟩, fun tvs tss hh => ?_⟩
          exact .w (q.tr ⟨fun x z => .inl (back cs (fun _ y => by simp [y]) x z), fun _ _ e _ => e⟩ fun _ _ _ e => e) (fun x hx => Own.back a (f2 x hx).1 _) hh
      obtain ⟨cs, ndc, fc, mk⟩ := res
      have nd' := a'.nd
      have nd0 : a0.Nodup := (List.nodup_append.mp (List.nodup_append.mp nd').2.1).1
      have t : Tr (Mf c (as ++ (u1 ++ (ai ++ u2)))) (Mf c (cs ++ as ++ (u1 ++ (a0 ++ u2)))) H H' := ⟨fun x z => by
        rcases z with z | z
        · exact .inl (.inl z)
        · simp only [List.mem_append] at z
          rcases z with (z | z) | z | z | z
          · exact .inr (fc x z).1.1
          · exact .inl (.inr (by simp [z]))
          · exact .inl (.inr (by simp [z]))
          · exact (w0 x z).elim (fun y => .inl (.inr (hin x y))) fun y => .inr y.1
          · exact .inl (.inr (by simp [z])), fun x u e n => keepH x u e fun y => n (.inr (hin x y))⟩
      have sl := g _ H' (some v1) (.s b t') a0 t (fun x hx u e => keepH x u e fun y => hx.elim (d1 x y) (d2 x y)) ⟨v1, rfl, k'.tr ⟨fun x z => .inl ?_, fun _ _ e _ => e⟩ fun _ _ _ e => e, fun x hx => (w0 x hx).elim (ow x) fun y => Own.back a y.1 _⟩
      · rw [set_self e3] at sl
        refine ⟨cs ++ as, u1 ++ (a0 ++ u2), ?_, sl, mk tv ts (a.tm.tr t ha fun x hx u e => keepH x u e fun y => d0 x y hx), fun x u e n => ?_, fun x z => a'.av x (.inl z), a.fix⟩
        · have ndr : (as ++ (u1 ++ u2)).Nodup := nd_perm (r := ai) nd (List.perm_iff_count.mpr fun z => by simp only [List.count_append]; omega)
          have p : (cs ++ as ++ (u1 ++ (a0 ++ u2))).Perm (cs ++ (a0 ++ (as ++ (u1 ++ u2)))) := List.perm_iff_count.mpr fun z => by simp only [List.count_append]; omega
          refine p.nodup_iff.mpr (List.nodup_append.mpr ⟨ndc, List.nodup_append.mpr ⟨nd0, ndr, fun x hx y hy e => ?_⟩, fun x hx y hy e => ?_⟩)
          · subst e
            simp only [List.mem_append] at hy
            rcases w0 x hx with z | z
            · exact hy.elim (d0 x z) fun y => y.elim (d1 x z) (d2 x z)
            · exact z.2 (by simp only [List.mem_append]; exact hy.elim .inl fun y => .inr (y.elim .inl fun y => .inr (.inr y)))
          · subst e
            simp only [List.mem_append] at hy
            rcases hy with hy | hy
            · exact (fc x hx).1.2.2 hy
            · exact (fc x hx).1.2.1 (by simp only [List.mem_append]; exact hy.elim .inl fun y => .inr (y.elim .inl fun y => .inr (.inr y)))
        · refine keepH x u (a.keep x u e n) fun y => ?_
          rcases ow x y with z | z
          · exact n z.2
          · rw [e] at z; exact nomatch z.1
      · rcases z with z | z
        · exact .inl (.inl z)
        · simp only [List.mem_append] at z
          rcases z with (z | z) | z | z | z
          · exact .inr (by simp [(fc x z).2])
          · exact .inl (.inr (by simp [z]))
          · exact .inl (.inr (by simp [z]))
          · exact .inr (by simp [z])
          · exact .inl (.inr (by simp [z]))
end
end Wk

/-! Wk4 -/
set_option Elab.async false
set_option linter.all false
set_option maxRecDepth 100000
set_option maxHeartbeats 4000000
/-! Wk4: contracts of defs that know that no repr runs around them; the law's end -/
namespace Wk
open PySem PySem.Spec PyProof.Rows L2

structure FnG (P : Program) (w : World) (K : PySem.W.Frag) (mg : Str → Option Value) (base : Heap) (CX : CXT) (k : Nat) (f : Addr) (fd : FuncData) (ps : List Str) (sp : Sp) : Prop where
  len : ∀ vs H Q E, sp vs H Q E → vs.length = ps.length
  run : ∀ (A : Around) (outer : List Env) (s : Shared) (H : Hp) (g : Args) (us : List Value) (vs : List V) (Q : VK) (E : XK), Room k A → A.guards = some [] →
    Env0 P w K mg base A outer s H → BindsTo s fd g (ps.zip us) → Vals vs us → sp vs H Q E → codeAny (model P w) A (.call (.ref f) g) (CR CX outer P w H s Q E) s
theorem FnG.up {P : Program} {w : World} {K : PySem.W.Frag} {mg : Str → Option Value} {base : Heap} {CX : CXT} {j k : Nat} {f : Addr} {fd : FuncData} {ps : List Str} {sp : Sp}
    (F : FnG P w K mg base CX j f fd ps sp) (h : j ≤ k) : FnG P w K mg base CX k f fd ps sp :=
  ⟨F.len, fun A outer s H g us vs Q E hr hg => F.run A outer s H g us vs Q E (hr.mono h) hg⟩

section
variable {X : Cx} {CX : CXT} {k : Nat} {f : Addr} {fd : FuncData} {ps : List Str} {sp : Sp} {E : XK} {x : Str}
theorem run_g {pins : List (Addr × Obj)} {σ : L2.St} {H : Hp} {s : Shared} {Q : VK} {us : List Value} {g : Args} {vs : List V}
    (F : FnG X.prog X.w X.K X.mg X.base CX k f fd ps sp) (hr : Room k X.A) (hg : X.A.guards = some []) (hx : Passes CX X E) (I : Inv X pins σ H s) (r : Vals vs us)
    (hb : us.length = ps.length → BindsTo s fd g (ps.zip us)) (h : sp vs H Q E) : wpAny (model X.prog X.w) X.A (call (.ref f) g.pos g.kw) (EP X pins σ Q) X.xe s := by
  have hl : us.length = ps.length := by rw [← r.length]; exact F.len _ _ _ _ h
  have q := F.run X.A X.stack s H g us vs Q E hr hg I.env0 (hb hl) r h
  refine wpAny_call (codeAny_mono q ?_)
  intro r' s' hq
  match r', hq with
  | .error e, hq => exact hx pins σ H s e s' I hq
  | .ok (.ret u), hq => exact I.after hq
  | .ok .next, hq => exact hq.elim
  | .ok .brk, hq => exact hq.elim
  | .ok .cont, hq => exact hq.elim
theorem pe_g {p pos : Pos} {e : Expr} {es : List Expr} {t : TA} (F : FnG X.prog X.w X.K X.mg X.base CX k f fd ps sp) (hr : Room k X.A) (hgd : X.A.guards = some []) (hg : Gl X x) (hm : X.mg x = some (.ref f))
    (hk : PySem.W.keepIn X.K (.ref f) = true) (hb : Binds X.K fd ps []) (hx : Passes CX X E) (ha : PA X (e :: es) t)
    (hdb : (x == ("__debug__" : Str)) = false := by decide) (he : starEach (e :: es) X.env = (false, eval e X.env) :: starEach es X.env := by rfl)
    (hpl : (backTo pos (starEach es X.env)).any (·.1) = false := by rfl) : PE X (.Call (.Name x p) (e :: es) [] pos) (tCall sp [] E t) := by
  constructor
  intro pins s σ H Q I h
  refine wpAny_Call_Name_kw (ld_glob I hg hm ?_ hdb)
  refine PySem.W.callWith_K (h₀ := X.base) I.ok.mod.kin hk (thn (ha.run pos pins s σ H _ I h) ?_) he hpl
  rintro us s1 ⟨vs, H1, I1, r, q⟩
  refine ⟨I1.kIn, run_g (g := ⟨us, []⟩) F hr hgd hx I1 r (fun hl => ?_) (by rw [List.append_nil] at q; exact q)⟩
  have z := hb s1 us I1.kIn (by rw [List.append_nil]; exact hl)
  rw [List.append_nil] at z
  exact z
theorem pe_g0 {p pos : Pos} (F : FnG X.prog X.w X.K X.mg X.base CX k f fd ps sp) (hr : Room k X.A) (hgd : X.A.guards = some []) (hg : Gl X x) (hm : X.mg x = some (.ref f))
    (hk : PySem.W.keepIn X.K (.ref f) = true) (hb : Binds X.K fd ps []) (hx : Passes CX X E) (hdb : (x == ("__debug__" : Str)) = false := by decide) :
    PE X (.Call (.Name x p) [] [] pos) (tCall sp [] E tNil) := by
  constructor
  intro pins s σ H Q I h
  refine wpAny_Call_Name_kw (ld_glob I hg hm ?_ hdb)
  refine PySem.W.callWith_K0 I.kIn hk (run_g (g := ⟨[], []⟩) (us := []) F hr hgd hx I .nil (fun hl => ?_) h)
  exact hb s [] I.kIn hl
/-- keywords alone or behind some by place -/
theorem pe_gK {ks : List Str} {p pos : Pos} {e : Expr} {es : List Expr} {kws : List Keyword} {t tk : TA} {g : List Value → List Value → List Value} {gV : List V → List V → List V}
    (F : FnG X.prog X.w X.K X.mg X.base CX k f fd ps sp) (hr : Room k X.A) (hgd : X.A.guards = some []) (hg : Gl X x) (hm : X.mg x = some (.ref f)) (hk : PySem.W.keepIn X.K (.ref f) = true)
    (hb : KBinds X.K fd ps ks g gV) (hx : Passes CX X E) (ha : PA X (e :: es) t) (hkw : PK X kws tk) (hall : (backToKw pos (keywordEach kws X.env)).all (·.1.isSome) = true := by rfl)
    (hks : (backToKw pos (keywordEach kws X.env)).filterMap (·.1) = ks := by rfl) (hdb : (x == ("__debug__" : Str)) = false := by decide)
    (he : starEach (e :: es) X.env = (false, eval e X.env) :: starEach es X.env := by rfl)
    (hpl : ((backTo pos (starEach (e :: es) X.env)).any (·.1) || (backToKw pos (keywordEach kws X.env)).any (·.1.isNone)) = false := by rfl) :
    PE X (.Call (.Name x p) (e :: es) kws pos) (tCallK sp gV E t tk) := by
  constructor
  intro pins s σ H Q I h
  refine wpAny_Call_Name_kw (ld_glob I hg hm ?_ hdb)
  refine PySem.W.callWith_KW (h₀ := X.base) I.ok.mod.kin hk hall (thn (ha.run pos pins s σ H _ I h) ?_) hpl he
  rintro us s1 ⟨vs, H1, I1, r, q⟩
  refine thn (hkw.run pos pins s1 σ H1 _ I1 q) ?_
  rintro ws s2 ⟨zs, H2, I2, rz, q2⟩
  rw [hks]
  exact ⟨I2.kIn, run_g (g := ⟨us, ks.zip ws⟩) F hr hgd hx I2 (hb.rel r rz) (fun hl => hb.to s2 us ws I2.kIn hl) q2⟩
end

/-- a def of the text keeps its promise, by its body -/
theorem FnG.of {CX : CXT} {P : Program} {w : World} {K : PySem.W.Frag} {mg : Str → Option Value} {base : Heap} {k : Nat} {f : Addr} {x qual : Str} {st : Stmt} {fd : FuncData} {N ps : List Str} {sp : Sp}
    (F : Fun K x qual st f fd) (S : FnScope N ps (defScope st)) (len : ∀ vs H Q E, sp vs H Q E → vs.length = ps.length)
    (hbody : ∀ (cdv : Value) (A : Around) (outer : List Env) (s : Shared) (H : Hp) (vs : List V) (Q : VK) (E : XK), Room k (A.deeper (envOfC qual (defScope st) s.heap.objs.size f cdv)) → A.guards = some [] → sp vs H Q E →
      ∃ t, PSs (cxOf CX P w K mg base N qual (defScope st) f cdv A outer s H E) (defBody st) t ∧ t { nx := fun _ H' => Q .non H', rt := Q } (start N vs) H) :
    FnG P w K mg base CX (k + 1) f fd ps sp := by
  obtain ⟨oc, od, kV, doc, pm, an, cdv, ct, osl, rfl, lk, hcd⟩ := F.ex
  refine ⟨len, ?_⟩
  intro A outer s H g us vs Q E hr hgd e0 hb r hsp
  have KX : K.In s.heap := e0.mod.kin.keeps fun b o e => (e0.bs b o e).1
  have lim : s.heap.NoLimit := e0.mod.nolimit.keeps fun b o e => (e0.bs b o e).1
  have cells : ∀ y ∈ ps.zip us, (defScope st).names.lookup y.1 = some .local ∨ ((defScope st).names.lookup y.1 = some .cell ∧ ((cellsFrom (s.heap.objs.size + 1) (defScope st).names []).lookup y.1).isSome = true) := by
    rintro ⟨n, v⟩ hy
    exact (S.par n (List.of_mem_zip hy).1).imp id fun q => ⟨q, PySem.W.cellsFrom_some _ _ _ (.inl q)⟩
  refine codeAny_call_function hr.depth (KX _ _ lk) rfl S.co S.gen rfl (PySem.W.codeRec_of KX hcd) (hb _ _ _ _ ?_)
  refine wpAny_newFunctionEnv_cells S.kind cells ?_
  intro env he s1 xc
  subst he
  refine ⟨lim.keeps xc.toInCall.keep, codeAny_func ?_⟩
  obtain ⟨t, ht, hq⟩ := hbody cdv A outer s H vs Q E (hr.deeper _) hgd hsp
  have I := inv_start (CX := CX) (E := E) S hr.hd e0 (len _ _ _ _ hsp) r xc
  refine wpAny_mono (ht.run [] s1 (start N vs) H _ I hq) ?_ fun _ _ z => z
  intro fl s' hs
  match fl, hs with
  | .ret u, ⟨v, σ', H', J, rv, q⟩ => exact ⟨v, H', J.os, J.bare, J.base, J.hok, rv, q⟩
  | .next, ⟨σ', H', J, q⟩ => exact ⟨.non, H', J.os, J.bare, J.base, J.hok, rfl, q⟩
  | .brk, ⟨_, _, _, q⟩ => exact q.elim
  | .cont, ⟨_, _, _, q⟩ => exact q.elim

/-- the law's call, from the law's promise over the script alone -/
theorem law_g {P : Program} {w : World} {K : PySem.W.Frag} {mg mb : Str → Option Value} {k : Nat} {fa a : Addr} {fd : FuncData} {x : Str} {sp : Sp} {s : Shared} {us : List Value} {ns : List Int}
    (KX : K.In s.heap) (hns : s.heap.Ns mainGlobals mg) (hmb : s.heap.Ns builtinsNs mb) (hbb : ∀ x : Str, x ≠ "__name__" → mb x = bootBuiltins x) (hlim : s.heap.NoLimit) (hgn : s.gens = #[])
    (ha : s.heap.get? a = some { cls := .type "list", data := .seq us.toArray }) (hi : IntsAre us ns) (hl : ns.length ≤ sizeLine) (hr : Room k callerA)
    (F : ∀ base : Heap, K.In base → base.Ns mainGlobals mg → FnG P w K mg base CX0 k fa fd [x] sp) (hb : ∀ (s : Shared) (u : Value), BindsTo s fd ⟨[u], []⟩ [(x, u)])
    (hsp : ∀ H : Hp, SqL K H a (ns.map V.int) → sp [.ref a] H (fun v _ => v = .bl true) fun _ _ _ => False) :
    codeAny (model P w) callerA (.call (.ref fa) ⟨[.ref a], []⟩) (fun r s' => r = .ok (.ret (.bool true)) ∧ OldK s.heap s'.heap ∧ s'.os = s.os ∧ AllBare s'.gens) s := by
  have rv : Vals (ns.map V.int) us := vals_ints hi
  -- H tracks the script, if it is none of the module's own objects, or nothing
  have go : ∀ H : Hp, (∀ b u, H b = some u → b = a ∧ u = .frz { cls := .type "list", data := .seq us.toArray } (.lst (ns.map V.int))) → (∀ o, H a = some o → K.lookup a = none) → SqL K H a (ns.map V.int) →
      codeAny (model P w) callerA (.call (.ref fa) ⟨[.ref a], []⟩) (fun r s' => r = .ok (.ret (.bool true)) ∧ OldK s.heap s'.heap ∧ s'.os = s.os ∧ AllBare s'.gens) s := by
    intro H H3 hka hS
    have hok : HOk P w H s.heap := by
      intro b u e
      obtain ⟨eb, eu⟩ := H3 b u e
      subst eb
      subst eu
      exact ⟨ha, by rw [List.length_map]; exact hl, us, _, rv, ha⟩
    have up : ∀ {b : Addr} {o : Obj}, s.heap.get? b = some o → (∀ u, H b = some u → False) → (hidT s.heap H).get? b = some o := fun {b o} e n => hidT_get e (by
      cases q : H b with
      | none => rfl
      | some u => exact (n u q).elim)
    have up_ns : ∀ {b : Addr} {m : Str → Option Value}, s.heap.Ns b m → (hidT s.heap H).Ns b m := by
      rintro b m ⟨o, es, ep, e, d, r⟩
      refine ⟨o, es, ep, up e fun u z => ?_, d, r⟩
      rw [(H3 b u z).1, ha] at e
      cases e
      cases d
    have kb : K.In (hidT s.heap H) := by
      intro b o e
      refine up (KX b o e) fun u z => ?_
      have eb := (H3 b u z).1
      subst eb
      rw [hka u z] at e
      cases e
    have md : Mod K mg (hidT s.heap H) := by
      obtain ⟨mc, h1, h2⟩ := hlim
      exact ⟨kb, up_ns hns, ⟨mb, up_ns hmb, hbb⟩, mc, up_ns h1, h2⟩
    have e0 : Env0 P w K mg (hidT s.heap H) callerA [] s H := by
      refine ⟨rfl, md, fun b o e => of_hidT e, Nat.le_of_eq (hidT_size _ _), trivial, ?_, hok, .of_eq hgn⟩
      intro b z
      exact absurd (show b ∈ ([] : List Addr) from z) (by simp)
    have run := (F _ kb (up_ns hns)).run callerA [] s H ⟨[.ref a], []⟩ [.ref a] [.ref a] _ _ hr rfl e0 (hb s _) (.cons rfl .nil) (hsp H hS)
    refine codeAny_mono run ?_
    intro r s' h
    match r, h with
    | .error e, h => exact False.elim h
    | .ok .next, h => exact False.elim h
    | .ok .brk, h => exact False.elim h
    | .ok .cont, h => exact False.elim h
    | .ok (.ret u), ⟨v, H', os, bare, un, hok', r', q⟩ =>
      have q' : v = .bl true := q
      subst q'
      have eu : u = Value.bool true := r'
      subst eu
      refine ⟨rfl, OldK.of_keep ?_, os, bare⟩
      intro b o e
      cases q : H b with
      | none => exact un.keep b o e q (fun z => absurd (show b ∈ ([] : List Addr) from z) (by simp)) (by simp)
      | some u =>
        obtain ⟨eb, eu⟩ := H3 b u q
        subst eb
        subst eu
        have z := un.frzs b _ _ q
        obtain ⟨e2, _⟩ := hok' b _ z
        rw [ha] at e
        cases e
        exact e2
  cases hk : K.lookup a with
  | some o =>
    have e := KX a o hk
    rw [ha] at e
    cases e
    refine go (fun _ => none) (fun b u z => nomatch z) (fun o z => nomatch z) (.inr ⟨_, us.toArray, _, hk, rfl, rfl, rfl, ?_, by simpa using rv⟩)
    rw [List.size_toArray, hi.length]
    exact hl
  | none =>
    refine go (fun b => if b = a then some (.frz { cls := .type "list", data := .seq us.toArray } (.lst (ns.map V.int))) else none) (fun b u z => ?_) (fun _ _ => hk) (.inl (.inr ⟨_, if_pos rfl⟩))
    by_cases hb : b = a
    · have z' := (if_pos hb).symm.trans z
      exact ⟨hb, (Option.some.inj z').symm⟩
    · have z' := (if_neg hb).symm.trans z
      cases z'
theorem walk_g {l : PySem.W.OpenLaw} {n k : Nat} {q : Program} {loose : List Str} {XP : (Str → Option Value) → Heap → Prop} {YP : World → Heap → Prop} {d : DefRec} {K : Params → PySem.W.Frag} {sp : World → Sp} {x : Str}
    (hn : l.most = some n) (hn2 : n ≤ sizeLine) (hdf : d.params.defaults = []) (hr : Room k callerA) (hY : ∀ (w : World) (h : Heap), YP w h → (K w.params).In h)
    (F : ∀ (w : World) (mg : Str → Option Value) (fa : Addr) (h : Heap), (K w.params).In h → h.Ns mainGlobals mg → mg d.name = some (.ref fa) → ∃ fd : FuncData, (∀ (s : Shared) (u : Value), BindsTo s fd ⟨[u], []⟩ [(x, u)]) ∧
      ∀ base : Heap, (K w.params).In base → base.Ns mainGlobals mg → FnG l.prog w (K w.params) mg base CX0 k fa fd [x] (sp w))
    (hsp : ∀ (w : World) (H : Hp) (a : Addr) (ns : List Int), ns.length ≤ n → SqL (K w.params) H a (ns.map V.int) → sp w [.ref a] H (fun v _ => v = .bl true) fun _ _ _ => False) :
    PySem.W.WalkO q loose XP YP l.row.toRowW d [] (fun f vs => PySem.call f vs) := by
  refine Att.attach_call hn hdf ?_
  intro w s0 s mg mb fa o pm cd doc a vs ns G Y ho hd hcd hmg hobj hints hlen hg
  obtain ⟨fd, hb, hF⟩ := F w mg fa _ (hY w _ Y) G.T.g hmg
  exact law_g (hY w _ Y) G.T.g G.T.b G.T.builtins G.T.nolimit hg hobj hints (Nat.le_trans hlen hn2) hr hF hb fun H hS => hsp w H a ns hlen hS
end Wk

/-! Wk5 -/
set_option Elab.async false
set_option linter.all false
set_option maxRecDepth 100000
set_option maxHeartbeats 4000000
/-! Wk5: expressions -/
namespace Wk
open PySem PySem.Spec PyProof.Rows L2

abbrev I (i : Int) : TO := .b (.d (.int i))
abbrev B (b : Bool) : TO := .b (.d (.bool b))
abbrev S (x : Str) : TO := .b (.d (.str x))
abbrev D (x : PyData) : TO := .b (.d x)
abbrev oL (ds : List PyData) : OT := .l (ds.map OT.d)

theorem pe_w {X : Cx} {e : Expr} {t t' : TE} (h : PE X e t) (k : ∀ σ H Q, t' σ H Q → t σ H Q) : PE X e t' := ⟨fun pins s σ H Q i q => h.run pins s σ H Q i (k σ H Q q)⟩
theorem pt_w {X : Cx} {e : Expr} {t t' : TT} (h : PT X e t) (k : ∀ σ H Q, t' σ H Q → t σ H Q) : PT X e t' := ⟨fun pins s σ H Q i q => h.run pins s σ H Q i (k σ H Q q)⟩
theorem pw_w {X : Cx} {e : Expr} {t t' : TT} (h : PW X e t) (k : ∀ σ H Q, t' σ H Q → t σ H Q) : PW X e t' := ⟨fun wh pins s σ H Q i q => h.run wh pins s σ H Q i (k σ H Q q)⟩
theorem ps_w {X : Cx} {e : Stmt} {t t' : TS} (h : PS X e t) (k : ∀ D σ H, t' D σ H → t D σ H) : PS X e t' := ⟨fun pins s σ H D i q => h.run pins s σ H D i (k D σ H q)⟩
theorem pss_w {X : Cx} {e : List Stmt} {t t' : TS} (h : PSs X e t) (k : ∀ D σ H, t' D σ H → t D σ H) : PSs X e t' := ⟨fun pins s σ H D i q => h.run pins s σ H D i (k D σ H q)⟩

/-- from es the value o, then es'; μ: nothing that stood has changed -/
def tE (K : PySem.W.Frag) (μ : Bool) (es es' : List SE) (o : TO) : TE := fun σ H Q => ∃ c ts tv, c.K = K ∧ Rl c ts tv es σ H ∧ (μ = false → AllD ts) ∧ ∀ v H', (μ = true → Ext H H') → Rl c (o :: ts) (v :: tv) es' σ H' → Q v H'
def tT (K : PySem.W.Frag) (μ : Bool) (es es' : List SE) (b : Bool) : TT := fun σ H Q => ∃ c ts tv, c.K = K ∧ Rl c ts tv es σ H ∧ (μ = false → AllD ts) ∧ ∀ H', (μ = true → Ext H H') → Rl c ts tv es' σ H' → Q b H'
abbrev DG (X : Cx) (μ : Bool) (e : Expr) (es es' : List SE) (o : TO) : Prop := PE X e (tE X.K μ es es' o)
abbrev DT (X : Cx) (μ : Bool) (e : Expr) (es es' : List SE) (b : Bool) : Prop := PT X e (tT X.K μ es es' b)
abbrev DW (X : Cx) (μ : Bool) (e : Expr) (es es' : List SE) (b : Bool) : Prop := PW X e (tT X.K μ es es' b)

theorem AllD.cons {o : TO} {ts : List TO} (h : AllD [o]) (t : AllD ts) : AllD (o :: ts) := by
  cases o with
  | b x =>
    cases x with
    | d _ => exact t
    | f _ => exact t
    | l _ => exact h.elim
    | k _ => exact h.elim
    | t _ => exact h.elim
  | w _ => exact t
/-- the list that a temporary shows -/
inductive LV : TO → List PyData → Prop
  | d {ds : List PyData} : LV (.b (.d (.list ds))) ds
  | b {ds : List PyData} : LV (.b (.l (ds.map .d))) ds
  | w {ds : List PyData} : LV (.w (.l (ds.map .d))) ds
section
variable {c : Ct} {ts : List TO} {tv : List V} {es es' : List SE} {σ : St} {H H' : Hp} {M : Addr → Prop} {as : List Addr} {v : V} {o : TO} {ds : List PyData}
theorem Tm.tl (t : Tm c M H (v :: tv) (o :: ts) as) : ∃ as', as'.Sublist as ∧ Tm c M H tv ts as' := by
  cases t with
  | b _ l => exact ⟨_, List.Sublist.refl _, l⟩
  | w _ _ l => exact ⟨_, List.sublist_append_right _ _, l⟩
theorem Tm.hd {x : OT} (t : Tm c M H (v :: tv) (.b x :: ts) as) : Bv c.K M H v x := by
  cases t with
  | b q _ => exact q
theorem Tm.lv (t : Tm c M H (v :: tv) (o :: ts) as) (lv : LV o ds) : ∃ a vs, v = .ref a ∧ H a = some (.lst vs) ∧ RpL c.K M H vs ds := by
  cases lv with
  | d => exact t.hd.lv.lst
  | b => exact t.hd.lst
  | w =>
    cases t with
    | w q _ _ => exact q.bv.lst
theorem Rl.lv (r : Rl c (o :: ts) (v :: tv) es σ H) (lv : LV o ds) : ∃ a vs, v = .ref a ∧ H a = some (.lst vs) ∧ vs.length = ds.length ∧ ∀ M as, Tm c M H (v :: tv) (o :: ts) as → RpL c.K M H vs ds := by
  obtain ⟨M, as, t⟩ := r.tms
  obtain ⟨a, vs, e, h, q⟩ := t.lv lv
  refine ⟨a, vs, e, h, q.len, fun M' as' t' => ?_⟩
  obtain ⟨a', vs', e', h', q'⟩ := t'.lv lv
  rw [e] at e'
  cases e'
  rw [h] at h'
  cases h'
  exact q'
theorem Rl.tup (r : Rl c (D (.tuple ds) :: ts) (v :: tv) es σ H) : ∃ a vs, v = .ref a ∧ Rd H a (.tup vs) ∧ vs.length = ds.length ∧ ∀ M as, Tm c M H (v :: tv) (D (.tuple ds) :: ts) as → RpL c.K M H vs ds := by
  obtain ⟨M, as, t⟩ := r.tms
  obtain ⟨a, vs, e, h, q⟩ := t.hd.tup
  refine ⟨a, vs, e, h, q.len, fun M' as' t' => ?_⟩
  obtain ⟨a', vs', e', h', q'⟩ := t'.hd.tup
  rw [e] at e'
  cases e'
  have : vs' = vs := by
    rcases h with h | ⟨u, h⟩ <;> rcases h' with h' | ⟨u', h'⟩ <;> (rw [h] at h'; cases h'; try rfl)
  rw [← this]
  exact q'
theorem Rl.vint {i : Int} (r : Rl c (I i :: ts) (v :: tv) es σ H) : v = .int i := let ⟨_, b⟩ := r.top; b.int
theorem Rl.vbool {i : Bool} (r : Rl c (B i :: ts) (v :: tv) es σ H) : v = .bl i := let ⟨_, b⟩ := r.top; b.bool
theorem Rl.vstr {i : Str} (r : Rl c (S i :: ts) (v :: tv) es σ H) : v = .str i := let ⟨_, b⟩ := r.top; b.str
theorem Rl.vnon (r : Rl c (D .none :: ts) (v :: tv) es σ H) : v = .non := let ⟨_, b⟩ := r.top; b.none
end

/-! ### the judgements' own rules -/
section
variable {X : Cx} {μ : Bool} {e a b d : Expr} {es es1 es2 es3 es' : List SE} {o o' oa ob oc : TO} {pos : Pos}
theorem d_eq (h : DG X μ e es es' o) (q : o = o') : DG X μ e es es' o' := q ▸ h
theorem d_up (h : DG X true e es es o) : DG X false e es es o := pe_w h fun _ _ _ ⟨c, ts, tv, k, r, ad, q⟩ => ⟨c, ts, tv, k, r, nofun, fun v H' _ r' => q v H' nofun r'⟩
theorem t_up {b : Bool} (h : DT X true e es es b) : DT X false e es es b := pt_w h fun _ _ _ ⟨c, ts, tv, k, r, ad, q⟩ => ⟨c, ts, tv, k, r, nofun, fun H' _ r' => q H' nofun r'⟩
/-- an own value becomes data -/
theorem d_fz {x : OT} {y : PyData} (h : DG X μ e es es' (.w x)) (f : fz x = some y) : DG X μ e es es' (D y) :=
  pe_w h fun _ _ _ ⟨c, ts, tv, k, r, ad, q⟩ => ⟨c, ts, tv, k, r, ad, fun v H' x r' => q v H' x (r'.freeze f)⟩
theorem fz_L : ∀ ds : List PyData, fz.fzL (ds.map OT.d) = some ds
  | [] => rfl
  | x :: r => by
    show (match fz (.d x), fz.fzL (r.map OT.d) with
      | some a, some b => some (a :: b)
      | _, _ => none) = _
    rw [fz_L r]; rfl
theorem fz_oL (ds : List PyData) : fz (oL ds) = some (.list ds) := by
  show (fz.fzL (ds.map OT.d)).map PyData.list = _
  rw [fz_L]; rfl
theorem d_fzL {ds : List PyData} (h : DG X μ e es es' (.w (oL ds))) : DG X μ e es es' (D (.list ds)) := d_fz h (fz_oL ds)
theorem d_var {x : Str} {i : Nat} {f : Bool} {t : OT} (h : gt es i = .s f t) (hN : X.N[i]? = some x := by rfl) (hv : Vis X.env.scope x := by first | exact Or.inl rfl | exact Or.inr (Or.inl rfl) | exact Or.inr (Or.inr rfl))
    (hd : (x == ("__debug__" : Str)) = false := by decide) (hcd : (x == ("__classdict__" : Str)) = false := by decide) : DG X μ (.Name x pos) es es (.b t) :=
  pe_w (pe_var hN hv hd hcd) fun σ H Q ⟨c, ts, tv, k, r, ad, q⟩ => by
    obtain ⟨v, e, r'⟩ := r.var h
    exact ⟨v, e, q v H (fun _ => Ext.rfl) r'⟩
theorem d_int {i : Int} {j : Nat} : DG X μ (.Constant (.int i) j pos) es es (I i) := pe_w pe_int fun _ H _ ⟨_, _, _, _, r, _, q⟩ => q _ H (fun _ => Ext.rfl) (r.int i)
theorem d_bool {i : Bool} {j : Nat} : DG X μ (.Constant (.bool i) j pos) es es (B i) := pe_w pe_bl fun _ H _ ⟨_, _, _, _, r, _, q⟩ => q _ H (fun _ => Ext.rfl) (r.bool i)
theorem d_str {i : Str} {j : Nat} : DG X μ (.Constant (.str i) j pos) es es (S i) := pe_w pe_str fun _ H _ ⟨_, _, _, _, r, _, q⟩ => q _ H (fun _ => Ext.rfl) (r.str i)
theorem d_non {j : Nat} : DG X μ (.Constant .none j pos) es es (D .none) := pe_w pe_non fun _ H _ ⟨_, _, _, _, r, _, q⟩ => q _ H (fun _ => Ext.rfl) r.non
theorem d_globI {x : Str} {i : Int} {t : Tok} (hm : X.mg x = some (.int i t)) (hg : Gl X x := by rfl) (hd : (x == ("__debug__" : Str)) = false := by decide) : DG X μ (.Name x pos) es es (I i) :=
  pe_w (pe_glob (v := .int i) hg hm ⟨t, rfl⟩ hd) fun _ H _ ⟨_, _, _, _, r, _, q⟩ => q _ H (fun _ => Ext.rfl) (r.int i)
theorem d_globS {x : Str} {i : Str} {t : Tok} (hm : X.mg x = some (.str i t)) (hg : Gl X x := by rfl) (hd : (x == ("__debug__" : Str)) = false := by decide) : DG X μ (.Name x pos) es es (S i) :=
  pe_w (pe_glob (v := .str i) hg hm ⟨t, rfl⟩ hd) fun _ H _ ⟨_, _, _, _, r, _, q⟩ => q _ H (fun _ => Ext.rfl) (r.str i)

/-- an operation of two values -/
def VR (K : PySem.W.Frag) (r : R2) (oa ob o : TO) : Prop := ∀ c ts tv es σ x y H Q, c.K = K → Rl c (ob :: oa :: ts) (y :: x :: tv) es σ H → (∀ v H', Ext H H' → Rl c (o :: ob :: oa :: ts) (v :: y :: x :: tv) es σ H' → Q v H') → r x y H Q
theorem op2 {r : R2} {ta tb : TE} (k : VR X.K r oa ob o) (hd : μ = false → AllD [oa]) : ∀ (σ : L2.St) (H : Hp) (Q : VK), tE X.K μ es es2 o σ H Q → tOp r (tE X.K μ es es1 oa) (tE X.K μ es1 es2 ob) σ H Q := fun σ H Q ⟨c, ts, tv, hk, r0, ad, q⟩ =>
  ⟨c, ts, tv, hk, r0, ad, fun x H1 e1 r1 => ⟨c, oa :: ts, x :: tv, hk, r1, fun z => (hd z).cons (ad z), fun y H2 e2 r2 => k c ts tv es2 σ x y H2 Q hk r2 fun v H3 e3 r3 => q v H3 (fun z => (e1 z).tr ((e2 z).tr e3)) r3.pop2.pop2⟩⟩
theorem d_op {op : Operator} {r : R2} (ho : OpR X (binaryOp op) r) (ha : DG X μ a es es1 oa) (hb : DG X μ b es1 es2 ob) (k : VR X.K r oa ob o) (hd : μ = false → AllD [oa] := by exact fun _ => trivial) : DG X μ (.BinOp a op b pos) es es2 o :=
  pe_w (pe_op ho ha hb) (op2 (ta := tVar 0) (tb := tVar 0) k hd)
theorem d_cmp {op : CmpOp} {r : R2} (ho : OpR X (compareOp op) r) (ha : DG X μ a es es1 oa) (hb : DG X μ b es1 es2 ob) (k : VR X.K r oa ob o) (hm : behindInMarks op b = false) (hd : μ = false → AllD [oa] := by exact fun _ => trivial) : DG X μ (.Compare a [op] [b] pos) es es2 o :=
  pe_w (pe_cmpR ho ha hb hm) (op2 (ta := tVar 0) (tb := tVar 0) k hd)
theorem t_cmp {op : CmpOp} {r : R2} {z : Bool} (ho : OpR X (compareOp op) r) (ha : DG X μ a es es1 oa) (hb : DG X μ b es1 es2 ob) (k : VR X.K r oa ob (B z)) (hm : behindInMarks op b = false) (hd : μ = false → AllD [oa] := by exact fun _ => trivial) : DT X μ (.Compare a [op] [b] pos) es es2 z :=
  pt_w (pt_cmpR ho ha hb hm) fun σ H Q ⟨c, ts, tv, hk, r0, ad, q⟩ =>
    op2 (μ := μ) (es := es) (ta := tVar 0) (tb := tVar 0) k hd σ H _ ⟨c, ts, tv, hk, r0, ad, fun v H' e r' => ⟨z, r'.vbool, q H' e r'.pop⟩⟩
theorem d_ix {r : R2} (hr : IxR X r) (ha : DG X μ a es es1 oa) (hb : DG X μ b es1 es2 ob) (k : VR X.K r oa ob o) (hs : PlainIx b := by exact fun _ _ => rfl) (hd : μ = false → AllD [oa] := by exact fun _ => trivial) : DG X μ (.Subscript a b pos) es es2 o :=
  pe_w (pe_ix hr ha hb hs) (op2 (ta := tVar 0) (tb := tVar 0) k hd)
/-- of one value -/
def V1 (K : PySem.W.Frag) (r : V → Hp → VK → Prop) (oa o : TO) : Prop := ∀ c ts tv es σ x H Q, c.K = K → Rl c (oa :: ts) (x :: tv) es σ H → (∀ v H', Ext H H' → Rl c (o :: oa :: ts) (v :: x :: tv) es σ H' → Q v H') → r x H Q
theorem op1 {r : V → Hp → VK → Prop} (k : V1 X.K r oa o) (σ : L2.St) (H : Hp) (Q : VK) (h : tE X.K μ es es1 o σ H Q) : tE X.K μ es es1 oa σ H fun x H1 => r x H1 Q := by
  obtain ⟨c, ts, tv, hk, r0, ad, q⟩ := h
  exact ⟨c, ts, tv, hk, r0, ad, fun x H1 e1 r1 => k c ts tv es1 σ x H1 Q hk r1 fun v H3 e3 r3 => q v H3 (fun z => (e1 z).tr e3) r3.pop2⟩
theorem d_un {op : UnaryOp} {r : V → Hp → VK → Prop} (ho : UnR X (unaryOp op) r) (ha : DG X μ a es es1 oa) (k : V1 X.K r oa o) : DG X μ (.UnaryOp op a pos) es es1 o := pe_w (pe_un ho ha) (op1 k)
/-- no starred argument -/
def Ns (a : Expr) : Prop := ∀ es env, starEach (a :: es) env = (false, eval a env) :: starEach es env
/-- a built-in function, a built-in class, of one value, of two -/
abbrev C1 (K : PySem.W.Frag) (r : List V → Hp → VK → Prop) (oa o : TO) : Prop := V1 K (fun x => r [x]) oa o
abbrev C2 (K : PySem.W.Frag) (r : List V → Hp → VK → Prop) (oa ob o : TO) : Prop := VR K (fun x y => r [x, y]) oa ob o
theorem d_b1 {x : Str} {id : String} {p : Pos} {r : List V → Hp → VK → Prop} (hc : CallR X (.builtin id) r) (hm : X.mg x = none) (hv : bootBuiltins x = some (.builtin id)) (ha : DG X μ a es es1 oa) (k : C1 X.K r oa o) (hg : Gl X x := by rfl)
    (hn : x ≠ "__name__" := by decide) (hdb : (x == ("__debug__" : Str)) = false := by decide) (na : Ns a := by exact fun _ _ => rfl) : DG X μ (.Call (.Name x p) [a] [] pos) es es1 o :=
  pe_w (pe_callB hc hg hm hv (pa_cons ha pa_nil (na _ _)) hn hdb (na _ _) rfl) (op1 k)
theorem d_b2 {x : Str} {id : String} {p : Pos} {r : List V → Hp → VK → Prop} (hc : CallR X (.builtin id) r) (hm : X.mg x = none) (hv : bootBuiltins x = some (.builtin id)) (ha : DG X μ a es es1 oa) (hb : DG X μ b es1 es2 ob) (k : C2 X.K r oa ob o) (hg : Gl X x := by rfl)
    (hn : x ≠ "__name__" := by decide) (hdb : (x == ("__debug__" : Str)) = false := by decide) (hd : μ = false → AllD [oa] := by exact fun _ => trivial) (na : Ns a := by exact fun _ _ => rfl) (nb : Ns b := by exact fun _ _ => rfl) : DG X μ (.Call (.Name x p) [a, b] [] pos) es es2 o :=
  pe_w (pe_callB hc hg hm hv (pa_cons ha (pa_cons hb pa_nil (nb _ _)) (na _ _)) hn hdb (na _ _) (by rw [nb]; rfl)) (op2 (r := fun x y => r [x, y]) (ta := tVar 0) (tb := tVar 0) k hd)
theorem d_ty1 {x : Str} {T : String} {p : Pos} {r : List V → Hp → VK → Prop} (hc : CallR X (.type T) r) (hm : X.mg x = none) (hv : bootBuiltins x = some (.type T)) (ha : DG X μ a es es1 oa) (k : C1 X.K r oa o) (hg : Gl X x := by rfl)
    (hn : x ≠ "__name__" := by decide) (hdb : (x == ("__debug__" : Str)) = false := by decide) (na : Ns a := by exact fun _ _ => rfl) : DG X μ (.Call (.Name x p) [a] [] pos) es es1 o :=
  pe_w (pe_callTy hc hg hm hv (pa_cons ha pa_nil (na _ _)) hn hdb (na _ _) rfl) (op1 k)

/-! ### tests -/
variable {x y z : Bool} {rest : List Expr}
theorem t_val (h : DG X μ e es es1 (B x)) (he : ∀ whole, isTrue e X.env whole = (do let v ← whole; standAt e.pos; holding [v] (truthy v)) := by intro _; rfl) : DT X μ e es es1 x :=
  pt_w (pt_val h he) fun σ H Q ⟨c, ts, tv, hk, r0, ad, q⟩ => ⟨c, ts, tv, hk, r0, ad, fun v H' e r' => ⟨x, r'.vbool, q H' e r'.pop⟩⟩
theorem t_not (h : DT X μ a es es1 x) : DT X μ (.UnaryOp .Not a pos) es es1 (!x) := pt_w (pt_not h) fun σ H Q ⟨c, ts, tv, hk, r0, ad, q⟩ => ⟨c, ts, tv, hk, r0, ad, q⟩
theorem d_not (h : DG X μ a es es1 (B x)) : DG X μ (.UnaryOp .Not a pos) es es1 (B (!x)) := pe_w (pe_not h) fun σ H Q ⟨c, ts, tv, hk, r0, ad, q⟩ =>
  ⟨c, ts, tv, hk, r0, ad, fun v H' e r' => ⟨x, r'.vbool, q _ H' e (r'.pop.bool _)⟩⟩
theorem DW.t (h : DW X μ e es es1 x) : DT X μ e es es1 x := PW.pt h
theorem w_and1 (h : DT X μ a es es1 x) : DW X μ (.BoolOp .And [a] pos) es es1 x := pw_and1 h
theorem w_or1 (h : DT X μ a es es1 x) : DW X μ (.BoolOp .Or [a] pos) es es1 x := pw_or1 h
theorem Rl.cast {c : Ct} {ts : List TO} {tv : List V} {es es' : List SE} {σ : L2.St} {H : Hp} (r : Rl c ts tv es σ H) (h : es = es') : Rl c ts tv es' σ H := h ▸ r
theorem w_and (ha : DT X μ a es es1 x) (ht : x = true → DW X μ (.BoolOp .And (b :: rest) pos) es1 es' z) (hf : x = false → es1 = es' ∧ false = z) : DW X μ (.BoolOp .And (a :: b :: rest) pos) es es' z := by
  cases x with
  | true =>
    refine pw_w (pw_and ha (ht rfl)) fun σ H Q ⟨c, ts, tv, hk, r0, ad, q⟩ => ⟨c, ts, tv, hk, r0, ad, fun H1 e1 r1 => ?_⟩
    (try dsimp only); rw [if_pos rfl]
    exact ⟨c, ts, tv, hk, r1, ad, fun H' e r' => q H' (fun m => (e1 m).tr (e m)) r'⟩
  | false =>
    obtain ⟨e1, e2⟩ := hf rfl
    subst e1 e2
    refine pw_w (pw_and (tB' := fun _ _ _ => False) ha ⟨fun _ _ _ _ _ _ _ h => h.elim⟩) fun σ H Q ⟨c, ts, tv, hk, r0, ad, q⟩ => ⟨c, ts, tv, hk, r0, ad, fun H1 e1 r1 => ?_⟩
    (try dsimp only); rw [if_neg Bool.false_ne_true]
    exact q H1 e1 r1
theorem w_or (ha : DT X μ a es es1 x) (hf : x = false → DW X μ (.BoolOp .Or (b :: rest) pos) es1 es' z) (ht : x = true → es1 = es' ∧ true = z) : DW X μ (.BoolOp .Or (a :: b :: rest) pos) es es' z := by
  cases x with
  | false =>
    refine pw_w (pw_or ha (hf rfl)) fun σ H Q ⟨c, ts, tv, hk, r0, ad, q⟩ => ⟨c, ts, tv, hk, r0, ad, fun H1 e1 r1 => ?_⟩
    (try dsimp only); rw [if_neg Bool.false_ne_true]
    exact ⟨c, ts, tv, hk, r1, ad, fun H' e r' => q H' (fun m => (e1 m).tr (e m)) r'⟩
  | true =>
    obtain ⟨e1, e2⟩ := ht rfl
    subst e1 e2
    refine pw_w (pw_or (tB' := fun _ _ _ => False) ha ⟨fun _ _ _ _ _ _ _ h => h.elim⟩) fun σ H Q ⟨c, ts, tv, hk, r0, ad, q⟩ => ⟨c, ts, tv, hk, r0, ad, fun H1 e1 r1 => ?_⟩
    (try dsimp only); rw [if_pos rfl]
    exact q H1 e1 r1
theorem d_one {op : BoolOp} (h : DG X μ a es es1 o) : DG X μ (.BoolOp op [a] pos) es es1 o := pe_one h
theorem d_and (ha : DG X μ a es es1 (B x)) (ht : x = true → DG X μ (.BoolOp .And (b :: rest) pos) es1 es' (B z)) (hf : x = false → es1 = es' ∧ false = z) : DG X μ (.BoolOp .And (a :: b :: rest) pos) es es' (B z) := by
  cases x with
  | true =>
    refine pe_w (pe_and ha (ht rfl)) fun σ H Q ⟨c, ts, tv, hk, r0, ad, q⟩ => ⟨c, ts, tv, hk, r0, ad, fun v H1 e1 r1 => ⟨true, r1.vbool, ?_⟩⟩
    (try dsimp only); rw [if_pos rfl]
    exact ⟨c, ts, tv, hk, r1.pop, ad, fun v H' e r' => q v H' (fun m => (e1 m).tr (e m)) r'⟩
  | false =>
    obtain ⟨e1, e2⟩ := hf rfl
    subst e1 e2
    refine pe_w (pe_and (tb := fun _ _ _ => False) ha ⟨fun _ _ _ _ _ _ h => h.elim⟩) fun σ H Q ⟨c, ts, tv, hk, r0, ad, q⟩ => ⟨c, ts, tv, hk, r0, ad, fun v H1 e1 r1 => ⟨false, r1.vbool, ?_⟩⟩
    (try dsimp only); rw [if_neg Bool.false_ne_true]
    exact q _ H1 e1 (r1.pop.bool _)
theorem d_or (ha : DG X μ a es es1 (B x)) (hf : x = false → DG X μ (.BoolOp .Or (b :: rest) pos) es1 es' (B z)) (ht : x = true → es1 = es' ∧ true = z) : DG X μ (.BoolOp .Or (a :: b :: rest) pos) es es' (B z) := by
  cases x with
  | false =>
    refine pe_w (pe_or ha (hf rfl)) fun σ H Q ⟨c, ts, tv, hk, r0, ad, q⟩ => ⟨c, ts, tv, hk, r0, ad, fun v H1 e1 r1 => ⟨false, r1.vbool, ?_⟩⟩
    (try dsimp only); rw [if_neg Bool.false_ne_true]
    exact ⟨c, ts, tv, hk, r1.pop, ad, fun v H' e r' => q v H' (fun m => (e1 m).tr (e m)) r'⟩
  | true =>
    obtain ⟨e1, e2⟩ := ht rfl
    subst e1 e2
    refine pe_w (pe_or (tb := fun _ _ _ => False) ha ⟨fun _ _ _ _ _ _ h => h.elim⟩) fun σ H Q ⟨c, ts, tv, hk, r0, ad, q⟩ => ⟨c, ts, tv, hk, r0, ad, fun v H1 e1 r1 => ⟨true, r1.vbool, ?_⟩⟩
    (try dsimp only); rw [if_pos rfl]
    exact q _ H1 e1 (r1.pop.bool _)
theorem d_ite (hc : DT X μ d es es1 x) (ha : x = true → DG X μ a es1 es' o) (hb : x = false → DG X μ b es1 es' o) : DG X μ (.IfExp d a b pos) es es' o := by
  cases x with
  | true =>
    refine pe_w (pe_ifExp (tb := fun _ _ _ => False) hc (ha rfl) ⟨fun _ _ _ _ _ _ h => h.elim⟩) fun σ H Q ⟨c, ts, tv, hk, r0, ad, q⟩ => ⟨c, ts, tv, hk, r0, ad, fun H1 e1 r1 => ?_⟩
    (try dsimp only); rw [if_pos rfl]
    exact ⟨c, ts, tv, hk, r1, ad, fun v H' e r' => q v H' (fun m => (e1 m).tr (e m)) r'⟩
  | false =>
    refine pe_w (pe_ifExp (ta := fun _ _ _ => False) hc ⟨fun _ _ _ _ _ _ h => h.elim⟩ (hb rfl)) fun σ H Q ⟨c, ts, tv, hk, r0, ad, q⟩ => ⟨c, ts, tv, hk, r0, ad, fun H1 e1 r1 => ?_⟩
    (try dsimp only); rw [if_neg Bool.false_ne_true]
    exact ⟨c, ts, tv, hk, r1, ad, fun v H' e r' => q v H' (fun m => (e1 m).tr (e m)) r'⟩
/-- a op b op' c -/
theorem d_chain {op op' : CmpOp} {r r' : R2} (ho : OpR X (compareOp op) r) (ho' : OpR X (compareOp op') r') (ha : DG X μ a es es1 oa) (hb : DG X μ b es1 es2 ob) (k : VR X.K r oa ob (B x)) (hc : x = true → DG X μ d es2 es' oc) (k' : x = true → VR X.K r' ob oc (B z))
    (hf : x = false → es2 = es' ∧ false = z) (hm : lastMarks [op, op'] [b, d] = false := by with_unfolding_all rfl) (hd : μ = false → AllD [oa] ∧ AllD [ob] := by exact fun _ => ⟨trivial, trivial⟩) : DG X μ (.Compare a [op, op'] [b, d] pos) es es' (B z) := by
  cases x with
  | true =>
    refine pe_w (pe_chain ho ho' ha hb (hc rfl) hm) fun σ H Q ⟨c, ts, tv, hk, r0, ad, q⟩ => ⟨c, ts, tv, hk, r0, ad, fun u H1 e1 r1 => ⟨c, oa :: ts, u :: tv, hk, r1, fun m => (hd m).1.cons (ad m), fun w H2 e2 r2 => ?_⟩⟩
    refine k c ts tv es2 σ u w H2 _ hk r2 fun v3 H3 e3 r3 => ⟨true, r3.vbool, ?_⟩
    (try dsimp only); rw [if_pos rfl]
    refine ⟨c, ob :: ts, w :: tv, hk, r3.pop.pop2, fun m => (hd m).2.cons (ad m), fun v4 H4 e4 r4 => ?_⟩
    exact k' rfl c ts tv es' σ w v4 H4 Q hk r4 fun v5 H5 e5 r5 => q v5 H5 (fun m => (e1 m).tr ((e2 m).tr (e3.tr ((e4 m).tr e5)))) r5.pop2.pop2
  | false =>
    obtain ⟨e1, e2⟩ := hf rfl
    subst e1 e2
    refine pe_w (pe_chain (tc := fun _ _ _ => False) ho ho' ha hb ⟨fun _ _ _ _ _ _ h => h.elim⟩ hm) fun σ H Q ⟨c, ts, tv, hk, r0, ad, q⟩ => ⟨c, ts, tv, hk, r0, ad, fun u H1 e1 r1 => ⟨c, oa :: ts, u :: tv, hk, r1, fun m => (hd m).1.cons (ad m), fun w H2 e2 r2 => ?_⟩⟩
    refine k c ts tv _ σ u w H2 _ hk r2 fun v3 H3 e3 r3 => ⟨false, r3.vbool, ?_⟩
    (try dsimp only); rw [if_neg Bool.false_ne_true]
    exact q _ H3 (fun m => (e1 m).tr ((e2 m).tr e3)) (r3.pop.pop.pop.bool _)
theorem t_chain {op op' : CmpOp} {r r' : R2} (ho : OpR X (compareOp op) r) (ho' : OpR X (compareOp op') r') (ha : DG X μ a es es1 oa) (hb : DG X μ b es1 es2 ob) (k : VR X.K r oa ob (B x)) (hc : x = true → DG X μ d es2 es' oc) (k' : x = true → VR X.K r' ob oc (B z))
    (hf : x = false → es2 = es' ∧ false = z) (hm : lastMarks [op, op'] [b, d] = false := by with_unfolding_all rfl) (hd : μ = false → AllD [oa] ∧ AllD [ob] := by exact fun _ => ⟨trivial, trivial⟩) : DT X μ (.Compare a [op, op'] [b, d] pos) es es' z := by
  cases x with
  | true =>
    refine pt_w (pt_chain ho ho' ha hb (hc rfl) hm) fun σ H Q ⟨c, ts, tv, hk, r0, ad, q⟩ => ⟨c, ts, tv, hk, r0, ad, fun u H1 e1 r1 => ⟨c, oa :: ts, u :: tv, hk, r1, fun m => (hd m).1.cons (ad m), fun w H2 e2 r2 => ?_⟩⟩
    refine k c ts tv es2 σ u w H2 _ hk r2 fun v3 H3 e3 r3 => ⟨true, r3.vbool, ?_⟩
    (try dsimp only); rw [if_pos rfl]
    refine ⟨c, ob :: ts, w :: tv, hk, r3.pop.pop2, fun m => (hd m).2.cons (ad m), fun v4 H4 e4 r4 => ?_⟩
    exact k' rfl c ts tv es' σ w v4 H4 _ hk r4 fun v5 H5 e5 r5 => ⟨z, r5.vbool, q H5 (fun m => (e1 m).tr ((e2 m).tr (e3.tr ((e4 m).tr e5)))) r5.pop.pop.pop⟩
  | false =>
    obtain ⟨e1, e2⟩ := hf rfl
    subst e1 e2
    refine pt_w (pt_chain (tc := fun _ _ _ => False) ho ho' ha hb ⟨fun _ _ _ _ _ _ h => h.elim⟩ hm) fun σ H Q ⟨c, ts, tv, hk, r0, ad, q⟩ => ⟨c, ts, tv, hk, r0, ad, fun u H1 e1 r1 => ⟨c, oa :: ts, u :: tv, hk, r1, fun m => (hd m).1.cons (ad m), fun w H2 e2 r2 => ?_⟩⟩
    refine k c ts tv _ σ u w H2 _ hk r2 fun v3 H3 e3 r3 => ⟨false, r3.vbool, ?_⟩
    (try dsimp only); rw [if_neg Bool.false_ne_true]
    exact ⟨false, rfl, q H3 (fun m => (e1 m).tr ((e2 m).tr e3)) r3.pop.pop.pop⟩
end
end Wk

/-! Wk6 -/
set_option Elab.async false
set_option linter.all false
set_option maxRecDepth 100000
set_option maxHeartbeats 4000000
/-! Wk6: operations by values -/
namespace Wk
open PySem PySem.Spec PyProof.Rows L2
section
variable {K : PySem.W.Frag} {o oa ob : TO} {ds es : List PyData} {d e : PyData}
theorem vr_I {g : Int → Int → Int} {i j : Int} : VR K (rI0 fun i j => .int (g i j)) (I i) (I j) (I (g i j)) := fun c ts tv es σ x y H Q _ r q =>
  ⟨i, j, r.pop.vint, r.vint, q _ H Ext.rfl (r.int _)⟩
theorem vr_IB {g : Int → Int → Bool} {i j : Int} : VR K (rI0 fun i j => .bl (g i j)) (I i) (I j) (B (g i j)) := fun c ts tv es σ x y H Q _ r q =>
  ⟨i, j, r.pop.vint, r.vint, q _ H Ext.rfl (r.bool _)⟩
theorem vr_IC {C : Int → Int → Prop} {g : Int → Int → Int} {i j : Int} (hc : C i j) : VR K (rI C fun i j => .int (g i j)) (I i) (I j) (I (g i j)) := fun c ts tv es σ x y H Q _ r q =>
  ⟨i, j, r.pop.vint, r.vint, hc, q _ H Ext.rfl (r.int _)⟩
theorem v1_I {g : Int → Int} {i : Int} : V1 K (rU fun i => .int (g i)) (I i) (I (g i)) := fun c ts tv es σ x H Q _ r q => ⟨i, r.vint, q _ H Ext.rfl (r.int _)⟩
theorem vr_eqI {i j : Int} : VR K rEq (I i) (I j) (B (decide (i = j))) := fun c ts tv es σ x y H Q _ r q => by
  have e1 := r.pop.vint
  have e2 := r.vint
  subst e1 e2
  refine ⟨rfl, ?_⟩
  rw [dec_int, Bool.beq_eq_decide_eq]
  exact q _ H Ext.rfl (r.bool _)
theorem vr_neI {i j : Int} : VR K rNe (I i) (I j) (B (!decide (i = j))) := fun c ts tv es σ x y H Q _ r q => by
  have e1 := r.pop.vint
  have e2 := r.vint
  subst e1 e2
  refine ⟨rfl, ?_⟩
  rw [dec_int, Bool.beq_eq_decide_eq]
  exact q _ H Ext.rfl (r.bool _)
theorem vr_eqS {i j : Str} : VR K rEq (S i) (S j) (B (decide (i = j))) := fun c ts tv es σ x y H Q _ r q => by
  have e1 := r.pop.vstr
  have e2 := r.vstr
  subst e1 e2
  refine ⟨rfl, ?_⟩
  rw [dec_str, Bool.beq_eq_decide_eq]
  exact q _ H Ext.rfl (r.bool _)
theorem vr_neS {i j : Str} : VR K rNe (S i) (S j) (B (!decide (i = j))) := fun c ts tv es σ x y H Q _ r q => by
  have e1 := r.pop.vstr
  have e2 := r.vstr
  subst e1 e2
  refine ⟨rfl, ?_⟩
  rw [dec_str, Bool.beq_eq_decide_eq]
  exact q _ H Ext.rfl (r.bool _)
theorem vr_eqB {i j : Bool} : VR K rEq (B i) (B j) (B (decide (i = j))) := fun c ts tv es σ x y H Q _ r q => by
  have e1 := r.pop.vbool
  have e2 := r.vbool
  subst e1 e2
  refine ⟨rfl, ?_⟩
  rw [dec_bl, Bool.beq_eq_decide_eq]
  exact q _ H Ext.rfl (r.bool _)
theorem vr_neB {i j : Bool} : VR K rNe (B i) (B j) (B (!decide (i = j))) := fun c ts tv es σ x y H Q _ r q => by
  have e1 := r.pop.vbool
  have e2 := r.vbool
  subst e1 e2
  refine ⟨rfl, ?_⟩
  rw [dec_bl, Bool.beq_eq_decide_eq]
  exact q _ H Ext.rfl (r.bool _)
/-- the datum that a temporary shows -/
inductive DV : TO → PyData → Prop
  | d {x : PyData} : DV (.b (.d x)) x
  | l {o : TO} {ds : List PyData} : LV o ds → DV o (.list ds)
theorem Tm.dv {c : Ct} {ts : List TO} {tv : List V} {H : Hp} {M : Addr → Prop} {as : List Addr} {v : V} (t : Tm c M H (v :: tv) (o :: ts) as) (h : DV o d) : Dp c.K H v d := by
  cases h with
  | d => exact t.hd.rp.dp
  | l lv =>
    obtain ⟨a, vs, e, h, q⟩ := t.lv lv
    subst e
    exact .lst (.inl (.inl h)) q.dp
theorem vr_eqD (ha : DV oa d) (hb : DV ob e) (h1 : SeqAt.shaped d = true) (h2 : SeqAt.shaped e = true) : VR K (rEqD K) oa ob (B (PyData.eqv d e)) := fun c ts tv es σ x y H Q k r q => by
  subst k
  obtain ⟨M, as, t⟩ := r.tms
  obtain ⟨as', _, t'⟩ := t.tl
  exact ⟨d, e, t'.dv ha, t.dv hb, h1, h2, q _ H Ext.rfl (r.bool _)⟩
theorem vr_neD (ha : DV oa d) (hb : DV ob e) (h1 : SeqAt.shaped d = true) (h2 : SeqAt.shaped e = true) : VR K (rNeD K) oa ob (B (!PyData.eqv d e)) := fun c ts tv es σ x y H Q k r q => by
  subst k
  obtain ⟨M, as, t⟩ := r.tms
  obtain ⟨as', _, t'⟩ := t.tl
  exact ⟨d, e, t'.dv ha, t.dv hb, h1, h2, q _ H Ext.rfl (r.bool _)⟩
def isN : PyData → Bool
  | .none => true
  | _ => false
theorem Rp.isN {M : Addr → Prop} {H : Hp} {v : V} (h : Rp K M H v d) : decide (v = V.non) = Wk.isN d := by
  cases h <;> rfl
theorem vr_isN {j : TO} : VR K (fun x y H Q => y = .non ∧ Q (.bl (decide (x = .non))) H) (D d) (D .none) (B (isN d)) := fun c ts tv es σ x y H Q k r q => by
  obtain ⟨M, b⟩ := r.pop.top
  refine ⟨r.vnon, ?_⟩
  rw [b.rp.isN]
  exact q _ H Ext.rfl (r.bool _)
theorem vr_notN {j : TO} : VR K (fun x y H Q => y = .non ∧ Q (.bl (!decide (x = .non))) H) (D d) (D .none) (B (!isN d)) := fun c ts tv es σ x y H Q k r q => by
  obtain ⟨M, b⟩ := r.pop.top
  refine ⟨r.vnon, ?_⟩
  rw [b.rp.isN]
  exact q _ H Ext.rfl (r.bool _)
/-! ### items, slices -/
theorem atI_get {vs : List V} {M : Addr → Prop} {H : Hp} {i : Int} (l : RpL K M H vs ds) (h : atI ds i = some d) : ∃ v, atI vs i = some v ∧ Rp K M H v d := by
  unfold atI at h ⊢
  rw [l.len]
  cases q : ixN ds.length i with
  | none => rw [q] at h; cases h
  | some j =>
    rw [q] at h
    exact l.get h
theorem atI_map {α β : Type} (f : α → β) {xs : List α} {i : Int} {a : α} (h : atI xs i = some a) : atI (xs.map f) i = some (f a) := by
  unfold atI at h ⊢
  rw [List.length_map]
  cases q : ixN xs.length i with
  | none => rw [q] at h; cases h
  | some j =>
    rw [q] at h
    have h' : xs[j]? = some a := h
    show (xs.map f)[j]? = _
    rw [List.getElem?_map, h']; rfl
theorem vr_ixL (lv : LV o ds) {i : Int} (h : atI ds i = some d) : VR K (rIxL K) o (I i) (D d) := fun c ts tv es σ x y H Q k r q => by
  subst k
  obtain ⟨a, vs, e, hH, hl, f⟩ := r.pop.lv lv
  have ei := r.vint
  obtain ⟨M, as, t⟩ := r.tms
  obtain ⟨as', _, t'⟩ := t.tl
  obtain ⟨v, hv, _⟩ := atI_get (f _ _ t') h
  refine ⟨a, vs, i, v, e, ei, .inl (.inl hH), hv, q v H Ext.rfl (r.push fun M as t => ?_)⟩
  obtain ⟨as', _, t'⟩ := t.tl
  obtain ⟨v', hv', r'⟩ := atI_get (f _ _ t') h
  rw [hv] at hv'
  cases hv'
  exact .d r'
theorem vr_ixT {i : Int} (h : atI ds i = some d) : VR K (rIxT K) (D (.tuple ds)) (I i) (D d) := fun c ts tv es σ x y H Q k r q => by
  subst k
  obtain ⟨a, vs, e, hH, hl, f⟩ := r.pop.tup
  have ei := r.vint
  obtain ⟨M, as, t⟩ := r.tms
  obtain ⟨as', _, t'⟩ := t.tl
  obtain ⟨v, hv, _⟩ := atI_get (f _ _ t') h
  refine ⟨a, vs, i, v, e, ei, .inl hH, hv, q v H Ext.rfl (r.push fun M as t => ?_)⟩
  obtain ⟨as', _, t'⟩ := t.tl
  obtain ⟨v', hv', r'⟩ := atI_get (f _ _ t') h
  rw [hv] at hv'
  cases hv'
  exact .d r'
/-- an item of a list of trees that is only borrowed -/
theorem BvL.get {M : Addr → Prop} {H : Hp} : ∀ {vs : List V} {xs : List OT} {i : Nat} {x : OT}, BvL K M H vs xs → xs[i]? = some x → ∃ v, vs[i]? = some v ∧ Bv K M H v x
  | _, _, _, _, .nil, e => by simp at e
  | _, _, 0, _, .cons a _, e => by
    simp only [List.getElem?_cons_zero, Option.some.injEq] at e
    subst e
    exact ⟨_, rfl, a⟩
  | _, _, i + 1, _, .cons _ l, e => by
    simp only [List.getElem?_cons_succ] at e
    obtain ⟨v, h, r⟩ := BvL.get l e
    exact ⟨v, by simpa using h, r⟩
theorem BvL.len {M : Addr → Prop} {H : Hp} : ∀ {vs : List V} {xs : List OT}, BvL K M H vs xs → vs.length = xs.length
  | _, _, .nil => rfl
  | _, _, .cons _ l => congrArg (· + 1) l.len
theorem vr_ixO {xs : List OT} {x : OT} {i : Int} (h : atI xs i = some x) : VR K (rIxL K) (.b (.l xs)) (I i) (.b x) := fun c ts tv es σ v y H Q k r q => by
  subst k
  have ei := r.vint
  have get : ∀ {M vs}, BvL c.K M H vs xs → ∃ w, atI vs i = some w ∧ Bv c.K M H w x := fun {M vs} l => by
    unfold atI at h ⊢
    rw [l.len]
    cases q : ixN xs.length i with
    | none => rw [q] at h; cases h
    | some j =>
      rw [q] at h
      exact l.get h
  obtain ⟨M, as, t⟩ := r.tms
  obtain ⟨as', _, t'⟩ := t.tl
  cases t'.hd with
  | l hH l =>
    rename_i p vs
    obtain ⟨w, hw, _⟩ := get l
    refine ⟨p, vs, i, w, rfl, ei, .inl (.inl hH), hw, q w H Ext.rfl (r.push fun M as t => ?_)⟩
    obtain ⟨as', _, t'⟩ := t.tl
    cases t'.hd with
    | l hH' l' =>
      rw [hH] at hH'
      cases hH'
      obtain ⟨w', hw', b⟩ := get l'
      rw [hw] at hw'
      cases hw'
      exact b
/-! ### built-in functions -/
def rLenL (K : PySem.W.Frag) : List V → Hp → VK → Prop := fun xs H Q => ∃ p ys, xs = [.ref p] ∧ (SqL K H p ys ∨ SqT K H p ys) ∧ Q (.int ys.length) H
theorem cr_len {X : Cx} : CallR X (.builtin "len") (rLenL X.K) := call_len_seq
theorem c1_lenL (lv : LV o ds) : C1 K (rLenL K) o (I ds.length) := fun c ts tv es σ x H Q k r q => by
  obtain ⟨a, vs, e, hH, hl, f⟩ := r.lv lv
  subst e
  refine ⟨a, vs, rfl, .inl (.inl (.inl hH)), ?_⟩
  rw [hl]
  exact q _ H Ext.rfl (r.int _)
theorem c1_lenT : C1 K (rLenL K) (D (.tuple ds)) (I ds.length) := fun c ts tv es σ x H Q k r q => by
  obtain ⟨a, vs, e, hH, hl, f⟩ := r.tup
  subst e
  refine ⟨a, vs, rfl, .inr (.inl hH), ?_⟩
  rw [hl]
  exact q _ H Ext.rfl (r.int _)
theorem c1_lenO {xs : List OT} : C1 K (rLenL K) (.b (.l xs)) (I xs.length) := fun c ts tv es σ x H Q k r q => by
  obtain ⟨M, b⟩ := r.top
  cases b with
  | l hH l =>
    refine ⟨_, _, rfl, .inl (.inl (.inl hH)), ?_⟩
    rw [l.len]
    exact q _ H Ext.rfl (r.int _)
theorem c1_sum {ns : List Int} (lv : LV o (ns.map PyData.int)) : C1 K (rSum K) o (I ns.sum) := fun c ts tv es σ x H Q k r q => by
  obtain ⟨M, as, t⟩ := r.tms
  obtain ⟨a, vs, e, hH, hl, f⟩ := r.lv lv
  have ev := (f _ _ t).ints
  subst e ev
  exact ⟨a, ns, rfl, .inl (.inl hH), q _ H Ext.rfl (r.int _)⟩
theorem c1_all {bs : List Bool} (lv : LV o (bs.map PyData.bool)) : C1 K (rAll K) o (B (bs.all id)) := fun c ts tv es σ x H Q k r q => by
  obtain ⟨M, as, t⟩ := r.tms
  obtain ⟨a, vs, e, hH, hl, f⟩ := r.lv lv
  have ev := (f _ _ t).bools
  subst e ev
  exact ⟨a, bs, rfl, .inl (.inl hH), q _ H Ext.rfl (r.bool _)⟩
theorem c1_any {bs : List Bool} (lv : LV o (bs.map PyData.bool)) : C1 K (rAny K) o (B (bs.any id)) := fun c ts tv es σ x H Q k r q => by
  obtain ⟨M, as, t⟩ := r.tms
  obtain ⟨a, vs, e, hH, hl, f⟩ := r.lv lv
  have ev := (f _ _ t).bools
  subst e ev
  exact ⟨a, bs, rfl, .inl (.inl hH), q _ H Ext.rfl (r.bool _)⟩
theorem max_unique {ns : List Int} {m n : Int} (h : ns.max? = some n) (h1 : m ∈ ns) (h2 : ∀ y ∈ ns, y ≤ m) : m = n := by
  obtain ⟨a, b⟩ := List.max?_eq_some_iff.mp h
  exact Int.le_antisymm (b m h1) (h2 n a)
theorem min_unique {ns : List Int} {m n : Int} (h : ns.min? = some n) (h1 : m ∈ ns) (h2 : ∀ y ∈ ns, m ≤ y) : m = n := by
  obtain ⟨a, b⟩ := List.min?_eq_some_iff.mp h
  exact Int.le_antisymm (h2 n a) (b m h1)
theorem c1_max {ns : List Int} {n : Int} (lv : LV o (ns.map PyData.int)) (h : ns.max? = some n) : C1 K (rMax K) o (I n) := fun c ts tv es σ x H Q k r q => by
  obtain ⟨M, as, t⟩ := r.tms
  obtain ⟨a, vs, e, hH, hl, f⟩ := r.lv lv
  have ev := (f _ _ t).ints
  subst e ev
  refine ⟨a, ns, rfl, .inl (.inl hH), ?_, fun m h1 h2 => ?_⟩
  · cases ns with
    | nil => simp at h
    | cons _ _ => simp
  · rw [max_unique h h1 h2]
    exact q _ H Ext.rfl (r.int _)
theorem c1_min {ns : List Int} {n : Int} (lv : LV o (ns.map PyData.int)) (h : ns.min? = some n) : C1 K (rMin K) o (I n) := fun c ts tv es σ x H Q k r q => by
  obtain ⟨M, as, t⟩ := r.tms
  obtain ⟨a, vs, e, hH, hl, f⟩ := r.lv lv
  have ev := (f _ _ t).ints
  subst e ev
  refine ⟨a, ns, rfl, .inl (.inl hH), ?_, fun m h1 h2 => ?_⟩
  · cases ns with
    | nil => simp at h
    | cons _ _ => simp
  · rw [min_unique h h1 h2]
    exact q _ H Ext.rfl (r.int _)
theorem c2_max {i j : Int} : C2 K (fun xs H Q => ∃ i j, xs = [.int i, .int j] ∧ Q (.int (if j > i then j else i)) H) (I i) (I j) (I (max i j)) := fun c ts tv es σ x y H Q k r q => by
  have e1 := r.pop.vint
  have e2 := r.vint
  subst e1 e2
  refine ⟨i, j, rfl, ?_⟩
  have e : (if j > i then j else i) = max i j := by split <;> omega
  rw [e]
  exact q _ H Ext.rfl (r.int _)
theorem c2_min {i j : Int} : C2 K (fun xs H Q => ∃ i j, xs = [.int i, .int j] ∧ Q (.int (if j < i then j else i)) H) (I i) (I j) (I (min i j)) := fun c ts tv es σ x y H Q k r q => by
  have e1 := r.pop.vint
  have e2 := r.vint
  subst e1 e2
  refine ⟨i, j, rfl, ?_⟩
  have e : (if j < i then j else i) = min i j := by split <;> omega
  rw [e]
  exact q _ H Ext.rfl (r.int _)
theorem c1_abs {i : Int} : C1 K (fun xs H Q => ∃ i, xs = [.int i] ∧ Q (.int (if i < 0 then -i else i)) H) (I i) (I i.natAbs) := fun c ts tv es σ x H Q k r q => by
  have e1 := r.vint
  subst e1
  refine ⟨i, rfl, ?_⟩
  have e : (if i < 0 then -i else i) = (i.natAbs : Int) := by split <;> omega
  rw [e]
  exact q _ H Ext.rfl (r.int _)
def rInt1 : List V → Hp → VK → Prop := fun xs H Q => (∃ i, xs = [.int i] ∧ Q (.int i) H) ∨ ∃ k, xs = [.bl k] ∧ Q (.int (if k then 1 else 0)) H
theorem cr_int {X : Cx} : CallR X (.type "int") rInt1 := call_int1
theorem c1_int {i : Int} : C1 K rInt1 (I i) (I i) := fun c ts tv es σ x H Q k r q => .inl ⟨i, by rw [r.vint], q _ H Ext.rfl (r.int _)⟩
theorem c1_intB {b : Bool} : C1 K rInt1 (B b) (I (if b then 1 else 0)) := fun c ts tv es σ x H Q k r q => .inr ⟨b, by rw [r.vbool], q _ H Ext.rfl (r.int _)⟩
def rListOf (K : PySem.W.Frag) : List V → Hp → VK → Prop := fun xs H Q => ∃ p ys, xs = [.ref p] ∧ (SqL K H p ys ∨ SqT K H p ys) ∧ ∀ l, H l = none → Q (.ref l) (upd H l (.lst ys))
theorem cr_list {X : Cx} : CallR X (.type "list") (rListOf X.K) := call_list_of
theorem c1_listL (lv : LV o ds) : C1 K (rListOf K) o (.w (oL ds)) := fun c ts tv es σ x H Q k r q => by
  obtain ⟨a, vs, e, hH, hl, f⟩ := r.lv lv
  subst e
  exact ⟨a, vs, rfl, .inl (.inl (.inl hH)), fun l hn => q _ _ (Ext.nw hn) (r.newL hn f)⟩
theorem c1_listT : C1 K (rListOf K) (D (.tuple ds)) (.w (oL ds)) := fun c ts tv es σ x H Q k r q => by
  obtain ⟨a, vs, e, hH, hl, f⟩ := r.tup
  subst e
  exact ⟨a, vs, rfl, .inr (.inl hH), fun l hn => q _ _ (Ext.nw hn) (r.newL hn f)⟩
def rTupOf (K : PySem.W.Frag) : List V → Hp → VK → Prop := fun xs H Q => ∃ p ys, xs = [.ref p] ∧ ((SqL K H p ys ∧ ∀ l, H l = none → Q (.ref l) (upd H l (.tup ys))) ∨ (SqT K H p ys ∧ Q (.ref p) H))
theorem cr_tuple {X : Cx} : CallR X (.type "tuple") (rTupOf X.K) := call_tuple_of
theorem c1_tupL (lv : LV o ds) : C1 K (rTupOf K) o (D (.tuple ds)) := fun c ts tv es σ x H Q k r q => by
  obtain ⟨a, vs, e, hH, hl, f⟩ := r.lv lv
  subst e
  exact ⟨a, vs, rfl, .inl ⟨.inl (.inl hH), fun l hn => q _ _ (Ext.nw hn) (r.newT hn f)⟩⟩
theorem c1_tupT : C1 K (rTupOf K) (D (.tuple ds)) (D (.tuple ds)) := fun c ts tv es σ x H Q k r q => by
  obtain ⟨a, vs, e, hH, hl, f⟩ := r.tup
  subst e
  exact ⟨a, vs, rfl, .inr ⟨.inl hH, q _ _ Ext.rfl (r.push fun M as t => t.hd)⟩⟩
theorem Tm.pop2 {c : Ct} {ts : List TO} {tv : List V} {H : Hp} {M : Addr → Prop} {as : List Addr} {v w : V} {o' : TO} (t : Tm c M H (v :: w :: tv) (o :: o' :: ts) as) : (∃ as', Tm c M H (w :: tv) (o' :: ts) as') ∧ ∃ as', Tm c M H (v :: tv) (o :: ts) as' := by
  cases t with
  | b q l =>
    refine ⟨⟨_, l⟩, ?_⟩
    cases l with
    | b _ l => exact ⟨_, .b q l⟩
    | w _ _ l => exact ⟨_, .b q l⟩
  | w q ow l =>
    refine ⟨⟨_, l⟩, ?_⟩
    cases l with
    | b _ l => exact ⟨_, .w q ow l⟩
    | w _ _ l => exact ⟨_, .w q ow l⟩
theorem vr_cat (la : LV oa ds) (lb : LV ob es) (h : ds.length + es.length ≤ sizeLine) : VR K rCat oa ob (.w (oL (ds ++ es))) := fun c ts tv es' σ x y H Q k r q => by
  obtain ⟨a, vs, e, hH, hl, f⟩ := r.pop2.lv lb
  obtain ⟨a', vs', e', hH', hl', f'⟩ := r.pop.lv la
  refine ⟨a', a, vs', vs, e', e, hH', hH, by rw [hl, hl']; exact h, fun p hn => q _ _ (Ext.nw hn) (r.newL hn fun M as t => ?_)⟩
  obtain ⟨⟨_, t1⟩, _, t2⟩ := t.pop2
  exact (f' _ _ t1).app (f _ _ t2)
theorem RpL.rep {M : Addr → Prop} {H : Hp} {vs : List V} (l : RpL K M H vs ds) : ∀ n : Nat, RpL K M H (List.replicate n vs).flatten (List.replicate n ds).flatten
  | 0 => .nil
  | n + 1 => by
    rw [List.replicate_succ, List.replicate_succ, List.flatten_cons, List.flatten_cons]
    exact l.app (l.rep n)
theorem vr_rep (la : LV oa ds) {k : Int} (h1 : k < 2 ^ 63) (h2 : -(2 ^ 63) ≤ k) (h : ds.length * k.toNat ≤ sizeLine) : VR K rRep oa (I k) (.w (oL (List.replicate k.toNat ds).flatten)) := fun c ts tv es' σ x y H Q _ r q => by
  obtain ⟨a, vs, e, hH, hl, f⟩ := r.pop.lv la
  refine ⟨a, k, vs, e, r.vint, hH, h2, h1, by rw [hl]; exact h, fun p hn => q _ _ (Ext.nw hn) (r.newL hn fun M as t => ?_)⟩
  obtain ⟨⟨_, t1⟩, _⟩ := t.pop2
  exact (f _ _ t1).rep _
theorem vr_catT (h : ds.length + es.length ≤ sizeLine) : VR K (rCatA K) (D (.tuple ds)) (D (.tuple es)) (D (.tuple (ds ++ es))) := fun c ts tv es' σ x y H Q k r q => by
  obtain ⟨a, vs, e, hH, hl, f⟩ := r.pop2.tup
  obtain ⟨a', vs', e', hH', hl', f'⟩ := r.pop.tup
  subst e e'
  refine ⟨a', a, vs', vs, rfl, rfl, .inl hH', .inl hH, by rw [hl, hl']; exact h, fun z => ?_, fun _ z => ?_, fun _ _ p hn => q _ _ (Ext.nw hn) (r.newT hn fun M as t => ?_)⟩
  · have z' : ds = [] := List.eq_nil_of_length_eq_zero (by rw [← hl', z]; rfl)
    subst z'
    exact q _ _ Ext.rfl (r.push fun M as t => t.hd)
  · have z' : es = [] := List.eq_nil_of_length_eq_zero (by rw [← hl, z]; rfl)
    subst z'
    rw [List.append_nil] at q
    exact q _ _ Ext.rfl (r.push fun M as t => (let ⟨⟨_, z⟩, _⟩ := t.pop2; z.hd))
  · obtain ⟨⟨_, t1⟩, _, t2⟩ := t.pop2
    exact (f' _ _ t1).app (f _ _ t2)
theorem inV_ints {i : Int} {ns : List Int} : inV (.int i) (ns.map V.int) = decide (i ∈ ns) := by
  induction ns with
  | nil => rfl
  | cons n r ih =>
    show (eqV (V.int n) (.int i) || inV (.int i) (r.map V.int)) = _
    rw [ih]
    have e : eqV (V.int n) (.int i) = decide (n = i) := by
      show (n == i) = _
      rw [Bool.beq_eq_decide_eq]
    rw [e, Bool.eq_iff_iff]
    simp only [List.mem_cons, Bool.or_eq_true, decide_eq_true_eq]
    exact ⟨fun z => z.imp Eq.symm id, fun z => z.imp Eq.symm id⟩
theorem vr_inL {i : Int} {ns : List Int} {neg : Bool} (lv : LV o (ns.map PyData.int)) : VR K (rIn K neg) (I i) o (B (if neg then !decide (i ∈ ns) else decide (i ∈ ns))) := fun c ts tv es σ x y H Q k r q => by
  obtain ⟨M, as, t⟩ := r.tms
  obtain ⟨a, vs, e, hH, hl, f⟩ := r.lv lv
  have ev := (f _ _ t).ints
  have ei := r.pop.vint
  subst e ev ei
  refine ⟨a, _, rfl, .inl (.inl (.inl hH)), rfl, by rw [List.all_map]; exact List.all_eq_true.mpr fun _ _ => rfl, ?_⟩
  rw [inV_ints]
  exact q _ H Ext.rfl (r.bool _)
theorem vr_inT {i : Int} {ns : List Int} {neg : Bool} : VR K (rIn K neg) (I i) (D (.tuple (ns.map PyData.int))) (B (if neg then !decide (i ∈ ns) else decide (i ∈ ns))) := fun c ts tv es σ x y H Q k r q => by
  obtain ⟨M, as, t⟩ := r.tms
  obtain ⟨a, vs, e, hH, hl, f⟩ := r.tup
  have ev := (f _ _ t).ints
  have ei := r.pop.vint
  subst e ev ei
  refine ⟨a, _, rfl, .inr (.inl hH), rfl, by rw [List.all_map]; exact List.all_eq_true.mpr fun _ _ => rfl, ?_⟩
  rw [inV_ints]
  exact q _ H Ext.rfl (r.bool _)
theorem vr_inD (ha : DV oa d) (lv : LV o ds) (h1 : SeqAt.shaped d = true) (h2 : SeqAt.shaped (.list ds) = true) : VR K (rInD K) oa o (B (ds.any fun z => PyData.eqv z d)) := fun c ts tv es σ x y H Q k r q => by
  subst k
  obtain ⟨M, as, t⟩ := r.tms
  obtain ⟨as', _, t'⟩ := t.tl
  exact ⟨d, ds, t'.dv ha, t.dv (.l lv), h1, h2, q _ H Ext.rfl (r.bool _)⟩
theorem vr_notInD (ha : DV oa d) (lv : LV o ds) (h1 : SeqAt.shaped d = true) (h2 : SeqAt.shaped (.list ds) = true) : VR K (rNotInD K) oa o (B (!ds.any fun z => PyData.eqv z d)) := fun c ts tv es σ x y H Q k r q => by
  subst k
  obtain ⟨M, as, t⟩ := r.tms
  obtain ⟨as', _, t'⟩ := t.tl
  exact ⟨d, ds, t'.dv ha, t.dv (.l lv), h1, h2, q _ H Ext.rfl (r.bool _)⟩
end
end Wk

/-! Wk7 -/
set_option Elab.async false
set_option linter.all false
set_option maxRecDepth 100000
set_option maxHeartbeats 4000000
/-! Wk7: arguments, displays, calls, repr -/
namespace Wk
open PySem PySem.Spec PyProof.Rows L2

def tA (K : PySem.W.Frag) (μ : Bool) (es es' : List SE) (os : List TO) : TA := fun σ H Q => ∃ c ts tv, c.K = K ∧ Rl c ts tv es σ H ∧ (μ = false → AllD ts) ∧
  ∀ vs H', vs.length = os.length → (μ = true → Ext H H') → Rl c (os.reverseAux ts) (vs.reverseAux tv) es' σ H' → Q vs H'
abbrev DA (X : Cx) (μ : Bool) (l : List Expr) (es es' : List SE) (os : List TO) : Prop := PA X l (tA X.K μ es es' os)
theorem pa_w {X : Cx} {e : List Expr} {t t' : TA} (h : PA X e t) (k : ∀ σ H Q, t' σ H Q → t σ H Q) : PA X e t' := ⟨fun pos pins s σ H Q i q => h.run pos pins s σ H Q i (k σ H Q q)⟩
section
variable {c : Ct} {ts : List TO} {tv : List V} {es es' : List SE} {σ : St} {H H' : Hp} {M : Addr → Prop} {as : List Addr} {v : V} {o : TO} {ds : List PyData}
theorem Tm.args : ∀ {ds : List PyData} {vs : List V} {ts : List TO} {tv : List V}, vs.length = ds.length → Tm c M H (vs.reverseAux tv) ((ds.map D).reverseAux ts) as → RpL c.K M H vs ds ∧ Tm c M H tv ts as
  | [], [], _, _, _, t => ⟨.nil, t⟩
  | d :: ds, v :: vs, ts, tv, e, t => by
    obtain ⟨l, t'⟩ := Tm.args (ds := ds) (vs := vs) (ts := D d :: ts) (tv := v :: tv) (Nat.succ.inj e) t
    cases t' with
    | b q t'' => exact ⟨.cons q.rp l, t''⟩
theorem AllD.args : ∀ {ds : List PyData} {ts : List TO}, AllD ts → AllD ((ds.map D).reverseAux ts)
  | [], _, h => h
  | d :: ds, ts, h => AllD.args (ds := ds) (ts := D d :: ts) h
/-- the arguments beneath go -/
theorem Rl.dropA {vs : List V} (hl : vs.length = ds.length) (r : Rl c (o :: (ds.map D).reverseAux ts) (v :: vs.reverseAux tv) es σ H) : Rl c (o :: ts) (v :: tv) es σ H := r.mapT fun M as t => by
  cases t with
  | b q l => exact ⟨_, List.Sublist.refl _, .b q (l.args hl).2⟩
  | w q ow l => exact ⟨_, List.Sublist.refl _, .w q ow (l.args hl).2⟩
theorem Rl.dropA0 {vs : List V} (hl : vs.length = ds.length) (r : Rl c ((ds.map D).reverseAux ts) (vs.reverseAux tv) es σ H) : Rl c ts tv es σ H := r.mapT fun M as t => ⟨_, List.Sublist.refl _, (t.args hl).2⟩
end
section
variable {X : Cx} {μ : Bool} {e : Expr} {l : List Expr} {es es1 es2 es' : List SE} {o : TO} {os : List TO} {ds : List PyData} {pos : Pos}
theorem da_nil : DA X μ [] es es [] := pa_w pa_nil fun σ H Q ⟨c, ts, tv, k, r, ad, q⟩ => q [] H rfl (fun _ => Ext.rfl) r
theorem da_cons (h : DG X μ e es es1 o) (hr : DA X μ l es1 es2 os) (hd : μ = false → AllD [o] := by exact fun _ => trivial) (n : Ns e := by exact fun _ _ => rfl) : DA X μ (e :: l) es es2 (o :: os) :=
  pa_w (pa_cons h hr (n _ _)) fun σ H Q ⟨c, ts, tv, k, r, ad, q⟩ => ⟨c, ts, tv, k, r, ad, fun x H1 e1 r1 =>
    ⟨c, o :: ts, x :: tv, k, r1, fun z => (hd z).cons (ad z), fun vs H2 hl e2 r2 => q (x :: vs) H2 (congrArg (· + 1) hl) (fun z => (e1 z).tr (e2 z)) r2⟩⟩
/-- a written tuple -/
theorem d_tup (ds : List PyData) {k : Nat} (h : DA X μ l es es1 (ds.map D)) (hz : ds.length ≤ sizeLine := by decide) : DG X μ (.Tuple l k pos) es es1 (D (.tuple ds)) :=
  pe_w (pe_tup h) fun σ H Q ⟨c, ts, tv, hk, r, ad, q⟩ => ⟨c, ts, tv, hk, r, ad, fun vs H1 hl e1 r1 => by
    have hl' : vs.length = ds.length := by rw [hl, List.length_map]
    exact ⟨by rw [hl']; exact hz, fun p hp => q _ _ (fun z => (e1 z).tr (Ext.nw hp)) ((r1.newT hp fun M as t => (t.args hl').1).dropA hl')⟩⟩
/-- a written list -/
theorem d_lst (ds : List PyData) (h : DA X μ l es es1 (ds.map D)) (hz : ds.length ≤ sizeLine := by decide) : DG X μ (.List l pos) es es1 (.w (oL ds)) :=
  pe_w (pe_lst h) fun σ H Q ⟨c, ts, tv, hk, r, ad, q⟩ => ⟨c, ts, tv, hk, r, ad, fun vs H1 hl e1 r1 => by
    have hl' : vs.length = ds.length := by rw [hl, List.length_map]
    exact ⟨by rw [hl']; exact hz, fun p hp => q _ _ (fun z => (e1 z).tr (Ext.nw hp)) ((r1.newL hp fun M as t => (t.args hl').1).dropA hl')⟩⟩
/-! lists of own parts -/
@[simp] def otOf : TO → OT
  | .b o => o
  | .w o => o
theorem Tm.argsW {c : Ct} {H : Hp} {M : Addr → Prop} : ∀ {os : List TO} {vs : List V} {ts : List TO} {tv : List V} {as : List Addr}, AllD os → vs.length = os.length → Tm c M H (vs.reverseAux tv) (os.reverseAux ts) as →
    ∃ a1 a2, as.Perm (a1 ++ a2) ∧ TkL c.K M H vs (os.map otOf) a1 ∧ (∀ a ∈ a1, Own c false a) ∧ Tm c M H tv ts a2
  | [], [], _, _, as, _, _, t => ⟨[], as, List.Perm.refl _, .nil, fun _ z => absurd z (by simp), t⟩
  | o :: os, v :: vs, ts, tv, as, ha, e, t => by
    have ha' : AllD os := by
      cases o with
      | b x =>
        cases x with
        | d _ => exact ha
        | f _ => exact ha
        | l _ => exact ha.elim
        | k _ => exact ha.elim
        | t _ => exact ha.elim
      | w _ => exact ha
    obtain ⟨a1, a2, p, l, ow, t'⟩ := Tm.argsW (os := os) (vs := vs) (ts := o :: ts) (tv := v :: tv) ha' (Nat.succ.inj e) t
    cases t' with
    | b q t'' =>
      rename_i x
      cases q with
      | d q => exact ⟨a1, a2, p, TkL.cons (as := []) (.d q) l, ow, t''⟩
      | f q => exact ⟨a1, a2, p, TkL.cons (as := []) (.f q) l, ow, t''⟩
      | l _ _ => exact ha.elim
      | k _ _ => exact ha.elim
      | t _ _ => exact ha.elim
    | w q ow' t'' =>
      rename_i x b1 b2
      refine ⟨b1 ++ a1, b2, p.trans ?_, .cons q l, fun a z => (List.mem_append.mp z).elim (ow' a) (ow a), t''⟩
      exact List.perm_iff_count.mpr fun z => by simp only [List.count_append]; omega
theorem RlA.perm {c : Ct} {ts : List TO} {tv : List V} {es : List SE} {σ : L2.St} {H : Hp} {as bs as' : List Addr} (r : RlA c ts tv es σ H as bs) (p : as.Perm as') {ts' : List TO} {tv' : List V} (f : ∀ M, Tm c M H tv ts as → Tm c M H tv' ts' as') : RlA c ts' tv' es σ H as' bs := by
  have t : Tx (Mf c (as ++ bs)) (Mf c (as' ++ bs)) H H := ⟨fun x z => .inl (z.imp id fun z => ((p.append_right bs).mem_iff).mpr z), Ext.rfl⟩
  exact ⟨((p.append_right bs).nodup_iff).mp r.nd, r.sl.tr t.to fun _ _ _ z => z, (f _ r.tm).tx t, r.keep, r.av, r.fix⟩
theorem d_lstW {l : List Expr} (h : DA X μ l es es1 os) (ha : AllD os := by exact trivial) (hz : os.length ≤ sizeLine := by decide) : DG X μ (.List l pos) es es1 (.w (.l (os.map otOf))) :=
  pe_w (pe_lst h) fun σ H Q ⟨c, ts, tv, hk, r, ad, q⟩ => ⟨c, ts, tv, hk, r, ad, fun vs H1 hl e1 r1 => by
    refine ⟨by rw [hl]; exact hz, fun p hp => q _ _ (fun z => (e1 z).tr (Ext.nw hp)) ?_⟩
    obtain ⟨as, bs, a⟩ := r1
    have n := a.nw hp
    have b := a.ext (Ext.nw (o := .lst vs) hp)
    obtain ⟨a1, a2, pm, l1, ow, t1⟩ := a.tm.argsW ha hl
    have b' : RlA c (os.reverseAux ts) (vs.reverseAux tv) es1 σ (upd H1 p (.lst vs)) as bs := b
    have t : Tx (Mf c (as ++ bs)) (Mf c ((p :: (a1 ++ a2)) ++ bs)) H1 (upd H1 p (.lst vs)) := ⟨fun x z => by
      rcases z with z | z
      · exact .inl (.inl z)
      · rcases List.mem_cons.mp z with z | z
        · exact .inr (z ▸ hp)
        · exact .inl (.inr (((pm.append_right bs).mem_iff).mpr z)), Ext.nw hp⟩
    refine ⟨(p :: a1) ++ a2, bs, ?_, a.sl.tr t.to fun x _ u e => Ext.nw hp x u e, .w (.l upd_same (l1.tr t.to fun x _ u e => Ext.nw hp x u e)) (fun x z => ?_) (t1.tx t), b.keep, b.av, b.fix⟩
    · refine List.nodup_cons.mpr ⟨fun z => n.2.2 (((pm.append_right bs).mem_iff).mpr z), ((pm.append_right bs).nodup_iff).mp a.nd⟩
    · rcases List.mem_cons.mp z with z | z
      · exact .inr (z ▸ ⟨n.1, n.2.1⟩)
      · exact ow x z⟩
end

/-! ### contracts -/
/-- a def of data -/
def Sp0 (K : PySem.W.Frag) (n : Nat) (R : List PyData → TO → Prop) : Sp := fun vs H Q _ => ∃ c ds o, c.K = K ∧ R ds o ∧ AllD [o] ∧ c.fix = [] ∧ ds.length = n ∧ vs.length = n ∧ Rl c [] [] (dS ds) (vs.map some) H ∧
  ∀ v H' es' ws, Rl c [o] [v] es' ws H' → Q v H'
/-- .. whose first argument it may change -/
def Sp1 (K : PySem.W.Frag) (n : Nat) (R : OT → List PyData → OT → TO → Prop) : Sp := fun vs H Q _ => ∃ c v0 us t ds t' o, c.K = K ∧ vs = v0 :: us ∧ R t ds t' o ∧ AllD [o] ∧ c.fix = [(0, v0)] ∧ ds.length = n ∧ us.length = n ∧
  Rl c [] [] (.s true t :: dS ds) (some v0 :: us.map some) H ∧ ∀ v H' es' ws, Rl c [o] [v] (.s true t' :: es') (some v0 :: ws) H' → Q v H'
/-- .. of the script alone -/
def SpF (K : PySem.W.Frag) (R : List Int → TO → Prop) : Sp := fun vs H Q _ => ∃ c v ns o, c.K = K ∧ vs = [v] ∧ R ns o ∧ AllD [o] ∧ c.fix = [] ∧ Rl c [] [] [.s false (.f ns)] [some v] H ∧ ∀ v H' es' ws, Rl c [o] [v] es' ws H' → Q v H'
section
variable {X : Cx} {μ : Bool} {e : Expr} {l : List Expr} {es es1 es2 es' : List SE} {o : TO} {os : List TO} {ds : List PyData} {pos p : Pos} {k : Nat} {f : Addr} {fd : FuncData} {ps : List Str} {x : Str}
theorem d_call0 {n : Nat} {R : List PyData → TO → Prop} (G : FnG X.prog X.w X.K X.mg X.base CX0 k f fd ps (Sp0 X.K n R)) (hr : Room k X.A) (hgd : X.A.guards = some []) (hm : X.mg x = some (.ref f)) (hk : PySem.W.keepIn X.K (.ref f) = true) (hb : Binds X.K fd ps [])
    (ds : List PyData) (h : DA X μ (e :: l) es es1 (ds.map D)) (hR : R ds o) (hn : ds.length = n := by rfl) (ho : AllD [o] := by exact trivial) (hg : Gl X x := by rfl) (hdb : (x == ("__debug__" : Str)) = false := by decide)
    (he : starEach (e :: l) X.env = (false, eval e X.env) :: starEach l X.env := by rfl) (hpl : (backTo pos (starEach l X.env)).any (·.1) = false := by rfl) : DG X μ (.Call (.Name x p) (e :: l) [] pos) es es1 o :=
  pe_w (pe_g G hr hgd hg hm hk hb pass0 h hdb he hpl) fun σ H Q ⟨c, ts, tv, hK, r, ad, q⟩ => ⟨c, ts, tv, hK, r, ad, fun vs H1 hl e1 r1 => by
    have hl' : vs.length = ds.length := by rw [hl, List.length_map]
    obtain ⟨c', k1, k2, r2, back⟩ := r1.call0 (vs := vs) (ds := ds) fun M as t => (t.args hl').1
    (try dsimp only)
    rw [List.append_nil]
    refine ⟨c', ds, o, k1.trans hK, hR, ho, k2, hn, hl'.trans hn, r2, fun v H' es' ws r3 => ?_⟩
    obtain ⟨e2, r4⟩ := back v o es' ws H' r3 ho
    exact q v H' (fun z => (e1 z).tr e2) (r4.dropA hl')⟩
theorem d_call1 {n i : Nat} {y : Str} {b : Bool} {t t' : OT} {R : OT → List PyData → OT → TO → Prop} {py : Pos} (G : FnG X.prog X.w X.K X.mg X.base CX0 k f fd ps (Sp1 X.K n R)) (hr : Room k X.A) (hgd : X.A.guards = some []) (hm : X.mg x = some (.ref f)) (hk : PySem.W.keepIn X.K (.ref f) = true) (hb : Binds X.K fd ps [])
    (ds : List PyData) (h : DA X false l es es1 (ds.map D)) (ht : gt es1 i = .s b t) (hi : ∃ b' t0, gt es i = .s b' t0) (hR : R t ds t' o) (hn : ds.length = n := by rfl) (ho : AllD [o] := by exact trivial) (hg : Gl X x := by rfl) (hdb : (x == ("__debug__" : Str)) = false := by decide)
    (hN : X.N[i]? = some y := by rfl) (hv : Vis X.env.scope y := by first | exact Or.inl rfl | exact Or.inr (Or.inl rfl) | exact Or.inr (Or.inr rfl)) (hd : (y == ("__debug__" : Str)) = false := by decide) (hcd : (y == ("__classdict__" : Str)) = false := by decide)
    (he : starEach (.Name y py :: l) X.env = (false, eval (.Name y py) X.env) :: starEach l X.env := by rfl) (hpl : (backTo pos (starEach l X.env)).any (·.1) = false := by rfl) : DG X false (.Call (.Name x p) (.Name y py :: l) [] pos) es (es1.set i (.s b t')) o :=
  pe_w (pe_g G hr hgd hg hm hk hb pass0 (pa_cons (pe_var hN hv hd hcd) h he) hdb he hpl) fun σ H Q ⟨c, ts, tv, hK, r, ad, q⟩ => by
    obtain ⟨b', t0, hi⟩ := hi
    obtain ⟨v0, e0, _⟩ := r.var hi
    refine ⟨v0, e0, c, ts, tv, hK, r, ad, fun vs H1 hl e1 r1 => ?_⟩
    have hl' : vs.length = ds.length := by rw [hl, List.length_map]
    obtain ⟨c', k1, k2, r2, back⟩ := r1.call1 (AllD.args (ad rfl)) ht e0 (vs := vs) (ds := ds) fun M as t => (t.args hl').1
    (try dsimp only)
    rw [List.append_nil]
    exact ⟨c', v0, vs, t, ds, t', o, k1.trans hK, rfl, hR, ho, k2, hn, hl'.trans hn, r2, fun v H' es' ws r3 => q v H' nofun ((back v o t' es' ws H' r3 ho).dropA hl')⟩
/-- the script handed on -/
theorem Rl.callF {c : Ct} {ts : List TO} {tv : List V} {σ : L2.St} {H : Hp} {v : V} {ns : List Int} (r : Rl c (.b (.f ns) :: ts) (v :: tv) es σ H) :
    ∃ c', c'.K = c.K ∧ c'.fix = [] ∧ Rl c' [] [] [.s false (.f ns)] [some v] H ∧ ∀ (v : V) (o : TO) (es' : List SE) (ws : L2.St) (H' : Hp), Rl c' [o] [v] es' ws H' → AllD [o] → Ext H H' ∧ Rl c (o :: ts) (v :: tv) es σ H' := by
  have r0 := r.pop
  obtain ⟨as, bs, a⟩ := r
  refine ⟨c.c0 H (as ++ bs), rfl, rfl, ⟨[], [] ++ [], List.nodup_nil, ?_, .nil, fun _ _ e _ => e, fun x z => z.elim (a.av x) (a.trk x), fun _ z => absurd z (by simp [Ct.c0])⟩, fun v' o es' ws H' r' ha => ?_⟩
  · refine .cons ⟨v, rfl, ?_, fun _ z => absurd z (by simp)⟩ .nil
    cases a.tm.hd with
    | f q => exact .f (q.tr ⟨fun x z => z.elim .inl fun z => absurd z (by simp), fun _ _ e _ => e⟩)
  · -- as for data: the callee's own context is the same
    have a0 : RlA c (.b (.f ns) :: ts) (v :: tv) es σ H as bs := a
    obtain ⟨cs, ds', a'⟩ := r'
    have ex : Ext H H' := fun x u e => a'.keep x u e id
    refine ⟨ex, ?_⟩
    have tm0 := a.tm
    cases tm0 with
    | b _ tm0 =>
    have b := a.ext ex
    have tm := a'.tm
    cases tm with
    | b q l =>
      refine ⟨as, bs, b.nd, b.sl, .b ?_ (tm0.tx ⟨fun _ z => .inl z, ex⟩), b.keep, b.av, b.fix⟩
      cases q with
      | d q => exact .d (q.tr ⟨fun x z => .inl (.inl z), fun _ _ e _ => e⟩)
      | f q => exact .f (q.tr ⟨fun x z => .inl (.inl z), fun _ _ e _ => e⟩)
      | l _ _ => exact ha.elim
      | k _ _ => exact ha.elim
      | t _ _ => exact ha.elim
    | w q ow l =>
      rename_i xs ys
      cases l
      have fresh : ∀ x ∈ xs, H x = none ∧ x ∉ as ++ bs := fun x hx => by
        rcases ow x hx with z | z
        · exact z.2.elim
        · exact ⟨z.1, fun y => z.2 (.inr y)⟩
      have nd' : xs.Nodup := (List.nodup_append.mp (List.nodup_append.mp a'.nd).1).1
      have t : Tx (Mf c (as ++ bs)) (Mf c (xs ++ as ++ bs)) H H' := ⟨fun x z => by
        rcases z with z | z
        · exact .inl (.inl z)
        · rw [List.append_assoc] at z
          exact (List.mem_append.mp z).elim (fun z => .inr (fresh x z).1) fun z => .inl (.inr z), ex⟩
      refine ⟨xs ++ as, bs, ?_, a.sl.tr t.to fun x _ u e => ex x u e, .w (q.tr ⟨fun x z => ?_, fun _ _ e _ => e⟩ fun _ _ _ e => e) (fun x hx => Own.back a0 (fresh x hx).1 _) (tm0.tx t), b.keep, b.av, b.fix⟩
      · rw [List.append_assoc]
        exact List.nodup_append.mpr ⟨nd', a.nd, fun x hx y hy e => (fresh x hx).2 (e ▸ hy)⟩
      · rcases z with z | z
        · exact .inl (.inl (.inl z))
        · rw [List.append_assoc] at z
          exact (List.mem_append.mp z).elim (fun z => .inl (.inr (by simp [z]))) fun z => .inl (.inl (.inr z))
theorem d_callF {ns : List Int} {R : List Int → TO → Prop} (G : FnG X.prog X.w X.K X.mg X.base CX0 k f fd ps (SpF X.K R)) (hr : Room k X.A) (hgd : X.A.guards = some []) (hm : X.mg x = some (.ref f)) (hk : PySem.W.keepIn X.K (.ref f) = true) (hb : Binds X.K fd ps [])
    (h : DG X μ e es es1 (.b (.f ns))) (hR : R ns o) (ho : AllD [o] := by exact trivial) (hg : Gl X x := by rfl) (hdb : (x == ("__debug__" : Str)) = false := by decide) (n : Ns e := by exact fun _ _ => rfl) : DG X μ (.Call (.Name x p) [e] [] pos) es es1 o :=
  pe_w (pe_g G hr hgd hg hm hk hb pass0 (pa_cons h pa_nil (n _ _)) hdb (n _ _) rfl) fun σ H Q ⟨c, ts, tv, hK, r, ad, q⟩ => ⟨c, ts, tv, hK, r, ad, fun v H1 e1 r1 => by
    obtain ⟨c', k1, k2, r2, back⟩ := r1.callF
    refine ⟨c', v, ns, o, k1.trans hK, rfl, hR, ho, k2, r2, fun v H' es' ws r3 => ?_⟩
    obtain ⟨e2, r4⟩ := back v o es' ws H' r3 ho
    exact q v H' (fun z => (e1 z).tr e2) r4⟩
end

/-! ### repr -/
def reprOk (d : PyData) : Bool := d.showable && !d.hasDict && decide (d.depth ≤ 60) && decide (d.shown.length ≤ sizeLine)
def rRepr (K : PySem.W.Frag) : List V → Hp → VK → Prop := fun xs H Q => ∃ v d, xs = [v] ∧ Dp K H v d ∧ reprOk d = true ∧ Q (.str d.shown) H
theorem cr_repr {X : Cx} (hgd : X.A.guards = some []) (hu : X.A.units + 64 < cLine) : CallR X (.builtin "repr") (rRepr X.K) := by
  intro pins s σ H xs us Q I r h
  obtain ⟨v, d, rfl, hd, ok, q⟩ := h
  cases r with
  | cons r rr =>
  cases rr
  unfold reprOk at ok
  simp only [Bool.and_eq_true, decide_eq_true_eq, Bool.not_eq_true'] at ok
  obtain ⟨⟨⟨o1, o2⟩, o3⟩, o4⟩ := ok
  obtain ⟨as, rd⟩ := Dp.reads I d v _ hd r
  cases hd with
  | non =>
    cases r
    exact P.repr_of_none ⟨.str _, H, I.tok _, ⟨_, rfl⟩, q⟩
  | bl b =>
    cases r
    exact P.repr_of_bool ⟨.str _, H, I.tok _, ⟨_, rfl⟩, q⟩
  | int i =>
    obtain ⟨t, rfl⟩ := r
    exact P.repr_of_int (by simpa [PyData.showable] using o1) ⟨.str _, H, I.tok _, ⟨_, rfl⟩, q⟩
  | str x =>
    obtain ⟨t, rfl⟩ := r
    exact P.repr_of_str ⟨.str _, H, I.tok _, ⟨_, rfl⟩, q⟩ o4
  | lst _ _ =>
    cases r
    exact repr_of_reads' rd o1 (PyData.noDict_hsm o2) hgd (by omega) (fun _ _ e => e) (fun h' u tk hk => ⟨.str _, H, I.kept hk, ⟨_, rfl⟩, q⟩) o4
  | tup _ _ =>
    cases r
    exact repr_of_reads' rd o1 (PyData.noDict_hsm o2) hgd (by omega) (fun _ _ e => e) (fun h' u tk hk => ⟨.str _, H, I.kept hk, ⟨_, rfl⟩, q⟩) o4
theorem c1_repr {K : PySem.W.Frag} {o : TO} {d : PyData} (h : DV o d) (ok : reprOk d = true) : C1 K (rRepr K) o (S d.shown) := fun c ts tv es σ x H Q k r q => by
  subst k
  obtain ⟨M, as, t⟩ := r.tms
  exact ⟨x, d, rfl, t.dv h, ok, q _ H Ext.rfl (r.str _)⟩
end Wk

/-! Wk8 -/
set_option Elab.async false
set_option linter.all false
set_option maxRecDepth 100000
set_option maxHeartbeats 4000000
/-! Wk8: readings of expressions, each from its parts' readings -/
namespace Wk
open PySem PySem.Spec PyProof.Rows L2

/-- what a run of a def's body asks of its surroundings -/
structure Gd (X : Cx) : Prop where
  calm : X.calm = true
  nd : X.N.Nodup
  units : X.A.units + 65 < cLine
  guards : X.A.guards = some []
  pass : PassesOwn (model X.prog X.w) X.A X.env X.xe
abbrev DE := List SE → Option (List SE × TO)
abbrev DB := List SE → Option (List SE × Bool)
abbrev DL := List SE → Option (List SE × List PyData)
abbrev DLO := List SE → Option (List SE × List TO)
def Ok (X : Cx) (μ : Bool) (e : Expr) (d : DE) : Prop := ∀ es es' o, d es = some (es', o) → DG X μ e es es' o ∧ (μ = true → es' = es)
def OkT (X : Cx) (μ : Bool) (e : Expr) (d : DB) : Prop := ∀ es es' o, d es = some (es', o) → DT X μ e es es' o ∧ (μ = true → es' = es)
def OkW (X : Cx) (μ : Bool) (e : Expr) (d : DB) : Prop := ∀ es es' o, d es = some (es', o) → DW X μ e es es' o ∧ (μ = true → es' = es)
def OkL (X : Cx) (μ : Bool) (l : List Expr) (d : DL) : Prop := ∀ es es' ds, d es = some (es', ds) → DA X μ l es es' (ds.map D) ∧ (μ = true → es' = es)
def OkLO (X : Cx) (μ : Bool) (l : List Expr) (d : DLO) : Prop := ∀ es es' os, d es = some (es', os) → DA X μ l es es' os ∧ AllD os ∧ (μ = true → es' = es)

@[simp] def adB : TO → Bool
  | .b (.d _) => true
  | .b (.f _) => true
  | .w _ => true
  | _ => false
theorem adB_ok : ∀ {o : TO}, adB o = true → AllD [o]
  | .b (.d _), _ => trivial
  | .b (.f _), _ => trivial
  | .w _, _ => trivial
/-! the readings -/
@[simp] def kI (i : Int) : DE := fun es => some (es, I i)
@[simp] def kB (i : Bool) : DE := fun es => some (es, B i)
@[simp] def kS (i : Str) : DE := fun es => some (es, S i)
@[simp] def kN : DE := fun es => some (es, D .none)
def kVar (i : Nat) : DE := fun es => match gt es i with
  | .s _ t => some (es, .b t)
  | .z => none
@[simp] def kOp (μ : Bool) (f : TO → TO → Option TO) (a b : DE) : DE := fun es => (a es).bind fun p => (b p.1).bind fun q => if μ || adB p.2 then (f p.2 q.2).map fun o => (q.1, o) else none
@[simp] def kF (f : TO → Option TO) (a : DE) : DE := fun es => (a es).bind fun p => (f p.2).map fun o => (p.1, o)
@[simp] def kT (d : DE) : DB := fun es => (d es).bind fun p => match p.2 with
  | .b (.d (.bool b)) => some (p.1, b)
  | _ => none
@[simp] def kNot (d : DB) : DB := fun es => (d es).map fun p => (p.1, !p.2)
@[simp] def kAnd (a b : DB) : DB := fun es => (a es).bind fun p => if p.2 then b p.1 else some (p.1, false)
@[simp] def kOr (a b : DB) : DB := fun es => (a es).bind fun p => if p.2 then some (p.1, true) else b p.1
@[simp] def kV (d : DB) : DE := fun es => (d es).map fun p => (p.1, B p.2)
@[simp] def kIte (c : DB) (a b : DE) : DE := fun es => (c es).bind fun p => if p.2 then a p.1 else b p.1
@[simp] def kChain (μ : Bool) (f g : TO → TO → Option TO) (a b d : DE) : DB := fun es => (a es).bind fun p => (b p.1).bind fun q => if μ || (adB p.2 && adB q.2) then
    match f p.2 q.2 with
    | some (.b (.d (.bool true))) => (d q.1).bind fun r => match g q.2 r.2 with
      | some (.b (.d (.bool z))) => some (r.1, z)
      | _ => none
    | some (.b (.d (.bool false))) => some (q.1, false)
    | _ => none
  else none
/-- as data -/
def frz : TO → Option PyData
  | .b (.d x) => some x
  | .w t => fz t
  | _ => none
@[simp] def kD (d : DE) : DE := fun es => (d es).bind fun p => (frz p.2).map fun x => (p.1, D x)
@[simp] def kL0 : DL := fun es => some (es, [])
@[simp] def kL1 (d : DE) (r : DL) : DL := fun es => (d es).bind fun p => (frz p.2).bind fun x => (r p.1).map fun q => (q.1, x :: q.2)
@[simp] def kO0 : DLO := fun es => some (es, [])
@[simp] def kO1 (d : DE) (r : DLO) : DLO := fun es => (d es).bind fun p => if adB p.2 then (r p.1).map fun q => (q.1, p.2 :: q.2) else none
@[simp] def kTup (l : DL) : DE := fun es => (l es).bind fun p => if p.2.length ≤ sizeLine then some (p.1, D (.tuple p.2)) else none
@[simp] def kLst (l : DLO) : DE := fun es => (l es).bind fun p => if p.2.length ≤ sizeLine then some (p.1, .w (.l (p.2.map otOf))) else none
@[simp] def kCall (n : Nat) (sem : List PyData → Option TO) (l : DL) : DE := fun es => (l es).bind fun p => if p.2.length = n then (sem p.2).map fun o => (p.1, o) else none
@[simp] def kCall1 (n i : Nat) (sem : OT → List PyData → Option (OT × TO)) (l : DL) : DE := fun es => match gt es i with
  | .s _ _ => (l es).bind fun p => if p.2.length = n then
      match gt p.1 i with
      | .s b t => (sem t p.2).map fun r => (p.1.set i (.s b r.1), r.2)
      | .z => none
    else none
  | .z => none
def kCallF (sem : List Int → Option TO) (d : DE) : DE := fun es => (d es).bind fun p => match p.2 with
  | .b (.f ns) => (sem ns).map fun o => (p.1, o)
  | _ => none

section
variable {X : Cx} {μ : Bool} {e a b c : Expr} {l : List Expr} {da db dc dd : DE} {ta tb tc : DB} {la lb : DL} {oa ob : DLO} {pos : Pos} {j : Nat}
theorem ok_i {i : Int} : Ok X μ (.Constant (.int i) j pos) (kI i) := fun es es' o h => by cases h; exact ⟨d_int, fun _ => rfl⟩
theorem ok_b {i : Bool} : Ok X μ (.Constant (.bool i) j pos) (kB i) := fun es es' o h => by cases h; exact ⟨d_bool, fun _ => rfl⟩
theorem ok_s {i : Str} : Ok X μ (.Constant (.str i) j pos) (kS i) := fun es es' o h => by cases h; exact ⟨d_str, fun _ => rfl⟩
theorem ok_n : Ok X μ (.Constant .none j pos) kN := fun es es' o h => by cases h; exact ⟨d_non, fun _ => rfl⟩
theorem ok_gI {x : Str} {i : Int} {t : Tok} (hm : X.mg x = some (.int i t)) (hg : Gl X x := by rfl) (hd : (x == ("__debug__" : Str)) = false := by decide) : Ok X μ (.Name x pos) (kI i) := fun es es' o h => by cases h; exact ⟨d_globI hm hg hd, fun _ => rfl⟩
theorem ok_gS {x : Str} {i : Str} {t : Tok} (hm : X.mg x = some (.str i t)) (hg : Gl X x := by rfl) (hd : (x == ("__debug__" : Str)) = false := by decide) : Ok X μ (.Name x pos) (kS i) := fun es es' o h => by cases h; exact ⟨d_globS hm hg hd, fun _ => rfl⟩
theorem ok_v {x : Str} (i : Nat) (hN : X.N[i]? = some x := by rfl) (hv : Vis X.env.scope x := by first | exact Or.inl rfl | exact Or.inr (Or.inl rfl) | exact Or.inr (Or.inr rfl))
    (hd : (x == ("__debug__" : Str)) = false := by decide) (hcd : (x == ("__classdict__" : Str)) = false := by decide) : Ok X μ (.Name x pos) (kVar i) := fun es es' o h => by
  unfold kVar at h
  cases q : gt es i with
  | z => rw [q] at h; cases h
  | s f t => rw [q] at h; cases h; exact ⟨d_var q hN hv hd hcd, fun _ => rfl⟩
theorem Ok.up (h : Ok X true e da) : Ok X μ e da := fun es es' o q => by
  obtain ⟨x, y⟩ := h es es' o q
  cases y rfl
  cases μ with
  | true => exact ⟨x, fun _ => rfl⟩
  | false => exact ⟨d_up x, nofun⟩
theorem OkT.up (h : OkT X true e ta) : OkT X μ e ta := fun es es' o q => by
  obtain ⟨x, y⟩ := h es es' o q
  cases y rfl
  cases μ with
  | true => exact ⟨x, fun _ => rfl⟩
  | false => exact ⟨t_up x, nofun⟩
theorem bind_some {α β : Type} {x : Option α} {f : α → Option β} {y : β} (h : x.bind f = some y) : ∃ z, x = some z ∧ f z = some y := by
  cases x with
  | none => cases h
  | some z => exact ⟨z, rfl, h⟩
theorem map_some {α β : Type} {x : Option α} {f : α → β} {y : β} (h : x.map f = some y) : ∃ z, x = some z ∧ f z = y := by
  cases x with
  | none => cases h
  | some z => exact ⟨z, rfl, Option.some.inj h⟩
theorem if_some {p : Prop} [Decidable p] {α : Type} {x : Option α} {y : α} (h : (if p then x else none) = some y) : p ∧ x = some y := by
  by_cases q : p
  · rw [if_pos q] at h; exact ⟨q, h⟩
  · rw [if_neg q] at h; cases h
theorem or_ad {o : TO} (h : (μ || adB o) = true) : μ = false → AllD [o] := fun z => by subst z; exact adB_ok h
/-- an operation's reading is right -/
def FOp (X : Cx) (op : Operator) (f : TO → TO → Option TO) : Prop := ∀ x y o, f x y = some o → ∃ r, OpR X (binaryOp op) r ∧ VR X.K r x y o
def FCmp (X : Cx) (op : CmpOp) (f : TO → TO → Option TO) : Prop := ∀ x y o, f x y = some o → ∃ r, OpR X (compareOp op) r ∧ VR X.K r x y o
def FIx (X : Cx) (f : TO → TO → Option TO) : Prop := ∀ x y o, f x y = some o → ∃ r, IxR X r ∧ VR X.K r x y o
def FUn (X : Cx) (op : UnaryOp) (f : TO → Option TO) : Prop := ∀ x o, f x = some o → ∃ r, UnR X (unaryOp op) r ∧ V1 X.K r x o
def FB1 (X : Cx) (id : String) (f : TO → Option TO) : Prop := ∀ x o, f x = some o → ∃ r, CallR X (.builtin id) r ∧ C1 X.K r x o
def FT1 (X : Cx) (id : String) (f : TO → Option TO) : Prop := ∀ x o, f x = some o → ∃ r, CallR X (.type id) r ∧ C1 X.K r x o
def FB2 (X : Cx) (id : String) (f : TO → TO → Option TO) : Prop := ∀ x y o, f x y = some o → ∃ r, CallR X (.builtin id) r ∧ C2 X.K r x y o
theorem kOp_some {f : TO → TO → Option TO} {es es' : List SE} {o : TO} (h : kOp μ f da db es = some (es', o)) : ∃ es1 x y, da es = some (es1, x) ∧ db es1 = some (es', y) ∧ (μ = false → AllD [x]) ∧ f x y = some o := by
  obtain ⟨⟨es1, x⟩, h1, h⟩ := bind_some h
  obtain ⟨⟨es2, y⟩, h2, h⟩ := bind_some h
  obtain ⟨h3, h⟩ := if_some h
  obtain ⟨z, h4, h⟩ := map_some h
  cases h
  exact ⟨es1, x, y, h1, h2, or_ad h3, h4⟩
theorem kF_some {f : TO → Option TO} {es es' : List SE} {o : TO} (h : kF f da es = some (es', o)) : ∃ x, da es = some (es', x) ∧ f x = some o := by
  obtain ⟨⟨es1, x⟩, h1, h⟩ := bind_some h
  obtain ⟨z, h4, h⟩ := map_some h
  cases h
  exact ⟨x, h1, h4⟩
theorem ok_op {op : Operator} {f : TO → TO → Option TO} (F : FOp X op f) (ha : Ok X μ a da) (hb : Ok X μ b db) : Ok X μ (.BinOp a op b pos) (kOp μ f da db) := fun es es' o h => by
  obtain ⟨es1, x, y, h1, h2, ad, h3⟩ := kOp_some h
  obtain ⟨r, ho, k⟩ := F x y o h3
  obtain ⟨a1, a2⟩ := ha _ _ _ h1
  obtain ⟨b1, b2⟩ := hb _ _ _ h2
  exact ⟨d_op ho a1 b1 k ad, fun z => (b2 z).trans (a2 z)⟩
theorem ok_cmp {op : CmpOp} {f : TO → TO → Option TO} (F : FCmp X op f) (ha : Ok X μ a da) (hb : Ok X μ b db) (hm : behindInMarks op b = false := by first | rfl | exact nomark _) : Ok X μ (.Compare a [op] [b] pos) (kOp μ f da db) := fun es es' o h => by
  obtain ⟨es1, x, y, h1, h2, ad, h3⟩ := kOp_some h
  obtain ⟨r, ho, k⟩ := F x y o h3
  obtain ⟨a1, a2⟩ := ha _ _ _ h1
  obtain ⟨b1, b2⟩ := hb _ _ _ h2
  exact ⟨d_cmp ho a1 b1 k hm ad, fun z => (b2 z).trans (a2 z)⟩
theorem kT_some {es es' : List SE} {x : Bool} (h : kT da es = some (es', x)) : da es = some (es', B x) := by
  obtain ⟨⟨es1, y⟩, h1, h⟩ := bind_some h
  dsimp only at h
  split at h
  · cases h; exact h1
  · cases h
theorem okt_cmp {op : CmpOp} {f : TO → TO → Option TO} (F : FCmp X op f) (ha : Ok X μ a da) (hb : Ok X μ b db) (hm : behindInMarks op b = false := by first | rfl | exact nomark _) : OkT X μ (.Compare a [op] [b] pos) (kT (kOp μ f da db)) := fun es es' o h => by
  obtain ⟨es1, x, y, h1, h2, ad, h3⟩ := kOp_some (kT_some h)
  obtain ⟨r, ho, k⟩ := F x y _ h3
  obtain ⟨a1, a2⟩ := ha _ _ _ h1
  obtain ⟨b1, b2⟩ := hb _ _ _ h2
  exact ⟨t_cmp ho a1 b1 k hm ad, fun z => (b2 z).trans (a2 z)⟩
theorem okt_v (h : Ok X μ e da) (he : ∀ whole, isTrue e X.env whole = (do let v ← whole; standAt e.pos; holding [v] (truthy v)) := by intro _; rfl) : OkT X μ e (kT da) := fun es es' o q => by
  obtain ⟨a1, a2⟩ := h _ _ _ (kT_some q)
  exact ⟨t_val a1 he, a2⟩
theorem ok_ix {f : TO → TO → Option TO} (F : FIx X f) (ha : Ok X μ a da) (hb : Ok X μ b db) (hs : PlainIx b := by exact fun _ _ => rfl) : Ok X μ (.Subscript a b pos) (kOp μ f da db) := fun es es' o h => by
  obtain ⟨es1, x, y, h1, h2, ad, h3⟩ := kOp_some h
  obtain ⟨r, ho, k⟩ := F x y o h3
  obtain ⟨a1, a2⟩ := ha _ _ _ h1
  obtain ⟨b1, b2⟩ := hb _ _ _ h2
  exact ⟨d_ix ho a1 b1 k hs ad, fun z => (b2 z).trans (a2 z)⟩
theorem ok_un {op : UnaryOp} {f : TO → Option TO} (F : FUn X op f) (ha : Ok X μ a da) : Ok X μ (.UnaryOp op a pos) (kF f da) := fun es es' o h => by
  obtain ⟨x, h1, h2⟩ := kF_some h
  obtain ⟨r, ho, k⟩ := F _ _ h2
  obtain ⟨a1, a2⟩ := ha _ _ _ h1
  exact ⟨d_un ho a1 k, a2⟩
theorem ok_b1 {x : Str} {id : String} {p : Pos} {f : TO → Option TO} (F : FB1 X id f) (hm : X.mg x = none) (ha : Ok X μ a da) (hv : bootBuiltins x = some (.builtin id) := by rfl) (hg : Gl X x := by rfl)
    (hn : x ≠ "__name__" := by decide) (hdb : (x == ("__debug__" : Str)) = false := by decide) (na : Ns a := by exact fun _ _ => rfl) : Ok X μ (.Call (.Name x p) [a] [] pos) (kF f da) := fun es es' o h => by
  obtain ⟨y, h1, h2⟩ := kF_some h
  obtain ⟨r, ho, k⟩ := F _ _ h2
  obtain ⟨a1, a2⟩ := ha _ _ _ h1
  exact ⟨d_b1 ho hm hv a1 k hg hn hdb na, a2⟩
theorem ok_ty1 {x : Str} {id : String} {p : Pos} {f : TO → Option TO} (F : FT1 X id f) (hm : X.mg x = none) (ha : Ok X μ a da) (hv : bootBuiltins x = some (.type id) := by rfl) (hg : Gl X x := by rfl)
    (hn : x ≠ "__name__" := by decide) (hdb : (x == ("__debug__" : Str)) = false := by decide) (na : Ns a := by exact fun _ _ => rfl) : Ok X μ (.Call (.Name x p) [a] [] pos) (kF f da) := fun es es' o h => by
  obtain ⟨y, h1, h2⟩ := kF_some h
  obtain ⟨r, ho, k⟩ := F _ _ h2
  obtain ⟨a1, a2⟩ := ha _ _ _ h1
  exact ⟨d_ty1 ho hm hv a1 k hg hn hdb na, a2⟩
theorem ok_b2 {x : Str} {id : String} {p : Pos} {f : TO → TO → Option TO} (F : FB2 X id f) (hm : X.mg x = none) (ha : Ok X μ a da) (hb : Ok X μ b db) (hv : bootBuiltins x = some (.builtin id) := by rfl) (hg : Gl X x := by rfl)
    (hn : x ≠ "__name__" := by decide) (hdb : (x == ("__debug__" : Str)) = false := by decide) (na : Ns a := by exact fun _ _ => rfl) (nb : Ns b := by exact fun _ _ => rfl) : Ok X μ (.Call (.Name x p) [a, b] [] pos) (kOp μ f da db) := fun es es' o h => by
  obtain ⟨es1, y, z, h1, h2, ad, h3⟩ := kOp_some h
  obtain ⟨r, ho, k⟩ := F _ _ _ h3
  obtain ⟨a1, a2⟩ := ha _ _ _ h1
  obtain ⟨b1, b2⟩ := hb _ _ _ h2
  exact ⟨d_b2 ho hm hv a1 b1 k hg hn hdb ad na nb, fun z => (b2 z).trans (a2 z)⟩
theorem op_F {f : Value → Value → Sem Value} : OpR X f (fun _ _ _ _ => False) := fun _ _ _ _ _ _ _ _ _ _ _ _ h => h.elim
/-! tests -/
theorem okt_not (h : OkT X μ a ta) : OkT X μ (.UnaryOp .Not a pos) (kNot ta) := fun es es' o q => by
  obtain ⟨⟨e1, z⟩, h1, q⟩ := map_some q
  cases q
  obtain ⟨a1, a2⟩ := h _ _ _ h1
  exact ⟨t_not a1, a2⟩
theorem OkW.t (h : OkW X μ a ta) : OkT X μ a ta := fun es es' o q => ⟨(h es es' o q).1.t, (h es es' o q).2⟩
theorem okw_and1 (h : OkT X μ a ta) : OkW X μ (.BoolOp .And [a] pos) ta := fun es es' o q => ⟨w_and1 (h es es' o q).1, (h es es' o q).2⟩
theorem okw_or1 (h : OkT X μ a ta) : OkW X μ (.BoolOp .Or [a] pos) ta := fun es es' o q => ⟨w_or1 (h es es' o q).1, (h es es' o q).2⟩
theorem okw_and {rest : List Expr} (h : OkT X μ a ta) (hr : OkW X μ (.BoolOp .And (b :: rest) pos) tb) : OkW X μ (.BoolOp .And (a :: b :: rest) pos) (kAnd ta tb) := fun es es' o q => by
  obtain ⟨⟨e1, z⟩, h1, q⟩ := bind_some q
  obtain ⟨a1, a2⟩ := h _ _ _ h1
  cases z with
  | true => exact ⟨w_and a1 (fun _ => (hr e1 es' o q).1) nofun, fun m => ((hr e1 es' o q).2 m).trans (a2 m)⟩
  | false =>
    have q' : some (e1, false) = some (es', o) := q
    cases q'
    exact ⟨w_and a1 nofun fun _ => ⟨rfl, rfl⟩, a2⟩
theorem okw_or {rest : List Expr} (h : OkT X μ a ta) (hr : OkW X μ (.BoolOp .Or (b :: rest) pos) tb) : OkW X μ (.BoolOp .Or (a :: b :: rest) pos) (kOr ta tb) := fun es es' o q => by
  obtain ⟨⟨e1, z⟩, h1, q⟩ := bind_some q
  obtain ⟨a1, a2⟩ := h _ _ _ h1
  cases z with
  | false => exact ⟨w_or a1 (fun _ => (hr e1 es' o q).1) nofun, fun m => ((hr e1 es' o q).2 m).trans (a2 m)⟩
  | true =>
    have q' : some (e1, true) = some (es', o) := q
    cases q'
    exact ⟨w_or a1 nofun fun _ => ⟨rfl, rfl⟩, a2⟩
theorem kV_some {es es' : List SE} {o : TO} (h : kV ta es = some (es', o)) : ∃ z, ta es = some (es', z) ∧ o = B z := by
  obtain ⟨⟨e1, z⟩, h1, q⟩ := map_some h
  cases q
  exact ⟨z, h1, rfl⟩
/-- 'and', 'or', 'not' as values: their parts are truth values -/
theorem ok_not (h : Ok X μ a da) : Ok X μ (.UnaryOp .Not a pos) (kV (kNot (kT da))) := fun es es' o q => by
  obtain ⟨z, hz, rfl⟩ := kV_some q
  obtain ⟨⟨e1, y⟩, h1, q⟩ := map_some hz
  cases q
  obtain ⟨a1, a2⟩ := h _ _ _ (kT_some h1)
  exact ⟨d_not a1, a2⟩
theorem ok_one {op : BoolOp} (h : Ok X μ a da) : Ok X μ (.BoolOp op [a] pos) (kV (kT da)) := fun es es' o q => by
  obtain ⟨z, h1, rfl⟩ := kV_some q
  obtain ⟨a1, a2⟩ := h _ _ _ (kT_some h1)
  exact ⟨d_one a1, a2⟩
theorem ok_and {rest : List Expr} (h : Ok X μ a da) (hr : Ok X μ (.BoolOp .And (b :: rest) pos) (kV tb)) : Ok X μ (.BoolOp .And (a :: b :: rest) pos) (kV (kAnd (kT da) tb)) := fun es es' o q => by
  obtain ⟨z, qz, rfl⟩ := kV_some q
  obtain ⟨⟨e1, y⟩, h1, q⟩ := bind_some qz
  obtain ⟨a1, a2⟩ := h _ _ _ (kT_some h1)
  cases y with
  | true =>
    have q' : tb e1 = some (es', z) := q
    have w : kV tb e1 = some (es', B z) := by show (tb e1).map _ = _; rw [q']; rfl
    exact ⟨d_and a1 (fun _ => (hr e1 es' _ w).1) nofun, fun m => ((hr e1 es' _ w).2 m).trans (a2 m)⟩
  | false =>
    have q' : some (e1, false) = some (es', z) := q
    cases q'
    exact ⟨d_and a1 nofun fun _ => ⟨rfl, rfl⟩, a2⟩
theorem ok_or {rest : List Expr} (h : Ok X μ a da) (hr : Ok X μ (.BoolOp .Or (b :: rest) pos) (kV tb)) : Ok X μ (.BoolOp .Or (a :: b :: rest) pos) (kV (kOr (kT da) tb)) := fun es es' o q => by
  obtain ⟨z, qz, rfl⟩ := kV_some q
  obtain ⟨⟨e1, y⟩, h1, q⟩ := bind_some qz
  obtain ⟨a1, a2⟩ := h _ _ _ (kT_some h1)
  cases y with
  | false =>
    have q' : tb e1 = some (es', z) := q
    have w : kV tb e1 = some (es', B z) := by show (tb e1).map _ = _; rw [q']; rfl
    exact ⟨d_or a1 (fun _ => (hr e1 es' _ w).1) nofun, fun m => ((hr e1 es' _ w).2 m).trans (a2 m)⟩
  | true =>
    have q' : some (e1, true) = some (es', z) := q
    cases q'
    exact ⟨d_or a1 nofun fun _ => ⟨rfl, rfl⟩, a2⟩
theorem ok_ite (hc : OkT X μ c tc) (ha : Ok X μ a da) (hb : Ok X μ b db) : Ok X μ (.IfExp c a b pos) (kIte tc da db) := fun es es' o q => by
  obtain ⟨⟨e1, y⟩, h1, q⟩ := bind_some q
  obtain ⟨a1, a2⟩ := hc _ _ _ h1
  cases y with
  | true => exact ⟨d_ite a1 (fun _ => (ha _ _ _ q).1) nofun, fun m => ((ha _ _ _ q).2 m).trans (a2 m)⟩
  | false => exact ⟨d_ite a1 nofun (fun _ => (hb _ _ _ q).1), fun m => ((hb _ _ _ q).2 m).trans (a2 m)⟩
theorem kChain_some {f g : TO → TO → Option TO} {es es' : List SE} {z : Bool} (h : kChain μ f g da db dc es = some (es', z)) : ∃ es1 es2 x y u, da es = some (es1, x) ∧ db es1 = some (es2, y) ∧ (μ = false → AllD [x] ∧ AllD [y]) ∧ f x y = some (B u) ∧
    ((u = true ∧ ∃ w, dc es2 = some (es', w) ∧ g y w = some (B z)) ∨ (u = false ∧ es2 = es' ∧ false = z)) := by
  obtain ⟨⟨es1, x⟩, h1, h⟩ := bind_some h
  obtain ⟨⟨es2, y⟩, h2, h⟩ := bind_some h
  obtain ⟨h3, h⟩ := if_some h
  dsimp only at h
  have ad : μ = false → AllD [x] ∧ AllD [y] := fun m => by
    subst m
    have h3' : (adB x && adB y) = true := by simpa using h3
    simp only [Bool.and_eq_true] at h3'
    exact ⟨adB_ok h3'.1, adB_ok h3'.2⟩
  split at h
  · rename_i hf
    obtain ⟨⟨es3, w⟩, h4, h⟩ := bind_some h
    dsimp only at h
    split at h
    · rename_i hg
      cases h
      exact ⟨es1, es2, x, y, true, h1, h2, ad, hf, .inl ⟨rfl, w, h4, hg⟩⟩
    · cases h
  · rename_i hf
    cases h
    exact ⟨es1, _, x, y, false, h1, h2, ad, hf, .inr ⟨rfl, rfl, rfl⟩⟩
  · cases h
theorem ok_chain {op op' : CmpOp} {f g : TO → TO → Option TO} (F : FCmp X op f) (G : FCmp X op' g) (ha : Ok X μ a da) (hb : Ok X μ b db) (hc : Ok X μ c dc)
    (hm : lastMarks [op, op'] [b, c] = false := by with_unfolding_all rfl) : Ok X μ (.Compare a [op, op'] [b, c] pos) (kV (kChain μ f g da db dc)) := fun es es' o q => by
  obtain ⟨z, qz, rfl⟩ := kV_some q
  obtain ⟨es1, es2, x, y, u, h1, h2, ad, hf, h⟩ := kChain_some qz
  obtain ⟨r, ho, k⟩ := F _ _ _ hf
  obtain ⟨a1, a2⟩ := ha _ _ _ h1
  obtain ⟨b1, b2⟩ := hb _ _ _ h2
  rcases h with ⟨rfl, w, h4, hg⟩ | ⟨rfl, rfl, rfl⟩
  · obtain ⟨r', ho', k'⟩ := G _ _ _ hg
    obtain ⟨c1, c2⟩ := hc _ _ _ h4
    exact ⟨d_chain ho ho' a1 b1 k (fun _ => c1) (fun _ => k') nofun hm ad, fun m => (c2 m).trans ((b2 m).trans (a2 m))⟩
  · exact ⟨d_chain (oc := x) (r' := fun _ _ _ _ => False) ho op_F a1 b1 k nofun nofun (fun _ => ⟨rfl, rfl⟩) hm ad, fun m => (b2 m).trans (a2 m)⟩
end
end Wk

/-! Wk9 -/
set_option Elab.async false
set_option linter.all false
set_option maxRecDepth 100000
set_option maxHeartbeats 4000000
/-! Wk9: readings of argument lists, displays, calls; what a built-in reads -/
namespace Wk
open PySem PySem.Spec PyProof.Rows L2
section
variable {X : Cx} {μ : Bool} {e a b c : Expr} {l : List Expr} {da db dc dd : DE} {ta tb tc : DB} {la lb : DL} {oa ob : DLO} {pos p : Pos} {j : Nat}
theorem frz_ok {es es' : List SE} {o : TO} {x : PyData} (h : DG X μ e es es' o) (f : frz o = some x) : DG X μ e es es' (D x) := by
  cases o with
  | b t =>
    cases t with
    | d y => cases f; exact h
    | l _ => cases f
    | k _ => cases f
    | t _ => cases f
    | f _ => cases f
  | w t => exact d_fz h f
theorem ok_D (h : Ok X μ e da) : Ok X μ e (kD da) := fun es es' o q => by
  obtain ⟨⟨es1, y⟩, h1, q⟩ := bind_some q
  obtain ⟨x, h2, q⟩ := map_some q
  cases q
  obtain ⟨a1, a2⟩ := h _ _ _ h1
  exact ⟨frz_ok a1 h2, a2⟩
theorem okl_0 : OkL X μ [] kL0 := fun es es' ds h => by cases h; exact ⟨da_nil, fun _ => rfl⟩
theorem okl_1 (h : Ok X μ e da) (hr : OkL X μ l la) (n : Ns e := by exact fun _ _ => rfl) : OkL X μ (e :: l) (kL1 da la) := fun es es' ds q => by
  obtain ⟨⟨es1, y⟩, h1, q⟩ := bind_some q
  obtain ⟨x, h2, q⟩ := bind_some q
  obtain ⟨⟨es2, r⟩, h3, q⟩ := map_some q
  cases q
  obtain ⟨a1, a2⟩ := h _ _ _ h1
  obtain ⟨b1, b2⟩ := hr _ _ _ h3
  exact ⟨da_cons (frz_ok a1 h2) b1 (fun _ => trivial) n, fun z => (b2 z).trans (a2 z)⟩
theorem oko_0 : OkLO X μ [] kO0 := fun es es' ds h => by cases h; exact ⟨da_nil, trivial, fun _ => rfl⟩
theorem oko_1 (h : Ok X μ e da) (hr : OkLO X μ l oa) (n : Ns e := by exact fun _ _ => rfl) : OkLO X μ (e :: l) (kO1 da oa) := fun es es' ds q => by
  obtain ⟨⟨es1, y⟩, h1, q⟩ := bind_some q
  obtain ⟨h2, q⟩ := if_some q
  obtain ⟨⟨es2, r⟩, h3, q⟩ := map_some q
  cases q
  obtain ⟨a1, a2⟩ := h _ _ _ h1
  obtain ⟨b1, b2, b3⟩ := hr _ _ _ h3
  exact ⟨da_cons a1 b1 (fun _ => adB_ok h2) n, (adB_ok h2).cons b2, fun z => (b3 z).trans (a2 z)⟩
theorem ok_tup {k : Nat} (h : OkL X μ l la) : Ok X μ (.Tuple l k pos) (kTup la) := fun es es' o q => by
  obtain ⟨⟨es1, y⟩, h1, q⟩ := bind_some q
  obtain ⟨h2, q⟩ := if_some q
  cases q
  obtain ⟨a1, a2⟩ := h _ _ _ h1
  exact ⟨d_tup y a1 h2, a2⟩
theorem ok_lst (h : OkLO X μ l oa) : Ok X μ (.List l pos) (kLst oa) := fun es es' o q => by
  obtain ⟨⟨es1, y⟩, h1, q⟩ := bind_some q
  obtain ⟨h2, q⟩ := if_some q
  cases q
  obtain ⟨a1, a2, a3⟩ := h _ _ _ h1
  exact ⟨d_lstW a1 a2 h2, a3⟩
/-- a def of data -/
abbrev Sf (K : PySem.W.Frag) (n : Nat) (sem : List PyData → Option TO) : Sp := Sp0 K n fun ds o => sem ds = some o
abbrev Sf1 (K : PySem.W.Frag) (n : Nat) (sem : OT → List PyData → Option (OT × TO)) : Sp := Sp1 K n fun t ds t' o => sem t ds = some (t', o)
abbrev SfF (K : PySem.W.Frag) (sem : List Int → Option TO) : Sp := SpF K fun ns o => sem ns = some o
variable {k n : Nat} {f : Addr} {fd : FuncData} {ps : List Str} {x : Str}
theorem ok_call {sem : List PyData → Option TO} (G : FnG X.prog X.w X.K X.mg X.base CX0 k f fd ps (Sf X.K n sem)) (hr : Room k X.A) (hgd : X.A.guards = some []) (hm : X.mg x = some (.ref f)) (hk : PySem.W.keepIn X.K (.ref f) = true) (hb : Binds X.K fd ps [])
    (ad : ∀ ds o, sem ds = some o → adB o = true) (h : OkL X μ (e :: l) la) (hg : Gl X x := by rfl) (hdb : (x == ("__debug__" : Str)) = false := by decide)
    (he : starEach (e :: l) X.env = (false, eval e X.env) :: starEach l X.env := by rfl) (hpl : (backTo pos (starEach l X.env)).any (·.1) = false := by rfl) : Ok X μ (.Call (.Name x p) (e :: l) [] pos) (kCall n sem la) := fun es es' o q => by
  obtain ⟨⟨es1, ds⟩, h1, q⟩ := bind_some q
  obtain ⟨h2, q⟩ := if_some q
  obtain ⟨o', h3, q⟩ := map_some q
  cases q
  obtain ⟨a1, a2⟩ := h _ _ _ h1
  exact ⟨d_call0 G hr hgd hm hk hb ds a1 h3 h2 (adB_ok (ad _ _ h3)) hg hdb he hpl, a2⟩
theorem ok_call1 {i : Nat} {y : Str} {py : Pos} {sem : OT → List PyData → Option (OT × TO)} (G : FnG X.prog X.w X.K X.mg X.base CX0 k f fd ps (Sf1 X.K n sem)) (hr : Room k X.A) (hgd : X.A.guards = some []) (hm : X.mg x = some (.ref f)) (hk : PySem.W.keepIn X.K (.ref f) = true) (hb : Binds X.K fd ps [])
    (ad : ∀ t ds t' o, sem t ds = some (t', o) → adB o = true) (h : OkL X false l la) (hg : Gl X x := by rfl) (hdb : (x == ("__debug__" : Str)) = false := by decide)
    (hN : X.N[i]? = some y := by rfl) (hv : Vis X.env.scope y := by first | exact Or.inl rfl | exact Or.inr (Or.inl rfl) | exact Or.inr (Or.inr rfl)) (hd : (y == ("__debug__" : Str)) = false := by decide) (hcd : (y == ("__classdict__" : Str)) = false := by decide)
    (he : starEach (.Name y py :: l) X.env = (false, eval (.Name y py) X.env) :: starEach l X.env := by rfl) (hpl : (backTo pos (starEach l X.env)).any (·.1) = false := by rfl) : Ok X false (.Call (.Name x p) (.Name y py :: l) [] pos) (kCall1 n i sem la) := fun es es' o q => by
  unfold kCall1 at q
  split at q
  · rename_i b0 t0 h0
    obtain ⟨⟨es1, ds⟩, h1, q⟩ := bind_some q
    obtain ⟨h2, q⟩ := if_some q
    dsimp only at q
    split at q
    · rename_i b t h3
      obtain ⟨⟨t', o'⟩, h4, q⟩ := map_some q
      cases q
      obtain ⟨a1, a2⟩ := h _ _ _ h1
      exact ⟨d_call1 G hr hgd hm hk hb ds a1 h3 ⟨_, _, h0⟩ h4 h2 (adB_ok (ad _ _ _ _ h4)) hg hdb hN hv hd hcd he hpl, nofun⟩
    · cases q
  · cases q
theorem ok_callF {sem : List Int → Option TO} (G : FnG X.prog X.w X.K X.mg X.base CX0 k f fd ps (SfF X.K sem)) (hr : Room k X.A) (hgd : X.A.guards = some []) (hm : X.mg x = some (.ref f)) (hk : PySem.W.keepIn X.K (.ref f) = true) (hb : Binds X.K fd ps [])
    (ad : ∀ ns o, sem ns = some o → adB o = true) (h : Ok X μ e da) (hg : Gl X x := by rfl) (hdb : (x == ("__debug__" : Str)) = false := by decide) (n : Ns e := by exact fun _ _ => rfl) : Ok X μ (.Call (.Name x p) [e] [] pos) (kCallF sem da) := fun es es' o q => by
  obtain ⟨⟨es1, y⟩, h1, q⟩ := bind_some q
  dsimp only at q
  split at q
  · obtain ⟨o', h3, q⟩ := map_some q
    cases q
    obtain ⟨a1, a2⟩ := h _ _ _ h1
    exact ⟨d_callF G hr hgd hm hk hb a1 h3 (adB_ok (ad _ _ h3)) hg hdb n, a2⟩
  · cases q
end

/-! ### what operations read -/
def lvL : List OT → Option (List PyData)
  | [] => some []
  | .d x :: r => (lvL r).map (x :: ·)
  | _ :: _ => none
theorem lvL_ok : ∀ {xs : List OT} {ds : List PyData}, lvL xs = some ds → xs = ds.map .d
  | [], _, h => by cases h; rfl
  | .d x :: r, _, h => by
    obtain ⟨y, h1, h2⟩ := map_some h
    subst h2
    rw [lvL_ok h1]; rfl
  | .l _ :: _, _, h => nomatch h
  | .k _ :: _, _, h => nomatch h
  | .t _ :: _, _, h => nomatch h
  | .f _ :: _, _, h => nomatch h
theorem lvL_map : ∀ ds : List PyData, lvL (ds.map .d) = some ds
  | [] => rfl
  | x :: r => by show (lvL (r.map .d)).map _ = _; rw [lvL_map r]; rfl
def lvO : TO → Option (List PyData)
  | .b (.d (.list ds)) => some ds
  | .b (.l xs) => lvL xs
  | .w (.l xs) => lvL xs
  | _ => none
theorem lvO_ok {o : TO} {ds : List PyData} (h : lvO o = some ds) : LV o ds := by
  cases o with
  | b t =>
    cases t with
    | d x =>
      cases x with
      | list _ => cases h; exact .d
      | _ => cases h
    | l xs => rw [lvL_ok (xs := xs) h]; exact .b
    | k _ => cases h
    | t _ => cases h
    | f _ => cases h
  | w t =>
    cases t with
    | l xs => rw [lvL_ok (xs := xs) h]; exact .w
    | d _ => cases h
    | k _ => cases h
    | t _ => cases h
    | f _ => cases h
/-- a datum, or a list shown as one -/
def dvO : TO → Option PyData
  | .b (.d x) => some x
  | o => (lvO o).map .list
theorem dvO_ok {o : TO} {d : PyData} (h : dvO o = some d) : DV o d := by
  cases o with
  | b t =>
    cases t with
    | d x => cases h; exact .d
    | l xs => obtain ⟨y, h1, rfl⟩ := map_some h; rw [lvL_ok (xs := xs) h1]; exact .l .b
    | k _ => cases h
    | t _ => cases h
    | f _ => cases h
  | w t =>
    cases t with
    | l xs => obtain ⟨y, h1, rfl⟩ := map_some h; rw [lvL_ok (xs := xs) h1]; exact .l .w
    | d _ => cases h
    | k _ => cases h
    | t _ => cases h
    | f _ => cases h
def asI : PyData → Option Int
  | .int i => some i
  | _ => none
def asInts : List PyData → Option (List Int)
  | [] => some []
  | .int i :: r => (asInts r).map (i :: ·)
  | _ :: _ => none
theorem asInts_ok : ∀ {ds : List PyData} {ns : List Int}, asInts ds = some ns → ds = ns.map .int
  | [], _, h => by cases h; rfl
  | .int i :: r, _, h => by
    obtain ⟨y, h1, rfl⟩ := map_some h
    rw [asInts_ok h1]; rfl
  | .none :: _, _, h => nomatch h
  | .bool _ :: _, _, h => nomatch h
  | .str _ :: _, _, h => nomatch h
  | .list _ :: _, _, h => nomatch h
  | .tuple _ :: _, _, h => nomatch h
  | .dict _ :: _, _, h => nomatch h
theorem asInts_map : ∀ ns : List Int, asInts (ns.map .int) = some ns
  | [] => rfl
  | x :: r => by show (asInts (r.map .int)).map _ = _; rw [asInts_map r]; rfl
def asBools : List PyData → Option (List Bool)
  | [] => some []
  | .bool i :: r => (asBools r).map (i :: ·)
  | _ :: _ => none
theorem asBools_ok : ∀ {ds : List PyData} {ns : List Bool}, asBools ds = some ns → ds = ns.map .bool
  | [], _, h => by cases h; rfl
  | .bool i :: r, _, h => by
    obtain ⟨y, h1, rfl⟩ := map_some h
    rw [asBools_ok h1]; rfl
  | .none :: _, _, h => nomatch h
  | .int _ :: _, _, h => nomatch h
  | .str _ :: _, _, h => nomatch h
  | .list _ :: _, _, h => nomatch h
  | .tuple _ :: _, _, h => nomatch h
  | .dict _ :: _, _, h => nomatch h
theorem asBools_map : ∀ ns : List Bool, asBools (ns.map .bool) = some ns
  | [] => rfl
  | x :: r => by show (asBools (r.map .bool)).map _ = _; rw [asBools_map r]; rfl
section
variable {X : Cx}
/-- of two ints -/
def f2I (g : Int → Int → Option TO) : TO → TO → Option TO
  | .b (.d (.int i)), .b (.d (.int j)) => g i j
  | _, _ => none
theorem f2I_some {g : Int → Int → Option TO} {x y o : TO} (h : f2I g x y = some o) : ∃ i j, x = I i ∧ y = I j ∧ g i j = some o := by
  unfold f2I at h
  split at h
  · exact ⟨_, _, rfl, rfl, h⟩
  · cases h
def f1I (g : Int → Option TO) : TO → Option TO
  | .b (.d (.int i)) => g i
  | _ => none
theorem f1I_some {g : Int → Option TO} {x o : TO} (h : f1I g x = some o) : ∃ i, x = I i ∧ g i = some o := by
  unfold f1I at h
  split at h
  · exact ⟨_, rfl, h⟩
  · cases h
def gI (g : Int → Int → Int) (i j : Int) : Option TO := some (I (g i j))
def gB (g : Int → Int → Bool) (i j : Int) : Option TO := some (B (g i j))
def gC (C : Int → Int → Bool) (g : Int → Int → Int) (i j : Int) : Option TO := if C i j = true then some (I (g i j)) else none
theorem fop_I {op : Operator} {g : Int → Int → Int} (ho : OpR X (binaryOp op) (rI0 fun i j => .int (g i j))) : FOp X op (f2I (gI g)) := fun x y o h => by
  obtain ⟨i, j, rfl, rfl, h⟩ := f2I_some h
  cases h
  exact ⟨_, ho, vr_I⟩
theorem fop_C {op : Operator} {P : Int → Int → Prop} {C : Int → Int → Bool} {g : Int → Int → Int} (ho : OpR X (binaryOp op) (rI P fun i j => .int (g i j))) (hc : ∀ i j, C i j = true → P i j) : FOp X op (f2I (gC C g)) := fun x y o h => by
  obtain ⟨i, j, rfl, rfl, h⟩ := f2I_some h
  obtain ⟨h1, h⟩ := if_some h
  cases h
  exact ⟨_, ho, vr_IC (hc _ _ h1)⟩
theorem fcmp_B {op : CmpOp} {g : Int → Int → Bool} (ho : OpR X (compareOp op) (rI0 fun i j => .bl (g i j))) : FCmp X op (f2I (gB g)) := fun x y o h => by
  obtain ⟨i, j, rfl, rfl, h⟩ := f2I_some h
  cases h
  exact ⟨_, ho, vr_IB⟩
def fSub := f2I (gI fun i j => i - j)
def fAnd := f2I (gI Builtin.bitAnd)
def fOr := f2I (gI Builtin.bitOr)
def fXor := f2I (gI Builtin.bitXor)
def cMulB (i j : Int) : Bool := decide (i.natAbs.log2 + j.natAbs.log2 < 1000000)
def cDivB (_ j : Int) : Bool := decide (0 < j ∧ j.natAbs.log2 < 9000)
def cPowB (i j : Int) : Bool := decide (0 ≤ j ∧ j ≤ 1000000 ∧ i.natAbs < 2 ^ 64)
def fDiv := f2I (gC cDivB fun i j => i / j)
def fMod := f2I (gC (fun _ j => decide (0 < j)) fun i j => i % j)
def fPow := f2I (gC cPowB fun i j => i ^ j.toNat)
def fShl := f2I (gC cPowB fun i j => i * 2 ^ j.toNat)
def fShr := f2I (gC (fun _ j => decide (0 ≤ j)) fun i j => i / 2 ^ j.toNat)
def fLt := f2I (gB fun i j => decide (i < j))
def fLe := f2I (gB fun i j => decide (i ≤ j))
def fGt := f2I (gB fun i j => decide (j < i))
def fGe := f2I (gB fun i j => decide (j ≤ i))
theorem F_sub : FOp X .Sub fSub := fop_I op_sub
theorem F_and : FOp X .BitAnd fAnd := fop_I op_and
theorem F_or : FOp X .BitOr fOr := fop_I op_or
theorem F_xor : FOp X .BitXor fXor := fop_I op_xor
theorem F_div : FOp X .FloorDiv fDiv := fop_C op_fdivW fun i j h => by simpa [cDivB, CDivW] using h
theorem F_mod : FOp X .Mod fMod := fop_C op_mod fun i j h => by simpa using h
theorem F_pow : FOp X .Pow fPow := fop_C op_pow fun i j h => by simpa [cPowB, CPow] using h
theorem F_shl : FOp X .LShift fShl := fop_C op_shl fun i j h => by simpa [cPowB, CPow] using h
theorem F_shr : FOp X .RShift fShr := fop_C op_shr fun i j h => by simpa using h
theorem F_lt : FCmp X .Lt fLt := fcmp_B op_lt
theorem F_le : FCmp X .LtE fLe := fcmp_B op_le
theorem F_gt : FCmp X .Gt fGt := fcmp_B op_gt
theorem F_ge : FCmp X .GtE fGe := fcmp_B op_ge
/-- + -/
def fAdd (x y : TO) : Option TO := match x, y with
  | .b (.d (.int i)), .b (.d (.int j)) => some (I (i + j))
  | .b (.d (.tuple a)), .b (.d (.tuple b)) => if a.length + b.length ≤ sizeLine then some (D (.tuple (a ++ b))) else none
  | _, _ => (lvO x).bind fun a => (lvO y).bind fun b => if a.length + b.length ≤ sizeLine then some (.w (oL (a ++ b))) else none
theorem F_add : FOp X .Add fAdd := fun x y o h => by
  unfold fAdd at h
  split at h
  · cases h; exact ⟨_, op_add, vr_I⟩
  · obtain ⟨h1, h⟩ := if_some h
    cases h; exact ⟨_, op_catA, vr_catT h1⟩
  · obtain ⟨a, h1, h⟩ := bind_some h
    obtain ⟨b, h2, h⟩ := bind_some h
    obtain ⟨h3, h⟩ := if_some h
    cases h
    exact ⟨_, op_cat, vr_cat (lvO_ok h1) (lvO_ok h2) h3⟩
/-- * -/
def fMul (x y : TO) : Option TO := match x, y with
  | .b (.d (.int i)), .b (.d (.int j)) => if cMulB i j = true then some (I (i * j)) else none
  | _, .b (.d (.int k)) => (lvO x).bind fun a => if k < 2 ^ 63 ∧ -(2 ^ 63) ≤ k ∧ a.length * k.toNat ≤ sizeLine then some (.w (oL (List.replicate k.toNat a).flatten)) else none
  | _, _ => none
theorem F_mul : FOp X .Mult fMul := fun x y o h => by
  unfold fMul at h
  split at h
  · obtain ⟨h1, h⟩ := if_some h
    cases h; exact ⟨_, op_mulW, vr_IC (by simpa [cMulB, CMulW] using h1)⟩
  · obtain ⟨a, h1, h⟩ := bind_some h
    obtain ⟨h3, h⟩ := if_some h
    cases h
    exact ⟨_, op_rep, vr_rep (lvO_ok h1) h3.1 h3.2.1 h3.2.2⟩
  · cases h
/-- ==: scalars at once, else by the model's own equality of data -/
def fEq (x y : TO) : Option TO := match x, y with
  | .b (.d (.int i)), .b (.d (.int j)) => some (B (decide (i = j)))
  | .b (.d (.str i)), .b (.d (.str j)) => some (B (decide (i = j)))
  | .b (.d (.bool i)), .b (.d (.bool j)) => some (B (decide (i = j)))
  | _, _ => (dvO x).bind fun a => (dvO y).bind fun b => if SeqAt.shaped a = true ∧ SeqAt.shaped b = true then some (B (PyData.eqv a b)) else none
def fNe (x y : TO) : Option TO := match x, y with
  | .b (.d (.int i)), .b (.d (.int j)) => some (B (!decide (i = j)))
  | .b (.d (.str i)), .b (.d (.str j)) => some (B (!decide (i = j)))
  | .b (.d (.bool i)), .b (.d (.bool j)) => some (B (!decide (i = j)))
  | _, _ => (dvO x).bind fun a => (dvO y).bind fun b => if SeqAt.shaped a = true ∧ SeqAt.shaped b = true then some (B (!PyData.eqv a b)) else none
theorem F_eq (hu : X.A.units + 64 < cLine) : FCmp X .Eq fEq := fun x y o h => by
  unfold fEq at h
  split at h
  · cases h; exact ⟨_, op_eq, vr_eqI⟩
  · cases h; exact ⟨_, op_eq, vr_eqS⟩
  · cases h; exact ⟨_, op_eq, vr_eqB⟩
  · obtain ⟨a, h1, h⟩ := bind_some h
    obtain ⟨b, h2, h⟩ := bind_some h
    obtain ⟨h3, h⟩ := if_some h
    cases h
    exact ⟨_, op_eqD hu, vr_eqD (dvO_ok h1) (dvO_ok h2) h3.1 h3.2⟩
theorem F_ne (hu : X.A.units + 64 < cLine) : FCmp X .NotEq fNe := fun x y o h => by
  unfold fNe at h
  split at h
  · cases h; exact ⟨_, op_ne, vr_neI⟩
  · cases h; exact ⟨_, op_ne, vr_neS⟩
  · cases h; exact ⟨_, op_ne, vr_neB⟩
  · obtain ⟨a, h1, h⟩ := bind_some h
    obtain ⟨b, h2, h⟩ := bind_some h
    obtain ⟨h3, h⟩ := if_some h
    cases h
    exact ⟨_, op_neD hu, vr_neD (dvO_ok h1) (dvO_ok h2) h3.1 h3.2⟩
def fIs (x y : TO) : Option TO := match x, y with
  | .b (.d d), .b (.d .none) => some (B (isN d))
  | _, _ => none
def fIsNot (x y : TO) : Option TO := match x, y with
  | .b (.d d), .b (.d .none) => some (B (!isN d))
  | _, _ => none
theorem F_is : FCmp X .Is fIs := fun x y o h => by
  unfold fIs at h
  split at h
  · cases h; exact ⟨_, op_isN, vr_isN (j := D .none)⟩
  · cases h
theorem F_isnot : FCmp X .IsNot fIsNot := fun x y o h => by
  unfold fIsNot at h
  split at h
  · cases h; exact ⟨_, op_notN, vr_notN (j := D .none)⟩
  · cases h
/-- in: an int among ints, else by the model's own equality in a list -/
def fInB (neg : Bool) (x y : TO) : Option TO := match x, y with
  | .b (.d (.int i)), .b (.d (.tuple a)) => (asInts a).map fun ns => B (if neg then !decide (i ∈ ns) else decide (i ∈ ns))
  | _, _ => (dvO x).bind fun d => (lvO y).bind fun a => if SeqAt.shaped d = true ∧ SeqAt.shaped (.list a) = true then some (B (if neg then !(a.any fun z => PyData.eqv z d) else a.any fun z => PyData.eqv z d)) else none
def fIn := fInB false
def fNotIn := fInB true
theorem F_in (hu : X.A.units + 65 < cLine) : FCmp X .In fIn := fun x y o h => by
  unfold fIn fInB at h
  split at h
  · obtain ⟨ns, h1, rfl⟩ := map_some h
    rw [asInts_ok h1]
    exact ⟨_, op_in_seq, vr_inT⟩
  · obtain ⟨d, h1, h⟩ := bind_some h
    obtain ⟨a, h2, h⟩ := bind_some h
    obtain ⟨h3, h⟩ := if_some h
    cases h
    exact ⟨_, op_inD hu, vr_inD (dvO_ok h1) (lvO_ok h2) h3.1 h3.2⟩
theorem F_notin (hu : X.A.units + 65 < cLine) : FCmp X .NotIn fNotIn := fun x y o h => by
  unfold fNotIn fInB at h
  split at h
  · obtain ⟨ns, h1, rfl⟩ := map_some h
    rw [asInts_ok h1]
    exact ⟨_, op_notIn_seq, vr_inT⟩
  · obtain ⟨d, h1, h⟩ := bind_some h
    obtain ⟨a, h2, h⟩ := bind_some h
    obtain ⟨h3, h⟩ := if_some h
    cases h
    exact ⟨_, op_notInD hu, vr_notInD (dvO_ok h1) (lvO_ok h2) h3.1 h3.2⟩
/-- an item -/
def fIx (x y : TO) : Option TO := match x, y with
  | .b (.d (.tuple a)), .b (.d (.int i)) => (atI a i).map D
  | .b (.d (.list a)), .b (.d (.int i)) => (atI a i).map D
  | .b (.l xs), .b (.d (.int i)) => (atI xs i).map .b
  | .w (.l xs), .b (.d (.int i)) => (lvL xs).bind fun a => (atI a i).map D
  | _, _ => none
theorem F_ix : FIx X fIx := fun x y o h => by
  unfold fIx at h
  split at h
  · obtain ⟨d, h1, rfl⟩ := map_some h
    exact ⟨_, ix_tup, vr_ixT h1⟩
  · obtain ⟨d, h1, rfl⟩ := map_some h
    exact ⟨_, ix_list, vr_ixL .d h1⟩
  · obtain ⟨d, h1, rfl⟩ := map_some h
    exact ⟨_, ix_list, vr_ixO h1⟩
  · obtain ⟨a, h1, h⟩ := bind_some h
    obtain ⟨d, h2, rfl⟩ := map_some h
    exact ⟨_, ix_list, vr_ixL (by rw [lvL_ok h1]; exact .w) h2⟩
  · cases h
def fNeg := f1I fun i => some (I (-i))
def fInv := f1I fun i => some (I (Builtin.bitNot i))
theorem F_neg : FUn X .USub fNeg := fun x o h => by
  obtain ⟨i, rfl, h⟩ := f1I_some h
  cases h
  exact ⟨_, un_neg, v1_I⟩
theorem F_inv : FUn X .Invert fInv := fun x o h => by
  obtain ⟨i, rfl, h⟩ := f1I_some h
  cases h
  exact ⟨_, un_inv, v1_I⟩
/-! built-ins -/
def fLen (x : TO) : Option TO := match x with
  | .b (.d (.tuple a)) => some (I a.length)
  | .b (.l xs) => some (I xs.length)
  | _ => (lvO x).map fun a => I a.length
theorem F_len : FB1 X "len" fLen := fun x o h => by
  unfold fLen at h
  split at h
  · cases h; exact ⟨_, cr_len, c1_lenT⟩
  · cases h; exact ⟨_, cr_len, c1_lenO⟩
  · obtain ⟨a, h1, rfl⟩ := map_some h
    exact ⟨_, cr_len, c1_lenL (lvO_ok h1)⟩
def fSum (x : TO) : Option TO := (lvO x).bind fun a => (asInts a).map fun ns => I ns.sum
def fAll (x : TO) : Option TO := (lvO x).bind fun a => (asBools a).map fun ns => B (ns.all id)
def fAny (x : TO) : Option TO := (lvO x).bind fun a => (asBools a).map fun ns => B (ns.any id)
def fMax (x : TO) : Option TO := (lvO x).bind fun a => (asInts a).bind fun ns => ns.max?.map I
def fMin (x : TO) : Option TO := (lvO x).bind fun a => (asInts a).bind fun ns => ns.min?.map I
def fMax2 := f2I fun i j => some (I (max i j))
def fMin2 := f2I fun i j => some (I (min i j))
def fAbs := f1I fun i => some (I i.natAbs)
def fRepr (x : TO) : Option TO := (dvO x).bind fun d => if reprOk d = true then some (S d.shown) else none
def fInt (x : TO) : Option TO := match x with
  | .b (.d (.int i)) => some (I i)
  | .b (.d (.bool b)) => some (I (if b then 1 else 0))
  | _ => none
def fList (x : TO) : Option TO := match x with
  | .b (.d (.tuple a)) => some (.w (oL a))
  | _ => (lvO x).map fun a => .w (oL a)
def fTuple (x : TO) : Option TO := match x with
  | .b (.d (.tuple a)) => some (D (.tuple a))
  | _ => (lvO x).map fun a => D (.tuple a)
theorem F_sum (hc : X.calm = true) : FB1 X "sum" fSum := fun x o h => by
  obtain ⟨a, h1, h⟩ := bind_some h
  obtain ⟨ns, h2, rfl⟩ := map_some h
  exact ⟨_, cr_sum hc, c1_sum (asInts_ok h2 ▸ lvO_ok h1)⟩
theorem F_all (hc : X.calm = true) : FB1 X "all" fAll := fun x o h => by
  obtain ⟨a, h1, h⟩ := bind_some h
  obtain ⟨ns, h2, rfl⟩ := map_some h
  exact ⟨_, cr_all hc, c1_all (asBools_ok h2 ▸ lvO_ok h1)⟩
theorem F_any (hc : X.calm = true) : FB1 X "any" fAny := fun x o h => by
  obtain ⟨a, h1, h⟩ := bind_some h
  obtain ⟨ns, h2, rfl⟩ := map_some h
  exact ⟨_, cr_any hc, c1_any (asBools_ok h2 ▸ lvO_ok h1)⟩
theorem F_max (hc : X.calm = true) : FB1 X "max" fMax := fun x o h => by
  obtain ⟨a, h1, h⟩ := bind_some h
  obtain ⟨ns, h2, h⟩ := bind_some h
  obtain ⟨n, h3, rfl⟩ := map_some h
  exact ⟨_, cr_max hc, c1_max (asInts_ok h2 ▸ lvO_ok h1) h3⟩
theorem F_min (hc : X.calm = true) : FB1 X "min" fMin := fun x o h => by
  obtain ⟨a, h1, h⟩ := bind_some h
  obtain ⟨ns, h2, h⟩ := bind_some h
  obtain ⟨n, h3, rfl⟩ := map_some h
  exact ⟨_, cr_min hc, c1_min (asInts_ok h2 ▸ lvO_ok h1) h3⟩
theorem F_max2 (hc : X.calm = true) : FB2 X "max" fMax2 := fun x y o h => by
  obtain ⟨i, j, rfl, rfl, h⟩ := f2I_some h
  cases h
  exact ⟨_, call_max2 hc, c2_max⟩
theorem F_min2 (hc : X.calm = true) : FB2 X "min" fMin2 := fun x y o h => by
  obtain ⟨i, j, rfl, rfl, h⟩ := f2I_some h
  cases h
  exact ⟨_, call_min2 hc, c2_min⟩
theorem F_abs : FB1 X "abs" fAbs := fun x o h => by
  obtain ⟨i, rfl, h⟩ := f1I_some h
  cases h
  exact ⟨_, call_abs, c1_abs⟩
theorem F_repr (hgd : X.A.guards = some []) (hu : X.A.units + 64 < cLine) : FB1 X "repr" fRepr := fun x o h => by
  obtain ⟨a, h1, h⟩ := bind_some h
  obtain ⟨h2, h⟩ := if_some h
  cases h
  exact ⟨_, cr_repr hgd hu, c1_repr (dvO_ok h1) h2⟩
theorem F_int : FT1 X "int" fInt := fun x o h => by
  unfold fInt at h
  split at h
  · cases h; exact ⟨_, cr_int, c1_int⟩
  · cases h; exact ⟨_, cr_int, c1_intB⟩
  · cases h
theorem F_list : FT1 X "list" fList := fun x o h => by
  unfold fList at h
  split at h
  · cases h; exact ⟨_, cr_list, c1_listT⟩
  · obtain ⟨a, h1, rfl⟩ := map_some h
    exact ⟨_, cr_list, c1_listL (lvO_ok h1)⟩
theorem F_tuple : FT1 X "tuple" fTuple := fun x o h => by
  unfold fTuple at h
  split at h
  · cases h; exact ⟨_, cr_tuple, c1_tupT⟩
  · obtain ⟨a, h1, rfl⟩ := map_some h
    exact ⟨_, cr_tuple, c1_tupL (lvO_ok h1)⟩
end
end Wk

/-! Wk10 -/
set_option Elab.async false
set_option linter.all false
set_option maxRecDepth 100000
set_option maxHeartbeats 4000000
/-! Wk10: statements -/
namespace Wk
open PySem PySem.Spec PyProof.Rows L2
theorem gt_set : ∀ {es : List SE} {i : Nat} {e : SE}, i < es.length → gt (es.set i e) i = e
  | _ :: _, 0, _, _ => rfl
  | _ :: es, i + 1, _, h => gt_set (es := es) (Nat.lt_of_succ_lt_succ h)
section
variable {c : Ct} {ts : List TO} {tv : List V} {es : List SE} {σ : St} {H H' : Hp}
/-- the own tree of a slot becomes data -/
theorem Rl.fzS {i : Nat} {t : OT} {x : PyData} (r : Rl c ts tv es σ H) (ha : AllD ts) (h : gt es i = .s false t) (f : fz t = some x) : Rl c ts tv (es.set i (.s false (.d x))) σ H := by
  obtain ⟨as, bs, a⟩ := r
  obtain ⟨u1, ai, u2, y, e2, e3, q2, g⟩ := a.sl.split (gt_lt h)
  subst e2
  rw [h] at q2
  obtain ⟨v, e4, k, ow⟩ := q2
  subst e4
  have s : (as ++ (u1 ++ u2)).Sublist (as ++ (u1 ++ (ai ++ u2))) := (List.Sublist.refl as).append ((List.Sublist.refl u1).append (List.sublist_append_right ai u2))
  have nai : ∀ z ∈ ai, z ∉ as ++ (u1 ++ u2) := fun z hz hm => by
    have nd := a.nd
    have c1 : List.count z (as ++ (u1 ++ (ai ++ u2))) ≤ 1 := List.nodup_iff_count.mp nd z
    have c2 : 0 < List.count z ai := List.count_pos_iff.mpr hz
    have c3 : 0 < List.count z (as ++ (u1 ++ u2)) := List.count_pos_iff.mpr hm
    simp only [List.count_append] at c1 c3
    omega
  have t : Tx (Mf c (as ++ (u1 ++ (ai ++ u2)))) (Mf c (as ++ (u1 ++ u2))) H H := ⟨fun b z => .inl (z.imp id fun z => s.subset z), Ext.rfl⟩
  have own : ∀ z ∈ ai, ¬ Mf c (as ++ (u1 ++ u2)) z := fun z hz m => by
    rcases m with m | m
    · rcases ow z hz with w | w
      · cases w.1
      · exact w.2 m
    · exact nai z hz m
  have q := Tk.fz (M' := Mf c (as ++ (u1 ++ u2))) (fun b z => z.imp id fun z => s.subset z) k own f
  have sl := g (Mf c (as ++ (u1 ++ u2))) H (some v) (.s false (.d x)) [] t.to (fun z _ u e => e) ⟨v, rfl, .d q, fun _ z => absurd z (by simp)⟩
  have hσ : σ.set i (some v) = σ := set_self e3
  rw [hσ] at sl
  exact ⟨as, u1 ++ u2, a.nd.sublist s, sl, a.tm.tx t, a.keep, a.av, a.fix⟩

/-- a temporary beneath the topmost one goes -/
theorem Rl.swapPop {o o' : TO} {v v' : V} (r : Rl c (o :: o' :: ts) (v :: v' :: tv) es σ H) : Rl c (o :: ts) (v :: tv) es σ H := r.pop2
/-- the temporaries from the first one on -/
theorem Tm.turn {c : Ct} {M : Addr → Prop} {H : Hp} : ∀ {os : List TO} {vs : List V} {ts : List TO} {tv : List V} {as : List Addr}, vs.length = os.length → Tm c M H (vs.reverseAux tv) (os.reverseAux ts) as → ∃ as', as.Perm as' ∧ Tm c M H (vs ++ tv) (os ++ ts) as'
  | [], [], _, _, as, _, t => ⟨as, List.Perm.refl _, t⟩
  | o :: os, v :: vs, ts, tv, as, e, t => by
    obtain ⟨a1, p, t1⟩ := Tm.turn (os := os) (vs := vs) (ts := o :: ts) (tv := v :: tv) (Nat.succ.inj e) t
    -- the one in the midst comes to the front
    have : ∀ {os : List TO} {vs : List V} {as : List Addr}, vs.length = os.length → Tm c M H (vs ++ v :: tv) (os ++ o :: ts) as → ∃ as', as.Perm as' ∧ Tm c M H (v :: (vs ++ tv)) (o :: (os ++ ts)) as' := by
      intro os
      induction os with
      | nil =>
        intro vs as e t
        cases vs with
        | nil => exact ⟨as, List.Perm.refl _, t⟩
        | cons _ _ => cases e
      | cons o1 os ih =>
        intro vs as e t
        cases vs with
        | nil => cases e
        | cons v1 vs =>
          have t' : Tm c M H (v1 :: (vs ++ v :: tv)) (o1 :: (os ++ o :: ts)) as := t
          cases t' with
          | b q l =>
            obtain ⟨a2, p2, l2⟩ := ih (Nat.succ.inj e) l
            cases l2 with
            | b q' l' => exact ⟨_, p2, .b q' (.b q l')⟩
            | w q' ow' l' => exact ⟨_, p2, .w q' ow' (.b q l')⟩
          | w q ow l =>
            obtain ⟨a2, p2, l2⟩ := ih (Nat.succ.inj e) l
            rename_i bs _
            cases l2 with
            | b q' l' => exact ⟨_, p2.append_left _, .b q' (.w q ow l')⟩
            | w q' ow' l' =>
              refine ⟨_, (p2.append_left _).trans ?_, .w q' ow' (.w q ow l')⟩
              exact List.perm_iff_count.mpr fun z => by simp only [List.count_append]; omega
    obtain ⟨a2, p2, t2⟩ := this (Nat.succ.inj e) t1
    exact ⟨a2, p.trans p2, t2⟩
theorem Rl.turn {os : List TO} {vs : List V} (e : vs.length = os.length) (r : Rl c (os.reverseAux ts) (vs.reverseAux tv) es σ H) : Rl c (os ++ ts) (vs ++ tv) es σ H := by
  obtain ⟨as, bs, a⟩ := r
  obtain ⟨as', p, t⟩ := a.tm.turn e
  have pp := p.append_right bs
  have tx : Tx (Mf c (as ++ bs)) (Mf c (as' ++ bs)) H H := ⟨fun x z => .inl (z.imp id fun z => pp.mem_iff.mpr z), Ext.rfl⟩
  exact ⟨as', bs, pp.nodup_iff.mp a.nd, a.sl.tr tx.to fun _ _ _ z => z, t.tx tx, a.keep, a.av, a.fix⟩
end

/-! ### what is wanted of a statement -/
inductive Oc where
  | nx (es : List SE)
  | bk (es : List SE)
  | ct (es : List SE)
  | rt (o : TO) (es : List SE)
def enS (c : Ct) (ts : List TO) (tv : List V) (D : Ends) : Oc → Prop
  | .nx es => ∀ σ H, Rl c ts tv es σ H → D.nx σ H
  | .bk es => ∀ σ H, Rl c ts tv es σ H → D.bk σ H
  | .ct es => ∀ σ H, Rl c ts tv es σ H → D.ct σ H
  | .rt o es => ∀ v σ H, Rl c (o :: ts) (v :: tv) es σ H → D.rt v H
/-- fx: slot 0 keeps its value -/
structure Fx (fx : Bool) (c : Ct) : Prop where
  z : ∀ p ∈ c.fix, p.1 = 0
  n : fx = false → c.fix = []
theorem Fx.ne {fx : Bool} {c : Ct} (h : Fx fx c) {i : Nat} (hi : (!fx || decide (i ≠ 0)) = true) : ∀ p ∈ c.fix, p.1 ≠ i := fun p hp e => by
  cases fx with
  | false => rw [h.n rfl] at hp; cases hp
  | true =>
    have : i ≠ 0 := by simpa using hi
    exact this (e ▸ h.z p hp)
def tS (K : PySem.W.Frag) (fx : Bool) (es : List SE) (oc : Oc) : TS := fun D σ H => ∃ c ts tv, c.K = K ∧ Fx fx c ∧ AllD ts ∧ Rl c ts tv es σ H ∧ enS c ts tv D oc
abbrev DS := List SE → Option Oc
def OkS (X : Cx) (fx : Bool) (st : Stmt) (d : DS) : Prop := ∀ es oc, d es = some oc → PS X st (tS X.K fx es oc)
def OkSs (X : Cx) (fx : Bool) (st : List Stmt) (d : DS) : Prop := ∀ es oc, d es = some oc → PSs X st (tS X.K fx es oc)
/-! readings -/
@[simp] def oNx : DS := fun es => some (.nx es)
@[simp] def oSeq (a b : DS) : DS := fun es => match a es with
  | some (.nx es1) => b es1
  | r => r
@[simp] def oRet (d : DE) : DS := fun es => (d es).bind fun p => if adB p.2 then some (.rt p.2 p.1) else none
@[simp] def oIf (t : DB) (a b : DS) : DS := fun es => (t es).bind fun p => if p.2 then a p.1 else b p.1
@[simp] def oExpr (d : DE) : DS := fun es => (d es).map fun p => .nx p.1
@[simp] def oSet (i : Nat) (d : DE) : DS := fun es => (d es).bind fun p => if i < p.1.length then some (.nx (p.1.set i (seOf p.2))) else none
/-- a name whose own list is then data -/
def kVarF (i : Nat) : DE := fun es => match gt es i with
  | .s b (.d x) => some (es, D x)
  | .s false t => (fz t).map fun x => (es.set i (.s false (.d x)), D x)
  | .s true t => some (es, .b t)
  | .z => none
section
variable {X : Cx} {fx μ : Bool} {st : Stmt} {rest : List Stmt} {e a b : Expr} {de da db : DE} {tc : DB} {d1 d2 : DS} {pos p p' : Pos}
theorem oks_nil : OkSs X fx [] oNx := fun es oc h => by
  cases h
  exact pss_w pss_nil fun D σ H ⟨c, ts, tv, k, f, ad, r, q⟩ => q σ H r
theorem oks_cons (h1 : OkS X fx st d1) (h2 : OkSs X fx rest d2) : OkSs X fx (st :: rest) (oSeq d1 d2) := fun es oc h => by
  unfold oSeq at h
  split at h
  · rename_i es1 he
    refine pss_w (pss_cons (h1 _ _ he) (h2 _ _ h)) fun D σ H ⟨c, ts, tv, k, f, ad, r, q⟩ => ⟨c, ts, tv, k, f, ad, r, fun σ' H' r' => ⟨c, ts, tv, k, f, ad, r', q⟩⟩
  · rename_i hn
    cases oc with
    | nx es' => exact absurd h (hn es')
    | bk es' => exact pss_w (pss_cons (h1 _ _ h) pss_never) fun D σ H ⟨c, ts, tv, k, f, ad, r, q⟩ => ⟨c, ts, tv, k, f, ad, r, q⟩
    | ct es' => exact pss_w (pss_cons (h1 _ _ h) pss_never) fun D σ H ⟨c, ts, tv, k, f, ad, r, q⟩ => ⟨c, ts, tv, k, f, ad, r, q⟩
    | rt o es' => exact pss_w (pss_cons (h1 _ _ h) pss_never) fun D σ H ⟨c, ts, tv, k, f, ad, r, q⟩ => ⟨c, ts, tv, k, f, ad, r, q⟩
theorem oks_one (h1 : OkS X fx st d1) : OkSs X fx [st] d1 := fun es oc h => pss_one (h1 es oc h)
theorem oks_ret (h : Ok X false e de) : OkS X fx (.Return (some e) pos) (oRet de) := fun es oc q => by
  obtain ⟨⟨es1, o⟩, h1, q⟩ := bind_some q
  obtain ⟨h2, q⟩ := if_some q
  cases q
  exact ps_w (ps_ret (h _ _ _ h1).1) fun D σ H ⟨c, ts, tv, k, f, ad, r, q⟩ => ⟨c, ts, tv, k, r, fun _ => ad, fun v H' _ r' => q v σ H' r'⟩
theorem oks_if (hc : OkT X false e tc) (ha : OkSs X fx rest d1) {rest2 : List Stmt} (hb : OkSs X fx rest2 d2) : OkS X fx (.If e rest rest2 pos) (oIf tc d1 d2) := fun es oc q => by
  obtain ⟨⟨es1, z⟩, h1, q⟩ := bind_some q
  cases z with
  | true =>
    refine ps_w (ps_if (hc _ _ _ h1).1 (ha _ _ q) pss_never) fun D σ H ⟨c, ts, tv, k, f, ad, r, q⟩ => ⟨c, ts, tv, k, r, fun _ => ad, fun H' _ r' => ?_⟩
    (try dsimp only); rw [if_pos rfl]
    exact ⟨c, ts, tv, k, f, ad, r', q⟩
  | false =>
    refine ps_w (ps_if (hc _ _ _ h1).1 pss_never (hb _ _ q)) fun D σ H ⟨c, ts, tv, k, f, ad, r, q⟩ => ⟨c, ts, tv, k, r, fun _ => ad, fun H' _ r' => ?_⟩
    (try dsimp only); rw [if_neg Bool.false_ne_true]
    exact ⟨c, ts, tv, k, f, ad, r', q⟩
theorem oks_break : OkS X fx (.Break pos) (fun es => some (.bk es)) := fun es oc q => by
  cases q
  exact ps_w ps_break fun D σ H ⟨c, ts, tv, k, f, ad, r, q⟩ => q σ H r
theorem oks_cont : OkS X fx (.Continue pos) (fun es => some (.ct es)) := fun es oc q => by
  cases q
  exact ps_w ps_continue fun D σ H ⟨c, ts, tv, k, f, ad, r, q⟩ => q σ H r
theorem oks_set {x : Str} (i : Nat) (G : Gd X) (h : Ok X false e de) (hi : X.N[i]? = some x := by rfl) (hx : Loc X.env.scope x := by first | exact .inl rfl | exact .inr rfl) (hfx : (!fx || decide (i ≠ 0)) = true := by rfl)
    (hs : swapsWith e (some (.Name x p)) pos.line X.env = pure false := by rfl) (hf : X.fn x = true ∨ X.env.scope.names.lookup x = some .local := by first | exact .inl rfl | exact .inr rfl | assumption) : OkS X fx (.Assign [.Name x p] e pos) (oSet i de) := fun es oc q => by
  obtain ⟨⟨es1, o⟩, h1, q⟩ := bind_some q
  obtain ⟨h2, q⟩ := if_some q
  cases q
  exact ps_w (ps_set G.nd hi hx (h _ _ _ h1).1 hs hf) fun D σ H ⟨c, ts, tv, k, f, ad, r, q⟩ => ⟨c, ts, tv, k, r, fun _ => ad, fun v H' _ r' => q _ _ (r'.move h2 (f.ne hfx))⟩
theorem oks_expr (h : Ok X false e de) (hs : swapsWith e none pos.line X.env = pure false := by rfl) : OkS X fx (.Expr e pos) (oExpr de) := fun es oc q => by
  obtain ⟨⟨es1, o⟩, h1, q⟩ := map_some q
  cases q
  exact ps_w (ps_expr (h _ _ _ h1).1 hs) fun D σ H ⟨c, ts, tv, k, f, ad, r, q⟩ => ⟨c, ts, tv, k, r, fun _ => ad, fun v H' _ r' => q _ _ r'.pop⟩
theorem oks_doc {x j} : OkS X fx (.Expr (.Constant (.str x) j p) pos) oNx := fun es oc q => by
  cases q
  exact ps_w ps_doc fun D σ H ⟨c, ts, tv, k, f, ad, r, q⟩ => q σ H r
theorem oks_pass : OkS X fx (.Pass pos) oNx := fun es oc q => by
  cases q
  exact ps_w ps_pass fun D σ H ⟨c, ts, tv, k, f, ad, r, q⟩ => q σ H r
theorem ok_vF {x : Str} (i : Nat) (hN : X.N[i]? = some x := by rfl) (hv : Vis X.env.scope x := by first | exact Or.inl rfl | exact Or.inr (Or.inl rfl) | exact Or.inr (Or.inr rfl))
    (hd : (x == ("__debug__" : Str)) = false := by decide) (hcd : (x == ("__classdict__" : Str)) = false := by decide) : Ok X false (.Name x pos) (kVarF i) := fun es es' o h => by
  unfold kVarF at h
  split at h
  · rename_i q; cases h; exact ⟨d_var q hN hv hd hcd, nofun⟩
  · rename_i t _ q
    obtain ⟨x', h1, h⟩ := map_some h
    cases h
    refine ⟨pe_w (pe_var hN hv hd hcd) fun σ H Q ⟨c, ts, tv, k, r, ad, q'⟩ => ?_, nofun⟩
    obtain ⟨v, e, _⟩ := r.var q
    have r2 := r.fzS (ad rfl) q h1
    have g2 : gt (es.set i (.s false (.d x'))) i = .s false (.d x') := gt_set (gt_lt q)
    obtain ⟨v', e', r3⟩ := r2.var g2
    rw [e] at e'
    cases e'
    exact ⟨v, e, q' v H (fun _ => Ext.rfl) r3⟩
  · rename_i q; cases h; exact ⟨d_var q hN hv hd hcd, nofun⟩
  · cases h
end
end Wk

/-! Wk11 -/
set_option Elab.async false
set_option linter.all false
set_option maxRecDepth 100000
set_option maxHeartbeats 4000000
/-! Wk11: several targets, lists that are changed, slices -/
namespace Wk
open PySem PySem.Spec PyProof.Rows L2
/-! ### targets -/
@[simp] def setAll : List SE → List Nat → List TO → List SE
  | es, i :: is, o :: os => setAll (es.set i (seOf o)) is os
  | es, _, _ => es
def setSt : L2.St → List Nat → List V → L2.St
  | σ, i :: is, v :: vs => setSt (σ.set i (some v)) is vs
  | σ, _, _ => σ
def gNs : List Nat → TGs
  | [] => gNil
  | i :: is => gCons (gName i) (gNs is)
theorem gNs_ok {H : Hp} {Q : L2.St → Hp → Prop} : ∀ {is : List Nat} {vs : List V} {σ : L2.St}, vs.length = is.length → Q (setSt σ is vs) H → gNs is vs σ H Q
  | [], [], _, _, q => ⟨rfl, q⟩
  | i :: is, v :: vs, σ, e, q => ⟨v, vs, rfl, gNs_ok (Nat.succ.inj e) q⟩
@[simp] def allIn (n : Nat) (fx : Bool) (is : List Nat) : Bool := is.all fun i => decide (i < n) && (!fx || decide (i ≠ 0))
section
variable {c : Ct} {ts : List TO} {tv : List V} {es : List SE} {σ : L2.St} {H H' : Hp} {fx : Bool}
theorem Rl.setAll (f : Fx fx c) : ∀ {is : List Nat} {os : List TO} {vs : List V} {es : List SE} {σ : L2.St}, os.length = is.length → vs.length = is.length → allIn es.length fx is = true → Rl c (os ++ ts) (vs ++ tv) es σ H → Rl c ts tv (Wk.setAll es is os) (setSt σ is vs) H
  | [], [], [], _, _, _, _, _, r => r
  | i :: is, o :: os, v :: vs, es, σ, e1, e2, h, r => by
    unfold allIn at h
    rw [List.all_cons] at h
    simp only [Bool.and_eq_true] at h
    have r' : Rl c (o :: (os ++ ts)) (v :: (vs ++ tv)) es σ H := r
    have r2 := r'.move (i := i) (by simpa using h.1.1) (f.ne h.1.2)
    refine Rl.setAll f (is := is) (os := os) (vs := vs) (Nat.succ.inj e1) (Nat.succ.inj e2) ?_ r2
    rw [List.length_set]
    exact h.2
end
/-- what a loop's target is -/
inductive Tg where
  | n (i : Nat)
  | t (is : List Nat)
def gOf (K : PySem.W.Frag) : Tg → TG
  | .n i => gName i
  | .t is => gTup K is.length (gNs is)
@[simp] def tgS (fx : Bool) : Tg → PyData → List SE → Option (List SE)
  | .n i, d, es => if allIn es.length fx [i] = true then some (es.set i (.s false (.d d))) else none
  | .t is, .tuple ds, es => if ds.length = is.length ∧ allIn es.length fx is = true then some (setAll es is (ds.map D)) else none
  | _, _, _ => none
def stT (H : Hp) : Tg → V → L2.St → L2.St
  | .n i, v, σ => σ.set i (some v)
  | .t is, _, σ => σ
section
variable {c : Ct} {ts : List TO} {tv : List V} {es es' : List SE} {σ : L2.St} {H H' : Hp} {fx : Bool}
theorem Tm.pushL {M : Addr → Prop} {as : List Addr} : ∀ {vs : List V} {ds : List PyData}, RpL c.K M H vs ds → Tm c M H tv ts as → Tm c M H (vs ++ tv) (ds.map D ++ ts) as
  | _, _, .nil, t => t
  | _, _, .cons q l, t => .b (.d q) (Tm.pushL l t)
/-- the store of a loop's item -/
theorem tg_ok {K : PySem.W.Frag} {T : Tg} {d : PyData} {x : V} {Q : L2.St → Hp → Prop} (hK : c.K = K) (f : Fx fx c) (r : Rl c (D d :: ts) (x :: tv) es σ H) (h : tgS fx T d es = some es')
    (q : ∀ σ' is vs, σ' = setSt σ is vs → (∀ i ∈ is, ∃ n, T = .n n ∧ i = n ∨ ∃ l, T = .t l ∧ i ∈ l) → Rl c ts tv es' σ' H → Q σ' H) : gOf K T x σ H Q := by
  cases T with
  | n i =>
    obtain ⟨h1, h⟩ := if_some h
    cases h
    unfold allIn at h1
    simp only [List.all_cons, List.all_nil, Bool.and_true, Bool.and_eq_true] at h1
    exact q _ [i] [x] rfl (fun j hj => ⟨i, .inl ⟨rfl, by simpa using hj⟩⟩) (r.move (i := i) (by simpa using h1.1) (f.ne h1.2))
  | t is =>
    unfold tgS at h
    split at h
    · cases ‹Tg.t is = Tg.n _›
    · rename_i is' ds e
      cases e
      obtain ⟨h1, h⟩ := if_some h
      cases h
      obtain ⟨a, vs, rfl, hr, hl, rp⟩ := r.tup
      have r2 : Rl c (ds.map D ++ ts) (vs ++ tv) _ σ H := r.mapT fun M as t => by
        have l := rp M as t
        cases t with
        | b _ t' => exact ⟨as, List.Sublist.refl _, Tm.pushL l t'⟩
      refine ⟨a, vs, rfl, .inl hr, hl.trans h1.1, gNs_ok (hl.trans h1.1) (q _ is vs rfl (fun j hj => ⟨0, .inr ⟨is, rfl, hj⟩⟩) ?_)⟩
      exact Rl.setAll f (by rw [List.length_map]; exact h1.1) (hl.trans h1.1) h1.2 r2
    · cases h
end

/-! ### statements with several targets -/
@[simp] def oPar (fx : Bool) (is : List Nat) (d : DLO) : DS := fun es => (d es).bind fun p => if p.2.length = is.length ∧ allIn p.1.length fx is = true then some (.nx (setAll p.1 is p.2)) else none
/-- a tuple's items -/
@[simp] def oUnp (fx : Bool) (is : List Nat) (d : DE) : DS := fun es => (d es).bind fun p => match p.2 with
  | .b (.d (.tuple ds)) => if ds.length = is.length ∧ allIn p.1.length fx is = true then some (.nx (setAll p.1 is (ds.map D))) else none
  | _ => none
section
variable {X : Cx} {fx μ : Bool} {st : Stmt} {rest : List Stmt} {e a b c0 : Expr} {l lt : List Expr} {de da db : DE} {dl : DLO} {pos p p' px py pz pt : Pos}
theorem okg_0 : PGs X [] (gNs []) := pgs_nil
theorem okg_1 {x : Str} {is : List Nat} (i : Nat) (G : Gd X) (hr : PGs X l (gNs is)) (hi : X.N[i]? = some x := by rfl) (hx : Loc X.env.scope x := by first | exact .inl rfl | exact .inr rfl) (hf : X.fn x = true ∨ X.env.scope.names.lookup x = some .local := by first | exact .inl rfl | exact .inr rfl | assumption)
    (hs : (assignEach (.Name x p :: l) X.env).map (·.2) = assign (.Name x p) X.env :: (assignEach l X.env).map (·.2) := by rfl) : PGs X (.Name x p :: l) (gNs (i :: is)) := pgs_cons (pg_name G.nd hi hx hf) hr hs
theorem okg_n {x : Str} (i : Nat) (G : Gd X) (hi : X.N[i]? = some x := by rfl) (hx : Loc X.env.scope x := by first | exact .inl rfl | exact .inr rfl) (hf : X.fn x = true ∨ X.env.scope.names.lookup x = some .local := by first | exact .inl rfl | exact .inr rfl | assumption) : PG X (.Name x p) (gOf X.K (.n i)) := pg_name G.nd hi hx hf
theorem okg_t {is : List Nat} {k : Nat} (G : Gd X) (h : PGs X l (gNs is)) (hn : (assignEach l X.env).length = is.length := by rfl) (hst : (assignEach l X.env).findIdx? (·.1) = none := by rfl) : PG X (.Tuple l k pos) (gOf X.K (.t is)) := pg_tup G.calm h hn hst
theorem parG {is : List Nat} {t : TA} (h : OkLO X false l dl) {es : List SE} {oc : Oc} (q : oPar fx is dl es = some oc) : ∃ es1 os, dl es = some (es1, os) ∧ oc = .nx (setAll es1 is os) ∧ os.length = is.length ∧ allIn es1.length fx is = true := by
  obtain ⟨⟨es1, os⟩, h1, q⟩ := bind_some q
  obtain ⟨h2, q⟩ := if_some q
  cases q
  exact ⟨es1, os, h1, rfl, h2.1, h2.2⟩
theorem oks_par2 {x y : Str} {kt k2 : Nat} {pt2 : Pos} (i j : Nat) (G : Gd X) (h : OkLO X false [a, b] dl) (hij : i ≠ j := by decide) (hi : X.N[i]? = some x := by rfl) (hj : X.N[j]? = some y := by rfl)
    (hx : X.env.scope.names.lookup x = some .local := by rfl) (hy : X.env.scope.names.lookup y = some .local := by rfl)
    (hw : swappedStores [.Tuple [.Name x px, .Name y py] kt pt] (.Tuple [a, b] k2 pt2) X.env = pure (some [x, y]) := by rfl)
    (hs : swapsWithSole [.Tuple [.Name x px, .Name y py] kt pt] (.Tuple [a, b] k2 pt2) pos.line X.env = pure false := by rfl) :
    OkS X fx (.Assign [.Tuple [.Name x px, .Name y py] kt pt] (.Tuple [a, b] k2 pt2) pos) (oPar fx [i, j] dl) := fun es oc q => by
  obtain ⟨es1, os, h1, rfl, h2, h3⟩ := parG (t := fun _ _ _ => False) h q
  obtain ⟨a1, a2, a3⟩ := h _ _ _ h1
  refine ps_w (ps_par G.calm G.nd hi hj hij hx hy a1 hw hs) fun D σ H ⟨c, ts, tv, k, f, ad, r, q⟩ => ⟨c, ts, tv, k, r, fun _ => ad, fun vs H1 hl _ r1 => ?_⟩
  have r2 := Rl.setAll f h2 (hl.trans h2) h3 (r1.turn hl)
  match vs, hl.trans h2 with
  | [v, w], _ => exact ⟨v, w, rfl, q _ _ r2⟩
theorem oks_par3 {x y z : Str} {kt k2 : Nat} {pt2 : Pos} (i j n : Nat) (G : Gd X) (h : OkLO X false [a, b, c0] dl) (hij : i ≠ j := by decide) (hil : i ≠ n := by decide) (hjl : j ≠ n := by decide) (hi : X.N[i]? = some x := by rfl) (hj : X.N[j]? = some y := by rfl) (hn : X.N[n]? = some z := by rfl)
    (hx : X.env.scope.names.lookup x = some .local := by rfl) (hy : X.env.scope.names.lookup y = some .local := by rfl) (hz : X.env.scope.names.lookup z = some .local := by rfl)
    (hw : swappedStores [.Tuple [.Name x px, .Name y py, .Name z pz] kt pt] (.Tuple [a, b, c0] k2 pt2) X.env = pure (some [x, y, z]) := by rfl)
    (hs : swapsWithSole [.Tuple [.Name x px, .Name y py, .Name z pz] kt pt] (.Tuple [a, b, c0] k2 pt2) pos.line X.env = pure false := by rfl) :
    OkS X fx (.Assign [.Tuple [.Name x px, .Name y py, .Name z pz] kt pt] (.Tuple [a, b, c0] k2 pt2) pos) (oPar fx [i, j, n] dl) := fun es oc q => by
  obtain ⟨es1, os, h1, rfl, h2, h3⟩ := parG (t := fun _ _ _ => False) h q
  obtain ⟨a1, a2, a3⟩ := h _ _ _ h1
  refine ps_w (ps_par3 G.calm G.nd hi hj hn hij hil hjl hx hy hz a1 hw hs) fun D σ H ⟨c, ts, tv, k, f, ad, r, q⟩ => ⟨c, ts, tv, k, r, fun _ => ad, fun vs H1 hl _ r1 => ?_⟩
  have r2 := Rl.setAll f h2 (hl.trans h2) h3 (r1.turn hl)
  match vs, hl.trans h2 with
  | [u, v, w], _ => exact ⟨u, v, w, rfl, q _ _ r2⟩
/-- a tuple display, stored item by item -/
theorem oks_parN {kt k2 : Nat} {pt2 : Pos} {is : List Nat} (G : Gd X) (h : OkLO X false l dl) (hg : PG X (.Tuple lt kt pt) (gOf X.K (.t is))) (hz : is.length ≤ sizeLine := by decide)
    (hs : swapsWithSole [.Tuple lt kt pt] (.Tuple l k2 pt2) pos.line X.env = pure false := by rfl) (hw : swappedStores [.Tuple lt kt pt] (.Tuple l k2 pt2) X.env = pure none := by rfl)
    (h1 : (assignEach [.Tuple lt kt pt] X.env).map (·.2) = [assign (.Tuple lt kt pt) X.env] := by rfl) : OkS X fx (.Assign [.Tuple lt kt pt] (.Tuple l k2 pt2) pos) (oPar fx is dl) := fun es oc q => by
  obtain ⟨es1, os, h1', rfl, h2, h3⟩ := parG (t := fun _ _ _ => False) h q
  obtain ⟨a1, a2, a3⟩ := h _ _ _ h1'
  refine ps_w (ps_asg (pe_tup a1) hg hs hw h1) fun D σ H ⟨c, ts, tv, k, f, ad, r, q⟩ => ⟨c, ts, tv, k, r, fun _ => ad, fun vs H1 hl _ r1 => ⟨by rw [hl, h2]; exact hz, fun p hp => ?_⟩⟩
  have r2 := Rl.setAll f h2 (hl.trans h2) h3 ((r1.turn hl).ext (Ext.nw (o := .tup vs) hp))
  exact ⟨p, vs, rfl, .inl (.inl upd_same), hl.trans h2, gNs_ok (hl.trans h2) (q _ _ r2)⟩
theorem oks_unp {kt : Nat} {is : List Nat} (G : Gd X) (h : Ok X false e de) (hg : PG X (.Tuple lt kt pt) (gOf X.K (.t is)))
    (hs : swapsWithSole [.Tuple lt kt pt] e pos.line X.env = pure false := by rfl) (hw : swappedStores [.Tuple lt kt pt] e X.env = pure none := by rfl)
    (h1 : (assignEach [.Tuple lt kt pt] X.env).map (·.2) = [assign (.Tuple lt kt pt) X.env] := by rfl) : OkS X fx (.Assign [.Tuple lt kt pt] e pos) (oUnp fx is de) := fun es oc q => by
  obtain ⟨⟨es1, o⟩, h1', q⟩ := bind_some q
  dsimp only at q
  split at q
  · rename_i ds
    obtain ⟨h2, q⟩ := if_some q
    cases q
    refine ps_w (ps_asg (h _ _ _ h1').1 hg hs hw h1) fun D σ H ⟨c, ts, tv, k, f, ad, r, q⟩ => ⟨c, ts, tv, k, r, fun _ => ad, fun v H1 _ r1 => ?_⟩
    have h3 : tgS fx (.t is) (.tuple ds) es1 = some (setAll es1 is (ds.map Wk.D)) := if_pos h2
    exact tg_ok k f r1 h3 fun σ' _ _ _ _ r2 => q _ _ r2
  · cases q
end

/-! ### lists that are changed -/
/-- x[k] = e -/
@[simp] def oSetI (i : Nat) (dk : DE) (d : DE) : DS := fun es => (d es).bind fun p => (frz p.2).bind fun x => match gt p.1 i with
  | .s b (.l xs) => (dk p.1).bind fun q => match q.2 with
    | .b (.d (.int k)) => (ixN xs.length k).bind fun j => match xs[j]? with
      | some (.d _) => some (.nx (p.1.set i (.s b (.l (xs.set j (.d x))))))
      | _ => none
    | _ => none
  | _ => none
@[simp] def oApp (i : Nat) (d : DE) : DS := fun es => match gt es i with
  | .s _ (.l _) => (d es).bind fun p => (frz p.2).bind fun x => match gt p.1 i with
    | .s b (.l xs) => if xs.length < sizeLine then some (.nx (p.1.set i (.s b (.l (xs ++ [.d x]))))) else none
    | _ => none
  | _ => none
@[simp] def oExt (i : Nat) (d : DE) : DS := fun es => match gt es i with
  | .s _ (.l _) => (d es).bind fun p => (lvO p.2).bind fun a => if adB p.2 then match gt p.1 i with
    | .s b (.l xs) => if xs.length + a.length ≤ sizeLine then some (.nx (p.1.set i (.s b (.l (xs ++ a.map .d))))) else none
    | _ => none
    else none
  | _ => none
/-- x.pop(), x.pop(k) -/
@[simp] def kPop (i : Nat) : DE := fun es => match gt es i with
  | .s b (.l xs) => match xs[xs.length - 1]? with
    | some (.d x) => some (es.set i (.s b (.l xs.dropLast)), D x)
    | _ => none
  | _ => none
@[simp] def kPopAt (i : Nat) (d : DE) : DE := fun es => match gt es i with
  | .s _ (.l _) => (d es).bind fun p => match p.2 with
    | .b (.d (.int k)) => match gt p.1 i with
      | .s b (.l xs) => if xs.length ≤ sizeLine then (ixN xs.length k).bind fun j => match xs[j]? with
        | some (.d x) => some (p.1.set i (.s b (.l (xs.eraseIdx j))), D x)
        | _ => none
        else none
      | _ => none
    | _ => none
  | _ => none
/-- x[k].pop() -/
@[simp] def kPop1 (i : Nat) (k : Int) : DE := fun es => match gt es i with
  | .s b (.l xs) => (ixN xs.length k).bind fun j => match xs[j]? with
    | some (.l ys) => match ys[ys.length - 1]? with
      | some (.d x) => some (es.set i (.s b (.l (xs.set j (.l ys.dropLast)))), D x)
      | _ => none
    | _ => none
  | _ => none
/-- x[k].append(e) -/
def oApp1 (i : Nat) (dk d : DE) : DS := fun es => match gt es i with
  | .s _ (.l _) => (dk es).bind fun q => match q.2 with
    | .b (.d (.int k)) => (d q.1).bind fun p => (frz p.2).bind fun x => match gt p.1 i with
      | .s b (.l xs) => (ixN xs.length k).bind fun j => match xs[j]? with
        | some (.l ys) => if ys.length < sizeLine then some (.nx (p.1.set i (.s b (.l (xs.set j (.l (ys ++ [.d x]))))))) else none
        | _ => none
      | _ => none
    | _ => none
  | _ => none
section
variable {X : Cx} {fx μ : Bool} {st : Stmt} {rest : List Stmt} {e a b c0 ei : Expr} {l lt : List Expr} {de da db dk : DE} {dl : DLO} {pos p p' px py pz pt apos cpos : Pos} {x : Str}
theorem TkL.nth {K : PySem.W.Frag} {M : Addr → Prop} {H : Hp} : ∀ {vs : List V} {xs : List OT} {as : List Addr} {j : Nat} {y : PyData}, TkL K M H vs xs as → xs[j]? = some (.d y) → ∃ v, vs[j]? = some v ∧ Rp K M H v y
  | _, _, _, _, _, .nil, e => by simp at e
  | _, _, _, 0, y, .cons a l, e => by
    have e' : _ = OT.d y := Option.some.inj (by simpa using e)
    subst e'
    cases a with
    | d q => exact ⟨_, rfl, q⟩
  | _, _, _, j + 1, y, .cons a l, e => by
    obtain ⟨v, h1, h2⟩ := TkL.nth (j := j) l (by simpa using e)
    exact ⟨v, by simpa using h1, h2⟩
theorem TkL.eraseIdx {K : PySem.W.Frag} {M : Addr → Prop} {H : Hp} : ∀ {vs : List V} {xs : List OT} {as : List Addr} {j : Nat} {y : PyData}, TkL K M H vs xs as → xs[j]? = some (.d y) → TkL K M H (vs.eraseIdx j) (xs.eraseIdx j) as
  | _, _, _, _, _, .nil, e => by simp at e
  | _, _, _, 0, y, .cons a l, e => by
    have e' : _ = OT.d y := Option.some.inj (by simpa using e)
    subst e'
    cases a with
    | d q => exact l
  | _, _, _, j + 1, y, .cons a l, e => .cons a (TkL.eraseIdx (j := j) l (by simpa using e))
theorem TkL.app {K : PySem.W.Frag} {M : Addr → Prop} {H : Hp} : ∀ {vs : List V} {xs : List OT} {as : List Addr} {ws : List V} {ys : List PyData}, TkL K M H vs xs as → RpL K M H ws ys → TkL K M H (vs ++ ws) (xs ++ ys.map .d) as
  | _, _, _, _, _, .nil, l => l.tk
  | _, _, _, _, _, .cons a r, l => by
    show TkL _ _ _ (_ :: (_ ++ _)) (_ :: (_ ++ _)) _
    exact .cons a (TkL.app r l)
/-- the list at slot i is at the address that the name shows -/
theorem Rl.lsI {c : Ct} {ts : List TO} {tv : List V} {es : List SE} {σ : L2.St} {H : Hp} {i : Nat} {b : Bool} {xs : List OT} (r : Rl c ts tv es σ H) (ha : AllD ts) (h : gt es i = .s b (.l xs)) : ∃ p vs, σ[i]? = some (some (.ref p)) ∧ H p = some (.lst vs) ∧ vs.length = xs.length := by
  obtain ⟨p, vs, h1, h2, ⟨M, bv⟩, _⟩ := r.mut ha h
  exact ⟨p, vs, h1, h2, bv.len⟩
theorem frz_rl {c : Ct} {ts : List TO} {tv : List V} {es : List SE} {σ : L2.St} {H : Hp} {o : TO} {v : V} {x : PyData} (r : Rl c (o :: ts) (v :: tv) es σ H) (f : frz o = some x) : Rl c (D x :: ts) (v :: tv) es σ H := by
  cases o with
  | b t =>
    cases t with
    | d y => cases f; exact r
    | l _ => cases f
    | k _ => cases f
    | t _ => cases f
    | f _ => cases f
  | w t => exact r.freeze f
theorem oks_app (i : Nat) (h : Ok X false e de) (hi : X.N[i]? = some x := by rfl) (hv : Vis X.env.scope x := by first | exact Or.inl rfl | exact Or.inr (Or.inl rfl) | exact Or.inr (Or.inr rfl))
    (hd : (x == ("__debug__" : Str)) = false := by decide) (hcd : (x == ("__classdict__" : Str)) = false := by decide) (n : Ns e := by exact fun _ _ => rfl)
    (hbase : attributeBase (.Name x p) "append" X.env (eval (.Name x p) X.env) = eval (.Name x p) X.env := by rfl)
    (hfew : ((backTo cpos (starEach [e] X.env)).all (fun x => !x.1) && (backToKw cpos (keywordEach [] X.env)).all (fun x => x.1.isSome)
      && decide (([e] : List Expr).length + ([] : List Keyword).length + (if ([] : List Keyword).isEmpty then 0 else 1) < 30)) = true := by rfl)
    (hline : (apos.endLine == cpos.line) = true := by rfl) (hs : swapsWith (.Call (.Attribute (.Name x p) "append" apos) [e] [] cpos) none pos.line X.env = pure false := by rfl) : OkS X fx (.Expr (.Call (.Attribute (.Name x p) "append" apos) [e] [] cpos) pos) (oApp i de) := fun es oc q => by
  unfold oApp at q
  split at q
  · rename_i b0 xs0 h0
    obtain ⟨⟨es1, o⟩, h1, q⟩ := bind_some q
    obtain ⟨y, h2, q⟩ := bind_some q
    dsimp only at q
    split at q
    · rename_i b1 xs h3
      obtain ⟨h4, q⟩ := if_some q
      cases q
      refine ps_w (ps_expr (pe_bm PySem.F.plainAttrs_list PySem.F.slot_list_append PySem.F.type_list_append mt_append (pe_var hi hv hd hcd) (pa_cons (h _ _ _ h1).1 pa_nil (n _ _)) hbase hfew hline (n _ _) rfl) hs)
        fun D σ H ⟨c, ts, tv, k, f, ad, r, q⟩ => ?_
      obtain ⟨p0, vs0, e0, hp0, _⟩ := r.lsI ad h0
      refine ⟨_, e0, .inl ⟨rfl, vs0, .inl (.inl hp0)⟩, c, ts, tv, k, r, fun _ => ad, fun v H1 _ r1 => ?_⟩
      have r2 := frz_rl r1 h2
      obtain ⟨p1, vs1, e1, hp1, ⟨M, bv⟩, g⟩ := Rl.mut r2 (show AllD (Wk.D y :: ts) from ad) h3
      rw [e0] at e1
      cases e1
      refine (show rAppend (.ref p0) [v] H1 (fun _ H2 => D.nx σ H2) from ⟨p0, vs1, v, rfl, rfl, hp1, by rw [bv.len]; exact h4, q _ _ (g _ _ ts tv fun M' H' as bs t l => ?_)⟩)
      cases t with
      | b q' t' =>
        cases q' with
        | d q' => exact ⟨TkL.snocd q' l, t'⟩
    · cases q
  · cases q

theorem Tm.popL {c : Ct} {tv : List V} {ts : List TO} {H : Hp} {M : Addr → Prop} {as : List Addr} : ∀ {ds : List PyData} {vs : List V}, vs.length = ds.length → Tm c M H (vs ++ tv) (ds.map D ++ ts) as → RpL c.K M H vs ds ∧ Tm c M H tv ts as
  | [], [], _, t => ⟨.nil, t⟩
  | d :: ds, v :: vs, e, t => by
    have t' : Tm c M H (v :: (vs ++ tv)) (D d :: (ds.map D ++ ts)) as := t
    cases t' with
    | b q l =>
      obtain ⟨a, b⟩ := Tm.popL (ds := ds) (vs := vs) (Nat.succ.inj e) l
      exact ⟨.cons q.rp a, b⟩
theorem AllD.data : ∀ {ds : List PyData} {ts : List TO}, AllD ts → AllD (ds.map D ++ ts)
  | [], _, h => h
  | _ :: ds, _, h => AllD.data (ds := ds) h
theorem oks_ext (i : Nat) (h : Ok X false e de) (hi : X.N[i]? = some x := by rfl) (hv : Vis X.env.scope x := by first | exact Or.inl rfl | exact Or.inr (Or.inl rfl) | exact Or.inr (Or.inr rfl))
    (hd : (x == ("__debug__" : Str)) = false := by decide) (hcd : (x == ("__classdict__" : Str)) = false := by decide) (n : Ns e := by exact fun _ _ => rfl)
    (hbase : attributeBase (.Name x p) "extend" X.env (eval (.Name x p) X.env) = eval (.Name x p) X.env := by rfl)
    (hfew : ((backTo cpos (starEach [e] X.env)).all (fun x => !x.1) && (backToKw cpos (keywordEach [] X.env)).all (fun x => x.1.isSome)
      && decide (([e] : List Expr).length + ([] : List Keyword).length + (if ([] : List Keyword).isEmpty then 0 else 1) < 30)) = true := by rfl)
    (hline : (apos.endLine == cpos.line) = true := by rfl) (hs : swapsWith (.Call (.Attribute (.Name x p) "extend" apos) [e] [] cpos) none pos.line X.env = pure false := by rfl) : OkS X fx (.Expr (.Call (.Attribute (.Name x p) "extend" apos) [e] [] cpos) pos) (oExt i de) := fun es oc q => by
  unfold oExt at q
  split at q
  · rename_i b0 xs0 h0
    obtain ⟨⟨es1, o⟩, h1, q⟩ := bind_some q
    obtain ⟨y, h2, q⟩ := bind_some q
    obtain ⟨ao, q⟩ := if_some q
    dsimp only at q
    split at q
    · rename_i b1 xs h3
      obtain ⟨h4, q⟩ := if_some q
      cases q
      refine ps_w (ps_expr (pe_bm PySem.F.plainAttrs_list PySem.F.slot_list_extend PySem.F.type_list_extend mt_extend (pe_var hi hv hd hcd) (pa_cons (h _ _ _ h1).1 pa_nil (n _ _)) hbase hfew hline (n _ _) rfl) hs)
        fun D σ H ⟨c, ts, tv, k, f, ad, r, q⟩ => ?_
      obtain ⟨p0, vs0, e0, hp0, _⟩ := r.lsI ad h0
      refine ⟨_, e0, .inl ⟨rfl, vs0, .inl (.inl hp0)⟩, c, ts, tv, k, r, fun _ => ad, fun v H1 _ r1 => ?_⟩
      obtain ⟨a, zs, rfl, ha, hl, rp⟩ := r1.lv (lvO_ok h2)
      have r2 : Rl c (y.map Wk.D ++ ts) (zs ++ tv) es1 σ H1 := r1.mapT fun M as t => by
        have l := rp M as t
        obtain ⟨as', s, t'⟩ := t.tl
        exact ⟨as', s, Tm.pushL l t'⟩
      obtain ⟨p1, vs1, e1, hp1, ⟨M, bv⟩, g⟩ := Rl.mut r2 ad.data h3
      rw [e0] at e1
      cases e1
      refine (show rExtend (.ref p0) [.ref a] H1 (fun _ H2 => D.nx σ H2) from ⟨p0, a, vs1, zs, rfl, rfl, hp1, ha, by rw [bv.len, hl]; exact h4, q _ _ (g _ _ ts tv fun M' H' as bs t l => ?_)⟩)
      obtain ⟨t1, t2⟩ := t.popL hl
      exact ⟨TkL.app l t1, t2⟩
    · cases q
  · cases q

theorem seqIx_ok {n : Nat} {k : Int} {j : Nat} (h : ixN n k = some j) (hn : n ≤ sizeLine) : seqIndex? k n = some j ∧ -(2 ^ 63) ≤ k ∧ k < 2 ^ 63 := by
  obtain ⟨h1, h2, h3, h4⟩ := ixN_seq h
  have : (sizeLine : Int) < 2 ^ 63 := by decide
  exact ⟨h1, by omega, by omega⟩
theorem last_some {n : Nat} {xs : List OT} {y : PyData} (h : xs[xs.length - 1]? = some (.d y)) : xs.dropLast = xs.eraseIdx (xs.length - 1) := by
  rw [List.dropLast_eq_take, List.eraseIdx_eq_take_drop_succ]
  have : xs.length - 1 < xs.length := by
    rw [List.getElem?_eq_some_iff] at h
    exact h.1
  rw [show xs.length - 1 + 1 = xs.length from by omega, List.drop_length, List.append_nil]
theorem lastV {vs : List V} (h : 0 < vs.length) : vs.dropLast = vs.eraseIdx (vs.length - 1) := by
  rw [List.dropLast_eq_take, List.eraseIdx_eq_take_drop_succ]
  rw [show vs.length - 1 + 1 = vs.length from by omega, List.drop_length, List.append_nil]
/-- a datum of the list at slot i -/
theorem Rl.item {c : Ct} {ts : List TO} {tv : List V} {es : List SE} {σ : L2.St} {H : Hp} {i j : Nat} {b : Bool} {xs : List OT} {y : PyData} (r : Rl c ts tv es σ H) (h : gt es i = .s b (.l xs)) (hj : xs[j]? = some (.d y)) :
    ∃ p vs v, σ[i]? = some (some (.ref p)) ∧ H p = some (.lst vs) ∧ vs.length = xs.length ∧ vs[j]? = some v ∧ Rl c (D y :: ts) (v :: tv) es σ H := by
  obtain ⟨as, bs, a⟩ := r
  obtain ⟨s1, ai, s2, x, e1, e2, q, f⟩ := a.sl.split (gt_lt h)
  rw [h] at q
  obtain ⟨v, ex, k, w⟩ := q
  subst ex
  cases k with
  | l hp l =>
    obtain ⟨v', hv', q⟩ := l.nth hj
    exact ⟨_, _, v', e2, hp, l.len, hv', as, bs, a.nd, a.sl, .b (.d q) a.tm, a.keep, a.av, a.fix⟩
theorem Rl.item1 {c : Ct} {ts : List TO} {tv : List V} {es : List SE} {σ : L2.St} {H : Hp} {i j n : Nat} {b : Bool} {xs ys : List OT} {y : PyData} (r : Rl c ts tv es σ H) (h : gt es i = .s b (.l xs)) (hj : xs[j]? = some (.l ys)) (hn : ys[n]? = some (.d y)) :
    ∃ p vs q ws v, σ[i]? = some (some (.ref p)) ∧ H p = some (.lst vs) ∧ vs[j]? = some (.ref q) ∧ H q = some (.lst ws) ∧ ws.length = ys.length ∧ ws[n]? = some v ∧ Rl c (D y :: ts) (v :: tv) es σ H := by
  obtain ⟨as, bs, a⟩ := r
  obtain ⟨s1, ai, s2, x, e1, e2, q, f⟩ := a.sl.split (gt_lt h)
  rw [h] at q
  obtain ⟨v, ex, k, w⟩ := q
  subst ex
  cases k with
  | l hp l =>
    obtain ⟨q, ws, c1, aq, c2, e3, ej, hq, lq, g⟩ := TkL.sub l hj
    obtain ⟨v', hv', qq⟩ := lq.nth hn
    exact ⟨_, _, q, ws, v', e2, hp, ej, hq, lq.len, hv', as, bs, a.nd, a.sl, .b (.d qq) a.tm, a.keep, a.av, a.fix⟩
theorem ok_pop (i : Nat) (hi : X.N[i]? = some x := by rfl) (hv : Vis X.env.scope x := by first | exact Or.inl rfl | exact Or.inr (Or.inl rfl) | exact Or.inr (Or.inr rfl))
    (hd : (x == ("__debug__" : Str)) = false := by decide) (hcd : (x == ("__classdict__" : Str)) = false := by decide)
    (hbase : attributeBase (.Name x p) "pop" X.env (eval (.Name x p) X.env) = eval (.Name x p) X.env := by rfl) (hline : (apos.endLine == cpos.line) = true := by rfl) : Ok X false (.Call (.Attribute (.Name x p) "pop" apos) [] [] cpos) (kPop i) := fun es es' o q => by
  unfold kPop at q
  split at q
  · rename_i b xs h0
    split at q
    · rename_i y hy
      cases q
      refine ⟨pe_w (pe_bm0 PySem.F.plainAttrs_list PySem.F.slot_list_pop PySem.F.type_list_pop mt_pop (pe_var hi hv hd hcd) hbase hline) fun σ H Q ⟨c, ts, tv, k, r, ad, q⟩ => ?_, nofun⟩
      obtain ⟨p0, vs0, v, e0, hp0, hl, hv', r2⟩ := r.item h0 hy
      refine ⟨_, e0, .inl ⟨rfl, vs0, .inl (.inl hp0)⟩, ?_⟩
      obtain ⟨p1, vs1, e1, hp1, _, g⟩ := Rl.mut r2 (show AllD (Wk.D y :: ts) from ad rfl) h0
      rw [e0] at e1
      cases e1
      rw [hp0] at hp1
      cases hp1
      have hlt : 0 < vs0.length := by
        rw [List.getElem?_eq_some_iff] at hy
        obtain ⟨h, _⟩ := hy
        omega
      exact (show rPop (.ref p0) [] H Q from ⟨p0, vs0, v, rfl, rfl, hp0, by rw [hl]; exact hv', q v _ nofun (g _ _ _ _ fun M' H' as bs t l => by
        rw [last_some (n := 0) hy, lastV hlt, hl]
        exact ⟨TkL.eraseIdx l hy, t⟩)⟩)
    · cases q
  · cases q
theorem ok_popAt (i : Nat) (h : Ok X false e de) (hi : X.N[i]? = some x := by rfl) (hv : Vis X.env.scope x := by first | exact Or.inl rfl | exact Or.inr (Or.inl rfl) | exact Or.inr (Or.inr rfl))
    (hd : (x == ("__debug__" : Str)) = false := by decide) (hcd : (x == ("__classdict__" : Str)) = false := by decide) (n : Ns e := by exact fun _ _ => rfl)
    (hbase : attributeBase (.Name x p) "pop" X.env (eval (.Name x p) X.env) = eval (.Name x p) X.env := by rfl)
    (hfew : ((backTo cpos (starEach [e] X.env)).all (fun x => !x.1) && (backToKw cpos (keywordEach [] X.env)).all (fun x => x.1.isSome)
      && decide (([e] : List Expr).length + ([] : List Keyword).length + (if ([] : List Keyword).isEmpty then 0 else 1) < 30)) = true := by rfl)
    (hline : (apos.endLine == cpos.line) = true := by rfl) : Ok X false (.Call (.Attribute (.Name x p) "pop" apos) [e] [] cpos) (kPopAt i de) := fun es es' o q => by
  unfold kPopAt at q
  split at q
  · rename_i b0 xs0 h0
    obtain ⟨⟨es1, o1⟩, h1, q⟩ := bind_some q
    dsimp only at q
    split at q
    · rename_i k
      split at q
      · rename_i b1 xs h3
        obtain ⟨hz, q⟩ := if_some q
        obtain ⟨j, hj, q⟩ := bind_some q
        split at q
        · rename_i y hy
          cases q
          refine ⟨pe_w (pe_bm PySem.F.plainAttrs_list PySem.F.slot_list_pop PySem.F.type_list_pop mt_popAt (pe_var hi hv hd hcd) (pa_cons (h _ _ _ h1).1 pa_nil (n _ _)) hbase hfew hline (n _ _) rfl) fun σ H Q ⟨c, ts, tv, k', r, ad, q⟩ => ?_, nofun⟩
          obtain ⟨p0, vs0, e0, hp0, hl0⟩ := r.lsI (ad rfl) h0
          refine ⟨_, e0, .inl ⟨rfl, vs0, .inl (.inl hp0)⟩, c, ts, tv, k', r, ad, fun v H1 _ r1 => ?_⟩
          have hv1 := r1.vint
          subst hv1
          have r1' := r1.pop
          obtain ⟨p1, vs1, v, e1, hp1, hl, hv', r2⟩ := r1'.item h3 hy
          obtain ⟨p2, vs2, e2, hp2, _, g⟩ := Rl.mut r2 (show AllD (Wk.D y :: ts) from ad rfl) h3
          rw [e0] at e1 e2
          cases e1
          cases e2
          rw [hp1] at hp2
          cases hp2
          obtain ⟨s1, s2, s3⟩ := seqIx_ok hj hz
          exact (show rPopAt (.ref p0) [.int k] H1 Q from ⟨p0, vs1, k, j, v, rfl, rfl, hp1, s2, s3, by rw [hl]; exact s1, hv', q v _ nofun (g _ _ _ _ fun M' H' as bs t l => ⟨TkL.eraseIdx l hy, t⟩)⟩)
        · cases q
      · cases q
    · cases q
  · cases q
/-- x[k].pop() -/
theorem ok_pop1 (i : Nat) {kj : Nat} {k : Int} {kp : Pos} {sp : Pos} (hi : X.N[i]? = some x := by rfl) (hv : Vis X.env.scope x := by first | exact Or.inl rfl | exact Or.inr (Or.inl rfl) | exact Or.inr (Or.inr rfl))
    (hd : (x == ("__debug__" : Str)) = false := by decide) (hcd : (x == ("__classdict__" : Str)) = false := by decide)
    (hbase : attributeBase (.Subscript (.Name x p) (.Constant (.int k) kj kp) sp) "pop" X.env (eval (.Subscript (.Name x p) (.Constant (.int k) kj kp) sp) X.env) = eval (.Subscript (.Name x p) (.Constant (.int k) kj kp) sp) X.env := by rfl) (hline : (apos.endLine == cpos.line) = true := by rfl) : Ok X false (.Call (.Attribute (.Subscript (.Name x p) (.Constant (.int k) kj kp) sp) "pop" apos) [] [] cpos) (kPop1 i k) := fun es es' o q => by
  unfold kPop1 at q
  split at q
  · rename_i b xs h0
    obtain ⟨j, hj, q⟩ := bind_some q
    split at q
    · rename_i ys hys
      split at q
      · rename_i y hy
        cases q
        refine ⟨pe_w (pe_bm0 PySem.F.plainAttrs_list PySem.F.slot_list_pop PySem.F.type_list_pop mt_pop (pe_ix ix_list (pe_var hi hv hd hcd) pe_int (by exact fun _ _ => rfl)) hbase hline) fun σ H Q ⟨c, ts, tv, k', r, ad, q⟩ => ?_, nofun⟩
        obtain ⟨p0, vs, p1, ws, v, e0, hp0, hvj, hp1, hlw, hv', r2⟩ := r.item1 h0 hys hy
        obtain ⟨p2, vs2, q2, ws2, e2, hp2, hvj2, hq2, hl2, _, g⟩ := Rl.mut1 r2 (show AllD (Wk.D y :: ts) from ad rfl) h0 hys
        rw [e0] at e2
        cases e2
        rw [hp0] at hp2
        cases hp2
        rw [hvj] at hvj2
        cases hvj2
        rw [hp1] at hq2
        cases hq2
        have lt : 0 < ws.length := by
          rw [List.getElem?_eq_some_iff] at hy
          obtain ⟨h, _⟩ := hy
          omega
        refine ⟨_, e0, (show rIxL X.K (.ref p0) (.int k) H (fun x H1 => tyV X.K "list" x H1 ∧ rPop x [] H1 Q) from ⟨p0, vs, k, .ref p1, rfl, rfl, .inl (.inl hp0), by unfold atI; rw [hl2, hj]; exact hvj, .inl ⟨rfl, ws, .inl (.inl hp1)⟩, ?_⟩)⟩
        exact (show rPop (.ref p1) [] H Q from ⟨p1, ws, v, rfl, rfl, hp1, by rw [hlw]; exact hv', q v _ nofun (g _ _ _ _ fun M' H' as bs t l => by
          rw [last_some (n := 0) hy, lastV lt, hlw]
          exact ⟨TkL.eraseIdx l hy, t⟩)⟩)
      · cases q
    · cases q
  · cases q
/-- x[k] = e -/
theorem oks_setI (i : Nat) {sp : Pos} (hk : Ok X true ei dk) (h : Ok X false e de) (hi : X.N[i]? = some x := by rfl) (hv : Vis X.env.scope x := by first | exact Or.inl rfl | exact Or.inr (Or.inl rfl) | exact Or.inr (Or.inr rfl))
    (hd : (x == ("__debug__" : Str)) = false := by decide) (hcd : (x == ("__classdict__" : Str)) = false := by decide)
    (ha : ∀ v, assign (.Subscript (.Name x p) ei sp) X.env v = (do
      let ov ← holding [v] (eval (.Name x p) X.env)
      let iv ← holding [v, ov] (eval ei X.env)
      standAt sp
      holding [v, ov, iv] (setItem ov iv v)
      release [v, ov, iv] []) := by intro _; rfl)
    (hs : swapsWithSole [.Subscript (.Name x p) ei sp] e pos.line X.env = pure false := by rfl) (hw : swappedStores [.Subscript (.Name x p) ei sp] e X.env = pure none := by rfl)
    (h1 : (assignEach [.Subscript (.Name x p) ei sp] X.env).map (·.2) = [assign (.Subscript (.Name x p) ei sp) X.env] := by rfl) : OkS X fx (.Assign [.Subscript (.Name x p) ei sp] e pos) (oSetI i dk de) := fun es oc q => by
  obtain ⟨⟨es1, o⟩, h1', q⟩ := bind_some q
  obtain ⟨y, h2, q⟩ := bind_some q
  dsimp only at q
  split at q
  · rename_i b xs h3
    obtain ⟨⟨es2, o2⟩, h4, q⟩ := bind_some q
    obtain ⟨k1, k2⟩ := hk _ _ _ h4
    cases k2 rfl
    dsimp only at q
    split at q
    · rename_i k
      obtain ⟨j, hj, q⟩ := bind_some q
      split at q
      · rename_i y0 hy
        cases q
        refine ps_w (ps_asg (h _ _ _ h1').1 (pg_sub (pe_var hi hv hd hcd) k1 set_list ha) hs hw h1) fun D σ H ⟨c, ts, tv, kk, f, ad, r, q⟩ => ⟨c, ts, tv, kk, r, fun _ => ad, fun v H1 _ r1 => ?_⟩
        have r2 := frz_rl r1 h2
        obtain ⟨p0, vs0, e0, hp0, hl⟩ := r2.lsI (show AllD (Wk.D y :: ts) from ad) h3
        refine ⟨_, e0, c, _, _, kk, r2, nofun, fun v2 H2 ex r3 => ?_⟩
        have hv2 := r3.vint
        subst hv2
        obtain ⟨p1, vs1, e1, hp1, ⟨M, bv⟩, g⟩ := Rl.mut r3.pop (show AllD (Wk.D y :: ts) from ad) h3
        rw [e0] at e1
        cases e1
        refine (show rSetL (.ref p0) (.int k) v H2 (fun H3 => D.nx σ H3) from ⟨p0, vs1, k, j, rfl, rfl, hp1, by rw [bv.len]; exact hj, q _ _ (g _ _ ts tv fun M' H' as bs t l => ?_)⟩)
        cases t with
        | b q' t' =>
          cases q' with
          | d q' => exact ⟨TkL.setd q' l hy, t'⟩
      · cases q
    · cases q
  · cases q
/-- x[k].append(e) -/
theorem oks_app1 (i : Nat) {sp : Pos} (hk : Ok X true ei dk) (h : Ok X true e de) (hi : X.N[i]? = some x := by rfl) (hv : Vis X.env.scope x := by first | exact Or.inl rfl | exact Or.inr (Or.inl rfl) | exact Or.inr (Or.inr rfl))
    (hd : (x == ("__debug__" : Str)) = false := by decide) (hcd : (x == ("__classdict__" : Str)) = false := by decide) (n : Ns e := by exact fun _ _ => rfl) (hpl : PlainIx ei := by exact fun _ _ => rfl)
    (hbase : attributeBase (.Subscript (.Name x p) ei sp) "append" X.env (eval (.Subscript (.Name x p) ei sp) X.env) = eval (.Subscript (.Name x p) ei sp) X.env := by rfl)
    (hfew : ((backTo cpos (starEach [e] X.env)).all (fun x => !x.1) && (backToKw cpos (keywordEach [] X.env)).all (fun x => x.1.isSome)
      && decide (([e] : List Expr).length + ([] : List Keyword).length + (if ([] : List Keyword).isEmpty then 0 else 1) < 30)) = true := by rfl)
    (hline : (apos.endLine == cpos.line) = true := by rfl) (hs : swapsWith (.Call (.Attribute (.Subscript (.Name x p) ei sp) "append" apos) [e] [] cpos) none pos.line X.env = pure false := by rfl) :
    OkS X fx (.Expr (.Call (.Attribute (.Subscript (.Name x p) ei sp) "append" apos) [e] [] cpos) pos) (oApp1 i dk de) := fun es oc q => by
  unfold oApp1 at q
  split at q
  · rename_i b0 xs0 h0
    obtain ⟨⟨es1, o1⟩, h4, q⟩ := bind_some q
    obtain ⟨k1, k2⟩ := hk _ _ _ h4
    cases k2 rfl
    dsimp only at q
    split at q
    · rename_i k
      obtain ⟨⟨es2, o2⟩, h5, q⟩ := bind_some q
      obtain ⟨m1, m2⟩ := h _ _ _ h5
      cases m2 rfl
      obtain ⟨y, h6, q⟩ := bind_some q
      dsimp only at q
      split at q
      · rename_i b xs h3
        obtain ⟨j, hj, q⟩ := bind_some q
        split at q
        · rename_i ys hys
          obtain ⟨hz, q⟩ := if_some q
          cases q
          refine ps_w (ps_expr (pe_bm PySem.F.plainAttrs_list PySem.F.slot_list_append PySem.F.type_list_append mt_append (pe_ix ix_list (pe_var hi hv hd hcd) k1 hpl) (pa_cons m1 pa_nil (n _ _)) hbase hfew hline (n _ _) rfl) hs)
            fun D σ H ⟨c, ts, tv, kk, f, ad, r, q⟩ => ?_
          obtain ⟨p0, vs0, e0, hp0, hl⟩ := r.lsI ad h0
          refine ⟨_, e0, c, ts, tv, kk, r, nofun, fun v1 H1 ex1 r1 => ?_⟩
          have hv1 := r1.vint
          subst hv1
          obtain ⟨p1, vs1, q1, ws1, e1, hp1, hvj1, hq1, hl1, _, _⟩ := Rl.mut1 r1.pop ad h3 hys
          rw [e0] at e1
          cases e1
          refine (show rIxL X.K (.ref p0) (.int k) H1 (fun x H2 => tyV X.K "list" x H2 ∧ tE X.K true _ _ o2 σ H2 (fun v H3 => rAppend x [v] H3 (fun _ H4 => D.nx σ H4))) from
            ⟨p0, vs1, k, .ref q1, rfl, rfl, .inl (.inl hp1), by unfold atI; rw [hl1, hj]; exact hvj1, .inl ⟨rfl, ws1, .inl (.inl hq1)⟩, c, ts, tv, kk, r1.pop, nofun, fun v2 H2 ex2 r2 => ?_⟩)
          have r3 := frz_rl r2 h6
          obtain ⟨p2, vs2, q2, ws2, e2, hp2, hvj2, hq2, hl2, ⟨M, bv⟩, g⟩ := Rl.mut1 r3 (show AllD (Wk.D y :: ts) from ad) h3 hys
          rw [e0] at e2
          cases e2
          rw [ex2 rfl _ _ hp1] at hp2
          cases hp2
          rw [hvj1] at hvj2
          cases hvj2
          refine (show rAppend (.ref q1) [v2] H2 (fun _ H4 => D.nx σ H4) from ⟨q1, ws2, v2, rfl, rfl, hq2, by rw [bv.len]; exact hz, q _ _ (g _ _ ts tv fun M' H' as bs t l => ?_)⟩)
          cases t with
          | b q' t' =>
            cases q' with
            | d q' => exact ⟨TkL.snocd q' l, t'⟩
        · cases q
      · cases q
    · cases q
  · cases q
end
end Wk

/-! Wk12 -/
set_option Elab.async false
set_option linter.all false
set_option maxRecDepth 100000
set_option maxHeartbeats 4000000
/-! Wk12: what is walked; for, while -/
namespace Wk
open PySem PySem.Spec PyProof.Rows L2

/-- while the temporary (v, o) stands, J walks the data ds -/
def JOk (K : PySem.W.Frag) (o : TO) (v : V) (J : It) (ds : List PyData) : Prop := ∀ c ts tv es σ H, c.K = K → Rl c (o :: ts) (v :: tv) es σ H →
  (∀ i, i < ds.length → J.go i H) ∧ J.stop ds.length H ∧ ∀ i d x H', ds[i]? = some d → J.yld i H x H' → Rl c (D d :: o :: ts) (x :: v :: tv) es σ H'
def tI (K : PySem.W.Frag) (es es' : List SE) (ds : List PyData) : TI := fun σ H R => ∃ c ts tv, c.K = K ∧ AllD ts ∧ Rl c ts tv es σ H ∧ ∀ J H' o v, AllD [o] → JOk K o v J ds → Rl c (o :: ts) (v :: tv) es' σ H' → R J H'
def OkI (X : Cx) (tg e : Expr) (d : DL) : Prop := ∀ es es' ds, d es = some (es', ds) → PI X tg e (tI X.K es es' ds)
theorem pi_w {X : Cx} {tg e : Expr} {t t' : TI} (h : PI X tg e t) (k : ∀ σ H R, t' σ H R → t σ H R) : PI X tg e t' := ⟨fun pins s σ H R i q => h.run pins s σ H R i (k σ H R q)⟩
theorem RpL.at {K : PySem.W.Frag} {M : Addr → Prop} {H : Hp} {vs : List V} {ds : List PyData} {i : Nat} {d : PyData} {x : V} (l : RpL K M H vs ds) (h : ds[i]? = some d) (hx : vs[i]? = some x) : Rp K M H x d := by
  obtain ⟨v, h1, h2⟩ := l.get h
  rw [hx] at h1
  cases h1
  exact h2
theorem jok_l {K : PySem.W.Frag} {o : TO} {a : Addr} {ds : List PyData} (lv : LV o ds) : JOk K o (.ref a) (Itl K a) ds := fun c ts tv es σ H hk r => by
  obtain ⟨a', vs, e, ha, hl, rp⟩ := r.lv lv
  cases e
  have sq : SqL K H a vs := .inl (.inl ha)
  refine ⟨fun i hi => ⟨vs, vs[i]'(by omega), sq, by simp [show i < vs.length from by omega]⟩, ⟨vs, sq, by omega⟩, fun i d x H' hd hy => ?_⟩
  obtain ⟨rfl, y⟩ := hy
  exact r.push fun M as t => .d ((rp M as t).at hd (y vs sq))
theorem jok_t {K : PySem.W.Frag} {a : Addr} {ds : List PyData} : JOk K (D (.tuple ds)) (.ref a) (Itt K a) ds := fun c ts tv es σ H hk r => by
  obtain ⟨a', vs, e, ha, hl, rp⟩ := r.tup
  cases e
  have sq : SqT K H a vs := .inl ha
  refine ⟨fun i hi => ⟨vs, vs[i]'(by omega), sq, by simp [show i < vs.length from by omega]⟩, ⟨vs, sq, by omega⟩, fun i d x H' hd hy => ?_⟩
  obtain ⟨rfl, y⟩ := hy
  exact r.push fun M as t => .d ((rp M as t).at hd (y vs sq))
def ups (lo : Int) (n : Nat) : List PyData := (List.range n).map fun (k : Nat) => .int (lo + (k : Nat))
theorem ups_len (lo : Int) (n : Nat) : (ups lo n).length = n := by simp [ups]
theorem ups_get {lo : Int} {n i : Nat} {d : PyData} (h : (ups lo n)[i]? = some d) : d = .int (lo + (i : Nat)) := by
  unfold ups at h
  rw [List.getElem?_map] at h
  obtain ⟨k, h1, h2⟩ := map_some h
  rw [List.getElem?_eq_some_iff] at h1
  obtain ⟨_, h1⟩ := h1
  rw [List.getElem_range] at h1
  rw [← h2, h1]
theorem jok_r {K : PySem.W.Frag} {lo : Int} {n : Nat} : JOk K (D .none) .non (Itr lo n) (ups lo n) := fun c ts tv es σ H hk r => by
  refine ⟨fun i hi => by rw [ups_len] at hi; exact hi, by rw [ups_len]; exact Nat.le_refl _, fun i d x H' hd hy => ?_⟩
  obtain ⟨rfl, rfl⟩ := hy
  rw [ups_get hd]
  exact r.int _
def steps (lo c : Int) (n : Nat) : List PyData := (List.range n).map fun (k : Nat) => .int (lo + (k : Nat) * c)
theorem steps_get {lo c : Int} {n i : Nat} {d : PyData} (h : (steps lo c n)[i]? = some d) : d = .int (lo + (i : Nat) * c) := by
  unfold steps at h
  rw [List.getElem?_map] at h
  obtain ⟨k, h1, h2⟩ := map_some h
  rw [List.getElem?_eq_some_iff] at h1
  obtain ⟨_, h1⟩ := h1
  rw [List.getElem_range] at h1
  rw [← h2, h1]
theorem jok_s {K : PySem.W.Frag} {lo k : Int} {n : Nat} : JOk K (D .none) .non (Itc lo k n) (steps lo k n) := fun c ts tv es σ H hk r => by
  have e : (steps lo k n).length = n := by simp [steps]
  refine ⟨fun i hi => by rw [e] at hi; exact hi, by rw [e]; exact Nat.le_refl _, fun i d x H' hd hy => ?_⟩
  obtain ⟨rfl, rfl⟩ := hy
  rw [steps_get hd]
  exact r.int _
def nums : Nat → List PyData → List PyData
  | _, [] => []
  | i, d :: r => .tuple [.int i, d] :: nums (i + 1) r
theorem nums_len : ∀ (ds : List PyData) (n : Nat), (nums n ds).length = ds.length
  | [], _ => rfl
  | _ :: r, n => congrArg (· + 1) (nums_len r (n + 1))
theorem nums_get : ∀ {ds : List PyData} {n i : Nat} {d : PyData}, (nums n ds)[i]? = some d → ∃ y, ds[i]? = some y ∧ d = .tuple [.int (n + i : Nat), y]
  | [], _, _, _, h => by simp [nums] at h
  | x :: r, n, 0, d, h => by
    have : some (PyData.tuple [.int n, x]) = some d := h
    exact ⟨x, rfl, (Option.some.inj this).symm⟩
  | x :: r, n, i + 1, d, h => by
    obtain ⟨y, h1, h2⟩ := nums_get (ds := r) (n := n + 1) (i := i) h
    exact ⟨y, h1, by rw [h2, Nat.succ_add_eq_add_succ]⟩
theorem jok_e {K : PySem.W.Frag} {o : TO} {a : Addr} {ds : List PyData} (lv : LV o ds) : JOk K o (.ref a) (Ite K a) (nums 0 ds) := fun c ts tv es σ H hk r => by
  obtain ⟨a', vs, e, ha, hl, rp⟩ := r.lv lv
  cases e
  have sq : SqL K H a vs := .inl (.inl ha)
  rw [nums_len]
  refine ⟨fun i hi => ⟨vs, vs[i]'(by omega), sq, by simp [show i < vs.length from by omega]⟩, ⟨vs, sq, by omega⟩, fun i d x H' hd hy => ?_⟩
  obtain ⟨T, z, rfl, hT, rfl, y⟩ := hy
  obtain ⟨w, h1, rfl⟩ := nums_get hd
  rw [Nat.zero_add]
  exact r.newT hT fun M as t => .cons (.int _) (.cons ((rp M as t).at h1 (y vs sq)) .nil)
/-! ### readings -/
@[simp] def iSeq (d : DE) : DL := fun es => (d es).bind fun p => match p.2 with
  | .b (.d (.tuple ds)) => some (p.1, ds)
  | o => if adB o then (lvO o).map fun ds => (p.1, ds) else none
@[simp] def i1 (g : Int → Option (List PyData)) (d : DE) : DL := fun es => (d es).bind fun p => match p.2 with
  | .b (.d (.int i)) => (g i).map fun ds => (p.1, ds)
  | _ => none
def sm (i : Int) : Bool := decide (-(2 ^ 62) ≤ i ∧ i < 2 ^ 62)
@[simp] def iRange1 (d : DE) : DL := i1 (fun j => if sm j = true then some (ups 0 j.toNat) else none) d
@[simp] def iRange2 (a b : DE) : DL := fun es => (a es).bind fun p => (b p.1).bind fun q => match p.2, q.2 with
  | .b (.d (.int i)), .b (.d (.int j)) => if sm i = true ∧ sm j = true then some (q.1, ups i (j - i).toNat) else none
  | _, _ => none
@[simp] def iDown (a b : DE) : DL := fun es => (a es).bind fun p => (b p.1).bind fun q => match p.2, q.2 with
  | .b (.d (.int i)), .b (.d (.int j)) => if sm i = true ∧ sm j = true then some (q.1, steps i (-1) (i - j).toNat) else none
  | _, _ => none
def iEnumL (d : DE) : DL := fun es => (d es).bind fun p => if adB p.2 then (lvO p.2).map fun ds => (p.1, nums 0 ds) else none
section
variable {X : Cx} {tg e a b c0 : Expr} {da db dc : DE} {p pos : Pos}
theorem oki_seq (h : Ok X false e da) : OkI X tg e (iSeq da) := fun es es' ds q => by
  obtain ⟨⟨es1, o⟩, h1, q⟩ := bind_some q
  obtain ⟨a1, a2⟩ := h _ _ _ h1
  dsimp only at q
  split at q
  · cases q
    refine pi_w (pi_tup a1) fun σ H R ⟨c, ts, tv, k, ad, r, q⟩ => ⟨c, ts, tv, k, r, fun _ => ad, fun v H' _ r' => ?_⟩
    obtain ⟨a, vs, rfl, ha, _⟩ := r'.tup
    exact ⟨a, rfl, ⟨vs, .inl ha⟩, q _ _ (D (.tuple ds)) _ trivial jok_t r'⟩
  · obtain ⟨h2, q⟩ := if_some q
    obtain ⟨ds', h3, q⟩ := map_some q
    cases q
    refine pi_w (pi_list a1) fun σ H R ⟨c, ts, tv, k, ad, r, q⟩ => ⟨c, ts, tv, k, r, fun _ => ad, fun v H' _ r' => ?_⟩
    obtain ⟨a, vs, rfl, ha, _⟩ := r'.lv (lvO_ok h3)
    exact ⟨a, rfl, ⟨vs, .inl (.inl ha)⟩, q _ _ _ _ (adB_ok h2) (jok_l (lvO_ok h3)) r'⟩
theorem sm_ok {i : Int} (h : sm i = true) : -(2 ^ 62) ≤ i ∧ i < 2 ^ 62 := by simpa [sm] using h
theorem Rl.sn {c : Ct} {ts : List TO} {tv : List V} {es : List SE} {σ : L2.St} {H : Hp} {o : TO} {v : V} (r : Rl c (o :: ts) (v :: tv) es σ H) : Rl c (D .none :: ts) (.non :: tv) es σ H := r.pop.non
theorem oki_range1 (hm : X.mg "range" = none) (h : Ok X false a da) (hg : Gl X "range" := by rfl) (hs : starEach [a] X.env = [(false, eval a X.env)] := by rfl) (n : Ns a := by exact fun _ _ => rfl) : OkI X tg (.Call (.Name "range" p) [a] [] pos) (iRange1 da) := fun es es' ds q => by
  obtain ⟨⟨es1, o⟩, h1, q⟩ := bind_some q
  obtain ⟨a1, a2⟩ := h _ _ _ h1
  dsimp only at q
  split at q
  · obtain ⟨ds', h2, q⟩ := map_some q
    obtain ⟨h3, h2⟩ := if_some h2
    cases h2
    cases q
    refine pi_w (pi_range1 hg hm (pa_cons a1 pa_nil (n _ _)) hs) fun σ H R ⟨c, ts, tv, k, ad, r, q⟩ => ⟨c, ts, tv, k, r, fun _ => ad, fun v H' _ r' => ?_⟩
    have hv := r'.vint
    subst hv
    obtain ⟨h4, h5⟩ := sm_ok h3
    exact ⟨_, rfl, h4, h5, q _ _ (D .none) _ trivial jok_r r'.sn⟩
  · cases q
theorem oki_range2 (hm : X.mg "range" = none) (h : Ok X false a da) (hb : Ok X false b db) (hg : Gl X "range" := by rfl) (hs : starEach [a, b] X.env = [(false, eval a X.env), (false, eval b X.env)] := by rfl) (hs2 : starEach [b] X.env = [(false, eval b X.env)] := by rfl)
    (n : Ns a := by exact fun _ _ => rfl) (n2 : Ns b := by exact fun _ _ => rfl) : OkI X tg (.Call (.Name "range" p) [a, b] [] pos) (iRange2 da db) := fun es es' ds q => by
  obtain ⟨⟨es1, o⟩, h1, q⟩ := bind_some q
  obtain ⟨⟨es2, o2⟩, h2, q⟩ := bind_some q
  obtain ⟨a1, a2⟩ := h _ _ _ h1
  obtain ⟨b1, b2⟩ := hb _ _ _ h2
  dsimp only at q
  split at q
  · obtain ⟨h3, q⟩ := if_some q
    cases q
    refine pi_w (pi_range2 hg hm (pa_cons a1 (pa_cons b1 pa_nil (n2 _ _)) (n _ _)) hs hs2) fun σ H R ⟨c, ts, tv, k, ad, r, q⟩ => ⟨c, ts, tv, k, r, fun _ => ad, fun v H' _ r' => ⟨c, _, _, k, r', fun _ => ad, fun v2 H2 _ r2 => ?_⟩⟩
    have hv := r'.vint
    subst hv
    have hv2 := r2.vint
    subst hv2
    obtain ⟨h4, h5⟩ := sm_ok h3.1
    obtain ⟨h6, h7⟩ := sm_ok h3.2
    exact ⟨_, _, rfl, ⟨h4, h5, h6, h7⟩, q _ _ (D .none) _ trivial jok_r r2.pop.sn⟩
  · cases q
/-- range(a, b, -1) -/
theorem oki_down {k1 : Nat} {u : UnaryOp} {p1 p2 : Pos} (hm : X.mg "range" = none) (h : Ok X false a da) (hb : Ok X false b db) (hc : Ok X false c0 dc) (h1 : ∀ es, dc es = some (es, I (-1))) (hg : Gl X "range" := by rfl)
    (hs : starEach [a, b, c0] X.env = (false, eval a X.env) :: starEach [b, c0] X.env := by rfl) (hpl : (backTo pos (starEach [b, c0] X.env)).any (·.1) = false := by rfl)
    (n : Ns a := by exact fun _ _ => rfl) (n2 : Ns b := by exact fun _ _ => rfl) (n3 : Ns c0 := by exact fun _ _ => rfl) : OkI X tg (.Call (.Name "range" p) [a, b, c0] [] pos) (iDown da db) := fun es es' ds q => by
  obtain ⟨⟨es1, o⟩, hh1, q⟩ := bind_some q
  obtain ⟨⟨es2, o2⟩, h2, q⟩ := bind_some q
  obtain ⟨a1, a2⟩ := h _ _ _ hh1
  obtain ⟨b1, b2⟩ := hb _ _ _ h2
  obtain ⟨c1, c2⟩ := hc _ _ _ (h1 es2)
  dsimp only at q c1
  split at q
  · obtain ⟨h3, q⟩ := if_some q
    cases q
    refine pi_w (pi_range3 hg hm (pa_cons a1 (pa_cons b1 (pa_cons c1 pa_nil (n3 _ _)) (n2 _ _)) (n _ _)) hs hpl) fun σ H R ⟨c, ts, tv, k, ad, r, q⟩ => ⟨c, ts, tv, k, r, fun _ => ad, fun v H' _ r' => ⟨c, _, _, k, r', fun _ => ad, fun v2 H2 _ r2 => ⟨c, _, _, k, r2, fun _ => ad, fun v3 H3 _ r3 => ?_⟩⟩⟩
    have hv := r'.vint
    subst hv
    have hv2 := r2.vint
    subst hv2
    have hv3 := r3.vint
    subst hv3
    obtain ⟨h4, h5⟩ := sm_ok h3.1
    obtain ⟨h6, h7⟩ := sm_ok h3.2
    exact ⟨_, _, _, _, rfl, RgC.neg h4 h5 h6 h7, q _ _ (D .none) _ trivial jok_s r3.pop.pop.sn⟩
  · cases q
theorem oki_enum {elts : List Expr} {kk : Nat} {tpos : Pos} (hm : X.mg "enumerate" = none) (h : Ok X false e da) (hg : Gl X "enumerate" := by rfl) (hs : starEach [e] X.env = [(false, eval e X.env)] := by rfl) (n : Ns e := by exact fun _ _ => rfl) : OkI X (.Tuple elts kk tpos) (.Call (.Name "enumerate" p) [e] [] pos) (iEnumL da) := fun es es' ds q => by
  obtain ⟨⟨es1, o⟩, h1, q⟩ := bind_some q
  obtain ⟨h2, q⟩ := if_some q
  obtain ⟨ds', h3, q⟩ := map_some q
  cases q
  obtain ⟨a1, a2⟩ := h _ _ _ h1
  refine pi_w (pi_enum hg hm (pa_cons a1 pa_nil (n _ _)) hs) fun σ H R ⟨c, ts, tv, k, ad, r, q⟩ => ⟨c, ts, tv, k, r, fun _ => ad, fun v H' _ r' => ?_⟩
  obtain ⟨a, vs, rfl, ha, _⟩ := r'.lv (lvO_ok h3)
  exact ⟨a, vs, rfl, .inl (.inl ha), q _ _ _ _ (adB_ok h2) (jok_e (lvO_ok h3)) r'⟩
end

/-! ### for, while -/
@[simp] def kill : List Nat → List SE → List SE
  | [], es => es
  | i :: r, es => kill r (es.set i .z)
def forL (fx : Bool) (T : Tg) (ks : List Nat) (body : DS) : List PyData → List SE → Option Oc
  | [], es => some (.nx es)
  | d :: ds, es => (tgS fx T d es).bind fun es1 => match body es1 with
    | some (.nx es2) => forL fx T ks body ds (kill ks es2)
    | some (.ct es2) => forL fx T ks body ds (kill ks es2)
    | some (.bk es2) => some (.nx es2)
    | some (.rt o es2) => some (.rt o es2)
    | none => none
@[simp] def oFor (fx : Bool) (T : Tg) (ks : List Nat) (d : DL) (body : DS) : DS := fun es => (d es).bind fun p => forL fx T ks body p.2 (kill ks p.1)
def whileL (t : DB) (ks : List Nat) (body : DS) : Nat → List SE → Option Oc
  | 0, _ => none
  | n + 1, es => (t es).bind fun p => if p.2 then
      match body p.1 with
      | some (.nx es2) => whileL t ks body n (kill ks es2)
      | some (.ct es2) => whileL t ks body n (kill ks es2)
      | some (.bk es2) => some (.nx es2)
      | some (.rt o es2) => some (.rt o es2)
      | none => none
    else some (.nx p.1)
def oWhile (n : Nat) (t : DB) (ks : List Nat) (body : DS) : DS := fun es => whileL t ks body n (kill ks es)
def tBody (K : PySem.W.Frag) (fx : Bool) (body : DS) : TS := fun D σ H => ∃ es oc, body es = some oc ∧ tS K fx es oc D σ H
def tTest (K : PySem.W.Frag) (t : DB) : TT := fun σ H Q => ∃ es es' b, t es = some (es', b) ∧ tT K false es es' b σ H Q
theorem OkSs.gen {X : Cx} {fx : Bool} {body : List Stmt} {d : DS} (h : OkSs X fx body d) : PSs X body (tBody X.K fx d) := ⟨fun pins s σ H D I ⟨es, oc, e, t⟩ => (h es oc e).run pins s σ H D I t⟩
theorem OkT.gen {X : Cx} {e : Expr} {d : DB} (h : OkT X false e d) : PT X e (tTest X.K d) := ⟨fun pins s σ H Q I ⟨es, es', b, e, t⟩ => (h es es' b e).1.run pins s σ H Q I t⟩
theorem Le.set : ∀ {es : List SE} {i : Nat}, Le (es.set i .z) es
  | [], _ => .n
  | _ :: _, 0 => .w Le.rfl
  | _ :: es, i + 1 => .k (Le.set (es := es))
theorem Le.tr : ∀ {a b c : List SE}, Le a b → Le b c → Le a c
  | _, _, _, .n, .n => .n
  | _, _, _, .k h, .k h' => .k (h.tr h')
  | _, _, _, .k h, .w h' => .w (h.tr h')
  | _, _, _, .w h, .k h' => .w (h.tr h')
  | _, _, _, .w h, .w h' => .w (h.tr h')
theorem Le.kill : ∀ {ks : List Nat} {es : List SE}, Le (Wk.kill ks es) es
  | [], _ => Le.rfl
  | i :: r, es => (Le.kill (ks := r) (es := es.set i .z)).tr Le.set
section
variable {X : Cx} {fx : Bool} {tg e : Expr} {body : List Stmt} {di : DL} {db : DS} {dt : DB} {T : Tg} {pos : Pos}
theorem oks_for (ks : List Nat) (G : Gd X) (hi : OkI X tg e di) (hg : PG X tg (gOf X.K T)) (hb : OkSs X fx body db) (hs : ∀ x, foldedSetIterable e X.env x = pure x := by intro _; rfl) : OkS X fx (.For tg e body [] pos) (oFor fx T ks di db) := fun es oc q => by
  obtain ⟨⟨es1, ds⟩, h1, q⟩ := bind_some q
  refine ps_w (ps_for G.pass G.calm (hi _ _ _ h1) hg hb.gen hs) fun D σ H ⟨c, ts, tv, k, f, ad, r, q0⟩ => ⟨c, ts, tv, k, ad, r, fun J H' o v ao jo r' => ?_⟩
  refine ⟨fun i m σ H => m = ds.length - i ∧ i ≤ ds.length ∧ ∃ es, forL fx T ks db (ds.drop i) es = some oc ∧ Rl c (o :: ts) (v :: tv) es σ H, ⟨ds.length, rfl, Nat.zero_le _, _, q, r'.le Le.kill⟩, ?_⟩
  rintro i m σ H ⟨rfl, hi, es2, q2, r2⟩
  obtain ⟨j1, j2, j3⟩ := jo c ts tv es2 σ H k r2
  by_cases hlt : i < ds.length
  · refine .inr ⟨j1 i hlt, fun σ' H' => i + 1 ≤ ds.length ∧ ∃ es, forL fx T ks db (ds.drop (i + 1)) es = some oc ∧ Rl c (o :: ts) (v :: tv) es σ' H', fun σ' H' n => ⟨_, by omega, rfl, n⟩, fun x H' y => ?_⟩
    have hd : ds.drop i = ds[i] :: ds.drop (i + 1) := List.drop_eq_getElem_cons hlt
    rw [hd] at q2
    obtain ⟨es3, t1, q3⟩ := bind_some q2
    have r3 := j3 i ds[i] x H' (by simp [hlt]) y
    refine tg_ok k f r3 t1 fun σ' _ _ _ _ r4 => ?_
    try dsimp only at q3
    split at q3
    · rename_i es4 hb4
      exact ⟨es3, _, hb4, c, _, _, k, f, ao.cons ad, r4, fun σ5 H5 r5 => ⟨hlt, _, q3, r5.le Le.kill⟩⟩
    · rename_i es4 hb4
      exact ⟨es3, _, hb4, c, _, _, k, f, ao.cons ad, r4, fun σ5 H5 r5 => ⟨hlt, _, q3, r5.le Le.kill⟩⟩
    · rename_i es4 hb4
      cases q3
      exact ⟨es3, _, hb4, c, _, _, k, f, ao.cons ad, r4, fun σ5 H5 r5 => q0 _ _ r5.pop⟩
    · rename_i o4 es4 hb4
      cases q3
      exact ⟨es3, _, hb4, c, _, _, k, f, ao.cons ad, r4, fun v5 σ5 H5 r5 => q0 _ _ _ r5.pop2⟩
    · cases q3
  · have e : i = ds.length := by omega
    subst e
    rw [List.drop_length] at q2
    cases q2
    exact .inl ⟨j2, q0 _ _ r2.pop⟩
theorem oks_while (n : Nat) (ks : List Nat) (G : Gd X) (ht : OkT X false e dt) (hb : OkSs X fx body db) : OkS X fx (.While e body [] pos) (oWhile n dt ks db) := fun es oc q => by
  refine ps_w (ps_while G.pass ht.gen hb.gen) fun D σ H ⟨c, ts, tv, k, f, ad, r, q0⟩ => ?_
  refine ⟨fun m σ H => ∃ es, whileL dt ks db m es = some oc ∧ Rl c ts tv es σ H, ⟨n, _, q, r.le Le.kill⟩, ?_⟩
  rintro m σ H ⟨es1, q1, r1⟩
  cases m with
  | zero => cases q1
  | succ m =>
    obtain ⟨⟨es2, b⟩, h1, q2⟩ := bind_some q1
    refine ⟨es1, es2, b, h1, c, ts, tv, k, r1, fun _ => ad, fun H' _ r2 => ?_⟩
    cases b with
    | false =>
      have q3 : some (Oc.nx es2) = some oc := q2
      cases q3
      rw [if_neg Bool.false_ne_true]
      exact q0 _ _ r2
    | true =>
      rw [if_pos rfl]
      have q3 : (match db es2 with
        | some (.nx es2) => whileL dt ks db m (kill ks es2)
        | some (.ct es2) => whileL dt ks db m (kill ks es2)
        | some (.bk es2) => some (.nx es2)
        | some (.rt o es2) => some (.rt o es2)
        | none => none) = some oc := q2
      refine ⟨fun σ' H' => ∃ es, whileL dt ks db m es = some oc ∧ Rl c ts tv es σ' H', fun σ' H' n => ⟨m, Nat.lt_succ_self m, n⟩, ?_⟩
      split at q3
      · rename_i es4 hb4
        exact ⟨es2, _, hb4, c, _, _, k, f, ad, r2, fun σ5 H5 r5 => ⟨_, q3, r5.le Le.kill⟩⟩
      · rename_i es4 hb4
        exact ⟨es2, _, hb4, c, _, _, k, f, ad, r2, fun σ5 H5 r5 => ⟨_, q3, r5.le Le.kill⟩⟩
      · rename_i es4 hb4
        cases q3
        exact ⟨es2, _, hb4, c, _, _, k, f, ad, r2, fun σ5 H5 r5 => q0 _ _ r5⟩
      · rename_i o4 es4 hb4
        cases q3
        exact ⟨es2, _, hb4, c, _, _, k, f, ad, r2, fun v5 σ5 H5 r5 => q0 _ _ _ r5⟩
      · cases q3
end
end Wk

/-! Wk13 -/
set_option Elab.async false
set_option linter.all false
set_option maxRecDepth 100000
set_option maxHeartbeats 4000000
/-! Wk13: list comprehensions -/
namespace Wk
open PySem PySem.Spec PyProof.Rows L2

section
variable {c : Ct} {ts : List TO} {tv : List V} {es es' : List SE} {σ σ' : L2.St} {H H' : Hp}
theorem TkL.snoc {K : PySem.W.Frag} {M : Addr → Prop} {H : Hp} {v : V} {o : OT} {bs : List Addr} (q : Tk K M H v o bs) : ∀ {vs : List V} {xs : List OT} {as : List Addr}, TkL K M H vs xs as → TkL K M H (vs ++ [v]) (xs ++ [o]) (as ++ bs)
  | _, _, _, .nil => by
    have := TkL.cons q (TkL.nil (K := K) (M := M) (H := H))
    rw [List.append_nil] at this
    exact this
  | _, _, _, .cons a l => by
    rw [List.append_assoc]
    exact .cons a (TkL.snoc q l)
/-- the topmost temporary is put into the own list beneath -/
theorem Rl.tapp {o : TO} {y : V} {p : Addr} {xs : List OT} (r : Rl c (o :: .w (.l xs) :: ts) (y :: .ref p :: tv) es σ H) (ao : adB o = true) (ad : AllD ts) :
    ∃ acc, H p = some (.lst acc) ∧ acc.length = xs.length ∧ Rl c (.w (.l (xs ++ [otOf o])) :: ts) (.ref p :: tv) es σ (upd H p (.lst (acc ++ [y]))) := by
  obtain ⟨as, bs, a⟩ := r
  have key : ∃ bo ac a2 acc, as.Perm (p :: (ac ++ bo) ++ a2) ∧ Tk c.K (Mf c (as ++ bs)) H y (otOf o) bo ∧ (∀ x ∈ bo, Own c false x) ∧ H p = some (.lst acc) ∧ TkL c.K (Mf c (as ++ bs)) H acc xs ac ∧ (∀ x ∈ p :: ac, Own c false x) ∧ Tm c (Mf c (as ++ bs)) H tv ts a2 := by
    have tm := a.tm
    cases tm with
    | b q l =>
      cases l with
      | w q2 ow l2 =>
        cases q2 with
        | l hp lx =>
          rename_i acc ac
          cases q with
          | d q => exact ⟨[], _, _, _, by rw [List.append_nil], .d q, fun _ z => absurd z (by simp), hp, lx, ow, l2⟩
          | f q => exact ⟨[], _, _, _, by rw [List.append_nil], .f q, fun _ z => absurd z (by simp), hp, lx, ow, l2⟩
          | l _ _ => cases ao
          | k _ _ => cases ao
          | t _ _ => cases ao
    | w q ow0 l =>
      cases l with
      | w q2 ow l2 =>
        cases q2 with
        | l hp lx => exact ⟨_, _, _, _, List.perm_iff_count.mpr fun z => by simp only [List.count_append, List.count_cons]; omega, q, ow0, hp, lx, ow, l2⟩
  obtain ⟨bo, ac, a2, acc, pm, q, ow0, hp, lx, ow, l2⟩ := key
  refine ⟨acc, hp, lx.len, p :: (ac ++ bo) ++ a2, bs, ?_⟩
  have pm' := pm.append_right bs
  have nd := pm'.nodup_iff.mp a.nd
  have nd1 : p ∉ (ac ++ bo) ++ a2 ++ bs := (List.nodup_cons.mp nd).1
  simp only [List.mem_append, not_or] at nd1
  have t : Tr (Mf c (as ++ bs)) (Mf c ((p :: (ac ++ bo) ++ a2) ++ bs)) H (upd H p (.lst (acc ++ [y]))) := ⟨fun x z => .inl (z.imp id fun z => pm'.mem_iff.mpr z), fun x u e n => upn (fun z => n (.inr (pm'.mem_iff.mpr (by rw [z]; simp)))) e⟩
  have q' := q.tr t fun x hx u e => upn (fun z => nd1.1.1.2 (z ▸ hx)) e
  have lx' := lx.tr t fun x hx u e => upn (fun z => nd1.1.1.1 (z ▸ hx)) e
  have sl' := a.sl.tr t fun x hx u e => upn (fun z => nd1.2 (z ▸ hx)) e
  have l2' := l2.tr t ad fun x hx u e => upn (fun z => nd1.1.2 (z ▸ hx)) e
  have op := ow p List.mem_cons_self
  refine ⟨nd, sl', .w (.l upd_same (TkL.snoc q' lx')) (fun x hx => ?_) l2', fun x u e n => ?_, fun x z => ?_, a.fix⟩
  · rcases List.mem_cons.mp hx with z | z
    · exact z ▸ op
    · rcases List.mem_append.mp z with z | z
      · exact ow x (List.mem_cons_of_mem _ z)
      · exact ow0 x z
  · have ne : x ≠ p := fun z => by
      rcases op with w | w
      · cases w.1
      · rw [← z, e] at w; exact nomatch w.1
    exact upn ne (a.keep x u e n)
  · by_cases e : x = p
    · rw [e, upd_same]; simp
    · rw [upd_ne e]; exact a.av x z
/-- the slots vs forgotten -/
@[simp] def wz : List Nat → List SE → List SE
  | [], es => es
  | v :: vs, es => (wz vs es).set v .z
theorem wz_len : ∀ (vs : List Nat) (es : List SE), (wz vs es).length = es.length
  | [], _ => rfl
  | v :: vs, es => by show ((wz vs es).set v .z).length = _; rw [List.length_set, wz_len vs es]
theorem gt_set_ne : ∀ {es : List SE} {i j : Nat} {e : SE}, i ≠ j → gt (es.set i e) j = gt es j
  | [], _, _, _, _ => rfl
  | _ :: _, 0, 0, _, h => absurd rfl h
  | _ :: _, 0, j + 1, _, _ => rfl
  | _ :: _, i + 1, 0, _, _ => rfl
  | _ :: es, i + 1, j + 1, _, h => gt_set_ne (es := es) fun e => h (congrArg _ e)
theorem wz_in : ∀ {vs : List Nat} {es : List SE} {i : Nat}, i ∈ vs → i < es.length → gt (wz vs es) i = .z
  | v :: vs, es, i, h, hl => by
    by_cases e : v = i
    · subst e
      exact gt_set (by rw [wz_len]; exact hl)
    · show gt ((wz vs es).set v .z) i = _
      rw [gt_set_ne e]
      exact wz_in ((List.mem_cons.mp h).resolve_left fun z => e z.symm) hl
theorem wz_out : ∀ {vs : List Nat} {es : List SE} {i : Nat}, i ∉ vs → gt (wz vs es) i = gt es i
  | [], _, _, _ => rfl
  | v :: vs, es, i, h => by
    show gt ((wz vs es).set v .z) i = _
    rw [gt_set_ne fun e => h (by rw [e]; exact List.mem_cons_self)]
    exact wz_out fun z => h (List.mem_cons_of_mem _ z)
theorem Rl.sw {a b : TO} {x y : V} (r : Rl c (a :: b :: ts) (x :: y :: tv) es σ H) : Rl c (b :: a :: ts) (y :: x :: tv) es σ H := Rl.turn (os := [b, a]) (vs := [y, x]) rfl r
theorem Rl.sw3 {a b d : TO} {x y z : V} (r : Rl c (a :: b :: d :: ts) (x :: y :: z :: tv) es σ H) : Rl c (a :: d :: b :: ts) (x :: z :: y :: tv) es σ H :=
  Rl.turn (os := [a, d, b]) (vs := [x, z, y]) rfl (Rl.sw (Rl.turn (os := [d, b, a]) (vs := [z, y, x]) rfl r))
theorem pk_of : ∀ {es' es : List SE} {σ' σ : L2.St}, es'.length = es.length → σ'.length = σ.length → es.length = σ.length → (∀ i, i < es.length → gt es' i = .z ∨ (gt es' i = gt es i ∧ σ'[i]? = σ[i]?)) → Pk es' σ' es σ
  | [], [], [], [], _, _, _, _ => .n
  | [], _ :: _, _, _, h1, _, _, _ => nomatch h1
  | _ :: _, [], _, _, h1, _, _, _ => nomatch h1
  | _, [], _, _ :: _, _, _, h3, _ => nomatch h3
  | _, _ :: _, _, [], _, _, h3, _ => nomatch h3
  | _, _, [], _ :: _, _, h2, _, _ => nomatch h2
  | _, _, _ :: _, [], _, h2, _, _ => nomatch h2
  | e' :: es', e :: es, x' :: σ', x :: σ, h1, h2, h3, h => by
    have r := pk_of (es' := es') (es := es) (σ' := σ') (σ := σ) (Nat.succ.inj h1) (Nat.succ.inj h2) (Nat.succ.inj h3) fun i hi => by
      have := h (i + 1) (Nat.succ_lt_succ hi)
      simpa [gt] using this
    have h0 := h 0 (Nat.succ_pos _)
    rcases h0 with z | ⟨z, w⟩
    · have : e' = .z := z
      rw [this]
      exact .w r
    · have : e' = e := z
      have w' : x' = x := by simpa using w
      rw [this, w']
      exact .k r
theorem Rl.wz {vs : List Nat} (r : Rl c ts tv es σ H) (hl : σ'.length = σ.length) (h : ∀ i, i ∉ vs → σ'[i]? = σ[i]?) (hf : ∀ p ∈ c.fix, p.1 ∉ vs) : Rl c ts tv (Wk.wz vs es) σ' H := by
  refine r.pick (pk_of (wz_len vs es) hl r.len fun i hi => ?_) fun p hp => ?_
  · by_cases e : i ∈ vs
    · exact .inl (wz_in e hi)
    · exact .inr ⟨wz_out e, h i e⟩
  · rw [h _ (hf p hp)]
    exact (let ⟨_, _, a⟩ := r; a.fix) p hp
theorem setSt_len : ∀ {is : List Nat} {vs : List V} {σ : L2.St}, (setSt σ is vs).length = σ.length
  | [], _, _ => rfl
  | _ :: _, [], _ => rfl
  | i :: is, v :: vs, σ => by show (setSt (σ.set i (some v)) is vs).length = _; rw [setSt_len, List.length_set]
theorem setSt_out : ∀ {is : List Nat} {vs : List V} {σ : L2.St} {j : Nat}, j ∉ is → (setSt σ is vs)[j]? = σ[j]?
  | [], _, _, _, _ => rfl
  | _ :: _, [], _, _, _ => rfl
  | i :: is, v :: vs, σ, j, h => by
    show (setSt (σ.set i (some v)) is vs)[j]? = _
    rw [setSt_out fun z => h (List.mem_cons_of_mem _ z), List.getElem?_set_ne fun e => h (by rw [e]; exact List.mem_cons_self)]
theorem wipe_in {i : Nat} : ∀ {vs : List Nat} {σ : L2.St}, i ∈ vs → i < σ.length → (wipe σ vs)[i]? = some none
  | v :: vs, σ, h, hl => by
    unfold wipe
    by_cases e : v = i
    · subst e
      rw [List.getElem?_set_self (by rw [wipe_length]; exact hl)]
    · rw [List.getElem?_set_ne e]
      exact wipe_in ((List.mem_cons.mp h).resolve_left fun z => e z.symm) hl
theorem wipe_eq {vs : List Nat} (hl : σ'.length = σ.length) (h : ∀ i, i ∉ vs → σ'[i]? = σ[i]?) : wipe σ' vs = wipe σ vs := by
  refine List.ext_getElem? fun i => ?_
  by_cases e : i ∈ vs
  · by_cases hi : i < σ.length
    · rw [wipe_in e (hl ▸ hi), wipe_in e hi]
    · rw [List.getElem?_eq_none (by rw [wipe_length]; omega), List.getElem?_eq_none (by rw [wipe_length]; omega)]
  · rw [wipe_out e, wipe_out e, h i e]
end

/-! ### readings -/
@[simp] def kTrue : DB := fun es => some (es, true)
/-- the turns: what has come so far is acc -/
def compL (vs : List Nat) (T : Tg) (t : DB) (d : DE) : List PyData → List SE → List OT → Option (List SE × List OT)
  | [], es, acc => some (es, acc)
  | x :: xs, es, acc => (tgS false T x (wz vs es)).bind fun es1 => (t es1).bind fun p => if p.2 then
      (d p.1).bind fun q => if adB q.2 = true ∧ acc.length < sizeLine then compL vs T t d xs (wz vs q.1) (acc ++ [otOf q.2]) else none
    else compL vs T t d xs (wz vs p.1) acc
@[simp] def kComp (vs : List Nat) (T : Tg) (i : DL) (t : DB) (d : DE) : DE := fun es => (i es).bind fun p => (compL vs T t d p.2 (wz vs p.1) []).map fun r => (r.1, .w (.l r.2))
def tgIn (vs : List Nat) : Tg → Bool
  | .n i => vs.contains i
  | .t is => is.all fun i => vs.contains i
def tTests (K : PySem.W.Frag) (t : DB) : TT := tTest K t
def OkTs (X : Cx) (l : List Expr) (t : DB) : Prop := ∀ es es' b, t es = some (es', b) → PTs X l (tT X.K false es es' b)
def tElt (K : PySem.W.Frag) (d : DE) : TE := fun σ H Q => ∃ es es' o, d es = some (es', o) ∧ tE K false es es' o σ H Q
section
variable {X : Cx} {e : Expr} {d : DE} {t : DB}
theorem okts_0 : OkTs X [] kTrue := fun es es' b h => by
  cases h
  exact ⟨fun pins s σ H Q I ⟨c, ts, tv, k, r, ad, q⟩ => pts_nil.run pins s σ H Q I (q H nofun r)⟩
theorem okts_1 (h : OkT X false e t) : OkTs X [e] t := fun es es' b q => pts_one (h _ _ _ q).1
theorem OkTs.gen {l : List Expr} (h : OkTs X l t) : PTs X l (tTest X.K t) := ⟨fun pins s σ H Q I ⟨es, es', b, e, q⟩ => (h es es' b e).run pins s σ H Q I q⟩
theorem Ok.gen (h : Ok X false e d) : PE X e (tElt X.K d) := ⟨fun pins s σ H Q I ⟨es, es', o, e, q⟩ => (h es es' o e).1.run pins s σ H Q I q⟩
end
section
variable {X : Cx} {elt tg iter : Expr} {ifs : List Expr} {scope : Scope} {pos p : Pos} {own : List (Str × Nat)} {di : DL} {dt : DB} {de : DE} {T : Tg}
/-- the core: what a comprehension answers -/
theorem comp_t {es es' : List SE} {o : TO} {K : PySem.W.Frag} {vs : List Nat} {wi : TI} (q : kComp vs T di dt de es = some (es', o)) (hT : tgIn vs T = true) (h0 : vs.contains 0 = false)
    (hwi : ∀ (es es' : List SE) (ds : List PyData), di es = some (es', ds) → ∀ σ H R, tI K es es' ds σ H R → wi σ H R)
    {σ : L2.St} {H : Hp} {Q : VK} {c : Ct} {ts : List TO} {tv : List V} (hk : c.K = K) (ad : AllD ts) (r : Rl c ts tv es σ H) (k : ∀ v H', Rl c (o :: ts) (v :: tv) es' σ H' → Q v H') :
    tLc wi (gOf K T) (tTest K dt) (tElt K de) vs σ H Q := by
  have fx := c.fix0
  obtain ⟨⟨es1, ds⟩, h1, q⟩ := bind_some q
  obtain ⟨⟨es2, xs⟩, h2, q⟩ := map_some q
  cases q
  have hf : ∀ p ∈ c.fix, p.1 ∉ vs := fun p hp z => by
    rw [fx p hp] at z
    rw [List.contains_iff_mem.mpr z] at h0
    cases h0
  refine hwi _ _ _ h1 _ _ _ ⟨c, ts, tv, hk, ad, r, fun J H1 oi vi ao jo r1 => ?_⟩
  intro D hD
  have r2 : Rl c (oi :: .w (.l []) :: ts) (vi :: .ref D :: tv) (wz vs es1) σ (upd H1 D (.lst [])) := Rl.sw ((r1.newL (vs := []) (ds := []) hD fun _ _ _ => .nil).wz rfl (fun _ _ => rfl) hf)
  refine ⟨fun i m H => m = ds.length - i ∧ i ≤ ds.length ∧ ∃ es3 acc, compL vs T dt de (ds.drop i) es3 acc = some (es2, xs) ∧ Rl c (oi :: .w (.l acc) :: ts) (vi :: .ref D :: tv) es3 σ H, ⟨ds.length, rfl, Nat.zero_le _, _, [], h2, r2⟩, ?_⟩
  rintro i m H ⟨rfl, hi, es3, acc, q3, r3⟩
  obtain ⟨j1, j2, j3⟩ := jo c _ _ es3 σ H hk r3
  by_cases hlt : i < ds.length
  · refine .inr ⟨j1 i hlt, fun H' => i + 1 ≤ ds.length ∧ ∃ es3 acc, compL vs T dt de (ds.drop (i + 1)) es3 acc = some (es2, xs) ∧ Rl c (oi :: .w (.l acc) :: ts) (vi :: .ref D :: tv) es3 σ H', fun H' n => ⟨_, by omega, rfl, n⟩, fun x H' y => ?_⟩
    have hd : ds.drop i = ds[i] :: ds.drop (i + 1) := List.drop_eq_getElem_cons hlt
    rw [hd] at q3
    obtain ⟨es4, t1, q4⟩ := bind_some q3
    obtain ⟨⟨es5, b⟩, t2, q5⟩ := bind_some q4
    have r4 := j3 i ds[i] x H' (by simp [hlt]) y
    have r5 : Rl c (Wk.D ds[i] :: oi :: .w (.l acc) :: ts) (x :: vi :: .ref D :: tv) (wz vs es3) (wipe σ vs) H' := r4.wz (wipe_length _ _) (fun i hi => wipe_out hi) hf
    have fxc : Fx true c := ⟨fx, nofun⟩
    have fx0 : ∀ {T : Tg} {es6 : List SE}, tgIn vs T = true → tgS false T ds[i] (wz vs es3) = some es6 → tgS true T ds[i] (wz vs es3) = some es6 := fun {T es6} hT t1 => by
      have ne : ∀ j, vs.contains j = true → (!true || decide (j ≠ 0)) = true := fun j hj => by
        have : j ≠ 0 := fun e => by rw [e, h0] at hj; cases hj
        simpa using this
      have all : ∀ {n : Nat} {is : List Nat}, is.all (fun i => vs.contains i) = true → allIn n false is = true → allIn n true is = true := fun {n is} a b => by
        unfold allIn at b ⊢
        rw [List.all_eq_true] at a b ⊢
        intro j hj
        have b' := b j hj
        rw [Bool.and_eq_true] at b' ⊢
        exact ⟨b'.1, ne j (a j hj)⟩
      cases T with
      | n i =>
        obtain ⟨z1, z2⟩ := if_some t1
        have : [i].all (fun i => vs.contains i) = true := by simpa [tgIn] using hT
        exact (if_pos (all this z1)).trans z2
      | t is =>
        unfold tgS at t1 ⊢
        split at t1
        · rename_i e; cases e
        · rename_i is' ds' e1 e2
          cases e1
          obtain ⟨z1, z2⟩ := if_some t1
          exact (if_pos ⟨z1.1, all hT z1.2⟩).trans z2
        · cases t1
    refine tg_ok hk fxc r5 (fx0 hT t1) fun σ2 is vals e2 his r6 => ?_
    have out : ∀ j, j ∉ vs → σ2[j]? = σ[j]? := fun j hj => by
      rw [e2, setSt_out fun hin => ?_, wipe_out hj]
      obtain ⟨n, z | z⟩ := his j hin
      · obtain ⟨z1, z2⟩ := z
        rw [z1] at hT
        exact hj (by rw [z2]; simpa [tgIn] using hT)
      · obtain ⟨l, z1, z2⟩ := z
        rw [z1] at hT
        have := List.all_eq_true.mp hT j z2
        exact hj (by simpa using this)
    have len2 : σ2.length = σ.length := by rw [e2, setSt_len, wipe_length]
    refine ⟨wipe_eq len2 out, es4, es5, b, t2, c, _, _, hk, r6, fun _ => ao.cons (show AllD (.w (.l acc) :: ts) from ad), fun H3 _ r7 => ?_⟩
    have back : ∀ {os : List TO} {ov : List V} {es : List SE} {H : Hp}, Rl c os ov es σ2 H → Rl c os ov (wz vs es) σ H := fun r => r.wz len2.symm (fun j hj => (out j hj).symm) hf
    cases b with
    | false =>
      (try dsimp only); rw [if_neg Bool.false_ne_true]
      exact ⟨hlt, _, _, q5, back r7⟩
    | true =>
      (try dsimp only); rw [if_pos rfl]
      obtain ⟨⟨es6, o6⟩, t3, q6⟩ := bind_some q5
      obtain ⟨z1, q7⟩ := if_some q6
      refine ⟨es5, es6, o6, t3, c, _, _, hk, r7, fun _ => ao.cons (show AllD (.w (.l acc) :: ts) from ad), fun v8 H8 _ r8 => ?_⟩
      obtain ⟨acc', hp, hl, r9⟩ := r8.sw3.tapp z1.1 (ao.cons ad)
      exact ⟨acc', hp, by rw [hl]; exact z1.2, hlt, _, _, q7, back r9.sw⟩
  · have e : i = ds.length := by omega
    subst e
    rw [List.drop_length] at q3
    cases q3
    exact .inl ⟨j2, k _ _ r3.pop⟩

theorem kComp_o {vs : List Nat} {es es' : List SE} {o : TO} (q : kComp vs T di dt de es = some (es', o)) : ∃ xs, o = .w (.l xs) := by
  obtain ⟨⟨es1, ds⟩, h1, q⟩ := bind_some q
  obtain ⟨⟨es2, xs⟩, h2, q⟩ := map_some q
  cases q
  exact ⟨xs, rfl⟩
theorem di_gen {K : PySem.W.Frag} (hi : OkI X tg iter di) : PI X tg iter (fun σ H R => ∃ (es es' : List SE) (ds : List PyData), di es = some (es', ds) ∧ tI X.K es es' ds σ H R) := ⟨fun pins s σ H R I ⟨es, es', ds, e, q⟩ => (hi es es' ds e).run pins s σ H R I q⟩
/-- a comprehension as a value; zf: slot 0 is not one of its own names -/
theorem ok_comp (G : Gd X) (hi : OkI X tg iter di) (ok : BlkOk X.N X.env.scope scope own)
    (hg : ∀ (s : Shared) (H : Hp) (C : Addr) (cl : List (Str × Addr)) (fp : List Addr), PG (X.blk s H scope (compEnvC scope cl C X.env) fp) tg (gOf X.K T))
    (ht : ∀ (s : Shared) (H : Hp) (C : Addr) (cl : List (Str × Addr)) (fp : List Addr), OkTs (X.blk s H scope (compEnvC scope cl C X.env) fp) ifs dt)
    (he : ∀ (s : Shared) (H : Hp) (C : Addr) (cl : List (Str × Addr)) (fp : List Addr), Ok (X.blk s H scope (compEnvC scope cl C X.env) fp) false elt de)
    (hT : tgIn (own.map (·.2)) T = true := by rfl) (h0 : (own.map (·.2)).contains 0 = false := by rfl) (hs : ∀ x, foldedSetIterable iter X.env x = pure x := by intro _; rfl) :
    Ok X false (.ListComp elt [⟨tg, iter, ifs, 0⟩] scope pos) (kComp (own.map (·.2)) T di dt de) := fun es es' o q => by
  refine ⟨pe_w (pe_lc G.calm G.nd (di_gen (K := X.K) hi) ok hg (fun s H C cl fp => show PTs _ _ (tTest X.K dt) from (ht s H C cl fp).gen) (fun s H C cl fp => show PE _ _ (tElt X.K de) from (he s H C cl fp).gen) hs) fun σ H Q ⟨c, ts, tv, hk, r, ad, k⟩ => ?_, nofun⟩
  exact comp_t q hT h0 (fun es es' ds e σ H R w => ⟨es, es', ds, e, w⟩) hk (ad rfl) r fun v H' r' => k v H' nofun r'
/-- name = [..] on one line, the name a plain local -/
theorem oks_setComp {fx : Bool} {y : Str} {py spos : Pos} (i : Nat) (G : Gd X) (hi : OkI X tg iter di) (ok : BlkOk X.N X.env.scope scope own)
    (hg : ∀ (s : Shared) (H : Hp) (C : Addr) (cl : List (Str × Addr)) (fp : List Addr), PG (X.blk s H scope (compEnvC scope cl C X.env) fp) tg (gOf X.K T))
    (ht : ∀ (s : Shared) (H : Hp) (C : Addr) (cl : List (Str × Addr)) (fp : List Addr), OkTs (X.blk s H scope (compEnvC scope cl C X.env) fp) ifs dt)
    (he : ∀ (s : Shared) (H : Hp) (C : Addr) (cl : List (Str × Addr)) (fp : List Addr), Ok (X.blk s H scope (compEnvC scope cl C X.env) fp) false elt de)
    (hT : tgIn (own.map (·.2)) T = true := by rfl) (h0 : (own.map (·.2)).contains 0 = false := by rfl)
    (hy : X.N[i]? = some y := by rfl) (hyl : X.env.scope.names.lookup y = some .local := by rfl) (hfx : (!fx || decide (i ≠ 0)) = true := by rfl)
    (hsw : swapsWith (.ListComp elt [⟨tg, iter, ifs, 0⟩] scope pos) (some (.Name y py)) spos.line X.env = pure true := by exact sw_true rfl rfl rfl rfl) (hs : ∀ x, foldedSetIterable iter X.env x = pure x := by intro _; rfl) :
    OkS X fx (.Assign [.Name y py] (.ListComp elt [⟨tg, iter, ifs, 0⟩] scope pos) spos) (oSet i (kComp (own.map (·.2)) T di dt de)) := fun es oc q => by
  obtain ⟨⟨es1, o⟩, h1, q⟩ := bind_some q
  obtain ⟨h2, q⟩ := if_some q
  cases q
  refine ps_w (ps_setLc G.calm G.nd hy hyl hsw (di_gen (K := X.K) hi) ok hg (fun s H C cl fp => show PTs _ _ (tTest X.K dt) from (ht s H C cl fp).gen) (fun s H C cl fp => show PE _ _ (tElt X.K de) from (he s H C cl fp).gen) hs)
    fun D σ H ⟨c, ts, tv, hk, f, ad, r, k⟩ => ?_
  exact comp_t h1 hT h0 (fun es es' ds e σ H R w => ⟨es, es', ds, e, w⟩) hk ad r fun v H' r' => k _ _ (r'.move h2 (f.ne hfx))
end
end Wk

/-! Wk14 -/
set_option Elab.async false
set_option linter.all false
set_option maxRecDepth 100000
set_option maxHeartbeats 4000000
/-! Wk14: a def's contract from its body's reading; the law's end -/
namespace Wk
open PySem PySem.Spec PyProof.Rows L2

theorem FnG.ofD {CX : CXT} {P : Program} {w : World} {K : PySem.W.Frag} {mg : Str → Option Value} {base : Heap} {k : Nat} {f : Addr} {x qual : Str} {params : Arguments} {body : List Stmt} {scope : Scope} {dvs : List V} {kws : List (Str × V)} {fd : FuncData} {N ps : List Str} {sp : Sp}
    (F : FunD K x qual params body scope dvs kws f fd) (S : FnScope N ps scope) (len : ∀ vs H Q E, sp vs H Q E → vs.length = ps.length)
    (hbody : ∀ (cdv : Value) (A : Around) (outer : List Env) (s : Shared) (H : Hp) (vs : List V) (Q : VK) (E : XK), Room k (A.deeper (envOfC qual scope s.heap.objs.size f cdv)) → A.guards = some [] → sp vs H Q E →
      ∃ t, PSs (cxOf CX P w K mg base N qual scope f cdv A outer s H E) body t ∧ t { nx := fun _ H' => Q .non H', rt := Q } (start N vs) H) :
    FnG P w K mg base CX (k + 1) f fd ps sp := by
  obtain ⟨oc, od, dV, kV, doc, pm, an, cdv, ct, osl, rfl, lk, hcd, _, _⟩ := F.ex
  refine ⟨len, ?_⟩
  intro A outer s H g us vs Q E hr hgd e0 hb r hsp
  have KX : K.In s.heap := e0.mod.kin.keeps fun b o e => (e0.bs b o e).1
  have lim : s.heap.NoLimit := e0.mod.nolimit.keeps fun b o e => (e0.bs b o e).1
  have cells : ∀ y ∈ ps.zip us, scope.names.lookup y.1 = some .local ∨ (scope.names.lookup y.1 = some .cell ∧ ((cellsFrom (s.heap.objs.size + 1) scope.names []).lookup y.1).isSome = true) := by
    rintro ⟨n, v⟩ hy
    exact (S.par n (List.of_mem_zip hy).1).imp id fun q => ⟨q, PySem.W.cellsFrom_some _ _ _ (.inl q)⟩
  refine codeAny_call_function hr.depth (KX _ _ lk) rfl S.co S.gen rfl (PySem.W.codeRec_of KX hcd) (hb _ _ _ _ ?_)
  refine wpAny_newFunctionEnv_cells S.kind cells ?_
  intro env he s1 xc
  subst he
  refine ⟨lim.keeps xc.toInCall.keep, codeAny_func ?_⟩
  obtain ⟨t, ht, hq⟩ := hbody cdv A outer s H vs Q E (hr.deeper _) hgd hsp
  have I := inv_start (CX := CX) (E := E) S hr.hd e0 (len _ _ _ _ hsp) r xc
  refine wpAny_mono (ht.run [] s1 (start N vs) H _ I hq) ?_ fun _ _ z => z
  intro fl s' hs
  match fl, hs with
  | .ret u, ⟨v, σ', H', J, rv, q⟩ => exact ⟨v, H', J.os, J.bare, J.base, J.hok, rv, q⟩
  | .next, ⟨σ', H', J, q⟩ => exact ⟨.non, H', J.os, J.bare, J.base, J.hok, rfl, q⟩
  | .brk, ⟨_, _, _, q⟩ => exact q.elim
  | .cont, ⟨_, _, _, q⟩ => exact q.elim

section
variable {c : Ct} {ts : List TO} {tv : List V} {es : List SE} {σ : L2.St} {H : Hp}
theorem Sl.pad {M : Addr → Prop} (m : Nat) : ∀ {es : List SE} {σ : L2.St} {as : List Addr}, Sl c M H es σ as → Sl c M H (es ++ List.replicate m .z) (σ ++ List.replicate m none) as
  | _, _, _, .nil => by
    induction m with
    | zero => exact .nil
    | succ m ih =>
      rw [List.replicate_succ, List.replicate_succ]
      exact Sl.cons (as := []) (e := .z) rfl ih
  | _, _, _, .cons a l => by
    rw [List.cons_append, List.cons_append]
    exact .cons a (Sl.pad m l)
theorem Rl.pad (m : Nat) (r : Rl c ts tv es σ H) : Rl c ts tv (es ++ List.replicate m .z) (σ ++ List.replicate m none) H := by
  obtain ⟨as, bs, a⟩ := r
  refine ⟨as, bs, a.nd, a.sl.pad m, a.tm, a.keep, a.av, fun p hp => ?_⟩
  have h := a.fix p hp
  rw [List.getElem?_append_left (List.getElem?_eq_some_iff.mp h).1]
  exact h
end
@[simp] def padS (n : Nat) (es : List SE) : List SE := es ++ List.replicate (n - es.length) .z
theorem Rl.start {c : Ct} {ts : List TO} {tv : List V} {es : List SE} {H : Hp} {N : List Str} {vs : List V} (r : Rl c ts tv es (vs.map some) H) : Rl c ts tv (padS N.length es) (start N vs) H := by
  have h := r.pad (N.length - vs.length)
  have e : es.length = vs.length := by rw [r.len, List.length_map]
  unfold padS
  rw [e]
  exact h
/-- what the body's reading answers -/
@[simp] def semEnd : Option Oc → Option TO
  | some (.rt o _) => if adB o then some o else none
  | some (.nx _) => some (D .none)
  | _ => none
@[simp] def semOf (n : Nat) (b : DS) (ds : List PyData) : Option TO := semEnd (b (padS n (dS ds)))
@[simp] def semOfF (n : Nat) (b : DS) (ns : List Int) : Option TO := semEnd (b (padS n [.s false (.f ns)]))
@[simp] def semEnd1 : Option Oc → Option (OT × TO)
  | some (.rt o es) => match gt es 0 with
    | .s true t => if adB o then some (t, o) else none
    | _ => none
  | some (.nx es) => match gt es 0 with
    | .s true t => some (t, D .none)
    | _ => none
  | _ => none
@[simp] def semOf1 (n : Nat) (b : DS) (t : OT) (ds : List PyData) : Option (OT × TO) := semEnd1 (b (padS n (.s true t :: dS ds)))
theorem semEnd_ad {x : Option Oc} {o : TO} (h : semEnd x = some o) : adB o = true := by
  unfold semEnd at h
  split at h
  · obtain ⟨h1, h⟩ := if_some h
    cases h
    exact h1
  · cases h; rfl
  · cases h
theorem semOf_ad {n : Nat} {b : DS} (ds : List PyData) (o : TO) (h : semOf n b ds = some o) : adB o = true := semEnd_ad h
theorem semOf1_ad {n : Nat} {b : DS} (t : OT) (ds : List PyData) (t' : OT) (o : TO) (h : semOf1 n b t ds = some (t', o)) : adB o = true := by
  unfold semOf1 semEnd1 at h
  split at h
  · split at h
    · obtain ⟨h1, h⟩ := if_some h
      cases h
      exact h1
    · cases h
  · split at h
    · cases h; rfl
    · cases h
  · cases h
theorem gt0 {es : List SE} {t : OT} (h : gt es 0 = .s true t) : ∃ es', es = .s true t :: es' := by
  cases es with
  | nil => cases h
  | cons e r => exact ⟨r, by rw [show e = .s true t from h]⟩
section
variable {P : Program} {w : World} {K : PySem.W.Frag} {mg : Str → Option Value} {base : Heap} {k : Nat} {f : Addr} {x qual : Str} {params : Arguments} {body : List Stmt} {scope : Scope} {dvs : List V} {kws : List (Str × V)} {fd : FuncData} {N ps : List Str} {n : Nat} {d : DS}
/-- the context of the body's run -/
abbrev cx (P : Program) (w : World) (K : PySem.W.Frag) (mg : Str → Option Value) (base : Heap) (N : List Str) (qual : Str) (scope : Scope) (f : Addr) (cdv : Value) (A : Around) (outer : List Env) (s : Shared) (H : Hp) (E : XK) : Cx :=
  (cxOf CX0 P w K mg base N qual scope f cdv A outer s H E).nox
structure Bd (k : Nat) (X : Cx) : Prop extends Gd X where
  room : Room k X.A
theorem bd_of {cdv : Value} {A : Around} {outer : List Env} {s : Shared} {H : Hp} {E : XK} (S : FnScope N ps scope) (hr : Room k (A.deeper (envOfC qual scope s.heap.objs.size f cdv))) (hg : A.guards = some []) : Bd k (cx P w K mg base N qual scope f cdv A outer s H E) :=
  { calm := rfl, nd := S.nd, units := by have := hr.un; show A.units + 3 + 65 < _; have h2 : A.units + 3 + 16 * k + 200 < cLine := this; omega, guards := hg, pass := PassesOwn.never, room := hr }
/-- what is to be shown of a def's body: in every context of its run, rules over the callees hold -/
def BodyOk (P : Program) (w : World) (K : PySem.W.Frag) (mg : Str → Option Value) (base : Heap) (N : List Str) (qual : Str) (scope : Scope) (body : List Stmt) (k : Nat) (fx : Bool) (d : DS) : Prop :=
  ∀ (f : Addr) (cdv : Value) (A : Around) (outer : List Env) (s : Shared) (H : Hp) (E : XK), Bd k (cx P w K mg base N qual scope f cdv A outer s H E) → OkSs (cx P w K mg base N qual scope f cdv A outer s H E) fx body d
theorem fn_S (F : FunD K x qual params body scope dvs kws f fd) (S : FnScope N ps scope) (hn : ps.length = n) (ok : BodyOk P w K mg base N qual scope body k false d) : FnG P w K mg base CX0 (k + 1) f fd ps (Sf K n (semOf N.length d)) := by
  refine FnG.ofD F S (fun vs H Q E h => ?_) fun cdv A outer s H vs Q E hr hg h => ?_
  · obtain ⟨c, ds, o, _, _, _, _, _, h, _⟩ := h
    rw [h, hn]
  · obtain ⟨c, ds, o, hk, hR, ho, hf, h1, h2, r, q⟩ := h
    have B := bd_of (P := P) (w := w) (K := K) (mg := mg) (base := base) (outer := outer) (H := H) (E := E) S hr hg
    have hR' : semEnd (d (padS N.length (dS ds))) = some o := hR
    cases e : d (padS N.length (dS ds)) with
    | none => rw [e] at hR'; cases hR'
    | some oc =>
      rw [e] at hR'
      refine ⟨_, PSs.nox (ok f cdv A outer s H E B _ oc e), c, [], [], hk, ⟨c.fix0, fun _ => hf⟩, trivial, r.start, ?_⟩
      cases oc with
      | nx es' =>
        cases hR'
        exact fun σ' H' r' => q _ _ _ _ r'.non
      | bk es' => cases hR'
      | ct es' => cases hR'
      | rt o' es' =>
        obtain ⟨z, hR'⟩ := if_some hR'
        cases hR'
        exact fun v σ' H' r' => q _ _ _ _ r'
theorem fn_F (F : FunD K x qual params body scope dvs kws f fd) (S : FnScope N ps scope) (hn : ps.length = 1) (ok : BodyOk P w K mg base N qual scope body k false d) : FnG P w K mg base CX0 (k + 1) f fd ps (SfF K (semOfF N.length d)) := by
  refine FnG.ofD F S (fun vs H Q E h => ?_) fun cdv A outer s H vs Q E hr hg h => ?_
  · obtain ⟨c, v, ns, o, _, h, _⟩ := h
    rw [h, hn]; rfl
  · obtain ⟨c, v, ns, o, hk, rfl, hR, ho, hf, r, q⟩ := h
    have B := bd_of (P := P) (w := w) (K := K) (mg := mg) (base := base) (outer := outer) (H := H) (E := E) S hr hg
    have hR' : semEnd (d (padS N.length [.s false (.f ns)])) = some o := hR
    cases e : d (padS N.length [.s false (.f ns)]) with
    | none => rw [e] at hR'; cases hR'
    | some oc =>
      rw [e] at hR'
      refine ⟨_, PSs.nox (ok f cdv A outer s H E B _ oc e), c, [], [], hk, ⟨c.fix0, fun _ => hf⟩, trivial, Rl.start (vs := [v]) r, ?_⟩
      cases oc with
      | nx es' =>
        cases hR'
        exact fun σ' H' r' => q _ _ _ _ r'.non
      | bk es' => cases hR'
      | ct es' => cases hR'
      | rt o' es' =>
        obtain ⟨z, hR'⟩ := if_some hR'
        cases hR'
        exact fun v σ' H' r' => q _ _ _ _ r'
theorem fn_1 (F : FunD K x qual params body scope dvs kws f fd) (S : FnScope N ps scope) (hn : ps.length = n + 1) (ok : BodyOk P w K mg base N qual scope body k true d) : FnG P w K mg base CX0 (k + 1) f fd ps (Sf1 K n (semOf1 N.length d)) := by
  refine FnG.ofD F S (fun vs H Q E h => ?_) fun cdv A outer s H vs Q E hr hg h => ?_
  · obtain ⟨c, v0, us, t, ds, t', o, _, rfl, _, _, _, _, h, _⟩ := h
    rw [hn, ← h]; rfl
  · obtain ⟨c, v0, us, t, ds, t', o, hk, rfl, hR, ho, hf, h1, h2, r, q⟩ := h
    have B := bd_of (P := P) (w := w) (K := K) (mg := mg) (base := base) (outer := outer) (H := H) (E := E) S hr hg
    have hR' : semEnd1 (d (padS N.length (.s true t :: dS ds))) = some (t', o) := hR
    have back : ∀ {os : List TO} {ov : List V} {es' : List SE} {σ' : L2.St} {H' : Hp}, gt es' 0 = .s true t' → Rl c os ov es' σ' H' → ∃ es'' ws, Rl c os ov (.s true t' :: es'') (some v0 :: ws) H' := fun {os ov es' σ' H'} g r => by
      obtain ⟨es'', rfl⟩ := gt0 g
      have f := (let ⟨_, _, a⟩ := r; a.fix) (0, v0) (by rw [hf]; exact List.mem_cons_self)
      cases σ' with
      | nil => cases f
      | cons y ws =>
        have : y = some v0 := by simpa using f
        subst this
        exact ⟨es'', ws, r⟩
    cases e : d (padS N.length (.s true t :: dS ds)) with
    | none => rw [e] at hR'; cases hR'
    | some oc =>
      rw [e] at hR'
      refine ⟨_, PSs.nox (ok f cdv A outer s H E B _ oc e), c, [], [], hk, ⟨c.fix0, nofun⟩, trivial, Rl.start (vs := v0 :: us) r, ?_⟩
      cases oc with
      | nx es' =>
        unfold semEnd1 at hR'
        dsimp only at hR'
        split at hR'
        · rename_i g
          cases hR'
          intro σ' H' r'
          obtain ⟨es'', ws, r2⟩ := back g r'
          exact q _ _ _ _ r2.non
        · cases hR'
      | bk es' => cases hR'
      | ct es' => cases hR'
      | rt o' es' =>
        unfold semEnd1 at hR'
        dsimp only at hR'
        split at hR'
        · rename_i g
          obtain ⟨z, hR'⟩ := if_some hR'
          cases hR'
          intro v σ' H' r'
          obtain ⟨es'', ws, r2⟩ := back g r'
          exact q _ _ _ _ r2
        · cases hR'
end
/-- the law's end over a head by facts -/
theorem walk_gE {l : PySem.W.OpenLaw} {n k : Nat} {q : Program} {loose : List Str} {XP : (Str → Option Value) → Heap → Prop} {YP : World → Heap → Prop} {d : DefRec} {x : Str} {sem : List Int → Option TO}
    (hn : l.most = some n) (hn2 : n ≤ sizeLine) (hdf : d.params.defaults = []) (hr : Room k callerA)
    (F : ∀ (w : World) (mg : Str → Option Value) (fa : Addr) (h : Heap), YP w h → h.Ns mainGlobals mg → mg d.name = some (.ref fa) →
      ∃ (K : PySem.W.Frag) (fd : FuncData), K.In h ∧ (∀ (s : Shared) (u : Value), BindsTo s fd ⟨[u], []⟩ [(x, u)]) ∧
        ∀ base : Heap, K.In base → base.Ns mainGlobals mg → FnG l.prog w K mg base CX0 k fa fd [x] (SfF K sem))
    (hsem : ∀ ns : List Int, ns.length ≤ n → sem ns = some (B true)) :
    PySem.W.WalkO q loose XP YP l.row.toRowW d [] (fun f vs => PySem.call f vs) := by
  refine Att.attach_call hn hdf fun w s₀ s₁ mg mb fa o pm cd doc a vs ns G Y ho hd hcd hmg hobj hints hlen hg => ?_
  obtain ⟨K, fd, KX, hb, hF⟩ := F w mg fa _ Y G.T.g hmg
  refine law_g KX G.T.g G.T.b G.T.builtins G.T.nolimit hg hobj hints (Nat.le_trans hlen hn2) hr hF hb fun H hS => ?_
  -- the law's own context: nothing is owned
  refine ⟨⟨H, fun _ => False, fun _ => False, [], K, fun _ z => z.elim, fun _ z => nomatch z⟩, .ref a, ns, B true, rfl, rfl, hsem ns hlen, trivial, rfl, ⟨[], [], List.nodup_nil, ?_, .nil, fun _ _ e _ => e, fun _ z => z.elim, fun _ z => nomatch z⟩, fun v H' es' ws r => r.vbool⟩
  exact Sl.cons (as := []) ⟨_, rfl, .f (hS.imp (fun z => ⟨z, fun m => m.elim id (fun m => nomatch m)⟩) id), fun _ z => absurd z (by simp)⟩ .nil
end Wk

/-! Wk15 -/
set_option Elab.async false
set_option linter.all false
set_option maxRecDepth 100000
set_option maxHeartbeats 4000000
/-! Wk15: list(reversed(l)), list(range(n)), slices -/
namespace RT
open PySem PySem.Spec PyProof.Rows L2
open Sem (wp)
section
variable {prog : Program} {w : World} {A : Around} {E : Value → Shared → Prop} {s : Shared}
theorem wk_extend_rev {R : Result → Shared → Prop} {it l : Addr} {items : Array Value} (hh : A.handled = none) (hit : s.heap.IsRevIter it l ((items.size : Int) - 1)) (hl : s.heap.IsList l items) (hne : l ≠ it) (hn : items.size ≤ sizeLine)
    (S : Addr) (res : Value) (c₀ : Nat) (hS : s.heap.get? S = some { cls := .type "list", data := .seq #[] c₀ }) (hSi : S ≠ it) (hSl : S ≠ l)
    (hR : ∀ h' tk acc' c', (∀ b o, b ≠ S → b ≠ it → s.heap.get? b = some o → h'.get? b = some o) → h'.get? S = some { cls := .type "list", dict := none, data := .seq acc' c', slots := #[] } →
      ItemsOf (fun i v => items[items.size - 1 - i]? = some v) acc' items.size → R (.ok (.ret res)) { s with heap := h', toks := tk }) :
    wpAny (model prog w) A.in1 (Builtin.List.listExtendWith (.ref S) (.ref it) res)
      (fun fin s' => match fin with | .done f => R (.ok f) s' | .again c' => c'.quiet = true ∧ codeAny (model prog w) A c' R s') (fun e s' => R (.error e) s') s := by
  have W := (Walks.listRev (prog := prog) (w := w) (A := A.in1) hh it l hne items).toS
  have hSf : S ∉ [it, l] := by simp only [List.mem_cons, List.not_mem_nil, or_false, not_or]; exact ⟨hSi, hSl⟩
  have hT : s.TypeIs (.ref it) "list_reverseiterator" := Heap.IsRevIter.typeIs hit
  have h1 : Builtin.List.listSameRef (.ref S) (.ref it) = false := by simp [Builtin.List.listSameRef, hSi]
  unfold Builtin.List.listExtendWith
  refine wpAny_bind (wpAny_typeOf hT ?_)
  rw [if_neg (by rw [h1]; decide)]
  refine wpAny_bind (wpAny_pyIter_revIter hit ?_)
  refine wpAny_bind (wpAny_holding ?_)
  unfold Builtin.List.listLengthHint
  refine wpAny_bind (wpAny_specialOf hT nolen_lri ?_)
  show wpAny _ A.in1 (specialOf (Value.ref it) (Str.ofString "__length_hint__") >>= _) _ _ _
  refine wpAny_bind (wpAny_specialOf hT hint_lri ?_)
  generalize hid : ("list_reverseiterator.__length_hint__" : String) = id0
  wp_delta
  rw [show splitId id0 = some ("list_reverseiterator", "__length_hint__") from by subst hid; decide +kernel]
  subst hid
  refine wpAny_bind (wpAny_isInstance (b := true) hT (by rw [isSubtype_type]; kernel_rfl) ?_)
  refine wpAny_pure ?_
  rw [if_neg (by decide)]
  have e0 : ((items.size : Nat) : Int) - 1 - ((0 : Nat) : Int) = (items.size : Int) - 1 := by omega
  refine wpAny_pure ⟨plainId_quiet F.plain_extend_loop _, codeAny_extend_loopS W hn _ hSf _ items.size 0 _ _ _ rfl (Nat.zero_le _) ⟨Nat.zero_le _, by rw [e0]; exact hit, hl⟩ hS (ItemsOf.nil _) fun s' acc' c' hm hS' hacc => ?_⟩
  rw [Moved.eq_with hm]
  refine hR s'.heap s'.toks acc' c' (fun b o hb hb2 e => hm.heap b o (fun hmem => ?_) e) hS' hacc
  rcases List.mem_cons.mp hmem with e' | hmem
  · exact hb e'
  · exact hb2 (List.mem_singleton.mp hmem)
theorem wk_init_rev {R : Result → Shared → Prop} {it l : Addr} {items : Array Value} (hh : A.handled = none) (hit : s.heap.IsRevIter it l ((items.size : Int) - 1)) (hl : s.heap.IsList l items) (hne : l ≠ it) (hn : items.size ≤ sizeLine)
    (S : Addr) (hS : s.heap.get? S = some { cls := .type "list", data := .seq #[] }) (hSi : S ≠ it) (hSl : S ≠ l)
    (hR : ∀ h' tk acc' c', (∀ b o, b ≠ S → b ≠ it → s.heap.get? b = some o → h'.get? b = some o) → h'.get? S = some { cls := .type "list", dict := none, data := .seq acc' c', slots := #[] } →
      ItemsOf (fun i v => items[items.size - 1 - i]? = some v) acc' items.size → R (.ok (.ret .none)) { s with heap := h', toks := tk }) :
    wpAny (model prog w) A.in1 (Builtin.«list.__init__» ⟨[.ref S, .ref it], []⟩)
      (fun fin s' => match fin with | .done f => R (.ok f) s' | .again c' => c'.quiet = true ∧ codeAny (model prog w) A c' R s') (fun e s' => R (.error e) s') s := by
  show wpAny _ _ (do let old ← Builtin.List.listItems (.ref S); Builtin.List.listUpdate (.ref S) (fun _ => #[]); letGo old.toList.reverse; Builtin.List.listExtendWith (.ref S) (.ref it) .none) _ _ s
  refine wpAny_bind ?_
  unfold Builtin.List.listItems
  refine wpAny_bind (wpAny_seqItems hS rfl (wpAny_pure ?_))
  show wpAny _ _ (updateSeq S (fun _ => #[]) >>= fun _ => letGo (#[] : Array Value).toList.reverse >>= fun _ => Builtin.List.listExtendWith (.ref S) (.ref it) .none) _ _ s
  refine wpAny_bind (wpAny_updateSeq hS rfl ?_)
  have hS₂ := Heap.get?_update_self (Obj.mapSeq (fun _ => (#[] : Array Value))) hS rfl
  have oth : ∀ b o, b ≠ S → s.heap.get? b = some o → (s.heap.update S (Obj.mapSeq (fun _ => (#[] : Array Value)))).get? b = some o :=
    fun b o hb e => (Heap.get?_update_other _ _ (Ne.symm hb)).trans e
  refine wpAny_bind (wpAny_letGo ?_)
  have hl2 : (s.heap.update S (Obj.mapSeq (fun _ => (#[] : Array Value)))).IsList l items := hl.at fun o e => oth l o (Ne.symm hSl) e
  refine wk_extend_rev hh (hit.at fun o e => oth it o (Ne.symm hSi) e) hl2 hne hn S .none _ hS₂ hSi hSl fun h' tk acc' c' hk hS' hacc => ?_
  exact hR h' tk acc' c' (fun b o hb hb2 e => hk b o hb hb2 (oth b o hb e)) hS' hacc
end
section
variable {prog : Program} {w : World} {A : Around} {E : Value → Shared → Prop} {s : Shared}
theorem call_list_rev {it l : Addr} {items : Array Value} {Q : Value → Shared → Prop} (hh : A.handled = none) (hit : s.heap.IsRevIter it l ((items.size : Int) - 1)) (hl : s.heap.IsList l items) (hne : l ≠ it) (hn : items.size ≤ sizeLine)
    (hQ : ∀ h' tk acc' c', (∀ b o, b ≠ it → s.heap.get? b = some o → h'.get? b = some o) →
      h'.get? s.heap.objs.size = some { cls := .type "list", dict := none, data := .seq acc' c', slots := #[] } → ItemsOf (fun i v => items[items.size - 1 - i]? = some v) acc' items.size → Q (.ref s.heap.objs.size) { s with heap := h', toks := tk }) :
    wpAny (model prog w) A (call (.type "list") [.ref it]) Q E s := by
  refine callType_codes (Q₁ := fun obj s₁ => obj = .ref s.heap.objs.size ∧ s₁ = { s with heap := s.heap.push { cls := .type "list", data := .seq #[] } }) F.called_list (F.typeCall_list_1 _) F.entry_list_init
    (code_list_new _ ⟨rfl, rfl⟩) fun obj s₁ h₁ => ?_
  obtain ⟨rfl, rfl⟩ := h₁
  have hS : (s.heap.push { cls := .type "list", data := .seq #[] }).get? s.heap.objs.size = some { cls := .type "list", data := .seq #[] } := Heap.get?_push_size _ rfl
  obtain ⟨oi, hoi, _⟩ := id hit
  obtain ⟨ol, hol, _⟩ := id hl
  refine ⟨⟨_, hS, rfl⟩, F.args_list_init_2 _ _, wk_init_rev (A := A.in1) hh (hit.at fun o e => Heap.get?_push_of_some _ e) (hl.push _) hne hn _ hS (Nat.ne_of_gt (Heap.lt_size hoi)) (Nat.ne_of_gt (Heap.lt_size hol)) fun h' tk acc' c' hk hS' hacc => ?_⟩
  exact ⟨rfl, hQ h' tk acc' c' (fun b o hb e => hk b o (Nat.ne_of_lt (Heap.lt_size e)) hb (Heap.get?_push_of_some _ e)) hS' hacc⟩
def tLstRev (K : PySem.W.Frag) (te : TE) : TE := fun σ H Q => te σ H fun v H1 => ∃ (a : Addr) (xs : List V), v = .ref a ∧ SqL K H1 a xs ∧ ∀ q, H1 q = none → Q (.ref q) (upd H1 q (.lst xs.reverse))
variable {X : Cx}
theorem pe_lstRev {e : Expr} {te : TE} {p p2 pos pos2 : Pos} (hc : X.calm = true) (hg : Gl X "list") (hm : X.mg "list" = none) (hg2 : Gl X "reversed") (hm2 : X.mg "reversed" = none) (he : PE X e te)
    (hs : starEach [e] X.env = (false, eval e X.env) :: starEach [] X.env := by rfl)
    (hs2 : starEach [.Call (.Name "reversed" p2) [e] [] pos2] X.env = (false, eval (.Call (.Name "reversed" p2) [e] [] pos2) X.env) :: starEach [] X.env := by rfl) :
    PE X (.Call (.Name "list" p) [.Call (.Name "reversed" p2) [e] [] pos2] [] pos) (tLstRev X.K te) := by
  refine ⟨fun pins s σ H Q I h => ?_⟩
  refine Call_ (ld_blt I hg hm boot_list (PyProof.Rows.callWith_type1 (args_cons (Call_ (ld_blt I hg2 hm2 PyProof.Rows.boot_reversed (PyProof.Rows.callWith_type1 (args_cons (thn (he.run pins s σ H _ I h) fun u s1 ⟨v, H1, I1, r1, q1⟩ => args_nil ?_) hs) hs rfl))) hs2) hs2 rfl))
  obtain ⟨a, xs, ev, hq, q⟩ := q1
  subst ev
  obtain rfl : u = Value.ref a := r1
  obtain ⟨its, rv, p', hz⟩ := I1.list hq
  refine call_reversed_list p'.isList (args_nil ?_)
  have k0 : ∀ b o, s1.heap.get? b = some o → (s1.heap.push (revObj a ((its.toArray.size : Int) - 1))).get? b = some o := fun b o e => Heap.get?_push_of_some _ e
  have I2 : Inv X pins σ H1 { s1 with heap := s1.heap.push (revObj a ((its.toArray.size : Int) - 1)) } := I1.kept (t' := s1.toks) k0
  obtain ⟨f0, f1, f2, f3, f4, f5⟩ := I1.fpOk (H' := H1) (b := s1.heap.objs.size) (Nat.le_refl _) (I1.hok.fresh (Nat.le_refl _))
  have hl := p'.isList
  obtain ⟨ol, hol, _⟩ := id hl
  have hne : a ≠ s1.heap.objs.size := Nat.ne_of_lt (Heap.lt_size hol)
  have hn : its.toArray.size ≤ sizeLine := by rw [List.size_toArray, ← rv.length]; exact hz
  refine call_list_rev (s := { s1 with heap := s1.heap.push (revObj a ((its.toArray.size : Int) - 1)) }) (I1.ok.hd hc) ⟨_, Heap.get?_push_size _ rfl, rfl, rfl⟩ (hl.push _) hne hn fun h' tk acc c' hk hS hi => ?_
  have e2 : (s1.heap.push (revObj a ((its.toArray.size : Int) - 1))).objs.size = s1.heap.objs.size + 1 := Heap.size_push _ _
  have hS' : h'.get? (s1.heap.objs.size + 1) = some { cls := .type "list", dict := none, data := .seq acc c', slots := #[] } := by rw [← e2]; exact hS
  show EP X pins σ Q (.ref (s1.heap.push (revObj a ((its.toArray.size : Int) - 1))).objs.size) { s1 with heap := h', toks := tk }
  rw [e2]
  refine ⟨.ref (s1.heap.objs.size + 1), upd H1 (s1.heap.objs.size + 1) (.lst xs.reverse), I1.laid (t' := tk) (fun b o e => hk b o (Nat.ne_of_lt (Heap.lt_size e)) (k0 b o e)) (Nat.le_succ _) (show ObjOk X.prog X.w _ _ _ (.lst xs.reverse) from ⟨by rw [List.length_reverse]; exact hz, acc.toList, c', vals_rev rv hi, ?_⟩), rfl, q _ (I1.hok.fresh (Nat.le_succ _))⟩
  rw [Array.toArray_toList]
  exact hS'
end
end RT

namespace Wk
open PySem PySem.Spec PyProof.Rows L2
@[simp] def kRev (d : DE) : DE := fun es => (d es).bind fun p => (lvO p.2).map fun ds => (p.1, .w (oL ds.reverse))
/-- list(range(a)) -/
@[simp] def kRange (d : DE) : DE := fun es => (d es).bind fun p => match p.2 with
  | .b (.d (.int i)) => if i ≤ 16777216 ∧ 0 ≤ i then some (p.1, .w (oL (ups 0 i.toNat))) else none
  | _ => none
section
variable {X : Cx} {μ : Bool} {e : Expr} {de : DE} {p p2 pos pos2 : Pos}
theorem ok_rev (G : Gd X) (hm : X.mg "list" = none) (hm2 : X.mg "reversed" = none) (h : Ok X μ e de) (hg : Gl X "list" := by rfl) (hg2 : Gl X "reversed" := by rfl)
    (hs : starEach [e] X.env = (false, eval e X.env) :: starEach [] X.env := by rfl)
    (hs2 : starEach [.Call (.Name "reversed" p2) [e] [] pos2] X.env = (false, eval (.Call (.Name "reversed" p2) [e] [] pos2) X.env) :: starEach [] X.env := by rfl) : Ok X μ (.Call (.Name "list" p) [.Call (.Name "reversed" p2) [e] [] pos2] [] pos) (kRev de) := fun es es' o q => by
  obtain ⟨⟨es1, x⟩, h1, q⟩ := bind_some q
  obtain ⟨ds, h2, q⟩ := map_some q
  cases q
  obtain ⟨a1, a2⟩ := h _ _ _ h1
  refine ⟨pe_w (RT.pe_lstRev G.calm hg hm hg2 hm2 a1 hs hs2) fun σ H Q ⟨c, ts, tv, k, r, ad, q⟩ => ⟨c, ts, tv, k, r, ad, fun v H' e1 r' => ?_⟩, a2⟩
  obtain ⟨a, vs, rfl, ha, hl, rp⟩ := r'.lv (lvO_ok h2)
  exact ⟨a, vs, rfl, .inl (.inl ha), fun x hx => q _ _ (fun z => (e1 z).tr (Ext.nw hx)) (r'.newL hx fun M as t => (rp M as t).rev).pop2⟩
theorem ok_range (G : Gd X) (hm : X.mg "list" = none) (hm2 : X.mg "range" = none) (h : Ok X μ e de) (hg : Gl X "list" := by rfl) (hg2 : Gl X "range" := by rfl)
    (hs : starEach [e] X.env = (false, eval e X.env) :: starEach [] X.env := by rfl)
    (hs2 : starEach [.Call (.Name "range" p2) [e] [] pos2] X.env = (false, eval (.Call (.Name "range" p2) [e] [] pos2) X.env) :: starEach [] X.env := by rfl) : Ok X μ (.Call (.Name "list" p) [.Call (.Name "range" p2) [e] [] pos2] [] pos) (kRange de) := fun es es' o q => by
  obtain ⟨⟨es1, x⟩, h1, q⟩ := bind_some q
  dsimp only at q
  split at q
  · rename_i i
    obtain ⟨h2, q⟩ := if_some q
    cases q
    obtain ⟨a1, a2⟩ := h _ _ _ h1
    refine ⟨pe_w (pe_listRg G.calm hg hm (prg_1 hg2 hm2 a1 hs) hs2) fun σ H Q ⟨c, ts, tv, k, r, ad, q⟩ => ⟨c, ts, tv, k, r, ad, fun v H' e1 r' => ?_⟩, a2⟩
    have hv := r'.vint
    subst hv
    refine ⟨i, rfl, RgOk.of_le (by decide) h2.1 (by decide) h2.2, fun x hx => q _ _ (fun z => (e1 z).tr (Ext.nw hx)) ?_⟩
    have := (r'.newL (vs := rgV 0 i) (ds := ups 0 i.toNat) hx fun M as t => ?_).pop2
    · exact this
    · have e : (i - 0).toNat = i.toNat := by rw [Int.sub_zero]
      unfold rgV ups
      rw [e]
      have : ∀ l : List Nat, RpL c.K M H' (l.map fun k => V.int (0 + (k : Nat))) (l.map fun (k : Nat) => PyData.int (0 + (k : Nat))) := fun l => by
        induction l with
        | nil => exact .nil
        | cons a l ih => exact .cons (.int _) ih
      exact this _
  · cases q
end
/-! ### slices -/
def cutD (ds : List PyData) (lo hi : Option Int) : List PyData := (ds.drop (HT.sIx ds.length 0 lo)).take (HT.sIx ds.length ds.length hi - HT.sIx ds.length 0 lo)
abbrev DPt := List SE → Option (Option Int)
def tP (K : PySem.W.Frag) (es : List SE) (v : Option Int) : L2.TO := fun σ H Q => ∃ c ts tv, c.K = K ∧ Rl c ts tv es σ H ∧ ∀ H', Ext H H' → Rl c ts tv es σ H' → Q v H'
def OkPt (X : Cx) (e : Option Expr) (d : DPt) : Prop := ∀ es v, d es = some v → PO X e (tP X.K es v)
@[simp] def pNo : DPt := fun _ => some none
@[simp] def pAt (d : DE) : DPt := fun es => (d es).bind fun p => match p.2 with
  | .b (.d (.int i)) => some (some i)
  | _ => none
@[simp] def kSl (d : DE) (lo hi : DPt) : DE := fun es => (d es).bind fun p => (lo p.1).bind fun l => (hi p.1).bind fun h => match p.2 with
  | .b (.d (.tuple ds)) => some (p.1, D (.tuple (cutD ds l h)))
  | .b (.f ns) => some (p.1, .w (oL (cutD (ns.map .int) l h)))
  | o => (lvO o).map fun ds => (p.1, .w (oL (cutD ds l h)))
section
variable {X : Cx} {μ : Bool} {e : Expr} {lo hi : Option Expr} {de : DE} {dl dh : DPt} {p2 pos : Pos}
theorem po_w {t t' : L2.TO} (h : PO X lo t) (k : ∀ σ H Q, t' σ H Q → t σ H Q) : PO X lo t' := ⟨fun pins s σ H Q i q => h.run pins s σ H Q i (k σ H Q q)⟩
theorem okp_no : OkPt X none pNo := fun es v h => by
  cases h
  exact po_w po_none fun σ H Q ⟨c, ts, tv, k, r, q⟩ => q H Ext.rfl r
theorem okp_at (h : Ok X true e de) : OkPt X (some e) (pAt de) := fun es v q => by
  obtain ⟨⟨es1, x⟩, h1, q⟩ := bind_some q
  dsimp only at q
  split at q
  · cases q
    obtain ⟨a1, a2⟩ := h _ _ _ h1
    cases a2 rfl
    refine po_w (po_some a1) fun σ H Q ⟨c, ts, tv, k, r, q⟩ => ⟨c, ts, tv, k, r, nofun, fun v H' e1 r' => ⟨_, r'.vint, q H' (e1 rfl) r'.pop⟩⟩
  · cases q
theorem cut_rp {K : PySem.W.Frag} {M : Addr → Prop} {H : Hp} {vs : List V} {ds : List PyData} (l : RpL K M H vs ds) (a b : Option Int) : RpL K M H (cutV vs a b) (cutD ds a b) := by
  unfold cutV cutD
  rw [l.len]
  exact (l.drop _).take _
theorem RpL.ofNs {K : PySem.W.Frag} {M : Addr → Prop} {H : Hp} : ∀ ns : List Int, RpL K M H (ns.map V.int) (ns.map .int)
  | [] => .nil
  | _ :: r => .cons (.int _) (RpL.ofNs r)
theorem ok_sl (h : Ok X μ e de) (hl : OkPt X lo dl) (hh : OkPt X hi dh) : Ok X μ (.Subscript e (.Slice lo hi none p2) pos) (kSl de dl dh) := fun es es' o q => by
  obtain ⟨⟨es1, x⟩, h1, qa⟩ := bind_some q
  obtain ⟨l, h2, qb⟩ := bind_some qa
  obtain ⟨u, h3, qc⟩ := bind_some qb
  obtain ⟨a1, a2⟩ := h _ _ _ h1
  have l1 := hl _ _ h2
  have u1 := hh _ _ h3
  dsimp only at qc
  split at qc
  · rename_i ds
    cases qc
    refine ⟨pe_w (pe_slice sl_tupA a1 l1 u1) fun σ H Q ⟨c, ts, tv, k, r, ad, q⟩ => ⟨c, ts, tv, k, r, ad, fun v H' e1 r' => ⟨c, _, _, k, r', fun H2 e2 r2 => ⟨c, _, _, k, r2, fun H3 e3 r3 => ?_⟩⟩⟩, a2⟩
    obtain ⟨a, vs, rfl, ha, hl, rp⟩ := r3.tup
    have e4 : μ = true → Ext H H3 := fun z => (e1 z).tr (e2.tr e3)
    refine ⟨a, vs, rfl, .inl ha, fun w => ?_, fun w x hx => ?_⟩
    · refine q _ _ e4 ?_
      have ec : cutD ds l u = ds := by
        unfold cutD
        rw [← hl, w.1, w.2, List.drop_zero, Nat.sub_zero, hl, List.take_length]
      rw [ec]
      exact r3
    · exact q _ _ (fun z => (e4 z).tr (Ext.nw hx)) (r3.newT hx fun M as t => cut_rp (rp M as t) l u).pop2
  · rename_i ns
    cases qc
    refine ⟨pe_w (pe_slice sl_list a1 l1 u1) fun σ H Q ⟨c, ts, tv, k, r, ad, q⟩ => ⟨c, ts, tv, k, r, ad, fun v H' e1 r' => ⟨c, _, _, k, r', fun H2 e2 r2 => ⟨c, _, _, k, r2, fun H3 e3 r3 => ?_⟩⟩⟩, a2⟩
    have e4 : μ = true → Ext H H3 := fun z => (e1 z).tr (e2.tr e3)
    obtain ⟨M, b⟩ := r3.top
    cases b with
    | f b =>
      exact ⟨_, ns.map V.int, rfl, (by rw [← k]; exact b.sq), fun x hx => q _ _ (fun z => (e4 z).tr (Ext.nw hx)) (r3.newL hx fun M as t => cut_rp (RpL.ofNs ns) l u).pop2⟩
  · obtain ⟨ds, h4, qd⟩ := map_some qc
    cases qd
    refine ⟨pe_w (pe_slice sl_list a1 l1 u1) fun σ H Q ⟨c, ts, tv, k, r, ad, q⟩ => ⟨c, ts, tv, k, r, ad, fun v H' e1 r' => ⟨c, _, _, k, r', fun H2 e2 r2 => ⟨c, _, _, k, r2, fun H3 e3 r3 => ?_⟩⟩⟩, a2⟩
    have e4 : μ = true → Ext H H3 := fun z => (e1 z).tr (e2.tr e3)
    obtain ⟨a, vs, rfl, ha, hl, rp⟩ := r3.lv (lvO_ok h4)
    exact ⟨a, vs, rfl, .inl (.inl ha), fun x hx => q _ _ (fun z => (e4 z).tr (Ext.nw hx)) (r3.newL hx fun M as t => cut_rp (rp M as t) l u).pop2⟩
end
end Wk

/-! Wk16 -/
set_option Elab.async false
set_option linter.all false
set_option maxRecDepth 100000
set_option maxHeartbeats 4000000
/-! Wk16: enumerate(tuple), zip, keyword calls -/
namespace PySem
open Sem (wp)
open AutoSeq1 (wpAny_loadPart')
theorem wk_enumerate_newT (l : Addr) (items : Array Value) (n : Nat) (dct : Option Addr) (sl : Array (Option Value)) :
    Meets (Builtin.«enumerate.__new__» ⟨[.type "enumerate", .ref l], []⟩) (fun _ R s => s.heap.get? l = some { cls := .type "tuple", data := .seq items n, dict := dct, slots := sl } ∧
      R (.ok (.ret (.ref (s.heap.push { cls := .type "tuple_iterator", data := .fields #[.ref l, .int 0 0] }).objs.size)))
        { s with heap := (s.heap.push { cls := .type "tuple_iterator", data := .fields #[.ref l, .int 0 0] }).push { cls := .type "enumerate", data := .fields #[.none, .bool false, .ref s.heap.objs.size, rawInt 0, .none, .none] } }) :=
  .of_wp fun prog w A R s h => by
    obtain ⟨hp, g, d, tk, os⟩ := s; obtain ⟨hl, h⟩ := h
    have hsub := sub_enumerate
    have hL : Heap.IsTuple (Shared.heap ⟨hp, g, d, tk, os⟩) l items := ⟨_, hl, rfl, n, rfl⟩
    wp_walk using wpAny_loadPart' hl
    refine wpAny_stack_any fun st => wpAny_pure ?_
    split
    · rename_i c _ _ _ _ _
      cases (c == Value.type "enumerate")
      · wp_walk using wpAny_loadPart' hl, wpAny_pyIter_tuple hL
        exact ⟨_, rfl, h⟩
      · wp_walk using wpAny_loadPart' hl, wpAny_pyIter_tuple hL
        exact ⟨_, rfl, h⟩
    · wp_walk using wpAny_loadPart' hl, wpAny_pyIter_tuple hL
      exact ⟨_, rfl, h⟩
section
variable {prog : Program} {w : World} {A : Around} {E : Value → Shared → Prop} {s : Shared}
theorem wk_call_enumerate_tuple {l : Addr} {items : Array Value} {Q : Value → Shared → Prop} (hL : s.heap.IsTuple l items)
    (h : ∀ h', IsEnum h' (s.heap.objs.size + 1) s.heap.objs.size 0 .none → h'.IsTupleIter s.heap.objs.size l 0 → h'.objs.size = s.heap.objs.size + 2 →
      (∀ b o, s.heap.get? b = some o → h'.get? b = some o) → Q (.ref (s.heap.objs.size + 1)) { s with heap := h' }) :
    wpAny (model prog w) A (call (.type "enumerate") [.ref l]) Q E s := by
  obtain ⟨⟨c, dct, dt, sl⟩, hl, hc, n, hd⟩ := hL
  replace hc : c = .type "tuple" := hc
  replace hd : dt = .seq items n := hd
  subst hc hd
  refine callType_new F.called_enumerate (by decide) (F.typeCall_enumerate_1 _) (F.newCall_enumerate_1 _) (fun obj => F.args_object_init_2 obj _) F.entry_enumerate_new
    (wk_enumerate_newT l items n dct sl) ⟨hl, ?_⟩
  have hz : (s.heap.push { cls := .type "tuple_iterator", data := .fields #[.ref l, .int 0 0] }).objs.size = s.heap.objs.size + 1 := Heap.size_push ..
  show _ ∧ _
  rw [hz]
  have he : IsEnum ((s.heap.push { cls := .type "tuple_iterator", data := .fields #[.ref l, .int 0 0] }).push
      { cls := .type "enumerate", data := .fields #[.none, .bool false, .ref s.heap.objs.size, rawInt 0, .none, .none] }) (s.heap.objs.size + 1) s.heap.objs.size 0 .none := by
    have := Heap.get?_push_size (s.heap.push { cls := .type "tuple_iterator", data := .fields #[.ref l, .int 0 0] })
      (o := { cls := .type "enumerate", data := .fields #[.none, .bool false, .ref s.heap.objs.size, rawInt 0, .none, .none] }) rfl
    rw [hz] at this; exact this
  exact ⟨⟨_, he, rfl⟩, h _ he ⟨_, Heap.get?_push_of_some _ (Heap.get?_push_size _ rfl), rfl, rfl⟩ (by rw [Heap.size_push, hz]) fun b o x => Heap.get?_push_of_some _ (Heap.get?_push_of_some _ x)⟩
end
end PySem
namespace L2
open PySem PySem.Spec PyProof.Rows
def WkIte (K : PySem.W.Frag) (a : Addr) : It :=
  ⟨fun i H => ∃ (xs : List V) (x : V), SqT K H a xs ∧ xs[i]? = some x, fun i H v H' => ∃ T x, v = .ref T ∧ H T = none ∧ H' = upd H T (.tup [.int (i : Nat), x]) ∧ ∀ xs, SqT K H a xs → xs[i]? = some x, fun i H => ∃ xs : List V, SqT K H a xs ∧ xs.length = i⟩
theorem wk_turn_enumT {P : Program} {w : World} {K : PySem.W.Frag} {elts : List Expr} {kk : Nat} {tpos : Pos} (a e it : Addr) :
    Turn P w K (.Tuple elts kk tpos) (WkIte K a) [e, it] e (fun i h => (∃ old, IsEnum h e it ((i : Nat) : Int) old) ∧ h.IsTupleIter it a i ∧ e ≠ it ∧ e ≠ a ∧ it ≠ a) where
  mem := by simp
  obj := fun i h st b hb => by
    obtain ⟨⟨old, he⟩, ⟨o, ho, hc, hd⟩, _⟩ := st
    have e' : b = e ∨ b = it := by simpa using hb
    rcases e' with z | z
    · rw [z]; exact ⟨_, he, fun v q => nomatch q⟩
    · rw [z]; exact ⟨o, ho, fun v q => by rw [hd] at q; cases q⟩
  keep := fun i h h' st k => let ⟨⟨old, he⟩, hi, hne⟩ := st; ⟨⟨old, k e (by simp) _ he⟩, hi.at fun o q => k it (by simp) o q, hne⟩
  item := by
    intro X hP hw hK hc i pins s σ H E I hf st hg
    subst hP hw hK
    obtain ⟨⟨old, he⟩, hit, hne, hea, hia⟩ := st
    obtain ⟨xs, x, hq, hx⟩ := hg
    obtain ⟨its, rv, p, hz⟩ := I.tuple hq
    have p' : s.heap.IsTuple a its.toArray := p
    obtain ⟨u, hu, ru⟩ := rv.get hx
    have hel : e < s.heap.objs.size := Heap.lt_size he
    have hil : it < s.heap.objs.size := by obtain ⟨_, q, _⟩ := hit; exact Heap.lt_size q
    have hlt : i < its.toArray.size := by
      rw [List.size_toArray]
      exact (List.getElem?_eq_some_iff.mp hu).1
    refine wpAny_pyNext_enum_itemD (Draws.tuple (A := X.A.in1) (I.ok.hd hc) it a (Ne.symm hia) its.toArray) he ⟨hit, p'⟩ hlt hne (by simp [hne, hea]) fun y h' tk hy ho hit' hT hsz hk => ?_
    have hyu : y = u := by
      have : its.toArray[i]? = some u := by simpa using hu
      rw [this] at hy
      exact (Option.some.inj hy).symm
    subst hyu
    refine ⟨_, rfl, wpAny_letOwnedTupleGo_enum (s := { s with heap := h', toks := tk + 1 }) ho fun h'' he' sb => ?_⟩
    have hT2 : h''.get? s.heap.objs.size = some { cls := .type "tuple", data := .seq #[.int i tk, y] } := (sb.2 _ (Nat.ne_of_gt hel)).trans hT
    have new : ObjOk X.prog X.w (upd H s.heap.objs.size (.tup [.int (i : Nat), x])) h'' s.heap.objs.size (.tup [.int (i : Nat), x]) :=
      ⟨by show 2 ≤ sizeLine; decide, [.int i tk, y], .cons ⟨_, rfl⟩ (.cons ru .nil), ⟨_, hT2, rfl, _, rfl⟩⟩
    have I1 : Inv X pins σ (upd H s.heap.objs.size (.tup [.int (i : Nat), x])) { s with heap := h'', toks := tk + 1 } :=
      I.turnedNew (ch := [e, it]) (fun b ob hb q => (sb.2 b (fun z => hb (by simp [z]))).trans (hk b ob (fun z => hb (by simp [z])) (fun z => hb (by simp [z])) q)) hf (Nat.le_refl _) new
    refine ⟨.ref s.heap.objs.size, _, I1, rfl, ⟨_, x, rfl, I.hok.fresh (Nat.le_refl _), rfl, fun ys hy => by rw [I.tuple_inj hy hq]; exact hx⟩, ⟨⟨y, ?_⟩, hit'.1.at fun o q => (sb.2 it (Ne.symm hne)).trans q, hne, hea, hia⟩, fun b hb => ?_⟩
    · have e1 : ((i + 1 : Nat) : Int) = (i : Int) + 1 := by omega
      rw [e1]; exact he'
    · have hb' : b < s.heap.objs.size := by
        have e' : b = e ∨ b = it := by simpa using hb
        rcases e' with z | z
        · rw [z]; exact hel
        · rw [z]; exact hil
      rw [upd_ne (Nat.ne_of_lt hb')]
      exact (hf b hb).1
  done := by
    intro X hP hw hK hc i pins s σ H E I hf st hg
    subst hP hw hK
    obtain ⟨⟨old, he⟩, hit, hne, hea, hia⟩ := st
    obtain ⟨xs, hq, hx⟩ := hg
    obtain ⟨its, rv, p, hz⟩ := I.tuple hq
    obtain ⟨f0, f1, f2, f3, f4, f5⟩ := hf it (by simp)
    have hl := rv.length
    have hsz : its.toArray.size = i := by rw [List.size_toArray]; omega
    have p' : s.heap.IsTuple a its.toArray := p
    exact wpAny_pyNext_enum_endD (Draws.tuple (A := X.A.in1) (I.ok.hd hc) it a (Ne.symm hia) its.toArray) he ⟨by rw [hsz]; exact hit, p'⟩ fun h' eb => ⟨rfl, I.turned (t' := s.toks) (fun b o hb q => eb b o hb q) f0 f1 f3 f4 f5⟩
  self := fun A i s Q E st h => let ⟨⟨_, he⟩, _⟩ := st; wpAny_pyIter_enum he h
def wkIEnumT (K : PySem.W.Frag) (te : TE) : TI := fun σ H R => te σ H fun v H1 => ∃ a xs, v = .ref a ∧ SqT K H1 a xs ∧ R (WkIte K a) H1
theorem wk_pi_enumT {X : Cx} {e : Expr} {te : TE} {p pos tpos : Pos} {elts : List Expr} {kk : Nat} (hg : Gl X "enumerate") (hm : X.mg "enumerate" = none) (ha : PE X e te) (hs : starEach [e] X.env = (false, eval e X.env) :: starEach [] X.env := by rfl) :
    PI X (.Tuple elts kk tpos) (.Call (.Name "enumerate" p) [e] [] pos) (wkIEnumT X.K te) := by
  refine ⟨fun pins s σ H R I h => ?_⟩
  refine Call_ (ld_blt I hg hm boot_enumerate (PyProof.Rows.callWith_type1 (args_cons (thn (ha.run pins s σ H _ I h) fun u s1 ⟨v, H1, I1, r1, q1⟩ => args_nil ?_) hs) hs rfl))
  obtain ⟨a, xs, ex, hq, q⟩ := q1
  subst ex
  obtain rfl : u = Value.ref a := r1
  obtain ⟨its, rv, p', hz⟩ := I1.tuple hq
  have p'' : s1.heap.IsTuple a its.toArray := p'
  have ha : a < s1.heap.objs.size := by obtain ⟨o, ho, _⟩ := p''; exact Heap.lt_size ho
  refine wk_call_enumerate_tuple p'' fun h' he hit hsz hk => wpAny_pyIter_enum he ?_
  have I2 : Inv X pins σ H1 { s1 with heap := h' } := I1.kept (t' := s1.toks) hk
  refine ⟨s1.heap.objs.size + 1, [s1.heap.objs.size + 1, s1.heap.objs.size], _, _, H1, rfl, I2, wk_turn_enumT a (s1.heap.objs.size + 1) s1.heap.objs.size, ⟨⟨.none, he⟩, hit, Nat.succ_ne_self _, Nat.ne_of_gt (Nat.lt_succ_of_lt ha), Nat.ne_of_gt ha⟩, fun b hb => ?_, q⟩
  have e' : b = s1.heap.objs.size + 1 ∨ b = s1.heap.objs.size := by simpa using hb
  have hle : s1.heap.objs.size ≤ b := by
    rcases e' with z | z
    · rw [z]; exact Nat.le_add_right _ _
    · rw [z]; exact Nat.le_refl _
  exact I1.fpOk hle (I1.hok.fresh hle)
end L2
namespace Wk
open PySem PySem.Spec PyProof.Rows L2
theorem jok_eT {K : PySem.W.Frag} {a : Addr} {ds : List PyData} : JOk K (D (.tuple ds)) (.ref a) (WkIte K a) (nums 0 ds) := fun c ts tv es σ H hk r => by
  obtain ⟨a', vs, e, ha, hl, rp⟩ := r.tup
  cases e
  have sq : SqT K H a vs := .inl ha
  rw [nums_len]
  refine ⟨fun i hi => ⟨vs, vs[i]'(by omega), sq, by simp [show i < vs.length from by omega]⟩, ⟨vs, sq, hl⟩, fun i d x H' hd hy => ?_⟩
  obtain ⟨T, z, rfl, hT, rfl, y⟩ := hy
  obtain ⟨w, h1, rfl⟩ := nums_get hd
  rw [Nat.zero_add]
  exact r.newT hT fun M as t => .cons (.int _) (.cons ((rp M as t).at h1 (y vs sq)) .nil)
/-- enumerate of a tuple or a list -/
@[simp] def iEnum (d : DE) : DL := fun es => (d es).bind fun p => match p.2 with
  | .b (.d (.tuple ds)) => some (p.1, nums 0 ds)
  | o => if adB o then (lvO o).map fun ds => (p.1, nums 0 ds) else none
section
variable {X : Cx} {tg e a b c0 : Expr} {da db dc : DE} {p pos : Pos}
theorem oki_enumA {elts : List Expr} {kk : Nat} {tpos : Pos} (hm : X.mg "enumerate" = none) (h : Ok X false e da) (hg : Gl X "enumerate" := by rfl) (hs : starEach [e] X.env = [(false, eval e X.env)] := by rfl) (n : Ns e := by exact fun _ _ => rfl) : OkI X (.Tuple elts kk tpos) (.Call (.Name "enumerate" p) [e] [] pos) (iEnum da) := fun es es' ds q => by
  obtain ⟨⟨es1, o⟩, h1, qa⟩ := bind_some q
  obtain ⟨a1, a2⟩ := h _ _ _ h1
  dsimp only at qa
  split at qa
  · rename_i ds0
    cases qa
    refine pi_w (wk_pi_enumT hg hm a1 (n _ _)) fun σ H R ⟨c, ts, tv, k, ad, r, q⟩ => ⟨c, ts, tv, k, r, fun _ => ad, fun v H' _ r' => ?_⟩
    obtain ⟨a, vs, rfl, ha, _⟩ := r'.tup
    exact ⟨a, vs, rfl, .inl ha, q _ _ (D (.tuple ds0)) _ trivial jok_eT r'⟩
  · obtain ⟨h2, qb⟩ := if_some qa
    obtain ⟨ds', h3, qc⟩ := map_some qb
    cases qc
    refine pi_w (pi_enum hg hm (pa_cons a1 pa_nil (n _ _)) hs) fun σ H R ⟨c, ts, tv, k, ad, r, q⟩ => ⟨c, ts, tv, k, r, fun _ => ad, fun v H' _ r' => ?_⟩
    obtain ⟨a, vs, rfl, ha, _⟩ := r'.lv (lvO_ok h3)
    exact ⟨a, vs, rfl, .inl (.inl ha), q _ _ _ _ (adB_ok h2) (jok_e (lvO_ok h3)) r'⟩
end

/-! ### keyword calls: all by keyword, in the parameters' order -/
structure KB0 (K : PySem.W.Frag) (fd : FuncData) (ps : List Str) : Prop where
  to : ∀ (s : Shared) (ws : List Value), K.In s.heap → ws.length = ps.length → BindsTo s fd ⟨[], ps.zip ws⟩ (ps.zip ws)
theorem KB0.of {K : PySem.W.Frag} {x qual : Str} {params : Arguments} {body : List Stmt} {scope : Scope} {kws : List (Str × V)} {f : Addr} {fd : FuncData} {ps : List Str} (F : FunD K x qual params body scope [] kws f fd)
    (h : ∀ (kV doc pm : Value) (an : Option Addr) (cdv ct : Value) (ws : List Value), ws.length = ps.length → bindArgs (PySem.W.fnOf x qual params body scope .none kV doc pm an cdv ct) ⟨[], ps.zip ws⟩ = pure (ps.zip ws)) : KB0 K fd ps := by
  obtain ⟨oc, od, dV, kV, doc, pm, an, cdv, ct, osl, rfl, lk, hcd, hD, hK⟩ := F.ex
  rcases hD with ⟨_, rfl⟩ | ⟨e, _⟩
  · exact ⟨fun s ws _ hl => .of_eq (h kV doc pm an cdv ct ws hl)⟩
  · exact absurd rfl e
section
variable {X : Cx} {CX : CXT} {k : Nat} {f : Addr} {fd : FuncData} {ps ks : List Str} {sp : Sp} {E : XK} {x : Str}
theorem pe_gK0 {p pos : Pos} {kws : List Keyword} {tk : TA}
    (F : FnG X.prog X.w X.K X.mg X.base CX k f fd ps sp) (hr : Room k X.A) (hgd : X.A.guards = some []) (hg : Gl X x) (hm : X.mg x = some (.ref f)) (hk : PySem.W.keepIn X.K (.ref f) = true)
    (hb : KB0 X.K fd ps) (hx : Passes CX X E) (hkw : PK X kws tk) (hall : (backToKw pos (keywordEach kws X.env)).all (·.1.isSome) = true := by rfl)
    (hks : (backToKw pos (keywordEach kws X.env)).filterMap (·.1) = ps := by rfl) (hdb : (x == ("__debug__" : Str)) = false := by decide)
    (hpl : ((backTo pos (starEach [] X.env)).any (·.1) || (backToKw pos (keywordEach kws X.env)).any (·.1.isNone)) = false := by rfl) :
    PE X (.Call (.Name x p) [] kws pos) (fun σ H Q => tk σ H fun zs H2 => sp zs H2 Q E) := by
  constructor
  intro pins s σ H Q I h
  refine wpAny_Call_Name_kw (ld_glob I hg hm ?_ hdb)
  refine PySem.W.callWith_KW0 (h₀ := X.base) I.ok.mod.kin hk hall (thn (hkw.run pos pins s σ H _ I h) ?_) hpl
  rintro ws s2 ⟨zs, H2, I2, rz, q2⟩
  rw [hks]
  have hl : ws.length = ps.length := by rw [← rz.length]; exact F.len _ _ _ _ q2
  exact ⟨I2.kIn, run_g (g := ⟨[], ps.zip ws⟩) F hr hgd hx I2 rz (fun _ => hb.to s2 ws I2.kIn hl) q2⟩
end
abbrev DKw (X : Cx) (μ : Bool) (l : List Keyword) (es es' : List SE) (os : List TO) : Prop := PK X l (tA X.K μ es es' os)
def OkK (X : Cx) (μ : Bool) (l : List Keyword) (d : DL) : Prop := ∀ es es' ds, d es = some (es', ds) → DKw X μ l es es' (ds.map D) ∧ (μ = true → es' = es)
theorem pk_w {X : Cx} {e : List Keyword} {t t' : TA} (h : PK X e t) (k : ∀ σ H Q, t' σ H Q → t σ H Q) : PK X e t' := ⟨fun pos pins s σ H Q i q => h.run pos pins s σ H Q i (k σ H Q q)⟩
section
variable {X : Cx} {μ : Bool} {e : Expr} {l : List Keyword} {da : DE} {la : DL} {pos p kpos : Pos} {nm : Option Str} {k n : Nat} {f : Addr} {fd : FuncData} {ps : List Str} {x : Str}
theorem okk_0 : OkK X μ [] kL0 := fun es es' ds h => by
  cases h
  exact ⟨pk_w pk_nil fun σ H Q ⟨c, ts, tv, k, r, ad, q⟩ => q [] H rfl (fun _ => Ext.rfl) r, fun _ => rfl⟩
theorem okk_1 (h : Ok X μ e da) (hr : OkK X μ l la) : OkK X μ (⟨nm, e, kpos⟩ :: l) (kL1 da la) := fun es es' ds q => by
  obtain ⟨⟨es1, y⟩, h1, q⟩ := bind_some q
  obtain ⟨x, h2, q⟩ := bind_some q
  obtain ⟨⟨es2, r⟩, h3, q⟩ := map_some q
  cases q
  obtain ⟨a1, a2⟩ := h _ _ _ h1
  obtain ⟨b1, b2⟩ := hr _ _ _ h3
  refine ⟨pk_w (pk_cons (frz_ok a1 h2) b1) fun σ H Q ⟨c, ts, tv, k, r, ad, q⟩ => ⟨c, ts, tv, k, r, ad, fun x H1 e1 r1 => ⟨c, _, x :: tv, k, r1, fun z => ad z, fun vs H2 hl e2 r2 => q (x :: vs) H2 (congrArg (· + 1) hl) (fun z => (e1 z).tr (e2 z)) r2⟩⟩, fun z => (b2 z).trans (a2 z)⟩
theorem ok_callK {sem : List PyData → Option TO} (G : FnG X.prog X.w X.K X.mg X.base CX0 k f fd ps (Sf X.K n sem)) (hr : Room k X.A) (hgd : X.A.guards = some []) (hm : X.mg x = some (.ref f)) (hk : PySem.W.keepIn X.K (.ref f) = true) (hb : KB0 X.K fd ps)
    (ad : ∀ ds o, sem ds = some o → adB o = true) (h : OkK X μ l la) (hg : Gl X x := by rfl) (hdb : (x == ("__debug__" : Str)) = false := by decide) (hall : (backToKw pos (keywordEach l X.env)).all (·.1.isSome) = true := by rfl)
    (hks : (backToKw pos (keywordEach l X.env)).filterMap (·.1) = ps := by rfl)
    (hpl : ((backTo pos (starEach [] X.env)).any (·.1) || (backToKw pos (keywordEach l X.env)).any (·.1.isNone)) = false := by rfl) : Ok X μ (.Call (.Name x p) [] l pos) (kCall n sem la) := fun es es' o q => by
  obtain ⟨⟨es1, ds⟩, h1, q⟩ := bind_some q
  obtain ⟨h2, q⟩ := if_some q
  obtain ⟨o', h3, q⟩ := map_some q
  cases q
  obtain ⟨a1, a2⟩ := h _ _ _ h1
  refine ⟨pe_w (pe_gK0 G hr hgd hg hm hk hb pass0 a1 hall hks hdb hpl) fun σ H Q ⟨c, ts, tv, hK, r, ad', q⟩ => ⟨c, ts, tv, hK, r, ad', fun vs H1 hl e1 r1 => ?_⟩, a2⟩
  have hl' : vs.length = ds.length := by rw [hl, List.length_map]
  obtain ⟨c', k1, k2, r2, back⟩ := r1.call0 (vs := vs) (ds := ds) fun M as t => (t.args hl').1
  refine ⟨c', ds, _, k1.trans hK, h3, adB_ok (ad _ _ h3), k2, h2, hl'.trans h2, r2, fun v H' es' ws r3 => ?_⟩
  obtain ⟨e2, r4⟩ := back v _ es' ws H' r3 (adB_ok (ad _ _ h3))
  exact q v H' (fun z => (e1 z).tr e2) (r4.dropA hl')
end
end Wk

/-! Wk17 -/
set_option Elab.async false
set_option linter.all false
set_option maxRecDepth 100000
set_option maxHeartbeats 4000000
/-! Wk17: contexts within comprehensions, callees by name, sorted -/
namespace Wk
open PySem PySem.Spec PyProof.Rows L2
theorem Gd.u64 {X : Cx} (G : Gd X) : X.A.units + 64 < cLine := Nat.lt_of_le_of_lt (Nat.le_succ _) G.units
theorem Bd.blk {k : Nat} {X : Cx} (B : Bd k X) (s : Shared) (H : Hp) (scope : Scope) (e : Env) (fp : List Addr) : Bd k (X.blk s H scope e fp) :=
  { calm := B.calm, nd := B.nd, units := B.units, guards := B.guards, pass := PassesOwn.never, room := B.room }
/-- a def of the program, by its name -/
structure Cal (P : Program) (w : World) (K : PySem.W.Frag) (mg : Str → Option Value) (base : Heap) (k : Nat) (x : Str) (ps : List Str) (sp : Sp) : Prop where
  ex : ∃ f fd, mg x = some (.ref f) ∧ FnG P w K mg base CX0 k f fd ps sp ∧ PySem.W.keepIn K (.ref f) = true ∧ Binds K fd ps [] ∧ KB0 K fd ps
section
variable {X : Cx} {μ : Bool} {e a b c : Expr} {l : List Expr} {kws : List Keyword} {da db dc : DE} {la : DL} {pos p : Pos} {k kx n : Nat} {ps : List Str} {x : Str}
theorem ok_c {sem : List PyData → Option TO} (B : Bd kx X) (C : Cal X.prog X.w X.K X.mg X.base k x ps (Sf X.K n sem)) (ad : ∀ ds o, sem ds = some o → adB o = true) (h : OkL X μ (e :: l) la) (hk : k ≤ kx := by decide) (hg : Gl X x := by rfl) (hdb : (x == ("__debug__" : Str)) = false := by decide)
    (he : starEach (e :: l) X.env = (false, eval e X.env) :: starEach l X.env := by rfl) (hpl : (backTo pos (starEach l X.env)).any (·.1) = false := by rfl) : Ok X μ (.Call (.Name x p) (e :: l) [] pos) (kCall n sem la) := by
  obtain ⟨f, fd, h1, h2, h3, h4, h5⟩ := C.ex
  exact ok_call h2 (B.room.mono hk) B.guards h1 h3 h4 ad h hg hdb he hpl
theorem ok_ck {sem : List PyData → Option TO} (B : Bd kx X) (C : Cal X.prog X.w X.K X.mg X.base k x ps (Sf X.K n sem)) (ad : ∀ ds o, sem ds = some o → adB o = true) (h : OkK X μ kws la) (hk : k ≤ kx := by decide) (hg : Gl X x := by rfl) (hdb : (x == ("__debug__" : Str)) = false := by decide)
    (hall : (backToKw pos (keywordEach kws X.env)).all (·.1.isSome) = true := by rfl) (hks : (backToKw pos (keywordEach kws X.env)).filterMap (·.1) = ps := by rfl)
    (hpl : ((backTo pos (starEach [] X.env)).any (·.1) || (backToKw pos (keywordEach kws X.env)).any (·.1.isNone)) = false := by rfl) : Ok X μ (.Call (.Name x p) [] kws pos) (kCall n sem la) := by
  obtain ⟨f, fd, h1, h2, h3, h4, h5⟩ := C.ex
  exact ok_callK h2 (B.room.mono hk) B.guards h1 h3 h5 ad h hg hdb hall hks hpl
theorem ok_c1 {y : Str} {py : Pos} {sem : OT → List PyData → Option (OT × TO)} (i : Nat) (B : Bd kx X) (C : Cal X.prog X.w X.K X.mg X.base k x ps (Sf1 X.K n sem)) (ad : ∀ t ds t' o, sem t ds = some (t', o) → adB o = true) (h : OkL X false l la) (hk : k ≤ kx := by decide) (hg : Gl X x := by rfl) (hdb : (x == ("__debug__" : Str)) = false := by decide)
    (hN : X.N[i]? = some y := by rfl) (hv : Vis X.env.scope y := by first | exact Or.inl rfl | exact Or.inr (Or.inl rfl) | exact Or.inr (Or.inr rfl)) (hd : (y == ("__debug__" : Str)) = false := by decide) (hcd : (y == ("__classdict__" : Str)) = false := by decide)
    (he : starEach (.Name y py :: l) X.env = (false, eval (.Name y py) X.env) :: starEach l X.env := by rfl) (hpl : (backTo pos (starEach l X.env)).any (·.1) = false := by rfl) : Ok X false (.Call (.Name x p) (.Name y py :: l) [] pos) (kCall1 n i sem la) := by
  obtain ⟨f, fd, h1, h2, h3, h4, h5⟩ := C.ex
  exact ok_call1 h2 (B.room.mono hk) B.guards h1 h3 h4 ad h hg hdb hN hv hd hcd he hpl
theorem ok_cF {sem : List Int → Option TO} (B : Bd kx X) (C : Cal X.prog X.w X.K X.mg X.base k x ps (SfF X.K sem)) (ad : ∀ ns o, sem ns = some o → adB o = true) (h : Ok X μ e da) (hk : k ≤ kx := by decide) (hg : Gl X x := by rfl) (hdb : (x == ("__debug__" : Str)) = false := by decide) (n : Ns e := by exact fun _ _ => rfl) : Ok X μ (.Call (.Name x p) [e] [] pos) (kCallF sem da) := by
  obtain ⟨f, fd, h1, h2, h3, h4, h5⟩ := C.ex
  exact ok_callF h2 (B.room.mono hk) B.guards h1 h3 h4 ad h hg hdb n
theorem semOfF_ad {n : Nat} {b : DS} (ns : List Int) (o : TO) (h : semOfF n b ns = some o) : adB o = true := semEnd_ad h
theorem okt_chain {op op' : CmpOp} {f g : TO → TO → Option TO} (F : FCmp X op f) (G : FCmp X op' g) (ha : Ok X μ a da) (hb : Ok X μ b db) (hc : Ok X μ c dc)
    (hm : lastMarks [op, op'] [b, c] = false := by with_unfolding_all rfl) : OkT X μ (.Compare a [op, op'] [b, c] pos) (kChain μ f g da db dc) := fun es es' z q => by
  obtain ⟨es1, es2, x, y, u, h1, h2, ad, hf, h⟩ := kChain_some q
  obtain ⟨r, ho, k⟩ := F _ _ _ hf
  obtain ⟨a1, a2⟩ := ha _ _ _ h1
  obtain ⟨b1, b2⟩ := hb _ _ _ h2
  rcases h with ⟨rfl, w, h4, hg⟩ | ⟨rfl, rfl, rfl⟩
  · obtain ⟨r', ho', k'⟩ := G _ _ _ hg
    obtain ⟨c1, c2⟩ := hc _ _ _ h4
    exact ⟨t_chain ho ho' a1 b1 k (fun _ => c1) (fun _ => k') nofun hm ad, fun m => (c2 m).trans ((b2 m).trans (a2 m))⟩
  · exact ⟨t_chain (oc := x) (r' := fun _ _ _ _ => False) ho op_F a1 b1 k nofun nofun (fun _ => ⟨rfl, rfl⟩) hm ad, fun m => (b2 m).trans (a2 m)⟩
/-! sorted: ints -/
def ins (a : Int) : List Int → List Int
  | [] => [a]
  | b :: r => if a ≤ b then a :: b :: r else b :: ins a r
def isort : List Int → List Int
  | [] => []
  | a :: r => ins a (isort r)
theorem ins_perm (a : Int) : ∀ l : List Int, (ins a l).Perm (a :: l)
  | [] => List.Perm.refl _
  | b :: r => by
    unfold ins
    split
    · exact List.Perm.refl _
    · exact ((ins_perm a r).cons b).trans (List.Perm.swap a b r)
theorem isort_perm : ∀ l : List Int, (isort l).Perm l
  | [] => List.Perm.refl _
  | a :: r => (ins_perm a _).trans ((isort_perm r).cons a)
theorem ins_sorted (a : Int) : ∀ l : List Int, l.Pairwise (· ≤ ·) → (ins a l).Pairwise (· ≤ ·)
  | [], _ => List.pairwise_singleton _ _
  | b :: r, h => by
    unfold ins
    rw [List.pairwise_cons] at h
    split
    · rename_i hab
      exact List.pairwise_cons.mpr ⟨fun x hx => (List.mem_cons.mp hx).elim (fun e => e ▸ hab) fun hx => Int.le_trans hab (h.1 x hx), List.pairwise_cons.mpr h⟩
    · rename_i hab
      refine List.pairwise_cons.mpr ⟨fun x hx => ?_, ins_sorted a r h.2⟩
      rcases List.mem_cons.mp ((ins_perm a r).mem_iff.mp hx) with e | hx
      · rw [e]; omega
      · exact h.1 x hx
theorem isort_sorted : ∀ l : List Int, (isort l).Pairwise (· ≤ ·)
  | [] => List.Pairwise.nil
  | a :: r => ins_sorted a _ (isort_sorted r)
theorem sorted_unique : ∀ {l l' : List Int}, l.Perm l' → l.Pairwise (· ≤ ·) → l'.Pairwise (· ≤ ·) → l = l'
  | [], l', p, _, _ => (List.nil_perm.mp p).symm
  | a :: r, [], p, _, _ => absurd (List.perm_nil.mp p) (by simp)
  | a :: r, b :: r', p, h, h' => by
    rw [List.pairwise_cons] at h h'
    have hab : a = b := by
      have m1 : b ∈ a :: r := p.mem_iff.mpr List.mem_cons_self
      have m2 : a ∈ b :: r' := p.mem_iff.mp List.mem_cons_self
      have le1 : a ≤ b := (List.mem_cons.mp m1).elim (fun e => by omega) (h.1 b)
      have le2 : b ≤ a := (List.mem_cons.mp m2).elim (fun e => by omega) (h'.1 a)
      omega
    subst hab
    rw [sorted_unique (p.cons_inv) h.2 h'.2]
def fSorted (x : TO) : Option TO := match x with
  | .b (.d (.tuple a)) => none
  | _ => (lvO x).bind fun a => (asInts a).bind fun ns => if ns.length < 64 then some (.w (oL ((isort ns).map .int))) else none
theorem F_sorted : FB1 X "sorted" fSorted := fun x o h => by
  unfold fSorted at h
  split at h
  · cases h
  · obtain ⟨a, h1, h⟩ := bind_some h
    obtain ⟨ns, h2, h⟩ := bind_some h
    obtain ⟨h3, h⟩ := if_some h
    cases h
    refine ⟨_, cr_sorted, fun c ts tv es σ v H Q hK r q => ?_⟩
    have lv := lvO_ok h1
    rw [asInts_ok h2] at lv
    obtain ⟨p, vs, rfl, hp, hl, rp⟩ := r.lv lv
    obtain ⟨M, as, t⟩ := r.tms
    have ev : vs = ns.map V.int := (rp M as t).ints
    subst ev
    refine ⟨p, ns, rfl, .inl (.inl hp), h3, fun ns' p' pm so hn => q _ _ (Ext.nw hn) ?_⟩
    have e : ns' = isort ns := sorted_unique (pm.trans (isort_perm ns).symm) so (isort_sorted ns)
    rw [e]
    exact r.newL hn fun M as t => RpL.ofNs _
end
end Wk

/-! Wk18 -/
set_option Elab.async false
set_option linter.all false
set_option maxRecDepth 100000
set_option maxHeartbeats 4000000
/-! Wk18: reckoning with readings -/
namespace Wk
open PySem PySem.Spec L2
section
variable {i j : Int} {a b : List PyData} {es es1 : List SE} {x y : TO}
@[simp] theorem vAdd_I : fAdd (I i) (I j) = some (I (i + j)) := rfl
theorem vAdd_T (h : a.length + b.length ≤ sizeLine) : fAdd (D (.tuple a)) (D (.tuple b)) = some (D (.tuple (a ++ b))) := if_pos h
@[simp] theorem vSub_I : fSub (I i) (I j) = some (I (i - j)) := rfl
@[simp] theorem vAnd_I : fAnd (I i) (I j) = some (I (Builtin.bitAnd i j)) := rfl
@[simp] theorem vOr_I : fOr (I i) (I j) = some (I (Builtin.bitOr i j)) := rfl
@[simp] theorem vLt_I : fLt (I i) (I j) = some (B (decide (i < j))) := rfl
@[simp] theorem vLe_I : fLe (I i) (I j) = some (B (decide (i ≤ j))) := rfl
@[simp] theorem vGt_I : fGt (I i) (I j) = some (B (decide (j < i))) := rfl
@[simp] theorem vGe_I : fGe (I i) (I j) = some (B (decide (j ≤ i))) := rfl
@[simp] theorem vEq_I : fEq (I i) (I j) = some (B (decide (i = j))) := rfl
@[simp] theorem vNe_I : fNe (I i) (I j) = some (B (!decide (i = j))) := rfl
@[simp] theorem vNeg_I : fNeg (I i) = some (I (-i)) := rfl
@[simp] theorem vInt_I : fInt (I i) = some (I i) := rfl
@[simp] theorem vAbs_I : fAbs (I i) = some (I i.natAbs) := rfl
@[simp] theorem vMul_I (h : cMulB i j = true) : fMul (I i) (I j) = some (I (i * j)) := if_pos h
@[simp] theorem vDiv_I (h : cDivB i j = true) : fDiv (I i) (I j) = some (I (i / j)) := if_pos h
@[simp] theorem vMod_I (h : 0 < j) : fMod (I i) (I j) = some (I (i % j)) := if_pos (decide_eq_true h)
@[simp] theorem vPow_I (h : cPowB i j = true) : fPow (I i) (I j) = some (I (i ^ j.toNat)) := if_pos h
@[simp] theorem vShl_I (h : cPowB i j = true) : fShl (I i) (I j) = some (I (i * 2 ^ j.toNat)) := if_pos h
@[simp] theorem vShr_I (h : 0 ≤ j) : fShr (I i) (I j) = some (I (i / 2 ^ j.toNat)) := if_pos (decide_eq_true h)
@[simp] theorem vIx_T : fIx (D (.tuple a)) (I i) = (atI a i).map D := rfl
@[simp] theorem vIx_L : fIx (D (.list a)) (I i) = (atI a i).map D := rfl
@[simp] theorem vIx_O {xs : List OT} : fIx (.b (.l xs)) (I i) = (atI xs i).map .b := rfl
@[simp] theorem vLen_T : fLen (D (.tuple a)) = some (I a.length) := rfl
@[simp] theorem vLen_L : fLen (D (.list a)) = some (I a.length) := rfl
@[simp] theorem vLen_O {xs : List OT} : fLen (.b (.l xs)) = some (I xs.length) := rfl
@[simp] theorem vTup_T : fTuple (D (.tuple a)) = some (D (.tuple a)) := rfl
@[simp] theorem vTup_L : fTuple (D (.list a)) = some (D (.tuple a)) := rfl
@[simp] theorem vTup_W : fTuple (.w (.l (a.map .d))) = some (D (.tuple a)) := by show (lvL _).map _ = _; rw [lvL_map]; rfl
@[simp] theorem vTup_B : fTuple (.b (.l (a.map .d))) = some (D (.tuple a)) := by show (lvL _).map _ = _; rw [lvL_map]; rfl
@[simp] theorem vIs_N {d : PyData} : fIs (D d) (D .none) = some (B (isN d)) := rfl
@[simp] theorem vIsNot_N {d : PyData} : fIsNot (D d) (D .none) = some (B (!isN d)) := rfl
@[simp] theorem lvO_W : lvO (.w (.l (a.map .d))) = some a := lvL_map a
@[simp] theorem lvO_B : lvO (.b (.l (a.map .d))) = some a := lvL_map a
@[simp] theorem lvO_D : lvO (D (.list a)) = some a := rfl
@[simp] theorem vSum_W {ns : List Int} : fSum (.w (.l ((ns.map PyData.int).map .d))) = some (I ns.sum) := by
  show (lvL _).bind _ = _
  rw [lvL_map]
  show (asInts _).map _ = _
  rw [asInts_map]; rfl
@[simp] theorem vAll_W {bs : List Bool} : fAll (.w (.l ((bs.map PyData.bool).map .d))) = some (B (bs.all id)) := by
  show (lvL _).bind _ = _
  rw [lvL_map]
  show (asBools _).map _ = _
  rw [asBools_map]; rfl
@[simp] theorem frz_W : frz (.w (.l (a.map .d))) = some (.list a) := fz_oL a
@[simp] theorem frz_D {d : PyData} : frz (D d) = some d := rfl
@[simp] theorem fz_L' : fz (.l (a.map .d)) = some (.list a) := fz_oL a
@[simp] theorem kVar_s {i : Nat} {b : Bool} {t : OT} (h : gt es i = .s b t) : kVar i es = some (es, .b t) := by unfold kVar; rw [h]
@[simp] theorem kVarF_d {i : Nat} {b : Bool} {d : PyData} (h : gt es i = .s b (.d d)) : kVarF i es = some (es, D d) := by unfold kVarF; rw [h]
@[simp] theorem kVarF_l {i : Nat} (h : gt es i = .s false (.l (a.map .d))) : kVarF i es = some (es.set i (.s false (.d (.list a))), D (.list a)) := by
  unfold kVarF
  rw [h]
  show (fz _).map _ = _
  rw [fz_L']; rfl
end
/-- the step of a loop whose body goes on -/
theorem forL_nx {fx : Bool} {T : Tg} {ks : List Nat} {body : DS} {d : PyData} {ds : List PyData} {es es1 es2 : List SE} (h : tgS fx T d es = some es1) (hb : body es1 = some (.nx es2)) : forL fx T ks body (d :: ds) es = forL fx T ks body ds (kill ks es2) := by
  show (tgS fx T d es).bind _ = _
  rw [h]
  show (match body es1 with
    | some (.nx es2) => forL fx T ks body ds (kill ks es2)
    | some (.ct es2) => forL fx T ks body ds (kill ks es2)
    | some (.bk es2) => some (.nx es2)
    | some (.rt o es2) => some (.rt o es2)
    | none => none) = _
  rw [hb]
theorem forL_rt {fx : Bool} {T : Tg} {ks : List Nat} {body : DS} {d : PyData} {ds : List PyData} {es es1 es2 : List SE} {o : TO} (h : tgS fx T d es = some es1) (hb : body es1 = some (.rt o es2)) : forL fx T ks body (d :: ds) es = some (.rt o es2) := by
  show (tgS fx T d es).bind _ = _
  rw [h]
  show (match body es1 with
    | some (.nx es2) => forL fx T ks body ds (kill ks es2)
    | some (.ct es2) => forL fx T ks body ds (kill ks es2)
    | some (.bk es2) => some (.nx es2)
    | some (.rt o es2) => some (.rt o es2)
    | none => none) = _
  rw [hb]
@[simp] theorem forL_nil {fx : Bool} {T : Tg} {ks : List Nat} {body : DS} {es : List SE} : forL fx T ks body [] es = some (.nx es) := rfl
/-- a comprehension whose test and element are known -/
theorem compL_nil {vs : List Nat} {T : Tg} {t : DB} {d : DE} {es : List SE} {acc : List OT} : compL vs T t d [] es acc = some (es, acc) := rfl
theorem compL_yes {vs : List Nat} {T : Tg} {t : DB} {d : DE} {x : PyData} {xs : List PyData} {es es1 es2 es3 : List SE} {o : TO} {acc : List OT} (h : tgS false T x (wz vs es) = some es1) (ht : t es1 = some (es2, true)) (hd : d es2 = some (es3, o)) (ho : adB o = true) (hz : acc.length < sizeLine) :
    compL vs T t d (x :: xs) es acc = compL vs T t d xs (wz vs es3) (acc ++ [otOf o]) := by
  show (tgS false T x (wz vs es)).bind _ = _
  rw [h]
  show (t es1).bind _ = _
  rw [ht]
  show (d es2).bind _ = _
  rw [hd]
  exact if_pos ⟨ho, hz⟩
theorem compL_no {vs : List Nat} {T : Tg} {t : DB} {d : DE} {x : PyData} {xs : List PyData} {es es1 es2 : List SE} {acc : List OT} (h : tgS false T x (wz vs es) = some es1) (ht : t es1 = some (es2, false)) :
    compL vs T t d (x :: xs) es acc = compL vs T t d xs (wz vs es2) acc := by
  show (tgS false T x (wz vs es)).bind _ = _
  rw [h]
  show (t es1).bind _ = _
  rw [ht]; rfl
/-- a filter-map over data, the state standing still: g tells each item's element -/
theorem compL_fm {vs : List Nat} {T : Tg} {t : DB} {d : DE} {es : List SE} {α : Type} (enc : α → PyData) (g : α → Option PyData)
    (hs : ∀ x, ∃ es1, tgS false T (enc x) (wz vs es) = some es1 ∧ (match g x with
      | some y => ∃ es2 es3, t es1 = some (es2, true) ∧ d es2 = some (es3, D y) ∧ wz vs es3 = es
      | none => ∃ es2, t es1 = some (es2, false) ∧ wz vs es2 = es)) : ∀ (xs : List α) (acc : List PyData), acc.length + xs.length ≤ sizeLine →
    compL vs T t d (xs.map enc) es (acc.map .d) = some (es, (acc ++ xs.filterMap g).map .d)
  | [], acc, _ => by simp [compL]
  | x :: xs, acc, hz => by
    obtain ⟨es1, h1, h2⟩ := hs x
    rw [List.map_cons]
    rw [List.length_cons] at hz
    cases hg : g x with
    | none =>
      rw [hg] at h2
      obtain ⟨es2, h3, h4⟩ := h2
      rw [compL_no h1 h3, h4, compL_fm enc g hs xs acc (by omega), List.filterMap_cons_none hg]
    | some y =>
      rw [hg] at h2
      obtain ⟨es2, es3, h3, h4, h5⟩ := h2
      have e : (acc.map OT.d) ++ [otOf (D y)] = (acc ++ [y]).map .d := by rw [List.map_append]; rfl
      rw [compL_yes h1 h3 h4 rfl (by rw [List.length_map]; omega), h5, e, compL_fm enc g hs xs (acc ++ [y]) (by rw [List.length_append, List.length_singleton]; omega), List.filterMap_cons_some hg, List.append_assoc]
      rfl
/-- the same of one def's items only -/
theorem compL_fmM {vs : List Nat} {T : Tg} {t : DB} {d : DE} {es : List SE} {α : Type} (enc : α → PyData) (g : α → Option PyData) : ∀ (xs : List α) (acc : List PyData),
    (∀ x ∈ xs, ∃ es1, tgS false T (enc x) (wz vs es) = some es1 ∧ (match g x with
      | some y => ∃ es2 es3, t es1 = some (es2, true) ∧ d es2 = some (es3, D y) ∧ wz vs es3 = es
      | none => ∃ es2, t es1 = some (es2, false) ∧ wz vs es2 = es)) → acc.length + xs.length ≤ sizeLine →
    compL vs T t d (xs.map enc) es (acc.map .d) = some (es, (acc ++ xs.filterMap g).map .d)
  | [], acc, _, _ => by simp [compL]
  | x :: xs, acc, hs, hz => by
    obtain ⟨es1, h1, h2⟩ := hs x List.mem_cons_self
    have hr := fun y hy => hs y (List.mem_cons_of_mem _ hy)
    rw [List.map_cons]
    rw [List.length_cons] at hz
    cases hg : g x with
    | none =>
      rw [hg] at h2
      obtain ⟨es2, h3, h4⟩ := h2
      rw [compL_no h1 h3, h4, compL_fmM enc g xs acc hr (by omega), List.filterMap_cons_none hg]
    | some y =>
      rw [hg] at h2
      obtain ⟨es2, es3, h3, h4, h5⟩ := h2
      have e : (acc.map OT.d) ++ [otOf (D y)] = (acc ++ [y]).map .d := by rw [List.map_append]; rfl
      rw [compL_yes h1 h3 h4 rfl (by rw [List.length_map]; omega), h5, e, compL_fmM enc g xs (acc ++ [y]) hr (by rw [List.length_append, List.length_singleton]; omega), List.filterMap_cons_some hg, List.append_assoc]
      rfl
theorem nums_cons (i : Nat) (d : PyData) (r : List PyData) : nums i (d :: r) = .tuple [.int i, d] :: nums (i + 1) r := rfl
end Wk

/-! Wk19 -/
set_option Elab.async false
set_option linter.all false
set_option maxRecDepth 100000
set_option maxHeartbeats 4000000
/-! Wk19: sorted of a tuple, of rows of rows, of any length -/
namespace SrtO
open PySem PySem.Spec PyProof.Rows L2
open Sem (wp)
section
variable {prog : Program} {w : World} {A : Around} {E : Value → Shared → Prop} {s : Shared}
theorem wk_collect_tup {l : Addr} {vs : List Value} {Q : List Value → Shared → Prop} (hl : s.heap.IsTuple l vs.toArray)
    (h : Q vs { s with heap := (s.heap.push (seqObj "list" #[] 0)).update s.heap.objs.size (Obj.mapSeq (· ++ vs.toArray)) }) (hsz : vs.length ≤ sizeLine := by size_fits) :
    wpAny (model prog w) A (collect (.ref l)) Q E s := by
  obtain ⟨o, ho, hc, n, hd⟩ := id hl
  unfold collect
  refine wpAny_bind (wpAny_runValue (codeAny_builtin entry_proto_collect' ?_))
  show wpAny _ _ (do again (.builtin "list.__iadd__" ⟨[← newList [], .ref l], []⟩)) _ _ s
  refine wpAny_bind (wpAny_newList (wpAny_pure ⟨Code.quiet_builtin _ (by decide +kernel), codeAny_builtin entry_list_iadd' ?_⟩))
  show wpAny _ _ (Builtin.List.listExtendWith (.ref s.heap.objs.size) (.ref l) (.ref s.heap.objs.size)) _ _ { s with heap := s.heap.push (seqObj "list" #[] 0) }
  unfold Builtin.List.listExtendWith
  have ho' : (s.heap.push (seqObj "list" #[] 0)).get? l = some o := Heap.get?_push_of_some _ ho
  refine wpAny_bind (wpAny_typeOf (T := "tuple") ⟨o, ho', hc⟩ ?_)
  have ht : (Value.type "tuple" == Value.type "tuple") = true := by rfl
  rw [if_pos (by rw [ht]; simp)]
  refine wpAny_bind (listItems_at ho' hd ?_)
  refine wpAny_bind (listItems_at (xs := #[]) (n := 0) (Heap.get?_push_size _ rfl) rfl ?_)
  rw [if_neg (by simp)]
  refine wpAny_bind (listUpdate_at (xs := #[]) (n := 0) (Heap.get?_push_size _ rfl) rfl ?_ (Nat.zero_le _) (by show (#[] ++ vs.toArray).size ≤ sizeLine + 1; simp only [Array.size_append, List.size_toArray, List.length_nil]; omega))
  refine wpAny_pure ?_
  show wpAny (model prog w) A (do
      let o ← load s.heap.objs.size
      match o.data with
      | .seq xs _ => pure xs.toList
      | _ => unsupported "internal:collect") Q E { s with heap := (s.heap.push (seqObj "list" #[] 0)).update s.heap.objs.size (Obj.mapSeq (· ++ vs.toArray)) }
  refine wpAny_bind (wpAny_load (get?_update_seq (Heap.get?_push_size _ rfl) _) ?_)
  show wpAny _ _ (pure ((#[] : Array Value) ++ vs.toArray).toList) Q E _
  rw [show ((#[] : Array Value) ++ vs.toArray).toList = vs by simp]
  exact wpAny_pure h
/-- sorted(x), x a list or a tuple -/
theorem wk_sorted_ord {l : Addr} {vs : List Value} {ltv : Value → Value → Bool} {Q : Value → Shared → Prop} (O : Swo ltv) (hl : s.heap.IsList l vs.toArray ∨ s.heap.IsTuple l vs.toArray) (hz : vs.length ≤ sizeLine)
    (hS : 2 ≤ vs.length → ∀ (h₁ : Heap) (a : Addr), h₁.get? a = some (seqObj "list" vs.toArray 0) → (∀ b o, s.heap.get? b = some o → b ≠ a ∧ h₁.get? b = some o) → SortableO prog w A.in1.in1 { s with heap := h₁ } a vs ltv)
    (h : ∀ out : List Value, Srtd ltv out → Stb ltv out vs → Q (.ref (s.heap.objs.size + 1)) { s with heap := sortedAll s.heap vs out.toArray }) :
    wpAny (model prog w) A (call (.builtin "sorted") [.ref l]) Q E s := by
  rcases hl with hl | hl
  · exact sorted_ord O hl hz hS h
  refine Calls.call_function_entry kind_sorted plain_sorted entry_sorted (args_sorted1 _) ?_
  unfold Builtin.«sorted»
  refine wpAny_bind (m := checkCount "sorted" 1 1 _) (wpAny_pure ?_)
  refine wpAny_bind (wk_collect_tup hl ?_ hz)
  refine wpAny_bind (wpAny_newList ?_ hz)
  have hsz : ((s.heap.push (seqObj "list" #[] 0)).update s.heap.objs.size (Obj.mapSeq (· ++ vs.toArray))).objs.size = s.heap.objs.size + 1 := by
    rw [Heap.size_update, size_push']
  have hoL : (((s.heap.push (seqObj "list" #[] 0)).update s.heap.objs.size (Obj.mapSeq (· ++ vs.toArray))).push (seqObj "list" vs.toArray 0)).get? (s.heap.objs.size + 1) = some (seqObj "list" vs.toArray 0) := by
    rw [← hsz]; exact Heap.get?_push_size _ rfl
  have keep : ∀ b o, s.heap.get? b = some o → b ≠ s.heap.objs.size + 1 ∧ (((s.heap.push (seqObj "list" #[] 0)).update s.heap.objs.size (Obj.mapSeq (· ++ vs.toArray))).push (seqObj "list" vs.toArray 0)).get? b = some o := fun b o q => by
    have hlt : b < s.heap.objs.size := Heap.lt_size q
    refine ⟨Nat.ne_of_lt (Nat.lt_succ_of_lt hlt), Heap.get?_push_of_some _ ?_⟩
    rw [Heap.get?_update_ne _ _ _ _ (Nat.ne_of_lt hlt)]
    exact Heap.get?_push_of_some _ q
  show wpAny _ _ _ _ _ { s with heap := ((s.heap.push (seqObj "list" #[] 0)).update s.heap.objs.size (Obj.mapSeq (· ++ vs.toArray))).push (seqObj "list" vs.toArray 0) }
  rw [hsz]
  refine wpAny_bind (wpAny_holding (wpAny_call_entry slot_list_sort ⟨_, hoL, rfl⟩ entry_list_sort (list_sort_ord O hoL hz (fun h2 => hS h2 _ _ hoL keep) fun out hs hb => ⟨_, rfl, ?_⟩) (args_list_sort _)))
  exact wpAny_pure ⟨_, rfl, h out hs hb⟩
end
end SrtO
namespace Wk
open PySem PySem.Spec PyProof.Rows L2
section
variable {X : Cx}
/-- sorted(xs), ints, a list or a tuple, any number of them -/
def rSortedIT (K : PySem.W.Frag) : List V → Hp → VK → Prop := fun vs H Q => ∃ (a : Addr) (ns : List Int), vs = [V.ref a] ∧ (SqL K H a (ns.map V.int) ∨ SqT K H a (ns.map V.int)) ∧
  ∀ (ns' : List Int) (p : Addr), ns'.Perm ns → ns'.Pairwise (· ≤ ·) → H p = none → Q (.ref p) (upd H p (.lst (ns'.map V.int)))
theorem cr_sortedIT : CallR X (.builtin "sorted") (rSortedIT X.K) := by
  intro pins s σ H vs us Q I r h
  obtain ⟨a, ns, rfl, hs, q⟩ := h
  have key : ∃ its : List Value, Vals (ns.map V.int) its ∧ (s.heap.IsList a its.toArray ∨ s.heap.IsTuple a its.toArray) ∧ (ns.map V.int).length ≤ sizeLine := by
    rcases hs with hs | hs
    · obtain ⟨its, rv, hl, hz⟩ := I.list hs
      exact ⟨its, rv, .inl hl.isList, hz⟩
    · obtain ⟨its, rv, hl, hz⟩ := I.tuple hs
      exact ⟨its, rv, .inr hl, hz⟩
  obtain ⟨its, rv, hl, hz⟩ := key
  rw [Vals.ref1 r]
  have hi := rv.ints
  refine SrtO.wk_sorted_ord SrtO.swo_int hl (by rw [← rv.length]; exact hz) (fun h2 h₁ a' _ _ => SrtO.ints_sortable hi h2) fun out h1 h2 => ?_
  obtain ⟨k1, k2, k3⟩ := SrtO.ints_out hi h1 h2
  obtain ⟨ep, he'⟩ := PyProof.Rows.sortedAll_at s.heap its out.toArray
  have hlen : ((out.map SrtO.iv).map V.int).length ≤ sizeLine := by
    rw [List.length_map, k2.length_eq]
    rw [List.length_map] at hz
    exact hz
  exact ⟨.ref _, upd H (s.heap.objs.size + 1) (.lst ((out.map SrtO.iv).map V.int)), I.laid (t' := s.toks) (fun _ _ => PyProof.Rows.sortedAll_old) (Nat.le_succ _) ⟨hlen, out, ep, vals_of_ints k1, he'⟩, rfl, q _ _ k2 k3 (I.hok.fresh (Nat.le_succ _))⟩
end
end Wk
namespace Wk
open PySem PySem.Spec PyProof.Rows L2
def insB {α : Type} (le : α → α → Bool) (a : α) : List α → List α
  | [] => [a]
  | b :: r => if le a b then a :: b :: r else b :: insB le a r
def isortB {α : Type} (le : α → α → Bool) : List α → List α
  | [] => []
  | a :: r => insB le a (isortB le r)
theorem insB_split {α : Type} {le : α → α → Bool} {a : α} : ∀ {l1 l2 : List α}, (∀ b ∈ l1, le a b = false) → (∀ b ∈ l2, le a b = true) → insB le a (l1 ++ l2) = l1 ++ a :: l2
  | [], [], _, _ => rfl
  | [], b :: r, _, h => by show insB le a (b :: r) = _; unfold insB; rw [if_pos (h b List.mem_cons_self)]; rfl
  | b :: r, l2, h, h2 => by
    show insB le a (b :: (r ++ l2)) = _
    unfold insB
    rw [if_neg (by rw [h b List.mem_cons_self]; decide), insB_split (fun x hx => h x (List.mem_cons_of_mem _ hx)) h2]
    rfl
theorem isortB_eq {α : Type} {le : α → α → Bool} (tr : ∀ a b c, le a b = true → le b c = true → le a c = true) (to : ∀ a b, (le a b || le b a) = true) : ∀ l : List α, l.mergeSort le = isortB le l
  | [] => by rw [List.mergeSort_nil]; rfl
  | a :: r => by
    obtain ⟨l1, l2, h1, h2, h3⟩ := List.mergeSort_cons tr to a r
    have so := List.pairwise_mergeSort tr to (a :: r)
    rw [h1] at so
    rw [h1]
    show l1 ++ a :: l2 = insB le a (isortB le r)
    rw [← isortB_eq tr to r, h2]
    refine (insB_split (fun b hb => by simpa using h3 b hb) fun b hb => ?_).symm
    exact (List.pairwise_cons.mp (List.pairwise_append.mp so).2.1).1 b hb
def lv1 : PyData → Bool
  | .tuple ds => ds.all fun d => match d with
    | .int _ => true
    | _ => false
  | _ => false
def lv2 : PyData → Bool
  | .tuple ds => ds.all lv1
  | _ => false
def neT : PyData → Bool
  | .tuple (_ :: _) => true
  | _ => false
def leD : PyData → PyData → Bool := PySem.W.dataLe false fun d => d
theorem isortB_map {α β : Type} (f : α → β) (le : β → β → Bool) : ∀ l : List α, (isortB (fun a b => le (f a) (f b)) l).map f = isortB le (l.map f)
  | [] => rfl
  | a :: r => by
    have ins : ∀ l : List α, (insB (fun a b => le (f a) (f b)) a l).map f = insB le (f a) (l.map f) := fun l => by
      induction l with
      | nil => rfl
      | cons b l ih =>
        show (if le (f a) (f b) then a :: b :: l else b :: insB _ a l).map f = if le (f a) (f b) then f a :: f b :: l.map f else f b :: insB le (f a) (l.map f)
        by_cases h : le (f a) (f b) = true
        · rw [if_pos h, if_pos h]; rfl
        · rw [if_neg h, if_neg h, List.map_cons, ih]
    show (insB _ a (isortB _ r)).map f = insB le (f a) (isortB le (r.map f))
    rw [ins, isortB_map f le r]
def isI : PyData → Bool
  | .int _ => true
  | _ => false
theorem alike_ii : ∀ {d e : PyData}, isI d = true → isI e = true → PySem.W.alike d e = true
  | .int _, .int _, _, _ => rfl
theorem alikeAll_of {P : PyData → Bool} (h : ∀ {d e : PyData}, P d = true → P e = true → PySem.W.alike d e = true) : ∀ {xs ys : List PyData}, xs.all P = true → ys.all P = true → PySem.W.alikeAll xs ys = true
  | [], _, _, _ => by unfold PySem.W.alikeAll; cases ‹List PyData› <;> rfl
  | _ :: _, [], _, _ => by unfold PySem.W.alikeAll; rfl
  | x :: xs, y :: ys, hx, hy => by
    rw [List.all_cons, Bool.and_eq_true] at hx hy
    unfold PySem.W.alikeAll
    rw [h hx.1 hy.1, alikeAll_of h hx.2 hy.2]; rfl
def lvT (P : PyData → Bool) : PyData → Bool
  | .tuple ds => ds.all P
  | _ => false
theorem alike_T {P : PyData → Bool} (h : ∀ {d e : PyData}, P d = true → P e = true → PySem.W.alike d e = true) : ∀ {d e : PyData}, lvT P d = true → lvT P e = true → PySem.W.alike d e = true
  | .tuple xs, .tuple ys, hx, hy => by
    unfold PySem.W.alike
    exact alikeAll_of h hx hy
theorem depth_i : ∀ {d : PyData}, isI d = true → d.depth = 0
  | .int _, _ => by simp [PyData.depth]
theorem depthAll_le {P : PyData → Bool} {n : Nat} (h : ∀ {d : PyData}, P d = true → d.depth ≤ n) : ∀ {xs : List PyData}, xs.all P = true → PyData.depthAll xs ≤ n
  | [], _ => by simp [PyData.depthAll]
  | x :: xs, hx => by
    rw [List.all_cons, Bool.and_eq_true] at hx
    have h1 := h hx.1
    have h2 := depthAll_le h hx.2
    simp only [PyData.depthAll]
    omega
theorem depth_T {P : PyData → Bool} {n : Nat} (h : ∀ {d : PyData}, P d = true → d.depth ≤ n) : ∀ {d : PyData}, lvT P d = true → d.depth ≤ n + 1
  | .tuple xs, hx => by
    have := depthAll_le h hx
    simp only [PyData.depth]
    omega
/-- what may be sorted: tuples that are not empty, of ints or of rows of ints -/
def sortOk (ds : List PyData) : Bool := ds.all neT && (ds.all (lvT isI) || ds.all (lvT (lvT isI)))
theorem sortOk_alike {ds : List PyData} (h : sortOk ds = true) : PySem.W.AllAlike ds ∧ PySem.W.Sortable ds ∧ ∀ d ∈ ds, d.depth ≤ 2 := by
  unfold sortOk at h
  rw [Bool.and_eq_true, Bool.or_eq_true] at h
  obtain ⟨h1, h2⟩ := h
  refine ⟨fun d hd e he => ?_, .inl fun d hd => ?_, fun d hd => ?_⟩
  · rcases h2 with h2 | h2
    · exact alike_T alike_ii (List.all_eq_true.mp h2 d hd) (List.all_eq_true.mp h2 e he)
    · exact alike_T (alike_T alike_ii) (List.all_eq_true.mp h2 d hd) (List.all_eq_true.mp h2 e he)
  · have := List.all_eq_true.mp h1 d hd
    unfold neT at this
    split at this
    · exact ⟨_, _, rfl⟩
    · cases this
  · have d0 : ∀ {d : PyData}, isI d = true → d.depth ≤ 0 := fun {d} h => Nat.le_of_eq (depth_i h)
    rcases h2 with h2 | h2
    · exact Nat.le_trans (depth_T d0 (List.all_eq_true.mp h2 d hd)) (by decide)
    · exact depth_T (depth_T d0) (List.all_eq_true.mp h2 d hd)
section
variable {X : Cx}
def sortV (xs : List V) (ds : List PyData) : List (V × PyData) := isortB (fun a b => leD a.2 b.2) (xs.zip ds)
theorem sortV_snd {xs : List V} {ds : List PyData} (h : xs.length = ds.length) : (sortV xs ds).map (·.2) = isortB leD ds := by
  unfold sortV
  rw [isortB_map (fun p : V × PyData => p.2) leD, List.map_snd_zip (by omega)]
def rSortedD (K : PySem.W.Frag) : List V → Hp → VK → Prop := fun vs H Q => ∃ (a : Addr) (xs : List V) (ds : List PyData), vs = [V.ref a] ∧ SqL K H a xs ∧ DpAll K H xs ds ∧ sortOk ds = true ∧
  ∀ p : Addr, H p = none → Q (.ref p) (upd H p (.lst ((sortV xs ds).map (·.1))))
theorem cr_sortedD (hu : X.A.units + 64 < cLine) : CallR X (.builtin "sorted") (rSortedD X.K) := by
  intro pins s σ H vs us Q I r h
  obtain ⟨a, xs, ds, rfl, hs, hd, ok, q⟩ := h
  obtain ⟨its, rv, hl, hz⟩ := I.list hs
  rw [Vals.ref1 r]
  obtain ⟨as, ra⟩ := Dp.readsAll I ds xs its hd rv
  have dlen : ∀ {xs : List V} {ds : List PyData}, DpAll X.K H xs ds → xs.length = ds.length := fun {xs ds} h => by
    induction xs generalizing ds with
    | nil => cases h; rfl
    | cons x xs ih => cases h with
      | cons _ h => exact congrArg (· + 1) (ih h)
  have hlen := dlen hd
  obtain ⟨o1, o2, o3⟩ := sortOk_alike ok
  have esn : (xs.zip ds).map (·.2) = ds := List.map_snd_zip (by omega)
  have eR : ∀ {xs : List V} {its : List Value} {ds : List PyData}, Vals xs its → xs.length = ds.length → PySem.W.EachIs (fun (u : Value) (p : V × PyData) => RelV p.1 u) its (xs.zip ds) := fun {xs its ds} rv hl => by
    induction rv generalizing ds with
    | nil => exact .nil
    | cons r rr ih =>
      cases ds with
      | nil => cases hl
      | cons d ds => exact .cons r (ih (Nat.succ.inj hl))
  have eB := eR rv hlen
  have er : PySem.W.EachIs (fun (v : Value) (p : V × PyData) => ∃ as, Reads s.heap v p.2 as) its (xs.zip ds) := PySem.W.readsAll_each (fun p : V × PyData => p.2) (by rw [esn]; exact ra)
  have hL : (xs.zip ds).length ≤ sizeLine := by rw [List.length_zip]; omega
  refine PySem.W.sorted_data (enc := fun p : V × PyData => p.2) hl.isList eB er (by rw [esn]; exact o1) (by rw [esn]; exact o2) hL (fun p hp => ?_) fun out h1 h2 => ?_
  · have : p.2.depth ≤ 2 := o3 _ (List.of_mem_zip hp).2
    omega
  · have tot := PySem.W.sortLe_total (PyProof.Rows.listOrd PyProof.Rows.itemOrd) false fun p : V × PyData => PySem.W.keyToks p.2
    have es : (xs.zip ds).mergeSort (PySem.W.dataLe false fun p : V × PyData => p.2) = sortV xs ds := isortB_eq (fun a b c => tot.trans a b c) (fun a b => by rw [Bool.or_eq_true]; exact tot.total a b) _
    rw [es] at h2
    have toV : ∀ {bs : List (V × PyData)} {out : List Value}, PySem.W.EachIs (fun (u : Value) (p : V × PyData) => RelV p.1 u) out bs → Vals (bs.map (·.1)) out := fun {bs out} h => by
      induction h with
      | nil => exact .nil
      | cons r _ ih => exact .cons r ih
    have rv2 := toV h2
    obtain ⟨ep, he'⟩ := PyProof.Rows.sortedAll_at s.heap its out.toArray
    have hl2 : ((sortV xs ds).map (·.1)).length ≤ sizeLine := by
      rw [rv2.length, h1]
      exact hL
    exact ⟨.ref _, upd H (s.heap.objs.size + 1) (.lst ((sortV xs ds).map (·.1))), I.laid (t' := s.toks) (fun _ _ => PyProof.Rows.sortedAll_old) (Nat.le_succ _) ⟨hl2, out, ep, rv2, he'⟩, rfl, q _ (I.hok.fresh (Nat.le_succ _))⟩
theorem RpL.ofPairs {K : PySem.W.Frag} {M : Addr → Prop} {H : Hp} : ∀ {bs : List (V × PyData)}, (∀ p ∈ bs, Rp K M H p.1 p.2) → RpL K M H (bs.map (·.1)) (bs.map (·.2))
  | [], _ => .nil
  | p :: r, h => .cons (h p List.mem_cons_self) (RpL.ofPairs fun q hq => h q (List.mem_cons_of_mem _ hq))
theorem RpL.zip {K : PySem.W.Frag} {M : Addr → Prop} {H : Hp} : ∀ {xs : List V} {ds : List PyData}, RpL K M H xs ds → ∀ p ∈ xs.zip ds, Rp K M H p.1 p.2
  | _, _, .nil, _, h => by simp at h
  | _, _, .cons a l, p, h => by
    rw [List.zip_cons_cons] at h
    rcases List.mem_cons.mp h with e | h
    · rw [e]; exact a
    · exact RpL.zip l p h
theorem insB_perm {α : Type} (le : α → α → Bool) (a : α) : ∀ l : List α, (insB le a l).Perm (a :: l)
  | [] => List.Perm.refl _
  | b :: r => by
    unfold insB
    split
    · exact List.Perm.refl _
    · exact ((insB_perm le a r).cons b).trans (List.Perm.swap a b r)
theorem isortB_perm {α : Type} (le : α → α → Bool) : ∀ l : List α, (isortB le l).Perm l
  | [] => List.Perm.refl _
  | a :: r => (insB_perm le a _).trans ((isortB_perm le r).cons a)
/-- sorted: ints of a list or a tuple; else tuples of ints, of rows of ints, of a list -/
def fSortA (x : TO) : Option TO := match x with
  | .b (.d (.tuple a)) => (asInts a).map fun ns => .w (oL ((isort ns).map .int))
  | _ => (lvO x).bind fun a => match asInts a with
    | some ns => some (.w (oL ((isort ns).map .int)))
    | none => if sortOk a = true then some (.w (oL (isortB leD a))) else none
theorem F_sortA (hu : X.A.units + 64 < cLine) : FB1 X "sorted" fSortA := fun x o h => by
  unfold fSortA at h
  split at h
  · rename_i a
    obtain ⟨ns, h2, h⟩ := map_some h
    cases h
    refine ⟨_, cr_sortedIT, fun c ts tv es σ v H Q hK r q => ?_⟩
    rw [asInts_ok h2] at r
    obtain ⟨p, vs, rfl, hp, hl, rp⟩ := r.tup
    obtain ⟨M, as, t⟩ := r.tms
    have ev : vs = ns.map V.int := (rp M as t).ints
    subst ev
    refine ⟨p, ns, rfl, .inr (.inl hp), fun ns' p' pm so hn => q _ _ (Ext.nw hn) ?_⟩
    have e : ns' = isort ns := sorted_unique (pm.trans (isort_perm ns).symm) so (isort_sorted ns)
    rw [e, asInts_ok h2]
    exact r.newL hn fun M as t => RpL.ofNs _
  · obtain ⟨a, h1, hb⟩ := bind_some h
    split at hb
    · rename_i ns h2
      cases hb
      refine ⟨_, cr_sortedIT, fun c ts tv es σ v H Q hK r q => ?_⟩
      have lv := lvO_ok h1
      rw [asInts_ok h2] at lv
      obtain ⟨p, vs, rfl, hp, hl, rp⟩ := r.lv lv
      obtain ⟨M, as, t⟩ := r.tms
      have ev : vs = ns.map V.int := (rp M as t).ints
      subst ev
      refine ⟨p, ns, rfl, .inl (.inl (.inl hp)), fun ns' p' pm so hn => q _ _ (Ext.nw hn) ?_⟩
      have e : ns' = isort ns := sorted_unique (pm.trans (isort_perm ns).symm) so (isort_sorted ns)
      rw [e]
      exact r.newL hn fun M as t => RpL.ofNs _
    · obtain ⟨h3, hb⟩ := if_some hb
      cases hb
      refine ⟨_, cr_sortedD hu, fun c ts tv es σ v H Q hK r q => ?_⟩
      obtain ⟨p, vs, rfl, hp, hl, rp⟩ := r.lv (lvO_ok h1)
      obtain ⟨M, as, t⟩ := r.tms
      have dp := (rp M as t).dp
      rw [hK] at dp
      refine ⟨p, vs, a, rfl, .inl (.inl hp), dp, h3, fun p' hn => q _ _ (Ext.nw hn) ?_⟩
      refine r.newL hn fun M as t => ?_
      have z := rp M as t
      rw [← sortV_snd hl]
      exact RpL.ofPairs fun y hy => RpL.zip z y ((isortB_perm _ _).mem_iff.mp hy)
end
end Wk

/-! Wk20 -/
set_option Elab.async false
set_option linter.all false
set_option maxRecDepth 100000
set_option maxHeartbeats 4000000
/-! Wk20: comprehensions that map, more laws of readings -/
namespace Wk
open PySem PySem.Spec L2
@[simp] theorem kVar_e (i : Nat) (es : List SE) : kVar i es = match gt es i with
    | .s _ t => some (es, .b t)
    | .z => none := rfl
@[simp] theorem kVarF_e (i : Nat) (es : List SE) : kVarF i es = match gt es i with
    | .s b (.d x) => some (es, D x)
    | .s false t => (fz t).map fun x => (es.set i (.s false (.d x)), D x)
    | .s true t => some (es, .b t)
    | .z => none := rfl
abbrev si (i : Int) : SE := .s false (.d (.int i))
abbrev sd (x : PyData) : SE := .s false (.d x)
abbrev ti (l : List Int) : PyData := .tuple (l.map .int)
abbrev li (l : List Int) : PyData := .list (l.map .int)
/-- the elements are o x (data or own lists), the state stands still -/
theorem compL_mapO {vs : List Nat} {T : Tg} {t : DB} {d : DE} {es : List SE} {α : Type} (enc : α → PyData) (f : α → TO) : ∀ (xs : List α) (acc : List OT),
    (∀ x ∈ xs, adB (f x) = true ∧ ∃ es1 es2 es3, tgS false T (enc x) (wz vs es) = some es1 ∧ t es1 = some (es2, true) ∧ d es2 = some (es3, f x) ∧ wz vs es3 = es) → acc.length + xs.length ≤ sizeLine →
    compL vs T t d (xs.map enc) es acc = some (es, acc ++ xs.map fun x => otOf (f x))
  | [], acc, _, _ => by simp [compL]
  | x :: xs, acc, hs, hz => by
    obtain ⟨h0, es1, es2, es3, h1, h2, h3, h4⟩ := hs x List.mem_cons_self
    rw [List.length_cons] at hz
    rw [List.map_cons, compL_yes h1 h2 h3 h0 (by omega), h4, compL_mapO enc f xs _ (fun y hy => hs y (List.mem_cons_of_mem _ hy)) (by rw [List.length_append, List.length_singleton]; omega), List.append_assoc]
    rfl
theorem compL_map {vs : List Nat} {T : Tg} {t : DB} {d : DE} {es : List SE} {α : Type} (enc : α → PyData) (f : α → PyData) (xs : List α)
    (hs : ∀ x ∈ xs, ∃ es1 es2 es3, tgS false T (enc x) (wz vs es) = some es1 ∧ t es1 = some (es2, true) ∧ d es2 = some (es3, D (f x)) ∧ wz vs es3 = es) (hz : xs.length ≤ sizeLine) :
    compL vs T t d (xs.map enc) es [] = some (es, (xs.map f).map .d) := by
  rw [compL_mapO enc (fun x => D (f x)) xs [] (fun x hx => ⟨rfl, hs x hx⟩) (by simpa using hz)]
  simp
theorem map_enc {α : Type} (f : α → PyData) (xs : List α) : (xs.map f).map OT.d = xs.map fun x => OT.d (f x) := by rw [List.map_map]; rfl
@[simp] theorem lvO_WW {xs : List PyData} : lvO (.w (oL xs)) = some xs := lvL_map xs
@[simp] theorem lvL_mapd {xs : List PyData} : lvL (xs.map .d) = some xs := lvL_map xs
@[simp] theorem asInts_mapi {ns : List Int} : asInts (ns.map .int) = some ns := asInts_map ns
@[simp] theorem asBools_mapb {ns : List Bool} : asBools (ns.map .bool) = some ns := asBools_map ns
@[simp] theorem fz_mapd {xs : List PyData} : fz (.l (xs.map .d)) = some (.list xs) := fz_oL xs
theorem szBig : (16777216 : Nat) ≤ sizeLine := by decide
end Wk

/-! K45a -/
set_option Elab.async false
set_option linter.all false
set_option maxRecDepth 100000
set_option maxHeartbeats 4000000
namespace Gemaingonethrou
open PySem PySem.Spec PyProof.Rows L2 Wk
def fuel : Nat := 1000000
def top (i : Nat) : Stmt := (PySem.Challenge.pw_fromsomestepon_k45_whole_main_gone_throu).main.body.getD i (.Pass ⟨0, 0, 0, 0⟩)
/-- the built-in names that the text reads -/
structure Bi (mg : Str → Option Value) : Prop where
  abs : mg "abs" = none
  all : mg "all" = none
  enumerate : mg "enumerate" = none
  int : mg "int" = none
  len : mg "len" = none
  list : mg "list" = none
  min : mg "min" = none
  range : mg "range" = none
  repr : mg "repr" = none
  reversed : mg "reversed" = none
  sorted : mg "sorted" = none
  sum : mg "sum" = none
  tuple : mg "tuple" = none
abbrev st_l_own_bag : Stmt := top 22
def b_l_own_bag_1 : DS :=
  (oSet 2 (kOp true fMod (kOp true fAdd (kOp true fAdd (kOp true fMul (kVar 2) (kI 48271)) (kOp true fMod (kF fInt (kVar 3)) (kI 2147483629))) (kI 7)) (kI 2147483647)))
def e_l_own_bag_2 : DE :=
  (kOp true fMod (kF fAbs (kVar 3)) (kOp true fPow (kI 10) (kI 60)))
def d_l_own_bag : DS :=
  (oSeq (oSet 1 (kComp [3] (.n 3) (iSeq (kSl (kVar 0) pNo (pAt (kI 63)))) kTrue e_l_own_bag_2)) (oSeq (oSet 2 (kOp true fAdd (kI 2468) (kF fLen (kVar 1)))) (oSeq (oFor false (.n 3) [3] (iSeq (kVarF 1)) b_l_own_bag_1) (oRet (kLst (kO1 (kRev (kF fList (kVar 1))) (kO1 (kI 0) (kO1 (kVar 2) kO0))))))))
def sem_l_own_bag : List Int → Option Wk.TO := semOfF 4 d_l_own_bag
theorem ad_l_own_bag : ∀ ns o, sem_l_own_bag ns = some o → adB o = true := semOfF_ad
theorem sc_l_own_bag : FnScope ["script", "cells", "mixed", "cell"] ["script"] (defScope st_l_own_bag) := ⟨rfl, rfl, rfl, by decide +kernel, rfl, by decide +kernel, by decide +kernel⟩
theorem ok_l_own_bag {P : Program} {w : World} {K : PySem.W.Frag} {mg : Str → Option Value} {base : Heap} {f : Addr} {fd : FuncData} (m : Bi mg)  (F : FunD K "_law_own_bag" "_law_own_bag" (defArgs st_l_own_bag) (defBody st_l_own_bag) (defScope st_l_own_bag) [] [] f fd) :
    FnG P w K mg base CX0 1 f fd ["script"] (SfF K sem_l_own_bag) :=
  fn_F (k := 0) F sc_l_own_bag rfl fun _ _ _ _ s0 H0 _ B =>
    (oks_cons (oks_setComp (own := [(("cell" : Str), 3)]) 1 B.toGd (oki_seq (Ok.up (ok_sl (ok_v 0) okp_no (okp_at ok_i)))) (blkOk_by (by kernel_rfl)) (fun s1 H1 _ _ fp1 => (okg_n 3 (B.blk s1 H1 _ _ fp1).toGd)) (fun s1 H1 _ _ fp1 => okts_0) (fun s1 H1 _ _ fp1 => (Ok.up (ok_op F_mod (ok_b1 F_abs m.abs (ok_v 3)) (ok_op F_pow ok_i ok_i)))))
    (oks_cons (oks_set 2 B.toGd (Ok.up (ok_op F_add ok_i (ok_b1 F_len m.len (ok_v 1)))))
    (oks_cons (oks_for [3] B.toGd (oki_seq (ok_vF 1)) (okg_n 3 B.toGd) (oks_one (oks_set 2 B.toGd (Ok.up (ok_op F_mod (ok_op F_add (ok_op F_add (ok_op F_mul (ok_v 2) ok_i) (ok_op F_mod (ok_ty1 F_int m.int (ok_v 3)) ok_i)) ok_i) ok_i)))))
    (oks_one (oks_ret (Ok.up (ok_lst (oko_1 (ok_rev B.toGd m.list m.reversed (ok_ty1 F_list m.list (ok_v 1))) (oko_1 ok_i (oko_1 (ok_v 2) oko_0))))))))))
abbrev st_l_gone : Stmt := top 30
def e_l_gone_1 : DE :=
  (kOp true fAdd (kVar 5) (kLst (kO1 (kVar 6) kO0)))
def b_l_gone_2 : DS :=
  (oExt 4 (kD (kComp [6] (.n 6) (iSeq (kVar 1)) kTrue e_l_gone_1)))
def b_l_gone_3 : DS :=
  (oSeq (oSet 4 (kLst kO0)) (oSeq (oFor false (.n 5) [5] (iSeq (kVarF 2)) b_l_gone_2) (oSet 2 (kVarF 4))))
def d_l_gone : DS :=
  (oSeq (oPar false [1, 2] (kO1 (kOp true fIx (kD (kLst (kO1 (kLst (kO1 (kI 0) (kO1 (kI 1) kO0))) (kO1 (kLst (kO1 (kI 0) (kO1 (kI 1) (kO1 (kI 3) (kO1 (kI 2) kO0))))) (kO1 (kLst (kO1 (kI 0) (kO1 (kI 1) (kO1 (kI 3) (kO1 (kI 7) (kO1 (kI 5) (kO1 (kI 2) (kO1 (kI 6) (kO1 (kI 4) kO0))))))))) kO0))))) (kOp true fSub (kVar 0) (kI 1))) (kO1 (kLst (kO1 (kLst kO0) kO0)) kO0))) (oSeq (oFor false (.n 3) [3, 4, 5] (iRange1 (kVar 0)) b_l_gone_3) (oRet (kVarF 2))))
def sem_l_gone : List PyData → Option Wk.TO := semOf 7 d_l_gone
theorem ad_l_gone : ∀ ds o, sem_l_gone ds = some o → adB o = true := semOf_ad
theorem sc_l_gone : FnScope ["many", "order", "found", "turn", "longer", "rows", "row"] ["many"] (defScope st_l_gone) := ⟨rfl, rfl, rfl, by decide +kernel, rfl, by decide +kernel, by decide +kernel⟩
theorem ok_l_gone {P : Program} {w : World} {K : PySem.W.Frag} {mg : Str → Option Value} {base : Heap} {f : Addr} {fd : FuncData} (m : Bi mg)  (F : FunD K "_law_gone" "_law_gone" (defArgs st_l_gone) (defBody st_l_gone) (defScope st_l_gone) [] [] f fd) :
    FnG P w K mg base CX0 1 f fd ["many"] (Sf K 1 sem_l_gone) :=
  fn_S (k := 0) F sc_l_gone rfl fun _ _ _ _ s0 H0 _ B =>
    (oks_cons (oks_par2 1 2 B.toGd (oko_1 (Ok.up (ok_ix F_ix (ok_D (ok_lst (oko_1 (ok_lst (oko_1 ok_i (oko_1 ok_i oko_0))) (oko_1 (ok_lst (oko_1 ok_i (oko_1 ok_i (oko_1 ok_i (oko_1 ok_i oko_0))))) (oko_1 (ok_lst (oko_1 ok_i (oko_1 ok_i (oko_1 ok_i (oko_1 ok_i (oko_1 ok_i (oko_1 ok_i (oko_1 ok_i (oko_1 ok_i oko_0))))))))) oko_0))))) (ok_op F_sub (ok_v 0) ok_i))) (oko_1 (Ok.up (ok_lst (oko_1 (ok_lst oko_0) oko_0))) oko_0)))
    (oks_cons (oks_for [3, 4, 5] B.toGd (oki_range1 m.range (ok_v 0)) (okg_n 3 B.toGd) (oks_cons (oks_set 4 B.toGd (Ok.up (ok_lst oko_0)))
    (oks_cons (oks_for [5] B.toGd (oki_seq (ok_vF 2)) (okg_n 5 B.toGd) (oks_one (oks_ext 4 (ok_D (ok_comp (own := [(("row" : Str), 6)]) B.toGd (oki_seq (ok_v 1)) (blkOk_by (by kernel_rfl)) (fun s1 H1 _ _ fp1 => (okg_n 6 (B.blk s1 H1 _ _ fp1).toGd)) (fun s1 H1 _ _ fp1 => okts_0) (fun s1 H1 _ _ fp1 => (Ok.up (ok_op F_add (ok_v 5) (ok_lst (oko_1 (ok_v 6) oko_0))))))))))
    (oks_one (oks_set 2 B.toGd (ok_vF 4))))))
    (oks_one (oks_ret (ok_vF 2)))))
abbrev st_l_when : Stmt := top 29
def e_l_when_1 : DE :=
  (kOp true fOr (kOp true fOr (kOp true fMul (kOp true fIx (kVar 1) (kI 0)) (kOp true fAnd (kVar 5) (kI 1))) (kOp true fMul (kOp true fIx (kVar 1) (kI 1)) (kOp true fAnd (kOp true fShr (kVar 5) (kI 1)) (kI 1)))) (kOp true fMul (kOp true fIx (kVar 1) (kI 2)) (kOp true fShr (kVar 5) (kI 2))))
def b_l_when_2 : DS :=
  (oSeq (oIf (kT (kOp true fEq (kVar 2) (kVar 3))) (oRet (kVar 4)) oNx) (oSet 2 (kComp [5] (.n 5) (iSeq (kVarF 2)) kTrue e_l_when_1)))
def d_l_when : DS :=
  (oSeq (oPar false [1, 2, 3] (kO1 (kOp true fAdd (kVar 0) (kLst (kO1 (kI 0) (kO1 (kI 0) kO0)))) (kO1 (kVar 0) (kO1 (kOp true fMul (kLst (kO1 (kOp true fSub (kOp true fShl (kI 1) (kF fLen (kVar 0))) (kI 1)) kO0)) (kF fLen (kVar 0))) kO0)))) (oSeq (oFor false (.n 4) [4] (iRange2 (kI 1) (kI 6)) b_l_when_2) (oRet (kI 0))))
def sem_l_when : List PyData → Option Wk.TO := semOf 6 d_l_when
theorem ad_l_when : ∀ ds o, sem_l_when ds = some o → adB o = true := semOf_ad
theorem sc_l_when : FnScope ["rows", "rest", "now", "full", "k", "lot"] ["rows"] (defScope st_l_when) := ⟨rfl, rfl, rfl, by decide +kernel, rfl, by decide +kernel, by decide +kernel⟩
theorem ok_l_when {P : Program} {w : World} {K : PySem.W.Frag} {mg : Str → Option Value} {base : Heap} {f : Addr} {fd : FuncData} (m : Bi mg)  (F : FunD K "_law_when" "_law_when" (defArgs st_l_when) (defBody st_l_when) (defScope st_l_when) [] [] f fd) :
    FnG P w K mg base CX0 1 f fd ["rows"] (Sf K 1 sem_l_when) :=
  fn_S (k := 0) F sc_l_when rfl fun _ _ _ _ s0 H0 _ B =>
    (oks_cons (oks_parN B.toGd (oko_1 (Ok.up (ok_op F_add (ok_v 0) (ok_lst (oko_1 ok_i (oko_1 ok_i oko_0))))) (oko_1 (ok_v 0) (oko_1 (Ok.up (ok_op F_mul (ok_lst (oko_1 (ok_op F_sub (ok_op F_shl ok_i (ok_b1 F_len m.len (ok_v 0))) ok_i) oko_0)) (ok_b1 F_len m.len (ok_v 0)))) oko_0))) (okg_t (is := [1, 2, 3]) B.toGd (okg_1 1 B.toGd (okg_1 2 B.toGd (okg_1 3 B.toGd okg_0)))))
    (oks_cons (oks_for [4] B.toGd (oki_range2 m.range ok_i ok_i) (okg_n 4 B.toGd) (oks_cons (oks_if (OkT.up (okt_cmp (F_eq B.u64) (ok_v 2) (ok_v 3))) (oks_one (oks_ret (ok_v 4))) oks_nil)
    (oks_one (oks_setComp (own := [(("lot" : Str), 5)]) 2 B.toGd (oki_seq (ok_vF 2)) (blkOk_by (by kernel_rfl)) (fun s1 H1 _ _ fp1 => (okg_n 5 (B.blk s1 H1 _ _ fp1).toGd)) (fun s1 H1 _ _ fp1 => okts_0) (fun s1 H1 _ _ fp1 => (Ok.up (ok_op F_or (ok_op F_or (ok_op F_mul (ok_ix F_ix (ok_v 1) ok_i) (ok_op F_and (ok_v 5) ok_i)) (ok_op F_mul (ok_ix F_ix (ok_v 1) ok_i) (ok_op F_and (ok_op F_shr (ok_v 5) ok_i) ok_i))) (ok_op F_mul (ok_ix F_ix (ok_v 1) ok_i) (ok_op F_shr (ok_v 5) ok_i)))))))))
    (oks_one (oks_ret ok_i))))
abbrev st_l_same : Stmt := top 28
def d_l_same : DS :=
  (oRet (kV (kAnd (kT (kOp true fEq (kF fRepr (kVar 0)) (kF fRepr (kVar 1)))) (kT (kOp true fEq (kVar 0) (kVar 1))))))
def sem_l_same : List PyData → Option Wk.TO := semOf 2 d_l_same
theorem ad_l_same : ∀ ds o, sem_l_same ds = some o → adB o = true := semOf_ad
theorem sc_l_same : FnScope ["told", "due"] ["told", "due"] (defScope st_l_same) := ⟨rfl, rfl, rfl, by decide +kernel, rfl, by decide +kernel, by decide +kernel⟩
theorem ok_l_same {P : Program} {w : World} {K : PySem.W.Frag} {mg : Str → Option Value} {base : Heap} {f : Addr} {fd : FuncData} (m : Bi mg)  (F : FunD K "_law_same" "_law_same" (defArgs st_l_same) (defBody st_l_same) (defScope st_l_same) [] [] f fd) :
    FnG P w K mg base CX0 1 f fd ["told", "due"] (Sf K 2 sem_l_same) :=
  fn_S (k := 0) F sc_l_same rfl fun _ _ _ _ s0 H0 _ B =>
    (oks_one (oks_ret (Ok.up (ok_and (ok_cmp (F_eq B.u64) (ok_b1 (F_repr B.guards B.u64) m.repr (ok_v 0)) (ok_b1 (F_repr B.guards B.u64) m.repr (ok_v 1))) (ok_one (ok_cmp (F_eq B.u64) (ok_v 0) (ok_v 1)))))))
abbrev st_l_draw : Stmt := top 23
def b_l_draw_1 : DS :=
  (oSeq (oSet 2 (kPop1 0 0)) (oSetI 0 (kI 1) (kIte (kT (kOp true fGt (kVar 2) (kOp true fPow (kI 10) (kI 9)))) (kVar 2) (kI 0))))
def w_l_draw_2 : DB :=
  (kAnd (kT (kOp true fEq (kOp true fIx (kVar 0) (kI 1)) (kI 0))) (kT (kOp true fNe (kOp true fIx (kVar 0) (kI 0)) (kLst kO0))))
def d_l_draw : DS :=
  (oSeq (oWhile fuel w_l_draw_2 [2] b_l_draw_1) (oSeq (oIf (kT (kOp true fGt (kOp true fIx (kVar 0) (kI 1)) (kI 0))) (oSeq (oSet 3 (kOp true fMod (kF fInt (kOp true fIx (kVar 0) (kI 1))) (kVar 1))) (oSeq (oSetI 0 (kI 1) (kOp true fDiv (kOp true fIx (kVar 0) (kI 1)) (kVar 1))) (oRet (kVar 3)))) oNx) (oSeq (oSetI 0 (kI 2) (kOp true fMod (kF fInt (kOp true fAdd (kOp true fMul (kOp true fIx (kVar 0) (kI 2)) (kI 48271)) (kI 11))) (kI 2147483647))) (oRet (kOp true fMod (kOp true fDiv (kOp true fMod (kF fInt (kOp true fMul (kOp true fIx (kVar 0) (kI 2)) (kOp true fIx (kVar 0) (kI 2)))) (kI 2147483629)) (kI 7)) (kVar 1))))))
def sem_l_draw : OT → List PyData → Option (OT × Wk.TO) := semOf1 4 d_l_draw
theorem ad_l_draw : ∀ t ds t1 o, sem_l_draw t ds = some (t1, o) → adB o = true := semOf1_ad
theorem sc_l_draw : FnScope ["bag", "below", "cell", "found"] ["bag", "below"] (defScope st_l_draw) := ⟨rfl, rfl, rfl, by decide +kernel, rfl, by decide +kernel, by decide +kernel⟩
theorem ok_l_draw {P : Program} {w : World} {K : PySem.W.Frag} {mg : Str → Option Value} {base : Heap} {f : Addr} {fd : FuncData} (m : Bi mg)  (F : FunD K "_law_draw" "_law_draw" (defArgs st_l_draw) (defBody st_l_draw) (defScope st_l_draw) [] [] f fd) :
    FnG P w K mg base CX0 1 f fd ["bag", "below"] (Sf1 K 1 sem_l_draw) :=
  fn_1 (k := 0) F sc_l_draw rfl fun _ _ _ _ s0 H0 _ B =>
    (oks_cons (oks_while _ [2] B.toGd (OkT.up (OkW.t (okw_and (okt_cmp (F_eq B.u64) (ok_ix F_ix (ok_v 0) ok_i) ok_i) (okw_and1 (okt_cmp (F_ne B.u64) (ok_ix F_ix (ok_v 0) ok_i) (ok_lst oko_0)))))) (oks_cons (oks_set 2 B.toGd (ok_pop1 0))
    (oks_one (oks_setI 0 ok_i (Ok.up (ok_ite (okt_cmp F_gt (ok_v 2) (ok_op F_pow ok_i ok_i)) (ok_v 2) ok_i))))))
    (oks_cons (oks_if (OkT.up (okt_cmp F_gt (ok_ix F_ix (ok_v 0) ok_i) ok_i)) (oks_cons (oks_set 3 B.toGd (Ok.up (ok_op F_mod (ok_ty1 F_int m.int (ok_ix F_ix (ok_v 0) ok_i)) (ok_v 1))))
    (oks_cons (oks_setI 0 ok_i (Ok.up (ok_op F_div (ok_ix F_ix (ok_v 0) ok_i) (ok_v 1))))
    (oks_one (oks_ret (ok_v 3))))) oks_nil)
    (oks_cons (oks_setI 0 ok_i (Ok.up (ok_op F_mod (ok_ty1 F_int m.int (ok_op F_add (ok_op F_mul (ok_ix F_ix (ok_v 0) ok_i) ok_i) ok_i)) ok_i)))
    (oks_one (oks_ret (Ok.up (ok_op F_mod (ok_op F_div (ok_op F_mod (ok_ty1 F_int m.int (ok_op F_mul (ok_ix F_ix (ok_v 0) ok_i) (ok_ix F_ix (ok_v 0) ok_i))) ok_i) ok_i) (ok_v 1))))))))
abbrev st_l_fewest : Stmt := top 34
def e_l_fewest_1 : DE :=
  (kOp true fIx (kVar 3) (kVar 6))
def e_l_fewest_2 : DE :=
  (kF fSum (kComp [6] (.n 6) (iSeq (kVar 5)) kTrue e_l_fewest_1))
def t_l_fewest_3 : DB :=
  (kChain true fLt fLe (kI 0) (kOp true fIx (kVar 1) (kVar 4)) (kVar 2))
def d_l_fewest : DS :=
  (oSeq (oSet 3 (kLst (kO1 (kI 0) (kO1 (kI 1) (kO1 (kI 1) (kO1 (kI 2) (kO1 (kI 1) (kO1 (kI 2) (kO1 (kI 2) (kO1 (kI 3) kO0)))))))))) (oRet (kF fMin (kComp [4, 5] (.t [4, 5]) (iEnum (kVar 0)) t_l_fewest_3 e_l_fewest_2))))
def sem_l_fewest : List PyData → Option Wk.TO := semOf 7 d_l_fewest
theorem ad_l_fewest : ∀ ds o, sem_l_fewest ds = some o → adB o = true := semOf_ad
theorem sc_l_fewest : FnScope ["webs", "whens", "k", "bits", "at", "rows", "row"] ["webs", "whens", "k"] (defScope st_l_fewest) := ⟨rfl, rfl, rfl, by decide +kernel, rfl, by decide +kernel, by decide +kernel⟩
theorem ok_l_fewest {P : Program} {w : World} {K : PySem.W.Frag} {mg : Str → Option Value} {base : Heap} {f : Addr} {fd : FuncData} (m : Bi mg)  (F : FunD K "_law_fewest" "_law_fewest" (defArgs st_l_fewest) (defBody st_l_fewest) (defScope st_l_fewest) [] [] f fd) :
    FnG P w K mg base CX0 1 f fd ["webs", "whens", "k"] (Sf K 3 sem_l_fewest) :=
  fn_S (k := 0) F sc_l_fewest rfl fun _ _ _ _ s0 H0 _ B =>
    (oks_cons (oks_set 3 B.toGd (Ok.up (ok_lst (oko_1 ok_i (oko_1 ok_i (oko_1 ok_i (oko_1 ok_i (oko_1 ok_i (oko_1 ok_i (oko_1 ok_i (oko_1 ok_i oko_0)))))))))))
    (oks_one (oks_ret (ok_b1 (F_min B.calm) m.min (ok_comp (own := [(("at" : Str), 4), (("rows" : Str), 5)]) B.toGd (oki_enumA m.enumerate (ok_v 0)) (blkOk_by (by kernel_rfl)) (fun s1 H1 _ _ fp1 => (okg_t (is := [4, 5]) (B.blk s1 H1 _ _ fp1).toGd (okg_1 4 (B.blk s1 H1 _ _ fp1).toGd (okg_1 5 (B.blk s1 H1 _ _ fp1).toGd okg_0)))) (fun s1 H1 _ _ fp1 => (okts_1 (OkT.up (okt_chain F_lt F_le ok_i (ok_ix F_ix (ok_v 1) (ok_v 4)) (ok_v 2))))) (fun s1 H1 _ _ fp1 => (ok_b1 (F_sum (B.blk s1 H1 _ _ fp1).calm) m.sum (ok_comp (own := [(("row" : Str), 6)]) (B.blk s1 H1 _ _ fp1).toGd (oki_seq (ok_v 5)) (blkOk_by (by kernel_rfl)) (fun s2 H2 _ _ fp2 => (okg_n 6 ((B.blk s1 H1 _ _ fp1).blk s2 H2 _ _ fp2).toGd)) (fun s2 H2 _ _ fp2 => okts_0) (fun s2 H2 _ _ fp2 => (Ok.up (ok_ix F_ix (ok_v 3) (ok_v 6))))))))))))
abbrev st_l_counts : Stmt := top 32
def t_l_counts_1 : DB :=
  (kT (kOp true fEq (kVar 3) (kVar 2)))
def e_l_counts_2 : DE :=
  (kF fLen (kComp [3] (.n 3) (iSeq (kVar 1)) t_l_counts_1 (kVar 3)))
def d_l_counts : DS :=
  (oRet (kF fTuple (kComp [2] (.n 2) (iRange1 (kOp true fAdd (kOp true fMul (kOp true fSub (kVar 0) (kI 1)) (kOp true fSub (kVar 0) (kI 1))) (kI 2))) kTrue e_l_counts_2)))
def sem_l_counts : List PyData → Option Wk.TO := semOf 4 d_l_counts
theorem ad_l_counts : ∀ ds o, sem_l_counts ds = some o → adB o = true := semOf_ad
theorem sc_l_counts : FnScope ["many", "whens", "at", "k"] ["many", "whens"] (defScope st_l_counts) := ⟨rfl, rfl, rfl, by decide +kernel, rfl, by decide +kernel, by decide +kernel⟩
theorem ok_l_counts {P : Program} {w : World} {K : PySem.W.Frag} {mg : Str → Option Value} {base : Heap} {f : Addr} {fd : FuncData} (m : Bi mg)  (F : FunD K "_law_counts" "_law_counts" (defArgs st_l_counts) (defBody st_l_counts) (defScope st_l_counts) [] [] f fd) :
    FnG P w K mg base CX0 1 f fd ["many", "whens"] (Sf K 2 sem_l_counts) :=
  fn_S (k := 0) F sc_l_counts rfl fun _ _ _ _ s0 H0 _ B =>
    (oks_one (oks_ret (ok_ty1 F_tuple m.tuple (ok_comp (own := [(("at" : Str), 2)]) B.toGd (oki_range1 m.range (Ok.up (ok_op F_add (ok_op F_mul (ok_op F_sub (ok_v 0) ok_i) (ok_op F_sub (ok_v 0) ok_i)) ok_i))) (blkOk_by (by kernel_rfl)) (fun s1 H1 _ _ fp1 => (okg_n 2 (B.blk s1 H1 _ _ fp1).toGd)) (fun s1 H1 _ _ fp1 => okts_0) (fun s1 H1 _ _ fp1 => (ok_b1 F_len m.len (ok_comp (own := [(("k" : Str), 3)]) (B.blk s1 H1 _ _ fp1).toGd (oki_seq (ok_v 1)) (blkOk_by (by kernel_rfl)) (fun s2 H2 _ _ fp2 => (okg_n 3 ((B.blk s1 H1 _ _ fp1).blk s2 H2 _ _ fp2).toGd)) (fun s2 H2 _ _ fp2 => (okts_1 (OkT.up (okt_cmp (F_eq ((B.blk s1 H1 _ _ fp1).blk s2 H2 _ _ fp2).u64) (ok_v 3) (ok_v 2))))) (fun s2 H2 _ _ fp2 => (ok_v 3)))))))))
abbrev st_lot_of : Stmt := top 6
def t_lot_of_1 : DB :=
  (kT (kOp true fEq (kOp true fAnd (kOp true fShr (kVar 0) (kVar 2)) (kI 1)) (kI 1)))
def d_lot_of : DS :=
  (oRet (kF fTuple (kComp [2] (.n 2) (iRange1 (kVar 1)) t_lot_of_1 (kVar 2))))
def sem_lot_of : List PyData → Option Wk.TO := semOf 3 d_lot_of
theorem ad_lot_of : ∀ ds o, sem_lot_of ds = some o → adB o = true := semOf_ad
theorem sc_lot_of : FnScope ["mask", "n", "place"] ["mask", "n"] (defScope st_lot_of) := ⟨rfl, rfl, rfl, by decide +kernel, rfl, by decide +kernel, by decide +kernel⟩
theorem ok_lot_of {P : Program} {w : World} {K : PySem.W.Frag} {mg : Str → Option Value} {base : Heap} {f : Addr} {fd : FuncData} (m : Bi mg)  (F : FunD K "lot_of" "lot_of" (defArgs st_lot_of) (defBody st_lot_of) (defScope st_lot_of) [] [] f fd) :
    FnG P w K mg base CX0 1 f fd ["mask", "n"] (Sf K 2 sem_lot_of) :=
  fn_S (k := 0) F sc_lot_of rfl fun _ _ _ _ s0 H0 _ B =>
    (oks_one (oks_ret (ok_ty1 F_tuple m.tuple (ok_comp (own := [(("place" : Str), 2)]) B.toGd (oki_range1 m.range (ok_v 1)) (blkOk_by (by kernel_rfl)) (fun s1 H1 _ _ fp1 => (okg_n 2 (B.blk s1 H1 _ _ fp1).toGd)) (fun s1 H1 _ _ fp1 => (okts_1 (OkT.up (okt_cmp (F_eq (B.blk s1 H1 _ _ fp1).u64) (ok_op F_and (ok_op F_shr (ok_v 0) (ok_v 2)) ok_i) ok_i)))) (fun s1 H1 _ _ fp1 => (ok_v 2))))))
abbrev st_all_webs : Stmt := top 12
def e_all_webs_1 : DE :=
  (kOp true fAdd (kVar 5) (kTup (kL1 (kVar 7) kL0)))
def b_all_webs_2 : DS :=
  (oExt 4 (kD (kComp [7] (.n 7) (iSeq (kVarF 1)) kTrue e_all_webs_1)))
def b_all_webs_3 : DS :=
  (oSeq (oSet 4 (kLst kO0)) (oSeq (oFor false (.n 5) [5] (iSeq (kVarF 2)) b_all_webs_2) (oSet 2 (kVarF 4))))
def e_all_webs_4 : DE :=
  (kCall 2 sem_lot_of (kL1 (kVar 6) (kL1 (kVar 0) kL0)))
def d_all_webs : DS :=
  (oSeq (oPar false [1, 2] (kO1 (kComp [6] (.n 6) (iRange1 (kOp true fShl (kI 1) (kVar 0))) kTrue e_all_webs_4) (kO1 (kLst (kO1 (kTup kL0) kO0)) kO0))) (oSeq (oFor false (.n 3) [3, 4, 5] (iRange1 (kVar 0)) b_all_webs_3) (oRet (kF fSortA (kVar 2)))))
def sem_all_webs : List PyData → Option Wk.TO := semOf 8 d_all_webs
theorem ad_all_webs : ∀ ds o, sem_all_webs ds = some o → adB o = true := semOf_ad
theorem sc_all_webs : FnScope ["n", "lots", "found", "place", "longer", "rows", "mask", "lot"] ["n"] (defScope st_all_webs) := ⟨rfl, rfl, rfl, by decide +kernel, rfl, by decide +kernel, by decide +kernel⟩
theorem ok_all_webs {P : Program} {w : World} {K : PySem.W.Frag} {mg : Str → Option Value} {base : Heap} {f : Addr} {fd : FuncData} (m : Bi mg) (C_lot_of : Cal P w K mg base 1 "lot_of" ["mask", "n"] (Sf K 2 sem_lot_of)) (F : FunD K "all_webs" "all_webs" (defArgs st_all_webs) (defBody st_all_webs) (defScope st_all_webs) [] [] f fd) :
    FnG P w K mg base CX0 2 f fd ["n"] (Sf K 1 sem_all_webs) :=
  fn_S (k := 1) F sc_all_webs rfl fun _ _ _ _ s0 H0 _ B =>
    (oks_cons (oks_par2 1 2 B.toGd (oko_1 (ok_comp (own := [(("mask" : Str), 6)]) B.toGd (oki_range1 m.range (Ok.up (ok_op F_shl ok_i (ok_v 0)))) (blkOk_by (by kernel_rfl)) (fun s2 H2 _ _ fp2 => (okg_n 6 (B.blk s2 H2 _ _ fp2).toGd)) (fun s2 H2 _ _ fp2 => okts_0) (fun s2 H2 _ _ fp2 => (Ok.up (ok_c (B.blk s2 H2 _ _ fp2) C_lot_of ad_lot_of (okl_1 (ok_v 6) (okl_1 (ok_v 0) okl_0)))))) (oko_1 (Ok.up (ok_lst (oko_1 (ok_tup okl_0) oko_0))) oko_0)))
    (oks_cons (oks_for [3, 4, 5] B.toGd (oki_range1 m.range (ok_v 0)) (okg_n 3 B.toGd) (oks_cons (oks_set 4 B.toGd (Ok.up (ok_lst oko_0)))
    (oks_cons (oks_for [5] B.toGd (oki_seq (ok_vF 2)) (okg_n 5 B.toGd) (oks_one (oks_ext 4 (ok_D (ok_comp (own := [(("lot" : Str), 7)]) B.toGd (oki_seq (ok_vF 1)) (blkOk_by (by kernel_rfl)) (fun s1 H1 _ _ fp1 => (okg_n 7 (B.blk s1 H1 _ _ fp1).toGd)) (fun s1 H1 _ _ fp1 => okts_0) (fun s1 H1 _ _ fp1 => (Ok.up (ok_op F_add (ok_v 5) (ok_tup (okl_1 (ok_v 7) okl_0))))))))))
    (oks_one (oks_set 2 B.toGd (ok_vF 4))))))
    (oks_one (oks_ret (Ok.up (ok_b1 (F_sortA B.u64) m.sorted (ok_v 2)))))))
abbrev st_row_masks : Stmt := top 5
def e_row_masks_1 : DE :=
  (kOp true fShl (kI 1) (kVar 2))
def e_row_masks_2 : DE :=
  (kF fSum (kComp [2] (.n 2) (iSeq (kVar 1)) kTrue e_row_masks_1))
def d_row_masks : DS :=
  (oRet (kComp [1] (.n 1) (iSeq (kVar 0)) kTrue e_row_masks_2))
def sem_row_masks : List PyData → Option Wk.TO := semOf 3 d_row_masks
theorem ad_row_masks : ∀ ds o, sem_row_masks ds = some o → adB o = true := semOf_ad
theorem sc_row_masks : FnScope ["web", "row", "place"] ["web"] (defScope st_row_masks) := ⟨rfl, rfl, rfl, by decide +kernel, rfl, by decide +kernel, by decide +kernel⟩
theorem ok_row_masks {P : Program} {w : World} {K : PySem.W.Frag} {mg : Str → Option Value} {base : Heap} {f : Addr} {fd : FuncData} (m : Bi mg)  (F : FunD K "row_masks" "row_masks" (defArgs st_row_masks) (defBody st_row_masks) (defScope st_row_masks) [] [] f fd) :
    FnG P w K mg base CX0 1 f fd ["web"] (Sf K 1 sem_row_masks) :=
  fn_S (k := 0) F sc_row_masks rfl fun _ _ _ _ s0 H0 _ B =>
    (oks_one (oks_ret (ok_comp (own := [(("row" : Str), 1)]) B.toGd (oki_seq (ok_v 0)) (blkOk_by (by kernel_rfl)) (fun s1 H1 _ _ fp1 => (okg_n 1 (B.blk s1 H1 _ _ fp1).toGd)) (fun s1 H1 _ _ fp1 => okts_0) (fun s1 H1 _ _ fp1 => (ok_b1 (F_sum (B.blk s1 H1 _ _ fp1).calm) m.sum (ok_comp (own := [(("place" : Str), 2)]) (B.blk s1 H1 _ _ fp1).toGd (oki_seq (ok_v 1)) (blkOk_by (by kernel_rfl)) (fun s2 H2 _ _ fp2 => (okg_n 2 ((B.blk s1 H1 _ _ fp1).blk s2 H2 _ _ fp2).toGd)) (fun s2 H2 _ _ fp2 => okts_0) (fun s2 H2 _ _ fp2 => (Ok.up (ok_op F_shl ok_i (ok_v 2))))))))))
abbrev st_led_mask : Stmt := top 7
def b_led_mask_1 : DS :=
  (oIf (kT (kOp true fEq (kOp true fAnd (kOp true fShr (kVar 0) (kVar 3)) (kI 1)) (kI 1))) (oSet 2 (kOp true fOr (kVar 2) (kVar 4))) oNx)
def d_led_mask : DS :=
  (oSeq (oSet 2 (kI 0)) (oSeq (oFor false (.t [3, 4]) [3, 4] (iEnum (kVar 1)) b_led_mask_1) (oRet (kVar 2))))
def sem_led_mask : List PyData → Option Wk.TO := semOf 5 d_led_mask
theorem ad_led_mask : ∀ ds o, sem_led_mask ds = some o → adB o = true := semOf_ad
theorem sc_led_mask : FnScope ["mask", "masks", "found", "place", "own"] ["mask", "masks"] (defScope st_led_mask) := ⟨rfl, rfl, rfl, by decide +kernel, rfl, by decide +kernel, by decide +kernel⟩
theorem ok_led_mask {P : Program} {w : World} {K : PySem.W.Frag} {mg : Str → Option Value} {base : Heap} {f : Addr} {fd : FuncData} (m : Bi mg)  (F : FunD K "led_mask" "led_mask" (defArgs st_led_mask) (defBody st_led_mask) (defScope st_led_mask) [] [] f fd) :
    FnG P w K mg base CX0 1 f fd ["mask", "masks"] (Sf K 2 sem_led_mask) :=
  fn_S (k := 0) F sc_led_mask rfl fun _ _ _ _ s0 H0 _ B =>
    (oks_cons (oks_set 2 B.toGd ok_i)
    (oks_cons (oks_for [3, 4] B.toGd (oki_enumA m.enumerate (ok_v 1)) (okg_t (is := [3, 4]) B.toGd (okg_1 3 B.toGd (okg_1 4 B.toGd okg_0))) (oks_one (oks_if (OkT.up (okt_cmp (F_eq B.u64) (ok_op F_and (ok_op F_shr (ok_v 0) (ok_v 3)) ok_i) ok_i)) (oks_one (oks_set 2 B.toGd (Ok.up (ok_op F_or (ok_v 2) (ok_v 4))))) oks_nil)))
    (oks_one (oks_ret (ok_v 2)))))
abbrev st_masks_behind : Stmt := top 8
def e_masks_behind_1 : DE :=
  (kCall 2 sem_led_mask (kL1 (kVar 2) (kL1 (kVar 1) kL0)))
def d_masks_behind : DS :=
  (oRet (kComp [2] (.n 2) (iSeq (kVar 0)) kTrue e_masks_behind_1))
def sem_masks_behind : List PyData → Option Wk.TO := semOf 3 d_masks_behind
theorem ad_masks_behind : ∀ ds o, sem_masks_behind ds = some o → adB o = true := semOf_ad
theorem sc_masks_behind : FnScope ["one", "other", "mask"] ["one", "other"] (defScope st_masks_behind) := ⟨rfl, rfl, rfl, by decide +kernel, rfl, by decide +kernel, by decide +kernel⟩
theorem ok_masks_behind {P : Program} {w : World} {K : PySem.W.Frag} {mg : Str → Option Value} {base : Heap} {f : Addr} {fd : FuncData} (m : Bi mg) (C_led_mask : Cal P w K mg base 1 "led_mask" ["mask", "masks"] (Sf K 2 sem_led_mask)) (F : FunD K "masks_behind" "masks_behind" (defArgs st_masks_behind) (defBody st_masks_behind) (defScope st_masks_behind) [] [] f fd) :
    FnG P w K mg base CX0 2 f fd ["one", "other"] (Sf K 2 sem_masks_behind) :=
  fn_S (k := 1) F sc_masks_behind rfl fun _ _ _ _ s0 H0 _ B =>
    (oks_one (oks_ret (ok_comp (own := [(("mask" : Str), 2)]) B.toGd (oki_seq (ok_v 0)) (blkOk_by (by kernel_rfl)) (fun s1 H1 _ _ fp1 => (okg_n 2 (B.blk s1 H1 _ _ fp1).toGd)) (fun s1 H1 _ _ fp1 => okts_0) (fun s1 H1 _ _ fp1 => (Ok.up (ok_c (B.blk s1 H1 _ _ fp1) C_led_mask ad_led_mask (okl_1 (ok_v 2) (okl_1 (ok_v 1) okl_0))))))))
abbrev st_from_when : Stmt := top 10
def e_from_when_1 : DE :=
  (kOp true fEq (kVar 6) (kVar 3))
def b_from_when_2 : DS :=
  (oSeq (oIf (kT (kF fAll (kComp [6] (.n 6) (iSeq (kVarF 4)) kTrue e_from_when_1))) (oRet (kVar 5)) oNx) (oSet 4 (kCall 2 sem_masks_behind (kL1 (kVarF 4) (kL1 (kVarF 2) kL0)))))
def d_from_when : DS :=
  (oSeq (oPar false [1, 2] (kO1 (kF fLen (kVar 0)) (kO1 (kCall 1 sem_row_masks (kL1 (kVar 0) kL0)) kO0))) (oSeq (oPar false [3, 4] (kO1 (kOp true fSub (kOp true fShl (kI 1) (kVar 1)) (kI 1)) (kO1 (kCall 1 sem_row_masks (kL1 (kVar 0) kL0)) kO0))) (oSeq (oFor false (.n 5) [5] (iRange2 (kI 1) (kOp true fAdd (kOp true fMul (kOp true fSub (kVar 1) (kI 1)) (kOp true fSub (kVar 1) (kI 1))) (kI 2))) b_from_when_2) (oRet kN))))
def sem_from_when : List PyData → Option Wk.TO := semOf 7 d_from_when
theorem ad_from_when : ∀ ds o, sem_from_when ds = some o → adB o = true := semOf_ad
theorem sc_from_when : FnScope ["web", "n", "masks", "whole", "own", "k", "mask"] ["web"] (defScope st_from_when) := ⟨rfl, rfl, rfl, by decide +kernel, rfl, by decide +kernel, by decide +kernel⟩
theorem ok_from_when {P : Program} {w : World} {K : PySem.W.Frag} {mg : Str → Option Value} {base : Heap} {f : Addr} {fd : FuncData} (m : Bi mg) (C_row_masks : Cal P w K mg base 1 "row_masks" ["web"] (Sf K 1 sem_row_masks)) (C_masks_behind : Cal P w K mg base 2 "masks_behind" ["one", "other"] (Sf K 2 sem_masks_behind)) (F : FunD K "from_when" "from_when" (defArgs st_from_when) (defBody st_from_when) (defScope st_from_when) [] [] f fd) :
    FnG P w K mg base CX0 3 f fd ["web"] (Sf K 1 sem_from_when) :=
  fn_S (k := 2) F sc_from_when rfl fun _ _ _ _ s0 H0 _ B =>
    (oks_cons (oks_par2 1 2 B.toGd (oko_1 (Ok.up (ok_b1 F_len m.len (ok_v 0))) (oko_1 (Ok.up (ok_c B C_row_masks ad_row_masks (okl_1 (ok_v 0) okl_0))) oko_0)))
    (oks_cons (oks_parN B.toGd (oko_1 (Ok.up (ok_op F_sub (ok_op F_shl ok_i (ok_v 1)) ok_i)) (oko_1 (Ok.up (ok_c B C_row_masks ad_row_masks (okl_1 (ok_v 0) okl_0))) oko_0)) (okg_t (is := [3, 4]) B.toGd (okg_1 3 B.toGd (okg_1 4 B.toGd okg_0))))
    (oks_cons (oks_for [5] B.toGd (oki_range2 m.range ok_i (Ok.up (ok_op F_add (ok_op F_mul (ok_op F_sub (ok_v 1) ok_i) (ok_op F_sub (ok_v 1) ok_i)) ok_i))) (okg_n 5 B.toGd) (oks_cons (oks_if (okt_v (ok_b1 (F_all B.calm) m.all (ok_comp (own := [(("mask" : Str), 6)]) B.toGd (oki_seq (ok_vF 4)) (blkOk_by (by kernel_rfl)) (fun s1 H1 _ _ fp1 => (okg_n 6 (B.blk s1 H1 _ _ fp1).toGd)) (fun s1 H1 _ _ fp1 => okts_0) (fun s1 H1 _ _ fp1 => (Ok.up (ok_cmp (F_eq (B.blk s1 H1 _ _ fp1).u64) (ok_v 6) (ok_v 3))))))) (oks_one (oks_ret (ok_v 5))) oks_nil)
    (oks_one (oks_set 4 B.toGd (ok_c B C_masks_behind ad_masks_behind (okl_1 (ok_vF 4) (okl_1 (ok_vF 2) okl_0)))))))
    (oks_one (oks_ret ok_n)))))
abbrev st_webs_from_when : Stmt := top 14
def t_webs_from_when_1 : DB :=
  (kT (kOp true fEq (kCall 1 sem_from_when (kL1 (kVar 2) kL0)) (kVar 1)))
def d_webs_from_when : DS :=
  (oRet (kF fTuple (kComp [2] (.n 2) (iSeq (kCall 1 sem_all_webs (kL1 (kVar 0) kL0))) t_webs_from_when_1 (kVar 2))))
def sem_webs_from_when : List PyData → Option Wk.TO := semOf 3 d_webs_from_when
theorem ad_webs_from_when : ∀ ds o, sem_webs_from_when ds = some o → adB o = true := semOf_ad
theorem sc_webs_from_when : FnScope ["n", "k", "web"] ["n", "k"] (defScope st_webs_from_when) := ⟨rfl, rfl, rfl, by decide +kernel, rfl, by decide +kernel, by decide +kernel⟩
theorem ok_webs_from_when {P : Program} {w : World} {K : PySem.W.Frag} {mg : Str → Option Value} {base : Heap} {f : Addr} {fd : FuncData} (m : Bi mg) (C_all_webs : Cal P w K mg base 2 "all_webs" ["n"] (Sf K 1 sem_all_webs)) (C_from_when : Cal P w K mg base 3 "from_when" ["web"] (Sf K 1 sem_from_when)) (F : FunD K "webs_from_when" "webs_from_when" (defArgs st_webs_from_when) (defBody st_webs_from_when) (defScope st_webs_from_when) [] [] f fd) :
    FnG P w K mg base CX0 4 f fd ["n", "k"] (Sf K 2 sem_webs_from_when) :=
  fn_S (k := 3) F sc_webs_from_when rfl fun _ _ _ _ s0 H0 _ B =>
    (oks_one (oks_ret (ok_ty1 F_tuple m.tuple (ok_comp (own := [(("web" : Str), 2)]) B.toGd (oki_seq (Ok.up (ok_c B C_all_webs ad_all_webs (okl_1 (ok_v 0) okl_0)))) (blkOk_by (by kernel_rfl)) (fun s1 H1 _ _ fp1 => (okg_n 2 (B.blk s1 H1 _ _ fp1).toGd)) (fun s1 H1 _ _ fp1 => (okts_1 (OkT.up (okt_cmp (F_eq (B.blk s1 H1 _ _ fp1).u64) (ok_c (B.blk s1 H1 _ _ fp1) C_from_when ad_from_when (okl_1 (ok_v 2) okl_0)) (ok_v 1))))) (fun s1 H1 _ _ fp1 => (ok_v 2))))))
abbrev st_l_lot : Stmt := top 25
def t_l_lot_1 : DB :=
  (kT (kOp true fEq (kOp true fAnd (kOp true fShr (kVar 0) (kVar 1)) (kI 1)) (kI 1)))
def d_l_lot : DS :=
  (oRet (kF fTuple (kComp [1] (.n 1) (iRange1 (kI 8)) t_l_lot_1 (kVar 1))))
def sem_l_lot : List PyData → Option Wk.TO := semOf 2 d_l_lot
theorem ad_l_lot : ∀ ds o, sem_l_lot ds = some o → adB o = true := semOf_ad
theorem sc_l_lot : FnScope ["mask", "j"] ["mask"] (defScope st_l_lot) := ⟨rfl, rfl, rfl, by decide +kernel, rfl, by decide +kernel, by decide +kernel⟩
theorem ok_l_lot {P : Program} {w : World} {K : PySem.W.Frag} {mg : Str → Option Value} {base : Heap} {f : Addr} {fd : FuncData} (m : Bi mg)  (F : FunD K "_law_lot" "_law_lot" (defArgs st_l_lot) (defBody st_l_lot) (defScope st_l_lot) [] [] f fd) :
    FnG P w K mg base CX0 1 f fd ["mask"] (Sf K 1 sem_l_lot) :=
  fn_S (k := 0) F sc_l_lot rfl fun _ _ _ _ s0 H0 _ B =>
    (oks_one (oks_ret (ok_ty1 F_tuple m.tuple (ok_comp (own := [(("j" : Str), 1)]) B.toGd (oki_range1 m.range ok_i) (blkOk_by (by kernel_rfl)) (fun s1 H1 _ _ fp1 => (okg_n 1 (B.blk s1 H1 _ _ fp1).toGd)) (fun s1 H1 _ _ fp1 => (okts_1 (OkT.up (okt_cmp (F_eq (B.blk s1 H1 _ _ fp1).u64) (ok_op F_and (ok_op F_shr (ok_v 0) (ok_v 1)) ok_i) ok_i)))) (fun s1 H1 _ _ fp1 => (ok_v 1))))))
abbrev st_l_web : Stmt := top 26
def e_l_web_1 : DE :=
  (kCall 1 sem_l_lot (kL1 (kVar 1) kL0))
def d_l_web : DS :=
  (oRet (kF fTuple (kComp [1] (.n 1) (iSeq (kVar 0)) kTrue e_l_web_1)))
def sem_l_web : List PyData → Option Wk.TO := semOf 2 d_l_web
theorem ad_l_web : ∀ ds o, sem_l_web ds = some o → adB o = true := semOf_ad
theorem sc_l_web : FnScope ["rows", "row"] ["rows"] (defScope st_l_web) := ⟨rfl, rfl, rfl, by decide +kernel, rfl, by decide +kernel, by decide +kernel⟩
theorem ok_l_web {P : Program} {w : World} {K : PySem.W.Frag} {mg : Str → Option Value} {base : Heap} {f : Addr} {fd : FuncData} (m : Bi mg) (C_l_lot : Cal P w K mg base 1 "_law_lot" ["mask"] (Sf K 1 sem_l_lot)) (F : FunD K "_law_web" "_law_web" (defArgs st_l_web) (defBody st_l_web) (defScope st_l_web) [] [] f fd) :
    FnG P w K mg base CX0 2 f fd ["rows"] (Sf K 1 sem_l_web) :=
  fn_S (k := 1) F sc_l_web rfl fun _ _ _ _ s0 H0 _ B =>
    (oks_one (oks_ret (ok_ty1 F_tuple m.tuple (ok_comp (own := [(("row" : Str), 1)]) B.toGd (oki_seq (ok_v 0)) (blkOk_by (by kernel_rfl)) (fun s1 H1 _ _ fp1 => (okg_n 1 (B.blk s1 H1 _ _ fp1).toGd)) (fun s1 H1 _ _ fp1 => okts_0) (fun s1 H1 _ _ fp1 => (Ok.up (ok_c (B.blk s1 H1 _ _ fp1) C_l_lot ad_l_lot (okl_1 (ok_v 1) okl_0))))))))
abbrev st_l_told_webs : Stmt := top 33
def e_l_told_webs_1 : DE :=
  (kCall 1 sem_l_web (kL1 (kVar 4) kL0))
def t_l_told_webs_2 : DB :=
  (kT (kOp true fEq (kOp true fIx (kVar 1) (kVar 3)) (kVar 2)))
def d_l_told_webs : DS :=
  (oRet (kF fTuple (kComp [3, 4] (.t [3, 4]) (iEnum (kVar 0)) t_l_told_webs_2 e_l_told_webs_1)))
def sem_l_told_webs : List PyData → Option Wk.TO := semOf 5 d_l_told_webs
theorem ad_l_told_webs : ∀ ds o, sem_l_told_webs ds = some o → adB o = true := semOf_ad
theorem sc_l_told_webs : FnScope ["webs", "whens", "k", "at", "rows"] ["webs", "whens", "k"] (defScope st_l_told_webs) := ⟨rfl, rfl, rfl, by decide +kernel, rfl, by decide +kernel, by decide +kernel⟩
theorem ok_l_told_webs {P : Program} {w : World} {K : PySem.W.Frag} {mg : Str → Option Value} {base : Heap} {f : Addr} {fd : FuncData} (m : Bi mg) (C_l_web : Cal P w K mg base 2 "_law_web" ["rows"] (Sf K 1 sem_l_web)) (F : FunD K "_law_told_webs" "_law_told_webs" (defArgs st_l_told_webs) (defBody st_l_told_webs) (defScope st_l_told_webs) [] [] f fd) :
    FnG P w K mg base CX0 3 f fd ["webs", "whens", "k"] (Sf K 3 sem_l_told_webs) :=
  fn_S (k := 2) F sc_l_told_webs rfl fun _ _ _ _ s0 H0 _ B =>
    (oks_one (oks_ret (ok_ty1 F_tuple m.tuple (ok_comp (own := [(("at" : Str), 3), (("rows" : Str), 4)]) B.toGd (oki_enumA m.enumerate (ok_v 0)) (blkOk_by (by kernel_rfl)) (fun s1 H1 _ _ fp1 => (okg_t (is := [3, 4]) (B.blk s1 H1 _ _ fp1).toGd (okg_1 3 (B.blk s1 H1 _ _ fp1).toGd (okg_1 4 (B.blk s1 H1 _ _ fp1).toGd okg_0)))) (fun s1 H1 _ _ fp1 => (okts_1 (OkT.up (okt_cmp (F_eq (B.blk s1 H1 _ _ fp1).u64) (ok_ix F_ix (ok_v 1) (ok_v 3)) (ok_v 2))))) (fun s1 H1 _ _ fp1 => (Ok.up (ok_c (B.blk s1 H1 _ _ fp1) C_l_web ad_l_web (okl_1 (ok_v 4) okl_0))))))))
abbrev st_fewest_arrows : Stmt := top 15
def e_fewest_arrows_1 : DE :=
  (kF fLen (kVar 5))
def b_fewest_arrows_2 : DS :=
  (oSeq (oSet 4 (kCall 1 sem_from_when (kL1 (kVar 3) kL0))) (oIf (kAnd (kT (kOp true fIsNot (kVar 4) kN)) (kT (kOp true fLe (kVar 4) (kVar 1)))) (oSet 2 (kOp false fMin2 (kVar 2) (kF fSum (kComp [5] (.n 5) (iSeq (kVar 3)) kTrue e_fewest_arrows_1)))) oNx))
def d_fewest_arrows : DS :=
  (oSeq (oSet 2 (kOp true fMul (kVar 0) (kVar 0))) (oSeq (oFor false (.n 3) [3, 4] (iSeq (kCall 1 sem_all_webs (kL1 (kVar 0) kL0))) b_fewest_arrows_2) (oRet (kVar 2))))
def sem_fewest_arrows : List PyData → Option Wk.TO := semOf 6 d_fewest_arrows
theorem ad_fewest_arrows : ∀ ds o, sem_fewest_arrows ds = some o → adB o = true := semOf_ad
theorem sc_fewest_arrows : FnScope ["n", "k", "found", "web", "when", "row"] ["n", "k"] (defScope st_fewest_arrows) := ⟨rfl, rfl, rfl, by decide +kernel, rfl, by decide +kernel, by decide +kernel⟩
theorem ok_fewest_arrows {P : Program} {w : World} {K : PySem.W.Frag} {mg : Str → Option Value} {base : Heap} {f : Addr} {fd : FuncData} (m : Bi mg) (C_all_webs : Cal P w K mg base 2 "all_webs" ["n"] (Sf K 1 sem_all_webs)) (C_from_when : Cal P w K mg base 3 "from_when" ["web"] (Sf K 1 sem_from_when)) (F : FunD K "fewest_arrows" "fewest_arrows" (defArgs st_fewest_arrows) (defBody st_fewest_arrows) (defScope st_fewest_arrows) [] [] f fd) :
    FnG P w K mg base CX0 4 f fd ["n", "k"] (Sf K 2 sem_fewest_arrows) :=
  fn_S (k := 3) F sc_fewest_arrows rfl fun _ _ _ _ s0 H0 _ B =>
    (oks_cons (oks_set 2 B.toGd (Ok.up (ok_op F_mul (ok_v 0) (ok_v 0))))
    (oks_cons (oks_for [3, 4] B.toGd (oki_seq (Ok.up (ok_c B C_all_webs ad_all_webs (okl_1 (ok_v 0) okl_0)))) (okg_n 3 B.toGd) (oks_cons (oks_set 4 B.toGd (Ok.up (ok_c B C_from_when ad_from_when (okl_1 (ok_v 3) okl_0))))
    (oks_one (oks_if (OkT.up (OkW.t (okw_and (okt_cmp F_isnot (ok_v 4) ok_n) (okw_and1 (okt_cmp F_le (ok_v 4) (ok_v 1)))))) (oks_one (oks_set 2 B.toGd (ok_b2 (F_min2 B.calm) m.min (ok_v 2) (ok_b1 (F_sum B.calm) m.sum (ok_comp (own := [(("row" : Str), 5)]) B.toGd (oki_seq (ok_v 3)) (blkOk_by (by kernel_rfl)) (fun s1 H1 _ _ fp1 => (okg_n 5 (B.blk s1 H1 _ _ fp1).toGd)) (fun s1 H1 _ _ fp1 => okts_0) (fun s1 H1 _ _ fp1 => (Ok.up (ok_b1 F_len m.len (ok_v 5))))))))) oks_nil))))
    (oks_one (oks_ret (ok_v 2)))))
abbrev st_whens_counts : Stmt := top 13
def b_whens_counts_1 : DS :=
  (oSeq (oSet 3 (kCall 1 sem_from_when (kL1 (kVar 2) kL0))) (oSeq (oSet 4 (kIte (kT (kOp true fIs (kVar 3) kN)) (kI 0) (kVarF 3))) (oSetI 1 (kVar 4) (kOp true fAdd (kOp true fIx (kVar 1) (kVar 4)) (kI 1)))))
def d_whens_counts : DS :=
  (oSeq (oSet 1 (kOp true fMul (kLst (kO1 (kI 0) kO0)) (kOp true fAdd (kOp true fMul (kOp true fSub (kVar 0) (kI 1)) (kOp true fSub (kVar 0) (kI 1))) (kI 2)))) (oSeq (oFor false (.n 2) [2, 3, 4] (iSeq (kCall 1 sem_all_webs (kL1 (kVar 0) kL0))) b_whens_counts_1) (oRet (kF fTuple (kVar 1)))))
def sem_whens_counts : List PyData → Option Wk.TO := semOf 5 d_whens_counts
theorem ad_whens_counts : ∀ ds o, sem_whens_counts ds = some o → adB o = true := semOf_ad
theorem sc_whens_counts : FnScope ["n", "found", "web", "when", "place"] ["n"] (defScope st_whens_counts) := ⟨rfl, rfl, rfl, by decide +kernel, rfl, by decide +kernel, by decide +kernel⟩
theorem ok_whens_counts {P : Program} {w : World} {K : PySem.W.Frag} {mg : Str → Option Value} {base : Heap} {f : Addr} {fd : FuncData} (m : Bi mg) (C_all_webs : Cal P w K mg base 2 "all_webs" ["n"] (Sf K 1 sem_all_webs)) (C_from_when : Cal P w K mg base 3 "from_when" ["web"] (Sf K 1 sem_from_when)) (F : FunD K "whens_counts" "whens_counts" (defArgs st_whens_counts) (defBody st_whens_counts) (defScope st_whens_counts) [] [] f fd) :
    FnG P w K mg base CX0 4 f fd ["n"] (Sf K 1 sem_whens_counts) :=
  fn_S (k := 3) F sc_whens_counts rfl fun _ _ _ _ s0 H0 _ B =>
    (oks_cons (oks_set 1 B.toGd (Ok.up (ok_op F_mul (ok_lst (oko_1 ok_i oko_0)) (ok_op F_add (ok_op F_mul (ok_op F_sub (ok_v 0) ok_i) (ok_op F_sub (ok_v 0) ok_i)) ok_i))))
    (oks_cons (oks_for [2, 3, 4] B.toGd (oki_seq (Ok.up (ok_c B C_all_webs ad_all_webs (okl_1 (ok_v 0) okl_0)))) (okg_n 2 B.toGd) (oks_cons (oks_set 3 B.toGd (Ok.up (ok_c B C_from_when ad_from_when (okl_1 (ok_v 2) okl_0))))
    (oks_cons (oks_set 4 B.toGd (ok_ite (OkT.up (okt_cmp F_is (ok_v 3) ok_n)) ok_i (ok_vF 3)))
    (oks_one (oks_setI 1 (ok_v 4) (Ok.up (ok_op F_add (ok_ix F_ix (ok_v 1) (ok_v 4)) ok_i)))))))
    (oks_one (oks_ret (Ok.up (ok_ty1 F_tuple m.tuple (ok_v 1)))))))
abbrev st_l_is_great : Stmt := top 36
def d_l_is_great : DS :=
  (oSeq (oPar true [3, 4, 5] (kO1 (kCall1 1 0 sem_l_draw (kL1 (kI 5) kL0)) (kO1 (kOp false fAdd (kI 1) (kCall1 1 0 sem_l_draw (kL1 (kI 5) kL0))) (kO1 (kOp false fEq (kCall1 1 0 sem_l_draw (kL1 (kI 2) kL0)) (kI 0)) kO0)))) (oSeq (oIf (kT (kOp true fEq (kVar 3) (kI 0))) (oRet (kCall 2 sem_l_same (kL1 (kIte (kT (kVar 5)) (kCall 1 sem_whens_counts (kL1 (kI 3) kL0)) (kCall 1 sem_whens_counts (kL1 (kI 3) kL0))) (kL1 (kCall 2 sem_l_counts (kL1 (kI 3) (kL1 (kVar 2) kL0))) kL0)))) oNx) (oSeq (oIf (kT (kOp true fLt (kVar 3) (kI 3))) (oSeq (oSet 6 (kIte (kT (kVar 5)) (kCall 2 sem_webs_from_when (kL1 (kI 3) (kL1 (kVarF 4) kL0))) (kCall 2 sem_webs_from_when (kL1 (kI 3) (kL1 (kVarF 4) kL0))))) (oRet (kCall 2 sem_l_same (kL1 (kVarF 6) (kL1 (kCall 3 sem_l_told_webs (kL1 (kVar 1) (kL1 (kVar 2) (kL1 (kVarF 4) kL0)))) kL0))))) oNx) (oRet (kCall 2 sem_l_same (kL1 (kIte (kT (kVar 5)) (kCall 2 sem_fewest_arrows (kL1 (kI 3) (kL1 (kVarF 4) kL0))) (kCall 2 sem_fewest_arrows (kL1 (kI 3) (kL1 (kVarF 4) kL0)))) (kL1 (kCall 3 sem_l_fewest (kL1 (kVar 1) (kL1 (kVar 2) (kL1 (kVarF 4) kL0)))) kL0)))))))
def sem_l_is_great : OT → List PyData → Option (OT × Wk.TO) := semOf1 7 d_l_is_great
theorem ad_l_is_great : ∀ t ds t1 o, sem_l_is_great t ds = some (t1, o) → adB o = true := semOf1_ad
theorem sc_l_is_great : FnScope ["bag", "webs", "whens", "way", "k", "is_named", "told"] ["bag", "webs", "whens"] (defScope st_l_is_great) := ⟨rfl, rfl, rfl, by decide +kernel, rfl, by decide +kernel, by decide +kernel⟩
theorem ok_l_is_great {P : Program} {w : World} {K : PySem.W.Frag} {mg : Str → Option Value} {base : Heap} {f : Addr} {fd : FuncData} (m : Bi mg) (C_l_same : Cal P w K mg base 1 "_law_same" ["told", "due"] (Sf K 2 sem_l_same)) (C_l_draw : Cal P w K mg base 1 "_law_draw" ["bag", "below"] (Sf1 K 1 sem_l_draw)) (C_l_fewest : Cal P w K mg base 1 "_law_fewest" ["webs", "whens", "k"] (Sf K 3 sem_l_fewest)) (C_l_counts : Cal P w K mg base 1 "_law_counts" ["many", "whens"] (Sf K 2 sem_l_counts)) (C_webs_from_when : Cal P w K mg base 4 "webs_from_when" ["n", "k"] (Sf K 2 sem_webs_from_when)) (C_l_told_webs : Cal P w K mg base 3 "_law_told_webs" ["webs", "whens", "k"] (Sf K 3 sem_l_told_webs)) (C_fewest_arrows : Cal P w K mg base 4 "fewest_arrows" ["n", "k"] (Sf K 2 sem_fewest_arrows)) (C_whens_counts : Cal P w K mg base 4 "whens_counts" ["n"] (Sf K 1 sem_whens_counts)) (F : FunD K "_law_is_great" "_law_is_great" (defArgs st_l_is_great) (defBody st_l_is_great) (defScope st_l_is_great) [] [] f fd) :
    FnG P w K mg base CX0 5 f fd ["bag", "webs", "whens"] (Sf1 K 2 sem_l_is_great) :=
  fn_1 (k := 4) F sc_l_is_great rfl fun _ _ _ _ s0 H0 _ B =>
    (oks_cons (oks_par3 3 4 5 B.toGd (oko_1 (ok_c1 0 B C_l_draw ad_l_draw (okl_1 ok_i okl_0)) (oko_1 (ok_op F_add ok_i (ok_c1 0 B C_l_draw ad_l_draw (okl_1 ok_i okl_0))) (oko_1 (ok_cmp (F_eq B.u64) (ok_c1 0 B C_l_draw ad_l_draw (okl_1 ok_i okl_0)) ok_i) oko_0))))
    (oks_cons (oks_if (OkT.up (okt_cmp (F_eq B.u64) (ok_v 3) ok_i)) (oks_one (oks_ret (Ok.up (ok_c B C_l_same ad_l_same (okl_1 (ok_ite (okt_v (ok_v 5)) (ok_ck B C_whens_counts ad_whens_counts (okk_1 ok_i okk_0)) (ok_c B C_whens_counts ad_whens_counts (okl_1 ok_i okl_0))) (okl_1 (ok_c B C_l_counts ad_l_counts (okl_1 ok_i (okl_1 (ok_v 2) okl_0))) okl_0)))))) oks_nil)
    (oks_cons (oks_if (OkT.up (okt_cmp F_lt (ok_v 3) ok_i)) (oks_cons (oks_set 6 B.toGd (ok_ite (OkT.up (okt_v (ok_v 5))) (ok_ck B C_webs_from_when ad_webs_from_when (okk_1 ok_i (okk_1 (ok_vF 4) okk_0))) (ok_c B C_webs_from_when ad_webs_from_when (okl_1 ok_i (okl_1 (ok_vF 4) okl_0)))))
    (oks_one (oks_ret (ok_c B C_l_same ad_l_same (okl_1 (ok_vF 6) (okl_1 (ok_c B C_l_told_webs ad_l_told_webs (okl_1 (ok_v 1) (okl_1 (ok_v 2) (okl_1 (ok_vF 4) okl_0)))) okl_0)))))) oks_nil)
    (oks_one (oks_ret (ok_c B C_l_same ad_l_same (okl_1 (ok_ite (OkT.up (okt_v (ok_v 5))) (ok_ck B C_fewest_arrows ad_fewest_arrows (okk_1 ok_i (okk_1 (ok_vF 4) okk_0))) (ok_c B C_fewest_arrows ad_fewest_arrows (okl_1 ok_i (okl_1 (ok_vF 4) okl_0)))) (okl_1 (ok_c B C_l_fewest ad_l_fewest (okl_1 (ok_v 1) (okl_1 (ok_v 2) (okl_1 (ok_vF 4) okl_0)))) okl_0))))))))
abbrev st_l_are_small : Stmt := top 35
def b_l_are_small_1 : DS :=
  (oSeq (oPar true [7, 8] (kO1 (kCall 3 sem_l_told_webs (kL1 (kVar 2) (kL1 (kVar 3) (kL1 (kVar 6) kL0)))) (kO1 (kCall 3 sem_l_fewest (kL1 (kVar 2) (kL1 (kVar 3) (kL1 (kVar 6) kL0)))) kO0))) (oIf (kNot (kT (kCall 2 sem_l_same (kL1 (kLst (kO1 (kCall 2 sem_webs_from_when (kL1 (kVar 1) (kL1 (kVar 6) kL0))) (kO1 (kCall 2 sem_fewest_arrows (kL1 (kVar 1) (kL1 (kVar 6) kL0))) kO0))) (kL1 (kLst (kO1 (kVarF 7) (kO1 (kVarF 8) kO0))) kL0))))) (oRet (kB false)) oNx))
def d_l_are_small : DS :=
  (oSeq (oPar true [4, 5] (kO1 (kCall 2 sem_l_counts (kL1 (kVar 1) (kL1 (kVar 3) kL0))) (kO1 (kOp false fAdd (kI 1) (kCall1 1 0 sem_l_draw (kL1 (kI 5) kL0))) kO0))) (oSeq (oIf (kNot (kT (kCall 2 sem_l_same (kL1 (kLst (kO1 (kCall 1 sem_whens_counts (kL1 (kVar 1) kL0)) (kO1 (kCall 1 sem_whens_counts (kL1 (kVar 1) kL0)) kO0))) (kL1 (kLst (kO1 (kVarF 4) (kO1 (kVarF 4) kO0))) kL0))))) (oRet (kB false)) oNx) (oSeq (oFor true (.n 6) [6, 7, 8] (iRange2 (kI 1) (kI 6)) b_l_are_small_1) (oSeq (oPar true [7, 8] (kO1 (kCall 3 sem_l_told_webs (kL1 (kVar 2) (kL1 (kVar 3) (kL1 (kVarF 5) kL0)))) (kO1 (kCall 3 sem_l_fewest (kL1 (kVar 2) (kL1 (kVar 3) (kL1 (kVarF 5) kL0)))) kO0))) (oRet (kCall 2 sem_l_same (kL1 (kLst (kO1 (kCall 2 sem_webs_from_when (kL1 (kVar 1) (kL1 (kVarF 5) kL0))) (kO1 (kCall 2 sem_fewest_arrows (kL1 (kVar 1) (kL1 (kVarF 5) kL0))) kO0))) (kL1 (kLst (kO1 (kVarF 7) (kO1 (kVarF 8) kO0))) kL0))))))))
def sem_l_are_small : OT → List PyData → Option (OT × Wk.TO) := semOf1 9 d_l_are_small
theorem ad_l_are_small : ∀ t ds t1 o, sem_l_are_small t ds = some (t1, o) → adB o = true := semOf1_ad
theorem sc_l_are_small : FnScope ["bag", "many", "webs", "whens", "counts", "again", "k", "due", "few"] ["bag", "many", "webs", "whens"] (defScope st_l_are_small) := ⟨rfl, rfl, rfl, by decide +kernel, rfl, by decide +kernel, by decide +kernel⟩
theorem ok_l_are_small {P : Program} {w : World} {K : PySem.W.Frag} {mg : Str → Option Value} {base : Heap} {f : Addr} {fd : FuncData} (m : Bi mg) (C_l_same : Cal P w K mg base 1 "_law_same" ["told", "due"] (Sf K 2 sem_l_same)) (C_l_counts : Cal P w K mg base 1 "_law_counts" ["many", "whens"] (Sf K 2 sem_l_counts)) (C_l_told_webs : Cal P w K mg base 3 "_law_told_webs" ["webs", "whens", "k"] (Sf K 3 sem_l_told_webs)) (C_l_fewest : Cal P w K mg base 1 "_law_fewest" ["webs", "whens", "k"] (Sf K 3 sem_l_fewest)) (C_l_draw : Cal P w K mg base 1 "_law_draw" ["bag", "below"] (Sf1 K 1 sem_l_draw)) (C_webs_from_when : Cal P w K mg base 4 "webs_from_when" ["n", "k"] (Sf K 2 sem_webs_from_when)) (C_fewest_arrows : Cal P w K mg base 4 "fewest_arrows" ["n", "k"] (Sf K 2 sem_fewest_arrows)) (C_whens_counts : Cal P w K mg base 4 "whens_counts" ["n"] (Sf K 1 sem_whens_counts)) (F : FunD K "_law_are_small" "_law_are_small" (defArgs st_l_are_small) (defBody st_l_are_small) (defScope st_l_are_small) [] [] f fd) :
    FnG P w K mg base CX0 5 f fd ["bag", "many", "webs", "whens"] (Sf1 K 3 sem_l_are_small) :=
  fn_1 (k := 4) F sc_l_are_small rfl fun _ _ _ _ s0 H0 _ B =>
    (oks_cons (oks_par2 4 5 B.toGd (oko_1 (Ok.up (ok_c B C_l_counts ad_l_counts (okl_1 (ok_v 1) (okl_1 (ok_v 3) okl_0)))) (oko_1 (ok_op F_add ok_i (ok_c1 0 B C_l_draw ad_l_draw (okl_1 ok_i okl_0))) oko_0)))
    (oks_cons (oks_if (okt_not (okt_v (ok_c B C_l_same ad_l_same (okl_1 (Ok.up (ok_lst (oko_1 (ok_c B C_whens_counts ad_whens_counts (okl_1 (ok_v 1) okl_0)) (oko_1 (ok_ck B C_whens_counts ad_whens_counts (okk_1 (ok_v 1) okk_0)) oko_0)))) (okl_1 (ok_lst (oko_1 (ok_vF 4) (oko_1 (ok_vF 4) oko_0))) okl_0))))) (oks_one (oks_ret ok_b)) oks_nil)
    (oks_cons (oks_for [6, 7, 8] B.toGd (oki_range2 m.range ok_i ok_i) (okg_n 6 B.toGd) (oks_cons (oks_par2 7 8 B.toGd (oko_1 (Ok.up (ok_c B C_l_told_webs ad_l_told_webs (okl_1 (ok_v 2) (okl_1 (ok_v 3) (okl_1 (ok_v 6) okl_0))))) (oko_1 (Ok.up (ok_c B C_l_fewest ad_l_fewest (okl_1 (ok_v 2) (okl_1 (ok_v 3) (okl_1 (ok_v 6) okl_0))))) oko_0)))
    (oks_one (oks_if (okt_not (okt_v (ok_c B C_l_same ad_l_same (okl_1 (Ok.up (ok_lst (oko_1 (ok_c B C_webs_from_when ad_webs_from_when (okl_1 (ok_v 1) (okl_1 (ok_v 6) okl_0))) (oko_1 (ok_c B C_fewest_arrows ad_fewest_arrows (okl_1 (ok_v 1) (okl_1 (ok_v 6) okl_0))) oko_0)))) (okl_1 (ok_lst (oko_1 (ok_vF 7) (oko_1 (ok_vF 8) oko_0))) okl_0))))) (oks_one (oks_ret ok_b)) oks_nil))))
    (oks_cons (oks_par2 7 8 B.toGd (oko_1 (ok_c B C_l_told_webs ad_l_told_webs (okl_1 (ok_v 2) (okl_1 (ok_v 3) (okl_1 (ok_vF 5) okl_0)))) (oko_1 (ok_c B C_l_fewest ad_l_fewest (okl_1 (ok_v 2) (okl_1 (ok_v 3) (okl_1 (ok_vF 5) okl_0)))) oko_0)))
    (oks_one (oks_ret (ok_c B C_l_same ad_l_same (okl_1 (ok_lst (oko_1 (ok_ck B C_webs_from_when ad_webs_from_when (okk_1 (ok_v 1) (okk_1 (ok_vF 5) okk_0))) (oko_1 (ok_ck B C_fewest_arrows ad_fewest_arrows (okk_1 (ok_v 1) (okk_1 (ok_vF 5) okk_0))) oko_0))) (okl_1 (ok_lst (oko_1 (ok_vF 7) (oko_1 (ok_vF 8) oko_0))) okl_0)))))))))
abbrev st_l_led : Stmt := top 27
def e_l_led_1 : DE :=
  (kOp true fShl (kI 1) (kOp true fIx (kVar 1) (kVar 5)))
def t_l_led_2 : DB :=
  (kT (kOp true fEq (kOp true fAnd (kOp true fShr (kVar 4) (kVar 5)) (kI 1)) (kI 1)))
def b_l_led_3 : DS :=
  (oSetI 2 (kOp true fIx (kVar 1) (kVar 3)) (kF fSum (kComp [5] (.n 5) (iRange1 (kF fLen (kVar 0))) t_l_led_2 e_l_led_1)))
def d_l_led : DS :=
  (oSeq (oSet 2 (kOp true fMul (kLst (kO1 (kI 0) kO0)) (kF fLen (kVar 0)))) (oSeq (oFor false (.t [3, 4]) [3, 4] (iEnum (kVar 0)) b_l_led_3) (oRet (kVarF 2))))
def sem_l_led : List PyData → Option Wk.TO := semOf 6 d_l_led
theorem ad_l_led : ∀ ds o, sem_l_led ds = some o → adB o = true := semOf_ad
theorem sc_l_led : FnScope ["rows", "order", "found", "i", "row", "j"] ["rows", "order"] (defScope st_l_led) := ⟨rfl, rfl, rfl, by decide +kernel, rfl, by decide +kernel, by decide +kernel⟩
theorem ok_l_led {P : Program} {w : World} {K : PySem.W.Frag} {mg : Str → Option Value} {base : Heap} {f : Addr} {fd : FuncData} (m : Bi mg)  (F : FunD K "_law_led" "_law_led" (defArgs st_l_led) (defBody st_l_led) (defScope st_l_led) [] [] f fd) :
    FnG P w K mg base CX0 1 f fd ["rows", "order"] (Sf K 2 sem_l_led) :=
  fn_S (k := 0) F sc_l_led rfl fun _ _ _ _ s0 H0 _ B =>
    (oks_cons (oks_set 2 B.toGd (Ok.up (ok_op F_mul (ok_lst (oko_1 ok_i oko_0)) (ok_b1 F_len m.len (ok_v 0)))))
    (oks_cons (oks_for [3, 4] B.toGd (oki_enumA m.enumerate (ok_v 0)) (okg_t (is := [3, 4]) B.toGd (okg_1 3 B.toGd (okg_1 4 B.toGd okg_0))) (oks_one (oks_setI 2 (ok_ix F_ix (ok_v 1) (ok_v 3)) (ok_b1 (F_sum B.calm) m.sum (ok_comp (own := [(("j" : Str), 5)]) B.toGd (oki_range1 m.range (Ok.up (ok_b1 F_len m.len (ok_v 0)))) (blkOk_by (by kernel_rfl)) (fun s1 H1 _ _ fp1 => (okg_n 5 (B.blk s1 H1 _ _ fp1).toGd)) (fun s1 H1 _ _ fp1 => (okts_1 (OkT.up (okt_cmp (F_eq (B.blk s1 H1 _ _ fp1).u64) (ok_op F_and (ok_op F_shr (ok_v 4) (ok_v 5)) ok_i) ok_i)))) (fun s1 H1 _ _ fp1 => (Ok.up (ok_op F_shl ok_i (ok_ix F_ix (ok_v 1) (ok_v 5))))))))))
    (oks_one (oks_ret (ok_vF 2)))))
abbrev st_latest_web : Stmt := top 17
def e_latest_web_1 : DE :=
  (kTup (kL1 (kOp true fAdd (kVar 1) (kI 1)) kL0))
def d_latest_web : DS :=
  (oRet (kF fTuple (kOp false fAdd (kComp [1] (.n 1) (iRange1 (kOp true fSub (kVar 0) (kI 1))) kTrue e_latest_web_1) (kLst (kO1 (kTup (kL1 (kI 0) (kL1 (kI 1) kL0))) kO0)))))
def sem_latest_web : List PyData → Option Wk.TO := semOf 2 d_latest_web
theorem ad_latest_web : ∀ ds o, sem_latest_web ds = some o → adB o = true := semOf_ad
theorem sc_latest_web : FnScope ["n", "place"] ["n"] (defScope st_latest_web) := ⟨rfl, rfl, rfl, by decide +kernel, rfl, by decide +kernel, by decide +kernel⟩
theorem ok_latest_web {P : Program} {w : World} {K : PySem.W.Frag} {mg : Str → Option Value} {base : Heap} {f : Addr} {fd : FuncData} (m : Bi mg)  (F : FunD K "latest_web" "latest_web" (defArgs st_latest_web) (defBody st_latest_web) (defScope st_latest_web) [] [] f fd) :
    FnG P w K mg base CX0 1 f fd ["n"] (Sf K 1 sem_latest_web) :=
  fn_S (k := 0) F sc_latest_web rfl fun _ _ _ _ s0 H0 _ B =>
    (oks_one (oks_ret (ok_ty1 F_tuple m.tuple (ok_op F_add (ok_comp (own := [(("place" : Str), 1)]) B.toGd (oki_range1 m.range (Ok.up (ok_op F_sub (ok_v 0) ok_i))) (blkOk_by (by kernel_rfl)) (fun s1 H1 _ _ fp1 => (okg_n 1 (B.blk s1 H1 _ _ fp1).toGd)) (fun s1 H1 _ _ fp1 => okts_0) (fun s1 H1 _ _ fp1 => (Ok.up (ok_tup (okl_1 (ok_op F_add (ok_v 1) ok_i) okl_0))))) (Ok.up (ok_lst (oko_1 (ok_tup (okl_1 ok_i (okl_1 ok_i okl_0))) oko_0)))))))
abbrev st_l_orders : Stmt := top 31
def d_l_orders : DS :=
  (oSeq (oIf (kT (kOp true fEq (kVar 0) (kI 2))) (oRet (kLst (kO1 (kLst (kO1 (kI 0) (kO1 (kI 1) kO0))) (kO1 (kLst (kO1 (kI 1) (kO1 (kI 0) kO0))) kO0)))) oNx) (oRet (kLst (kO1 (kLst (kO1 (kI 0) (kO1 (kI 1) (kO1 (kI 2) kO0)))) (kO1 (kLst (kO1 (kI 0) (kO1 (kI 2) (kO1 (kI 1) kO0)))) (kO1 (kLst (kO1 (kI 1) (kO1 (kI 0) (kO1 (kI 2) kO0)))) (kO1 (kLst (kO1 (kI 1) (kO1 (kI 2) (kO1 (kI 0) kO0)))) (kO1 (kLst (kO1 (kI 2) (kO1 (kI 0) (kO1 (kI 1) kO0)))) (kO1 (kLst (kO1 (kI 2) (kO1 (kI 1) (kO1 (kI 0) kO0)))) kO0)))))))))
def sem_l_orders : List PyData → Option Wk.TO := semOf 1 d_l_orders
theorem ad_l_orders : ∀ ds o, sem_l_orders ds = some o → adB o = true := semOf_ad
theorem sc_l_orders : FnScope ["many"] ["many"] (defScope st_l_orders) := ⟨rfl, rfl, rfl, by decide +kernel, rfl, by decide +kernel, by decide +kernel⟩
theorem ok_l_orders {P : Program} {w : World} {K : PySem.W.Frag} {mg : Str → Option Value} {base : Heap} {f : Addr} {fd : FuncData} (m : Bi mg)  (F : FunD K "_law_orders" "_law_orders" (defArgs st_l_orders) (defBody st_l_orders) (defScope st_l_orders) [] [] f fd) :
    FnG P w K mg base CX0 1 f fd ["many"] (Sf K 1 sem_l_orders) :=
  fn_S (k := 0) F sc_l_orders rfl fun _ _ _ _ s0 H0 _ B =>
    (oks_cons (oks_if (OkT.up (okt_cmp (F_eq B.u64) (ok_v 0) ok_i)) (oks_one (oks_ret (Ok.up (ok_lst (oko_1 (ok_lst (oko_1 ok_i (oko_1 ok_i oko_0))) (oko_1 (ok_lst (oko_1 ok_i (oko_1 ok_i oko_0))) oko_0)))))) oks_nil)
    (oks_one (oks_ret (Ok.up (ok_lst (oko_1 (ok_lst (oko_1 ok_i (oko_1 ok_i (oko_1 ok_i oko_0)))) (oko_1 (ok_lst (oko_1 ok_i (oko_1 ok_i (oko_1 ok_i oko_0)))) (oko_1 (ok_lst (oko_1 ok_i (oko_1 ok_i (oko_1 ok_i oko_0)))) (oko_1 (ok_lst (oko_1 ok_i (oko_1 ok_i (oko_1 ok_i oko_0)))) (oko_1 (ok_lst (oko_1 ok_i (oko_1 ok_i (oko_1 ok_i oko_0)))) (oko_1 (ok_lst (oko_1 ok_i (oko_1 ok_i (oko_1 ok_i oko_0)))) oko_0)))))))))))
abbrev st_l_pick : Stmt := top 24
def d_l_pick : DS :=
  (oRet (kOp false fIx (kVar 1) (kCall1 1 0 sem_l_draw (kL1 (kF fLen (kVar 1)) kL0))))
def sem_l_pick : OT → List PyData → Option (OT × Wk.TO) := semOf1 2 d_l_pick
theorem ad_l_pick : ∀ t ds t1 o, sem_l_pick t ds = some (t1, o) → adB o = true := semOf1_ad
theorem sc_l_pick : FnScope ["bag", "some"] ["bag", "some"] (defScope st_l_pick) := ⟨rfl, rfl, rfl, by decide +kernel, rfl, by decide +kernel, by decide +kernel⟩
theorem ok_l_pick {P : Program} {w : World} {K : PySem.W.Frag} {mg : Str → Option Value} {base : Heap} {f : Addr} {fd : FuncData} (m : Bi mg) (C_l_draw : Cal P w K mg base 1 "_law_draw" ["bag", "below"] (Sf1 K 1 sem_l_draw)) (F : FunD K "_law_pick" "_law_pick" (defArgs st_l_pick) (defBody st_l_pick) (defScope st_l_pick) [] [] f fd) :
    FnG P w K mg base CX0 2 f fd ["bag", "some"] (Sf1 K 1 sem_l_pick) :=
  fn_1 (k := 1) F sc_l_pick rfl fun _ _ _ _ s0 H0 _ B =>
    (oks_one (oks_ret (ok_ix F_ix (ok_v 1) (ok_c1 0 B C_l_draw ad_l_draw (okl_1 (Ok.up (ok_b1 F_len m.len (ok_v 1))) okl_0)))))
abbrev st_web_of : Stmt := top 2
def e_web_of_1 : DE :=
  (kF fTuple (kF fSortA (kVar 6)))
def b_web_of_2 : DS :=
  (oApp1 2 (kVar 3) (kVar 4))
def d_web_of : DS :=
  (oSeq (oSet 2 (kComp [5] (.n 5) (iRange1 (kVar 0)) kTrue (kLst kO0))) (oSeq (oFor false (.t [3, 4]) [3, 4] (iSeq (kVar 1)) b_web_of_2) (oRet (kF fTuple (kComp [6] (.n 6) (iSeq (kVarF 2)) kTrue e_web_of_1)))))
def sem_web_of : List PyData → Option Wk.TO := semOf 7 d_web_of
theorem ad_web_of : ∀ ds o, sem_web_of ds = some o → adB o = true := semOf_ad
theorem sc_web_of : FnScope ["n", "arrows", "rows", "i", "j", "place", "row"] ["n", "arrows"] (defScope st_web_of) := ⟨rfl, rfl, rfl, by decide +kernel, rfl, by decide +kernel, by decide +kernel⟩
theorem ok_web_of {P : Program} {w : World} {K : PySem.W.Frag} {mg : Str → Option Value} {base : Heap} {f : Addr} {fd : FuncData} (m : Bi mg)  (F : FunD K "web_of" "web_of" (defArgs st_web_of) (defBody st_web_of) (defScope st_web_of) [] [] f fd) :
    FnG P w K mg base CX0 1 f fd ["n", "arrows"] (Sf K 2 sem_web_of) :=
  fn_S (k := 0) F sc_web_of rfl fun _ _ _ _ s0 H0 _ B =>
    (oks_cons (oks_setComp (own := [(("place" : Str), 5)]) 2 B.toGd (oki_range1 m.range (ok_v 0)) (blkOk_by (by kernel_rfl)) (fun s2 H2 _ _ fp2 => (okg_n 5 (B.blk s2 H2 _ _ fp2).toGd)) (fun s2 H2 _ _ fp2 => okts_0) (fun s2 H2 _ _ fp2 => (Ok.up (ok_lst oko_0))))
    (oks_cons (oks_for [3, 4] B.toGd (oki_seq (ok_v 1)) (okg_t (is := [3, 4]) B.toGd (okg_1 3 B.toGd (okg_1 4 B.toGd okg_0))) (oks_one (oks_app1 2 (ok_v 3) (ok_v 4))))
    (oks_one (oks_ret (ok_ty1 F_tuple m.tuple (ok_comp (own := [(("row" : Str), 6)]) B.toGd (oki_seq (ok_vF 2)) (blkOk_by (by kernel_rfl)) (fun s1 H1 _ _ fp1 => (okg_n 6 (B.blk s1 H1 _ _ fp1).toGd)) (fun s1 H1 _ _ fp1 => okts_0) (fun s1 H1 _ _ fp1 => (Ok.up (ok_ty1 F_tuple m.tuple (ok_b1 (F_sortA (B.blk s1 H1 _ _ fp1).u64) m.sorted (ok_v 6)))))))))))
abbrev st_arrows_of : Stmt := top 1
def e_arrows_of_1 : DE :=
  (kTup (kL1 (kVar 2) (kL1 (kVar 4) kL0)))
def b_arrows_of_2 : DS :=
  (oExt 1 (kD (kComp [4] (.n 4) (iSeq (kVar 3)) kTrue e_arrows_of_1)))
def d_arrows_of : DS :=
  (oSeq (oSet 1 (kLst kO0)) (oSeq (oFor false (.t [2, 3]) [2, 3] (iEnum (kVar 0)) b_arrows_of_2) (oRet (kF fTuple (kVar 1)))))
def sem_arrows_of : List PyData → Option Wk.TO := semOf 5 d_arrows_of
theorem ad_arrows_of : ∀ ds o, sem_arrows_of ds = some o → adB o = true := semOf_ad
theorem sc_arrows_of : FnScope ["web", "found", "i", "row", "j"] ["web"] (defScope st_arrows_of) := ⟨rfl, rfl, rfl, by decide +kernel, rfl, by decide +kernel, by decide +kernel⟩
theorem ok_arrows_of {P : Program} {w : World} {K : PySem.W.Frag} {mg : Str → Option Value} {base : Heap} {f : Addr} {fd : FuncData} (m : Bi mg)  (F : FunD K "arrows_of" "arrows_of" (defArgs st_arrows_of) (defBody st_arrows_of) (defScope st_arrows_of) [] [] f fd) :
    FnG P w K mg base CX0 1 f fd ["web"] (Sf K 1 sem_arrows_of) :=
  fn_S (k := 0) F sc_arrows_of rfl fun _ _ _ _ s0 H0 _ B =>
    (oks_cons (oks_set 1 B.toGd (Ok.up (ok_lst oko_0)))
    (oks_cons (oks_for [2, 3] B.toGd (oki_enumA m.enumerate (ok_v 0)) (okg_t (is := [2, 3]) B.toGd (okg_1 2 B.toGd (okg_1 3 B.toGd okg_0))) (oks_one (oks_ext 1 (ok_D (ok_comp (own := [(("j" : Str), 4)]) B.toGd (oki_seq (ok_v 3)) (blkOk_by (by kernel_rfl)) (fun s1 H1 _ _ fp1 => (okg_n 4 (B.blk s1 H1 _ _ fp1).toGd)) (fun s1 H1 _ _ fp1 => okts_0) (fun s1 H1 _ _ fp1 => (Ok.up (ok_tup (okl_1 (ok_v 2) (okl_1 (ok_v 4) okl_0))))))))))
    (oks_one (oks_ret (Ok.up (ok_ty1 F_tuple m.tuple (ok_v 1)))))))
abbrev st_names_led : Stmt := top 3
def e_names_led_1 : DE :=
  (kTup (kL1 (kOp true fIx (kVar 1) (kVar 2)) (kL1 (kOp true fIx (kVar 1) (kVar 3)) kL0)))
def d_names_led : DS :=
  (oRet (kCall 2 sem_web_of (kL1 (kF fLen (kVar 0)) (kL1 (kComp [2, 3] (.t [2, 3]) (iSeq (kCall 1 sem_arrows_of (kL1 (kVar 0) kL0))) kTrue e_names_led_1) kL0))))
def sem_names_led : List PyData → Option Wk.TO := semOf 4 d_names_led
theorem ad_names_led : ∀ ds o, sem_names_led ds = some o → adB o = true := semOf_ad
theorem sc_names_led : FnScope ["web", "order", "i", "j"] ["web", "order"] (defScope st_names_led) := ⟨rfl, rfl, rfl, by decide +kernel, rfl, by decide +kernel, by decide +kernel⟩
theorem ok_names_led {P : Program} {w : World} {K : PySem.W.Frag} {mg : Str → Option Value} {base : Heap} {f : Addr} {fd : FuncData} (m : Bi mg) (C_web_of : Cal P w K mg base 1 "web_of" ["n", "arrows"] (Sf K 2 sem_web_of)) (C_arrows_of : Cal P w K mg base 1 "arrows_of" ["web"] (Sf K 1 sem_arrows_of)) (F : FunD K "names_led" "names_led" (defArgs st_names_led) (defBody st_names_led) (defScope st_names_led) [] [] f fd) :
    FnG P w K mg base CX0 2 f fd ["web", "order"] (Sf K 2 sem_names_led) :=
  fn_S (k := 1) F sc_names_led rfl fun _ _ _ _ s0 H0 _ B =>
    (oks_one (oks_ret (ok_c B C_web_of ad_web_of (okl_1 (Ok.up (ok_b1 F_len m.len (ok_v 0))) (okl_1 (ok_comp (own := [(("i" : Str), 2), (("j" : Str), 3)]) B.toGd (oki_seq (Ok.up (ok_c B C_arrows_of ad_arrows_of (okl_1 (ok_v 0) okl_0)))) (blkOk_by (by kernel_rfl)) (fun s1 H1 _ _ fp1 => (okg_t (is := [2, 3]) (B.blk s1 H1 _ _ fp1).toGd (okg_1 2 (B.blk s1 H1 _ _ fp1).toGd (okg_1 3 (B.blk s1 H1 _ _ fp1).toGd okg_0)))) (fun s1 H1 _ _ fp1 => okts_0) (fun s1 H1 _ _ fp1 => (Ok.up (ok_tup (okl_1 (ok_ix F_ix (ok_v 1) (ok_v 2)) (okl_1 (ok_ix F_ix (ok_v 1) (ok_v 3)) okl_0)))))) okl_0)))))
abbrev st_order_from : Stmt := top 19
def b_order_from_1 : DS :=
  (oApp 3 (kOp true fIx (kOp true fIx (kVar 0) (kOp true fIx (kVar 3) (kF fNeg (kI 1)))) (kI 0)))
def w_order_from_2 : DB :=
  (kAnd (kT (kOp true fLt (kF fLen (kVar 3)) (kOp true fSub (kF fLen (kVar 0)) (kI 1)))) (kT (kOp true fEq (kF fLen (kOp true fIx (kVar 0) (kOp true fIx (kVar 3) (kF fNeg (kI 1))))) (kI 1))))
def d_order_from : DS :=
  (oSeq (oSet 3 (kLst (kO1 (kVar 2) kO0))) (oSeq (oWhile fuel w_order_from_2 [] b_order_from_1) (oRet (kF fTuple (kOp true fAdd (kVar 3) (kLst (kO1 (kVar 1) kO0)))))))
def sem_order_from : List PyData → Option Wk.TO := semOf 4 d_order_from
theorem ad_order_from : ∀ ds o, sem_order_from ds = some o → adB o = true := semOf_ad
theorem sc_order_from : FnScope ["web", "last", "first", "found"] ["web", "last", "first"] (defScope st_order_from) := ⟨rfl, rfl, rfl, by decide +kernel, rfl, by decide +kernel, by decide +kernel⟩
theorem ok_order_from {P : Program} {w : World} {K : PySem.W.Frag} {mg : Str → Option Value} {base : Heap} {f : Addr} {fd : FuncData} (m : Bi mg)  (F : FunD K "order_from" "order_from" (defArgs st_order_from) (defBody st_order_from) (defScope st_order_from) [] [] f fd) :
    FnG P w K mg base CX0 1 f fd ["web", "last", "first"] (Sf K 3 sem_order_from) :=
  fn_S (k := 0) F sc_order_from rfl fun _ _ _ _ s0 H0 _ B =>
    (oks_cons (oks_set 3 B.toGd (Ok.up (ok_lst (oko_1 (ok_v 2) oko_0))))
    (oks_cons (oks_while _ [] B.toGd (OkT.up (OkW.t (okw_and (okt_cmp F_lt (ok_b1 F_len m.len (ok_v 3)) (ok_op F_sub (ok_b1 F_len m.len (ok_v 0)) ok_i)) (okw_and1 (okt_cmp (F_eq B.u64) (ok_b1 F_len m.len (ok_ix F_ix (ok_v 0) (ok_ix F_ix (ok_v 3) (ok_un F_neg ok_i)))) ok_i))))) (oks_one (oks_app 3 (Ok.up (ok_ix F_ix (ok_ix F_ix (ok_v 0) (ok_ix F_ix (ok_v 3) (ok_un F_neg ok_i))) ok_i)))))
    (oks_one (oks_ret (Ok.up (ok_ty1 F_tuple m.tuple (ok_op F_add (ok_v 3) (ok_lst (oko_1 (ok_v 1) oko_0)))))))))
abbrev st_latest_order : Stmt := top 20
def t_latest_order_1 : DB :=
  (kT (kOp true fEq (kF fLen (kOp true fIx (kVar 0) (kVar 5))) (kI 2)))
def b_latest_order_2 : DS :=
  (oSeq (oSet 4 (kCall 3 sem_order_from (kL1 (kVar 0) (kL1 (kVar 2) (kL1 (kVar 3) kL0))))) (oIf (kAnd (kT (kOp true fEq (kF fSortA (kVar 4)) (kRange (kVar 1)))) (kT (kOp false fEq (kCall 2 sem_names_led (kL1 (kCall 1 sem_latest_web (kL1 (kVar 1) kL0)) (kL1 (kVarF 4) kL0))) (kVar 0)))) (oRet (kVarF 4)) oNx))
def b_latest_order_3 : DS :=
  (oFor false (.n 3) [3, 4] (iSeq (kOp true fIx (kVar 0) (kVar 2))) b_latest_order_2)
def d_latest_order : DS :=
  (oSeq (oSet 1 (kF fLen (kVar 0))) (oSeq (oFor false (.n 2) [2, 3, 4] (iSeq (kComp [5] (.n 5) (iRange1 (kVar 1)) t_latest_order_1 (kVar 5))) b_latest_order_3) (oRet kN)))
def sem_latest_order : List PyData → Option Wk.TO := semOf 6 d_latest_order
theorem ad_latest_order : ∀ ds o, sem_latest_order ds = some o → adB o = true := semOf_ad
theorem sc_latest_order : FnScope ["web", "n", "last", "first", "order", "place"] ["web"] (defScope st_latest_order) := ⟨rfl, rfl, rfl, by decide +kernel, rfl, by decide +kernel, by decide +kernel⟩
theorem ok_latest_order {P : Program} {w : World} {K : PySem.W.Frag} {mg : Str → Option Value} {base : Heap} {f : Addr} {fd : FuncData} (m : Bi mg) (C_order_from : Cal P w K mg base 1 "order_from" ["web", "last", "first"] (Sf K 3 sem_order_from)) (C_names_led : Cal P w K mg base 2 "names_led" ["web", "order"] (Sf K 2 sem_names_led)) (C_latest_web : Cal P w K mg base 1 "latest_web" ["n"] (Sf K 1 sem_latest_web)) (F : FunD K "latest_order" "latest_order" (defArgs st_latest_order) (defBody st_latest_order) (defScope st_latest_order) [] [] f fd) :
    FnG P w K mg base CX0 3 f fd ["web"] (Sf K 1 sem_latest_order) :=
  fn_S (k := 2) F sc_latest_order rfl fun _ _ _ _ s0 H0 _ B =>
    (oks_cons (oks_set 1 B.toGd (Ok.up (ok_b1 F_len m.len (ok_v 0))))
    (oks_cons (oks_for [2, 3, 4] B.toGd (oki_seq (ok_comp (own := [(("place" : Str), 5)]) B.toGd (oki_range1 m.range (ok_v 1)) (blkOk_by (by kernel_rfl)) (fun s1 H1 _ _ fp1 => (okg_n 5 (B.blk s1 H1 _ _ fp1).toGd)) (fun s1 H1 _ _ fp1 => (okts_1 (OkT.up (okt_cmp (F_eq (B.blk s1 H1 _ _ fp1).u64) (ok_b1 F_len m.len (ok_ix F_ix (ok_v 0) (ok_v 5))) ok_i)))) (fun s1 H1 _ _ fp1 => (ok_v 5)))) (okg_n 2 B.toGd) (oks_one (oks_for [3, 4] B.toGd (oki_seq (Ok.up (ok_ix F_ix (ok_v 0) (ok_v 2)))) (okg_n 3 B.toGd) (oks_cons (oks_set 4 B.toGd (Ok.up (ok_c B C_order_from ad_order_from (okl_1 (ok_v 0) (okl_1 (ok_v 2) (okl_1 (ok_v 3) okl_0))))))
    (oks_one (oks_if (OkW.t (okw_and (OkT.up (okt_cmp (F_eq B.u64) (ok_b1 (F_sortA B.u64) m.sorted (ok_v 4)) (ok_range B.toGd m.list m.range (ok_v 1)))) (okw_and1 (okt_cmp (F_eq B.u64) (ok_c B C_names_led ad_names_led (okl_1 (Ok.up (ok_c B C_latest_web ad_latest_web (okl_1 (ok_v 1) okl_0))) (okl_1 (ok_vF 4) okl_0))) (ok_v 0))))) (oks_one (oks_ret (ok_vF 4))) oks_nil))))))
    (oks_one (oks_ret ok_n))))
abbrev st_late_bound : Stmt := top 18
def d_late_bound : DS :=
  (oRet (kOp true fAdd (kOp true fMul (kOp true fSub (kVar 0) (kI 1)) (kOp true fSub (kVar 0) (kI 1))) (kI 1)))
def sem_late_bound : List PyData → Option Wk.TO := semOf 1 d_late_bound
theorem ad_late_bound : ∀ ds o, sem_late_bound ds = some o → adB o = true := semOf_ad
theorem sc_late_bound : FnScope ["n"] ["n"] (defScope st_late_bound) := ⟨rfl, rfl, rfl, by decide +kernel, rfl, by decide +kernel, by decide +kernel⟩
theorem ok_late_bound {P : Program} {w : World} {K : PySem.W.Frag} {mg : Str → Option Value} {base : Heap} {f : Addr} {fd : FuncData} (m : Bi mg)  (F : FunD K "late_bound" "late_bound" (defArgs st_late_bound) (defBody st_late_bound) (defScope st_late_bound) [] [] f fd) :
    FnG P w K mg base CX0 1 f fd ["n"] (Sf K 1 sem_late_bound) :=
  fn_S (k := 0) F sc_late_bound rfl fun _ _ _ _ s0 H0 _ B =>
    (oks_one (oks_ret (Ok.up (ok_op F_add (ok_op F_mul (ok_op F_sub (ok_v 0) ok_i) (ok_op F_sub (ok_v 0) ok_i)) ok_i))))
abbrev st_l_are_latest : Stmt := top 37
def b_l_are_latest_1 : DS :=
  (oSeq (oSet 9 (kF fTuple (kCall1 1 0 sem_l_pick (kL1 (kCall 1 sem_l_orders (kL1 (kVar 1) kL0)) kL0)))) (oSeq (oSet 10 (kCall 1 sem_l_web (kL1 (kCall 2 sem_l_led (kL1 (kVar 5) (kL1 (kVar 9) kL0))) kL0))) (oSeq (oSet 11 (kIte (kT (kOp true fEq (kVar 8) (kI 0))) (kCall 2 sem_names_led (kL1 (kCall 1 sem_l_web (kL1 (kVar 5) kL0)) (kL1 (kVar 9) kL0))) (kCall 2 sem_names_led (kL1 (kCall 1 sem_l_web (kL1 (kVar 5) kL0)) (kL1 (kVar 9) kL0))))) (oSeq (oSet 12 (kIte (kT (kOp true fEq (kVar 8) (kI 0))) (kCall 1 sem_latest_order (kL1 (kVarF 10) kL0)) (kCall 1 sem_latest_order (kL1 (kVarF 10) kL0)))) (oIf (kNot (kT (kCall 2 sem_l_same (kL1 (kLst (kO1 (kVarF 11) (kO1 (kVarF 12) (kO1 (kCall 1 sem_from_when (kL1 (kVarF 10) kL0)) kO0)))) (kL1 (kLst (kO1 (kVarF 10) (kO1 (kVar 9) (kO1 (kVar 4) kO0)))) kL0))))) (oRet (kB false)) oNx)))))
def e_l_are_latest_2 : DE :=
  (kOp true fIn (kVar 14) (kVar 6))
def e_l_are_latest_3 : DE :=
  (kOp true fIn (kVar 14) (kVar 7))
def t_l_are_latest_4 : DB :=
  (kT (kOp true fEq (kOp true fIx (kVar 3) (kVar 13)) (kVar 4)))
def e_l_are_latest_5 : DE :=
  (kCall 2 sem_l_led (kL1 (kVar 5) (kL1 (kVar 9) kL0)))
def d_l_are_latest : DS :=
  (oSeq (oPar true [4, 5] (kO1 (kOp true fAdd (kOp true fMul (kOp true fSub (kVar 1) (kI 1)) (kOp true fSub (kVar 1) (kI 1))) (kI 1)) (kO1 (kOp true fIx (kD (kLst (kO1 (kLst (kO1 (kI 0) kO0)) (kO1 (kLst (kO1 (kI 2) (kO1 (kI 3) kO0))) (kO1 (kLst (kO1 (kI 2) (kO1 (kI 4) (kO1 (kI 3) kO0)))) kO0))))) (kOp true fSub (kVar 1) (kI 1))) kO0))) (oSeq (oSet 6 (kComp [9] (.n 9) (iSeq (kD (kCall 1 sem_l_orders (kL1 (kVar 1) kL0)))) kTrue e_l_are_latest_5)) (oSeq (oSet 7 (kComp [13, 14] (.t [13, 14]) (iEnum (kVar 2)) t_l_are_latest_4 (kVar 14))) (oSeq (oIf (kOr (kNot (kT (kF fAll (kComp [14] (.n 14) (iSeq (kVarF 7)) kTrue e_l_are_latest_2)))) (kNot (kT (kF fAll (kComp [14] (.n 14) (iSeq (kVarF 6)) kTrue e_l_are_latest_3))))) (oRet (kB false)) oNx) (oSeq (oIf (kNot (kT (kCall 2 sem_l_same (kL1 (kLst (kO1 (kCall 1 sem_late_bound (kL1 (kVar 1) kL0)) (kO1 (kCall 1 sem_latest_web (kL1 (kVar 1) kL0)) (kO1 (kCall 1 sem_late_bound (kL1 (kVar 1) kL0)) kO0)))) (kL1 (kLst (kO1 (kVar 4) (kO1 (kCall 1 sem_l_web (kL1 (kVar 5) kL0)) (kO1 (kVar 4) kO0)))) kL0))))) (oRet (kB false)) oNx) (oSeq (oIf (kT (kOp true fNe (kCall 1 sem_latest_web (kL1 (kVar 1) kL0)) (kCall 1 sem_l_web (kL1 (kVar 5) kL0)))) (oRet (kB false)) oNx) (oSeq (oFor true (.n 8) [8, 9, 10, 11, 12] (iRange1 (kI 2)) b_l_are_latest_1) (oRet (kB true)))))))))
def sem_l_are_latest : OT → List PyData → Option (OT × Wk.TO) := semOf1 15 d_l_are_latest
theorem ad_l_are_latest : ∀ t ds t1 o, sem_l_are_latest t ds = some (t1, o) → adB o = true := semOf1_ad
theorem sc_l_are_latest : FnScope ["bag", "many", "webs", "whens", "late", "first", "led", "latest", "turn", "order", "web", "told", "found", "at", "rows"] ["bag", "many", "webs", "whens"] (defScope st_l_are_latest) := ⟨rfl, rfl, rfl, by decide +kernel, rfl, by decide +kernel, by decide +kernel⟩
theorem ok_l_are_latest {P : Program} {w : World} {K : PySem.W.Frag} {mg : Str → Option Value} {base : Heap} {f : Addr} {fd : FuncData} (m : Bi mg) (C_l_led : Cal P w K mg base 1 "_law_led" ["rows", "order"] (Sf K 2 sem_l_led)) (C_l_same : Cal P w K mg base 1 "_law_same" ["told", "due"] (Sf K 2 sem_l_same)) (C_latest_web : Cal P w K mg base 1 "latest_web" ["n"] (Sf K 1 sem_latest_web)) (C_l_web : Cal P w K mg base 2 "_law_web" ["rows"] (Sf K 1 sem_l_web)) (C_l_orders : Cal P w K mg base 1 "_law_orders" ["many"] (Sf K 1 sem_l_orders)) (C_l_pick : Cal P w K mg base 2 "_law_pick" ["bag", "some"] (Sf1 K 1 sem_l_pick)) (C_names_led : Cal P w K mg base 2 "names_led" ["web", "order"] (Sf K 2 sem_names_led)) (C_latest_order : Cal P w K mg base 3 "latest_order" ["web"] (Sf K 1 sem_latest_order)) (C_late_bound : Cal P w K mg base 1 "late_bound" ["n"] (Sf K 1 sem_late_bound)) (C_from_when : Cal P w K mg base 3 "from_when" ["web"] (Sf K 1 sem_from_when)) (F : FunD K "_law_are_latest" "_law_are_latest" (defArgs st_l_are_latest) (defBody st_l_are_latest) (defScope st_l_are_latest) [] [] f fd) :
    FnG P w K mg base CX0 4 f fd ["bag", "many", "webs", "whens"] (Sf1 K 3 sem_l_are_latest) :=
  fn_1 (k := 3) F sc_l_are_latest rfl fun _ _ _ _ s0 H0 _ B =>
    (oks_cons (oks_parN B.toGd (oko_1 (Ok.up (ok_op F_add (ok_op F_mul (ok_op F_sub (ok_v 1) ok_i) (ok_op F_sub (ok_v 1) ok_i)) ok_i)) (oko_1 (Ok.up (ok_ix F_ix (ok_D (ok_lst (oko_1 (ok_lst (oko_1 ok_i oko_0)) (oko_1 (ok_lst (oko_1 ok_i (oko_1 ok_i oko_0))) (oko_1 (ok_lst (oko_1 ok_i (oko_1 ok_i (oko_1 ok_i oko_0)))) oko_0))))) (ok_op F_sub (ok_v 1) ok_i))) oko_0)) (okg_t (is := [4, 5]) B.toGd (okg_1 4 B.toGd (okg_1 5 B.toGd okg_0))))
    (oks_cons (oks_set 6 B.toGd (ok_comp (own := [(("order" : Str), 9)]) B.toGd (oki_seq (ok_D (Ok.up (ok_c B C_l_orders ad_l_orders (okl_1 (ok_v 1) okl_0))))) (blkOk_by (by kernel_rfl)) (fun s4 H4 _ _ fp4 => (okg_n 9 (B.blk s4 H4 _ _ fp4).toGd)) (fun s4 H4 _ _ fp4 => okts_0) (fun s4 H4 _ _ fp4 => (Ok.up (ok_c (B.blk s4 H4 _ _ fp4) C_l_led ad_l_led (okl_1 (ok_v 5) (okl_1 (ok_v 9) okl_0)))))))
    (oks_cons (oks_set 7 B.toGd (ok_comp (own := [(("at" : Str), 13), (("rows" : Str), 14)]) B.toGd (oki_enumA m.enumerate (ok_v 2)) (blkOk_by (by kernel_rfl)) (fun s3 H3 _ _ fp3 => (okg_t (is := [13, 14]) (B.blk s3 H3 _ _ fp3).toGd (okg_1 13 (B.blk s3 H3 _ _ fp3).toGd (okg_1 14 (B.blk s3 H3 _ _ fp3).toGd okg_0)))) (fun s3 H3 _ _ fp3 => (okts_1 (OkT.up (okt_cmp (F_eq (B.blk s3 H3 _ _ fp3).u64) (ok_ix F_ix (ok_v 3) (ok_v 13)) (ok_v 4))))) (fun s3 H3 _ _ fp3 => (ok_v 14))))
    (oks_cons (oks_if (OkW.t (okw_or (okt_not (okt_v (ok_b1 (F_all B.calm) m.all (ok_comp (own := [(("rows" : Str), 14)]) B.toGd (oki_seq (ok_vF 7)) (blkOk_by (by kernel_rfl)) (fun s1 H1 _ _ fp1 => (okg_n 14 (B.blk s1 H1 _ _ fp1).toGd)) (fun s1 H1 _ _ fp1 => okts_0) (fun s1 H1 _ _ fp1 => (Ok.up (ok_cmp (F_in (B.blk s1 H1 _ _ fp1).units) (ok_v 14) (ok_v 6)))))))) (okw_or1 (okt_not (okt_v (ok_b1 (F_all B.calm) m.all (ok_comp (own := [(("rows" : Str), 14)]) B.toGd (oki_seq (ok_vF 6)) (blkOk_by (by kernel_rfl)) (fun s2 H2 _ _ fp2 => (okg_n 14 (B.blk s2 H2 _ _ fp2).toGd)) (fun s2 H2 _ _ fp2 => okts_0) (fun s2 H2 _ _ fp2 => (Ok.up (ok_cmp (F_in (B.blk s2 H2 _ _ fp2).units) (ok_v 14) (ok_v 7))))))))))) (oks_one (oks_ret ok_b)) oks_nil)
    (oks_cons (oks_if (OkT.up (okt_not (okt_v (ok_c B C_l_same ad_l_same (okl_1 (ok_lst (oko_1 (ok_c B C_late_bound ad_late_bound (okl_1 (ok_v 1) okl_0)) (oko_1 (ok_c B C_latest_web ad_latest_web (okl_1 (ok_v 1) okl_0)) (oko_1 (ok_ck B C_late_bound ad_late_bound (okk_1 (ok_v 1) okk_0)) oko_0)))) (okl_1 (ok_lst (oko_1 (ok_v 4) (oko_1 (ok_c B C_l_web ad_l_web (okl_1 (ok_v 5) okl_0)) (oko_1 (ok_v 4) oko_0)))) okl_0)))))) (oks_one (oks_ret ok_b)) oks_nil)
    (oks_cons (oks_if (OkT.up (okt_cmp (F_ne B.u64) (ok_ck B C_latest_web ad_latest_web (okk_1 (ok_v 1) okk_0)) (ok_c B C_l_web ad_l_web (okl_1 (ok_v 5) okl_0)))) (oks_one (oks_ret ok_b)) oks_nil)
    (oks_cons (oks_for [8, 9, 10, 11, 12] B.toGd (oki_range1 m.range ok_i) (okg_n 8 B.toGd) (oks_cons (oks_set 9 B.toGd (ok_ty1 F_tuple m.tuple (ok_c1 0 B C_l_pick ad_l_pick (okl_1 (Ok.up (ok_c B C_l_orders ad_l_orders (okl_1 (ok_v 1) okl_0))) okl_0))))
    (oks_cons (oks_set 10 B.toGd (Ok.up (ok_c B C_l_web ad_l_web (okl_1 (ok_c B C_l_led ad_l_led (okl_1 (ok_v 5) (okl_1 (ok_v 9) okl_0))) okl_0))))
    (oks_cons (oks_set 11 B.toGd (Ok.up (ok_ite (okt_cmp (F_eq B.u64) (ok_v 8) ok_i) (ok_c B C_names_led ad_names_led (okl_1 (ok_c B C_l_web ad_l_web (okl_1 (ok_v 5) okl_0)) (okl_1 (ok_v 9) okl_0))) (ok_ck B C_names_led ad_names_led (okk_1 (ok_c B C_l_web ad_l_web (okl_1 (ok_v 5) okl_0)) (okk_1 (ok_v 9) okk_0))))))
    (oks_cons (oks_set 12 B.toGd (ok_ite (OkT.up (okt_cmp (F_eq B.u64) (ok_v 8) ok_i)) (ok_c B C_latest_order ad_latest_order (okl_1 (ok_vF 10) okl_0)) (ok_ck B C_latest_order ad_latest_order (okk_1 (ok_vF 10) okk_0))))
    (oks_one (oks_if (okt_not (okt_v (ok_c B C_l_same ad_l_same (okl_1 (ok_lst (oko_1 (ok_vF 11) (oko_1 (ok_vF 12) (oko_1 (ok_c B C_from_when ad_from_when (okl_1 (ok_vF 10) okl_0)) oko_0)))) (okl_1 (ok_lst (oko_1 (ok_vF 10) (oko_1 (ok_v 9) (oko_1 (ok_v 4) oko_0)))) okl_0))))) (oks_one (oks_ret ok_b)) oks_nil)))))))
    (oks_one (oks_ret ok_b)))))))))
abbrev st_l_are_drawn : Stmt := top 38
def e_l_are_drawn_1 : DE :=
  (kF fTuple (kVar 19))
def t_l_are_drawn_2 : DB :=
  (kT (kOp true fEq (kCall 2 sem_l_led (kL1 (kVar 5) (kL1 (kVar 19) kL0))) (kOp true fIx (kVar 2) (kVar 7))))
def e_l_are_drawn_3 : DE :=
  (kTup (kL1 (kVar 11) (kL1 (kVar 18) kL0)))
def b_l_are_drawn_4 : DS :=
  (oExt 10 (kD (kComp [18] (.n 18) (iSeq (kVar 12)) kTrue e_l_are_drawn_3)))
def t_l_are_drawn_5 : DB :=
  (kT (kOp true fGt (kVar 17) (kI 0)))
def b_l_are_drawn_6 : DS :=
  (oSeq (oSet 7 (kCall1 1 0 sem_l_draw (kL1 (kF fLen (kVar 2)) kL0))) (oSeq (oSet 8 (kComp [16, 17] (.t [16, 17]) (iEnum (kVar 3)) t_l_are_drawn_5 (kVar 16))) (oSeq (oSet 7 (kIte (kT (kOp true fLt (kVar 6) (kI 3))) (kCall1 1 0 sem_l_pick (kL1 (kVarF 8) kL0)) (kVarF 7))) (oSeq (oPar true [9, 10] (kO1 (kCall 1 sem_l_web (kL1 (kOp true fIx (kVar 2) (kVar 7)) kL0)) (kO1 (kLst kO0) kO0))) (oSeq (oFor true (.t [11, 12]) [11, 12] (iEnum (kVarF 9)) b_l_are_drawn_4) (oSeq (oSet 13 (kComp [19] (.n 19) (iSeq (kVarF 4)) t_l_are_drawn_2 e_l_are_drawn_1)) (oSeq (oSet 14 (kLst (kO1 (kIte (kT (kOp true fGt (kOp true fIx (kVar 3) (kVar 7)) (kI 0))) (kOp true fIx (kVar 3) (kVar 7)) kN) (kO1 (kIte (kT (kOp true fNe (kVar 13) (kLst kO0))) (kOp true fIx (kVar 13) (kI 0)) kN) (kO1 (kF fTuple (kVar 10)) (kO1 (kVarF 9) kO0)))))) (oSeq (oIf (kT (kOp true fEq (kVar 6) (kI 0))) (oSet 15 (kLst (kO1 (kCall 1 sem_from_when (kL1 (kVarF 9) kL0)) (kO1 (kCall 1 sem_latest_order (kL1 (kVarF 9) kL0)) (kO1 (kCall 1 sem_arrows_of (kL1 (kVarF 9) kL0)) (kO1 (kVarF 9) kO0)))))) (oSet 15 (kLst (kO1 (kCall 1 sem_from_when (kL1 (kVarF 9) kL0)) (kO1 (kCall 1 sem_latest_order (kL1 (kVarF 9) kL0)) (kO1 (kCall 1 sem_arrows_of (kL1 (kVarF 9) kL0)) (kO1 (kVarF 9) kO0))))))) (oIf (kNot (kT (kCall 2 sem_l_same (kL1 (kVarF 15) (kL1 (kVarF 14) kL0))))) (oRet (kB false)) oNx)))))))))
def d_l_are_drawn : DS :=
  (oSeq (oPar true [4, 5] (kO1 (kCall 1 sem_l_orders (kL1 (kVar 1) kL0)) (kO1 (kOp true fIx (kD (kLst (kO1 (kLst (kO1 (kI 0) kO0)) (kO1 (kLst (kO1 (kI 2) (kO1 (kI 3) kO0))) (kO1 (kLst (kO1 (kI 2) (kO1 (kI 4) (kO1 (kI 3) kO0)))) kO0))))) (kOp true fSub (kVar 1) (kI 1))) kO0))) (oSeq (oFor true (.n 6) [6, 7, 8, 9, 10, 11, 12, 13, 14, 15] (iRange1 (kI 5)) b_l_are_drawn_6) (oRet (kB true))))
def sem_l_are_drawn : OT → List PyData → Option (OT × Wk.TO) := semOf1 20 d_l_are_drawn
theorem ad_l_are_drawn : ∀ t ds t1 o, sem_l_are_drawn t ds = some (t1, o) → adB o = true := semOf1_ad
theorem sc_l_are_drawn : FnScope ["bag", "many", "webs", "whens", "orders", "first", "turn", "at", "firm", "web", "arrows", "i", "row", "some", "due", "told", "place", "k", "j", "order"] ["bag", "many", "webs", "whens"] (defScope st_l_are_drawn) := ⟨rfl, rfl, rfl, by decide +kernel, rfl, by decide +kernel, by decide +kernel⟩
theorem ok_l_are_drawn {P : Program} {w : World} {K : PySem.W.Frag} {mg : Str → Option Value} {base : Heap} {f : Addr} {fd : FuncData} (m : Bi mg) (C_l_orders : Cal P w K mg base 1 "_law_orders" ["many"] (Sf K 1 sem_l_orders)) (C_l_draw : Cal P w K mg base 1 "_law_draw" ["bag", "below"] (Sf1 K 1 sem_l_draw)) (C_l_pick : Cal P w K mg base 2 "_law_pick" ["bag", "some"] (Sf1 K 1 sem_l_pick)) (C_l_web : Cal P w K mg base 2 "_law_web" ["rows"] (Sf K 1 sem_l_web)) (C_l_same : Cal P w K mg base 1 "_law_same" ["told", "due"] (Sf K 2 sem_l_same)) (C_from_when : Cal P w K mg base 3 "from_when" ["web"] (Sf K 1 sem_from_when)) (C_latest_order : Cal P w K mg base 3 "latest_order" ["web"] (Sf K 1 sem_latest_order)) (C_arrows_of : Cal P w K mg base 1 "arrows_of" ["web"] (Sf K 1 sem_arrows_of)) (C_l_led : Cal P w K mg base 1 "_law_led" ["rows", "order"] (Sf K 2 sem_l_led)) (F : FunD K "_law_are_drawn" "_law_are_drawn" (defArgs st_l_are_drawn) (defBody st_l_are_drawn) (defScope st_l_are_drawn) [] [] f fd) :
    FnG P w K mg base CX0 4 f fd ["bag", "many", "webs", "whens"] (Sf1 K 3 sem_l_are_drawn) :=
  fn_1 (k := 3) F sc_l_are_drawn rfl fun _ _ _ _ s0 H0 _ B =>
    (oks_cons (oks_parN B.toGd (oko_1 (Ok.up (ok_c B C_l_orders ad_l_orders (okl_1 (ok_v 1) okl_0))) (oko_1 (Ok.up (ok_ix F_ix (ok_D (ok_lst (oko_1 (ok_lst (oko_1 ok_i oko_0)) (oko_1 (ok_lst (oko_1 ok_i (oko_1 ok_i oko_0))) (oko_1 (ok_lst (oko_1 ok_i (oko_1 ok_i (oko_1 ok_i oko_0)))) oko_0))))) (ok_op F_sub (ok_v 1) ok_i))) oko_0)) (okg_t (is := [4, 5]) B.toGd (okg_1 4 B.toGd (okg_1 5 B.toGd okg_0))))
    (oks_cons (oks_for [6, 7, 8, 9, 10, 11, 12, 13, 14, 15] B.toGd (oki_range1 m.range ok_i) (okg_n 6 B.toGd) (oks_cons (oks_set 7 B.toGd (ok_c1 0 B C_l_draw ad_l_draw (okl_1 (Ok.up (ok_b1 F_len m.len (ok_v 2))) okl_0)))
    (oks_cons (oks_setComp (own := [(("place" : Str), 16), (("k" : Str), 17)]) 8 B.toGd (oki_enumA m.enumerate (ok_v 3)) (blkOk_by (by kernel_rfl)) (fun s3 H3 _ _ fp3 => (okg_t (is := [16, 17]) (B.blk s3 H3 _ _ fp3).toGd (okg_1 16 (B.blk s3 H3 _ _ fp3).toGd (okg_1 17 (B.blk s3 H3 _ _ fp3).toGd okg_0)))) (fun s3 H3 _ _ fp3 => (okts_1 (OkT.up (okt_cmp F_gt (ok_v 17) ok_i)))) (fun s3 H3 _ _ fp3 => (ok_v 16)))
    (oks_cons (oks_set 7 B.toGd (ok_ite (OkT.up (okt_cmp F_lt (ok_v 6) ok_i)) (ok_c1 0 B C_l_pick ad_l_pick (okl_1 (ok_vF 8) okl_0)) (ok_vF 7)))
    (oks_cons (oks_par2 9 10 B.toGd (oko_1 (Ok.up (ok_c B C_l_web ad_l_web (okl_1 (ok_ix F_ix (ok_v 2) (ok_v 7)) okl_0))) (oko_1 (Ok.up (ok_lst oko_0)) oko_0)))
    (oks_cons (oks_for [11, 12] B.toGd (oki_enumA m.enumerate (ok_vF 9)) (okg_t (is := [11, 12]) B.toGd (okg_1 11 B.toGd (okg_1 12 B.toGd okg_0))) (oks_one (oks_ext 10 (ok_D (ok_comp (own := [(("j" : Str), 18)]) B.toGd (oki_seq (ok_v 12)) (blkOk_by (by kernel_rfl)) (fun s2 H2 _ _ fp2 => (okg_n 18 (B.blk s2 H2 _ _ fp2).toGd)) (fun s2 H2 _ _ fp2 => okts_0) (fun s2 H2 _ _ fp2 => (Ok.up (ok_tup (okl_1 (ok_v 11) (okl_1 (ok_v 18) okl_0))))))))))
    (oks_cons (oks_setComp (own := [(("order" : Str), 19)]) 13 B.toGd (oki_seq (ok_vF 4)) (blkOk_by (by kernel_rfl)) (fun s1 H1 _ _ fp1 => (okg_n 19 (B.blk s1 H1 _ _ fp1).toGd)) (fun s1 H1 _ _ fp1 => (okts_1 (OkT.up (okt_cmp (F_eq (B.blk s1 H1 _ _ fp1).u64) (ok_c (B.blk s1 H1 _ _ fp1) C_l_led ad_l_led (okl_1 (ok_v 5) (okl_1 (ok_v 19) okl_0))) (ok_ix F_ix (ok_v 2) (ok_v 7)))))) (fun s1 H1 _ _ fp1 => (Ok.up (ok_ty1 F_tuple m.tuple (ok_v 19)))))
    (oks_cons (oks_set 14 B.toGd (ok_lst (oko_1 (Ok.up (ok_ite (okt_cmp F_gt (ok_ix F_ix (ok_v 3) (ok_v 7)) ok_i) (ok_ix F_ix (ok_v 3) (ok_v 7)) ok_n)) (oko_1 (Ok.up (ok_ite (okt_cmp (F_ne B.u64) (ok_v 13) (ok_lst oko_0)) (ok_ix F_ix (ok_v 13) ok_i) ok_n)) (oko_1 (Ok.up (ok_ty1 F_tuple m.tuple (ok_v 10))) (oko_1 (ok_vF 9) oko_0))))))
    (oks_cons (oks_if (OkT.up (okt_cmp (F_eq B.u64) (ok_v 6) ok_i)) (oks_one (oks_set 15 B.toGd (ok_lst (oko_1 (ok_ck B C_from_when ad_from_when (okk_1 (ok_vF 9) okk_0)) (oko_1 (ok_ck B C_latest_order ad_latest_order (okk_1 (ok_vF 9) okk_0)) (oko_1 (ok_ck B C_arrows_of ad_arrows_of (okk_1 (ok_vF 9) okk_0)) (oko_1 (ok_vF 9) oko_0))))))) (oks_one (oks_set 15 B.toGd (ok_lst (oko_1 (ok_c B C_from_when ad_from_when (okl_1 (ok_vF 9) okl_0)) (oko_1 (ok_c B C_latest_order ad_latest_order (okl_1 (ok_vF 9) okl_0)) (oko_1 (ok_c B C_arrows_of ad_arrows_of (okl_1 (ok_vF 9) okl_0)) (oko_1 (ok_vF 9) oko_0))))))))
    (oks_one (oks_if (okt_not (okt_v (ok_c B C_l_same ad_l_same (okl_1 (ok_vF 15) (okl_1 (ok_vF 14) okl_0))))) (oks_one (oks_ret ok_b)) oks_nil)))))))))))
    (oks_one (oks_ret ok_b))))
abbrev st_law : Stmt := top 39
def e_law_1 : DE :=
  (kCall 1 sem_l_when (kL1 (kVar 5) kL0))
def b_law_2 : DS :=
  (oSeq (oSet 3 (kCall 1 sem_l_gone (kL1 (kVar 2) kL0))) (oSeq (oSet 4 (kComp [5] (.n 5) (iSeq (kVarF 3)) kTrue e_law_1)) (oSeq (oIf (kAnd (kT (kOp true fEq (kVar 2) (kI 3))) (kNot (kT (kCall1 2 1 sem_l_is_great (kL1 (kVarF 3) (kL1 (kVarF 4) kL0)))))) (oRet (kB false)) oNx) (oSeq (oIf (kAnd (kT (kOp true fLt (kVar 2) (kI 3))) (kNot (kT (kCall1 3 1 sem_l_are_small (kL1 (kVar 2) (kL1 (kVarF 3) (kL1 (kVarF 4) kL0))))))) (oRet (kB false)) oNx) (oSeq (oIf (kAnd (kT (kOp true fGt (kVar 2) (kI 1))) (kNot (kT (kCall1 3 1 sem_l_are_latest (kL1 (kVar 2) (kL1 (kVarF 3) (kL1 (kVarF 4) kL0))))))) (oRet (kB false)) oNx) (oIf (kAnd (kT (kOp true fGt (kVar 2) (kI 1))) (kNot (kT (kCall1 3 1 sem_l_are_drawn (kL1 (kVar 2) (kL1 (kVarF 3) (kL1 (kVarF 4) kL0))))))) (oRet (kB false)) oNx))))))
def d_law : DS :=
  (oSeq (oSet 1 (kCallF sem_l_own_bag (kVar 0))) (oSeq (oFor false (.n 2) [2, 3, 4] (iSeq (kLst (kO1 (kI 1) (kO1 (kI 2) (kO1 (kI 3) kO0))))) b_law_2) (oRet (kB true))))
def sem_law : List Int → Option Wk.TO := semOfF 6 d_law
theorem ad_law : ∀ ns o, sem_law ns = some o → adB o = true := semOfF_ad
theorem sc_law : FnScope ["script", "bag", "many", "webs", "whens", "rows"] ["script"] (defScope st_law) := ⟨rfl, rfl, rfl, by decide +kernel, rfl, by decide +kernel, by decide +kernel⟩
theorem ok_law {P : Program} {w : World} {K : PySem.W.Frag} {mg : Str → Option Value} {base : Heap} {f : Addr} {fd : FuncData} (m : Bi mg) (C_l_own_bag : Cal P w K mg base 1 "_law_own_bag" ["script"] (SfF K sem_l_own_bag)) (C_l_gone : Cal P w K mg base 1 "_law_gone" ["many"] (Sf K 1 sem_l_gone)) (C_l_when : Cal P w K mg base 1 "_law_when" ["rows"] (Sf K 1 sem_l_when)) (C_l_is_great : Cal P w K mg base 5 "_law_is_great" ["bag", "webs", "whens"] (Sf1 K 2 sem_l_is_great)) (C_l_are_small : Cal P w K mg base 5 "_law_are_small" ["bag", "many", "webs", "whens"] (Sf1 K 3 sem_l_are_small)) (C_l_are_latest : Cal P w K mg base 4 "_law_are_latest" ["bag", "many", "webs", "whens"] (Sf1 K 3 sem_l_are_latest)) (C_l_are_drawn : Cal P w K mg base 4 "_law_are_drawn" ["bag", "many", "webs", "whens"] (Sf1 K 3 sem_l_are_drawn)) (F : FunD K "law" "law" (defArgs st_law) (defBody st_law) (defScope st_law) [] [] f fd) :
    FnG P w K mg base CX0 6 f fd ["script"] (SfF K sem_law) :=
  fn_F (k := 5) F sc_law rfl fun _ _ _ _ s0 H0 _ B =>
    (oks_cons (oks_set 1 B.toGd (Ok.up (ok_cF B C_l_own_bag ad_l_own_bag (ok_v 0))))
    (oks_cons (oks_for [2, 3, 4] B.toGd (oki_seq (Ok.up (ok_lst (oko_1 ok_i (oko_1 ok_i (oko_1 ok_i oko_0)))))) (okg_n 2 B.toGd) (oks_cons (oks_set 3 B.toGd (Ok.up (ok_c B C_l_gone ad_l_gone (okl_1 (ok_v 2) okl_0))))
    (oks_cons (oks_setComp (own := [(("rows" : Str), 5)]) 4 B.toGd (oki_seq (ok_vF 3)) (blkOk_by (by kernel_rfl)) (fun s1 H1 _ _ fp1 => (okg_n 5 (B.blk s1 H1 _ _ fp1).toGd)) (fun s1 H1 _ _ fp1 => okts_0) (fun s1 H1 _ _ fp1 => (Ok.up (ok_c (B.blk s1 H1 _ _ fp1) C_l_when ad_l_when (okl_1 (ok_v 5) okl_0)))))
    (oks_cons (oks_if (OkW.t (okw_and (OkT.up (okt_cmp (F_eq B.u64) (ok_v 2) ok_i)) (okw_and1 (okt_not (okt_v (ok_c1 1 B C_l_is_great ad_l_is_great (okl_1 (ok_vF 3) (okl_1 (ok_vF 4) okl_0)))))))) (oks_one (oks_ret ok_b)) oks_nil)
    (oks_cons (oks_if (OkW.t (okw_and (OkT.up (okt_cmp F_lt (ok_v 2) ok_i)) (okw_and1 (okt_not (okt_v (ok_c1 1 B C_l_are_small ad_l_are_small (okl_1 (ok_v 2) (okl_1 (ok_vF 3) (okl_1 (ok_vF 4) okl_0))))))))) (oks_one (oks_ret ok_b)) oks_nil)
    (oks_cons (oks_if (OkW.t (okw_and (OkT.up (okt_cmp F_gt (ok_v 2) ok_i)) (okw_and1 (okt_not (okt_v (ok_c1 1 B C_l_are_latest ad_l_are_latest (okl_1 (ok_v 2) (okl_1 (ok_vF 3) (okl_1 (ok_vF 4) okl_0))))))))) (oks_one (oks_ret ok_b)) oks_nil)
    (oks_one (oks_if (OkW.t (okw_and (OkT.up (okt_cmp F_gt (ok_v 2) ok_i)) (okw_and1 (okt_not (okt_v (ok_c1 1 B C_l_are_drawn ad_l_are_drawn (okl_1 (ok_v 2) (okl_1 (ok_vF 3) (okl_1 (ok_vF 4) okl_0))))))))) (oks_one (oks_ret ok_b)) oks_nil))))))))
    (oks_one (oks_ret ok_b))))
section
variable {P : Program} {w : World} {K : PySem.W.Frag} {mg : Str → Option Value} {base : Heap}
theorem cal_of {k : Nat} {x : Str} {ps : List Str} {sp : Sp} {f : Addr} {fd : FuncData} {pa : Arguments} {body : List Stmt} {sc : Scope} (F : FunD K x x pa body sc [] [] f fd) (g : mg x = some (.ref f)) (G : FnG P w K mg base CX0 k f fd ps sp)
    (b : ∀ (kV doc pm : Value) (an : Option Addr) (cdv ct : Value) (us : List Value), us.length = ps.length → bindArgs (PySem.W.fnOf x x pa body sc .none kV doc pm an cdv ct) ⟨us, []⟩ = pure (ps.zip us))
    (b2 : ∀ (kV doc pm : Value) (an : Option Addr) (cdv ct : Value) (ws : List Value), ws.length = ps.length → bindArgs (PySem.W.fnOf x x pa body sc .none kV doc pm an cdv ct) ⟨[], ps.zip ws⟩ = pure (ps.zip ws)) : Cal P w K mg base k x ps sp :=
  ⟨f, fd, g, G, F.kp, F.bindsN b, .of F b2⟩
end
end Gemaingonethrou

/-! K45c -/
set_option Elab.async false
set_option linter.all false
set_option maxRecDepth 100000
set_option maxHeartbeats 4000000
namespace Gemaingonethrou
open PySem PySem.Spec PyProof.Rows L2 Wk
/-! row_masks -/
def bit (p : Int) : Int := 1 * 2 ^ p.toNat
def rowMask (r : List Int) : Int := (r.map bit).sum
abbrev encR (r : List Int) : PyData := .tuple (r.map .int)
abbrev encW (w : List (List Int)) : PyData := .tuple (w.map encR)
def Plc (p : Int) : Prop := 0 ≤ p ∧ p ≤ 100
def WebOk (w : List (List Int)) : Prop := w.length ≤ 100 ∧ ∀ r ∈ w, r.length ≤ 100 ∧ ∀ p ∈ r, Plc p
theorem sz100 {n : Nat} (h : n ≤ 100) : n ≤ sizeLine := Nat.le_trans h (by decide)
theorem pow_ok {p : Int} (h : Plc p) : cPowB 1 p = true := by
  unfold cPowB
  have h1 := h.1
  have h2 := h.2
  exact decide_eq_true ⟨h1, by omega, by decide⟩
theorem e_row1 (W : SE) (R : SE) {p : Int} (h : Plc p) : e_row_masks_1 [W, R, si p] = some ([W, R, si p], Wk.I (bit p)) := by
  simp [e_row_masks_1, pow_ok h, bit]
theorem e_row2 (W : SE) {r : List Int} (h1 : r.length ≤ 100) (h2 : ∀ p ∈ r, Plc p) : e_row_masks_2 [W, sd (encR r), .z] = some ([W, sd (encR r), .z], Wk.I (rowMask r)) := by
  have c := compL_map (vs := [2]) (T := .n 2) (t := kTrue) (d := e_row_masks_1) (es := [W, sd (encR r), .z]) PyData.int (fun p => .int (bit p)) r
    (fun p hp => ⟨_, _, _, rfl, rfl, e_row1 W _ (h2 p hp), rfl⟩) (sz100 h1)
  have e : r.map (fun p => PyData.int (bit p)) = (r.map bit).map .int := by rw [List.map_map]; rfl
  rw [e] at c
  simp [e_row_masks_2, c, rowMask, -List.map_map]
theorem m_row_masks {w : List (List Int)} (h : WebOk w) : sem_row_masks [encW w] = some (.w (oL ((w.map rowMask).map .int))) := by
  have c := compL_map (vs := [1]) (T := .n 1) (t := kTrue) (d := e_row_masks_2) (es := [sd (encW w), .z, .z]) encR (fun r => .int (rowMask r)) w
    (fun r hr => ⟨_, _, _, rfl, rfl, e_row2 _ (h.2 r hr).1 (h.2 r hr).2, rfl⟩) (sz100 h.1)
  have e : w.map (fun r => PyData.int (rowMask r)) = (w.map rowMask).map .int := by rw [List.map_map]; rfl
  rw [e] at c
  simp [sem_row_masks, d_row_masks, c, -List.map_map]
/-! led_mask, masks_behind -/
def ledFrom (mask : Int) : Nat → List Int → Int → Int
  | _, [], f => f
  | i, own :: r, f => ledFrom mask (i + 1) r (if Builtin.bitAnd (mask / 2 ^ i) 1 = 1 then Builtin.bitOr f own else f)
def ledMask (mask : Int) (masks : List Int) : Int := ledFrom mask 0 masks 0
theorem body_led (mask f own : Int) (i : Nat) (x : PyData) : b_led_mask_1 [si mask, sd x, si f, si i, si own] = some (.nx [si mask, sd x, si (if Builtin.bitAnd (mask / 2 ^ i) 1 = 1 then Builtin.bitOr f own else f), si i, si own]) := by
  have h : (0 : Int) ≤ (i : Int) := Int.natCast_nonneg i
  by_cases c : Builtin.bitAnd (mask / 2 ^ i) 1 = 1
  · simp [b_led_mask_1, c]
  · simp [b_led_mask_1, c]
theorem loop_led (mask : Int) (x : PyData) : ∀ (masks : List Int) (i : Nat) (f : Int),
    forL false (.t [3, 4]) [3, 4] b_led_mask_1 (nums i (masks.map .int)) [si mask, sd x, si f, .z, .z] = some (.nx [si mask, sd x, si (ledFrom mask i masks f), .z, .z])
  | [], i, f => rfl
  | own :: r, i, f => by
    rw [List.map_cons, nums_cons, forL_nx rfl (body_led mask f own i x)]
    exact loop_led mask x r (i + 1) _
theorem m_led_mask (mask : Int) (masks : List Int) : sem_led_mask [.int mask, .list (masks.map .int)] = some (Wk.I (ledMask mask masks)) := by
  have l := loop_led mask (.list (masks.map .int)) masks 0 0
  simp [sem_led_mask, d_led_mask, l, ledMask]
def behind (one other : List Int) : List Int := one.map fun m => ledMask m other
theorem m_behind {one other : List Int} (h : one.length ≤ 100) : sem_masks_behind [li one, li other] = some (.w (oL ((behind one other).map .int))) := by
  have c := compL_map (vs := [2]) (T := .n 2) (t := kTrue) (d := e_masks_behind_1) (es := [sd (li one), sd (li other), .z]) PyData.int (fun m => .int (ledMask m other)) one
    (fun m _ => ⟨_, _, _, rfl, rfl, (by simp [e_masks_behind_1, m_led_mask, -List.map_map] : _ = some ([sd (li one), sd (li other), si m], Wk.I (ledMask m other))), rfl⟩) (sz100 h)
  have e : one.map (fun m => PyData.int (ledMask m other)) = (behind one other).map .int := by unfold behind; rw [List.map_map]; rfl
  rw [e] at c
  simp [sem_masks_behind, d_masks_behind, c, -List.map_map]
/-! from_when -/
/-- from step k on: at most m looks -/
def whenFrom (masks : List Int) (whole : Int) : Nat → Nat → List Int → Option Nat
  | 0, _, _ => none
  | m + 1, k, own => if own.all (fun x => decide (x = whole)) then some k else whenFrom masks whole m (k + 1) (behind own masks)
def fromWhen (w : List (List Int)) : Option Nat := whenFrom (w.map rowMask) (1 * 2 ^ w.length - 1) ((w.length - 1) * (w.length - 1) + 1) 1 (w.map rowMask)
def whenD : Option Nat → PyData
  | none => .none
  | some k => .int k
theorem e_when {whole m : Int} {A B C D' E : SE} : e_from_when_1 [A, B, C, si whole, D', E, si m] = some ([A, B, C, si whole, D', E, si m], Wk.B (decide (m = whole))) := by
  simp [e_from_when_1]
theorem all_when {whole : Int} {own : List Int} {A B C E : SE} (h : own.length ≤ 100) :
    compL [6] (.n 6) kTrue e_from_when_1 (own.map .int) [A, B, C, si whole, sd (li own), E, .z] [] = some ([A, B, C, si whole, sd (li own), E, .z], ((own.map fun x => decide (x = whole)).map PyData.bool).map .d) := by
  have c := compL_map (vs := [6]) (T := .n 6) (t := kTrue) (d := e_from_when_1) (es := [A, B, C, si whole, sd (li own), E, .z]) PyData.int (fun m => .bool (decide (m = whole))) own (fun m _ => ⟨_, _, _, rfl, rfl, e_when, rfl⟩) (sz100 h)
  have e : own.map (fun m => PyData.bool (decide (m = whole))) = (own.map fun x => decide (x = whole)).map .bool := by rw [List.map_map]; rfl
  rw [e] at c
  exact c
theorem body_when {whole : Int} {k : Int} {own masks : List Int} {A B : SE} (h : own.length ≤ 100) (o : SE) (ho : o = .s false (.l ((own.map PyData.int).map .d)) ∨ o = sd (li own)) (q : SE) (hq : q = .s false (.l ((masks.map PyData.int).map .d)) ∨ q = sd (li masks)) :
    b_from_when_2 [A, B, q, si whole, o, si k, .z] = if own.all (fun x => decide (x = whole)) then some (.rt (Wk.I k) [A, B, q, si whole, sd (li own), si k, .z])
      else some (.nx [A, B, sd (li masks), si whole, .s false (.l (((behind own masks).map PyData.int).map .d)), si k, .z]) := by
  have e : ((own.map fun x => decide (x = whole)).all id) = own.all fun x => decide (x = whole) := by rw [List.all_map]; rfl
  have c := fun C => all_when (whole := whole) (own := own) (A := A) (B := B) (C := C) (E := si k) h
  have b := m_behind (one := own) (other := masks) h
  by_cases t : (own.all fun x => decide (x = whole)) = true
  · rw [if_pos t]
    rcases ho with rfl | rfl <;> rcases hq with rfl | rfl <;> simp [b_from_when_2, c, b, e, t, -List.map_map, -List.all_map, -List.all_eq_true]
  · rw [if_neg t]
    rcases ho with rfl | rfl <;> rcases hq with rfl | rfl <;> simp [b_from_when_2, c, b, e, t, -List.map_map, -List.all_map, -List.all_eq_true]
theorem log2_lt64 {n : Nat} (h : n < 2 ^ 64) : n.log2 < 64 := by
  by_cases e : n = 0
  · subst e; decide
  · exact (Nat.log2_lt e).mpr h
theorem cMul64 {i j : Int} (hi : i.natAbs < 2 ^ 64) (hj : j.natAbs < 2 ^ 64) : cMulB i j = true := by
  have a := log2_lt64 hi
  have b := log2_lt64 hj
  unfold cMulB
  exact decide_eq_true (by omega)
theorem ups_succ (lo : Int) (n : Nat) : ups lo (n + 1) = .int lo :: ups (lo + 1) n := by
  unfold ups
  rw [List.range_succ_eq_map, List.map_cons, List.map_map]
  congr 1
  · simp
  · refine List.map_congr_left fun k _ => ?_
    show PyData.int (lo + ((k + 1 : Nat) : Int)) = PyData.int (lo + 1 + (k : Nat))
    congr 1
    omega
theorem behind_len (one other : List Int) : (behind one other).length = one.length := by unfold behind; rw [List.length_map]
theorem loop_when {whole : Int} {masks : List Int} {A B : SE} : ∀ (m k : Nat) (own : List Int) (o q : SE), own.length ≤ 100 → (o = .s false (.l ((own.map PyData.int).map .d)) ∨ o = sd (li own)) → (q = .s false (.l ((masks.map PyData.int).map .d)) ∨ q = sd (li masks)) →
    ∃ es, forL false (.n 5) [5] b_from_when_2 (ups (k : Nat) m) [A, B, q, si whole, o, .z, .z] = match whenFrom masks whole m k own with
      | some j => some (.rt (Wk.I (j : Nat)) es)
      | none => some (.nx es)
  | 0, k, own, o, q, _, _, _ => ⟨_, rfl⟩
  | m + 1, k, own, o, q, h, ho, hq => by
    rw [ups_succ]
    have b := body_when (whole := whole) (k := (k : Nat)) (masks := masks) (A := A) (B := B) h o ho q hq
    have t1 : tgS false (.n 5) (.int ((k : Nat) : Int)) [A, B, q, si whole, o, .z, .z] = some [A, B, q, si whole, o, si (k : Nat), .z] := rfl
    have w1 : whenFrom masks whole (m + 1) k own = if own.all (fun x => decide (x = whole)) then some k else whenFrom masks whole m (k + 1) (behind own masks) := rfl
    rw [w1]
    by_cases t : (own.all fun x => decide (x = whole)) = true
    · rw [if_pos t] at b
      rw [if_pos t]
      exact ⟨_, forL_rt t1 b⟩
    · rw [if_neg t] at b
      rw [if_neg t, forL_nx t1 b]
      have e : ((k : Nat) : Int) + 1 = ((k + 1 : Nat) : Int) := by omega
      rw [e]
      exact loop_when m (k + 1) (behind own masks) _ _ (by rw [behind_len]; exact h) (.inl rfl) (.inr rfl)
theorem m_from_when {w : List (List Int)} (h : WebOk w) (h1 : 1 ≤ w.length) : sem_from_when [encW w] = some (D (whenD (fromWhen w))) := by
  have hl := h.1
  have rm := m_row_masks h
  obtain ⟨es, l⟩ := loop_when (whole := 1 * 2 ^ w.length - 1) (masks := w.map rowMask) (A := sd (encW w)) (B := si (w.length : Nat)) ((w.length - 1) * (w.length - 1) + 1) 1 (w.map rowMask) (.s false (.l (((w.map rowMask).map PyData.int).map .d))) (.s false (.l (((w.map rowMask).map PyData.int).map .d))) (by rw [List.length_map]; exact hl) (.inl rfl) (.inl rfl)
  have c1 : cPowB 1 (w.length : Int) = true := decide_eq_true ⟨by omega, by omega, by decide⟩
  have n64 : ((w.length : Int) - 1).natAbs < 2 ^ 64 := Nat.lt_of_le_of_lt (show ((w.length : Int) - 1).natAbs ≤ 100 from by omega) (by decide)
  have c2 : cMulB ((w.length : Int) - 1) ((w.length : Int) - 1) = true := cMul64 n64 n64
  have sq : ((w.length : Int) - 1) * ((w.length : Int) - 1) = (((w.length - 1) * (w.length - 1) : Nat) : Int) := by
    have : ((w.length : Int) - 1) = ((w.length - 1 : Nat) : Int) := by omega
    rw [this]; simp
  have le : (w.length - 1) * (w.length - 1) ≤ 99 * 99 := Nat.mul_le_mul (by omega) (by omega)
  have c3 : sm (((w.length : Int) - 1) * ((w.length : Int) - 1) + 2) = true := by
    rw [sq]
    unfold sm
    exact decide_eq_true ⟨by omega, by omega⟩
  have c4 : sm 1 = true := by decide
  have c5 : (((w.length : Int) - 1) * ((w.length : Int) - 1) + 2 - 1).toNat = (w.length - 1) * (w.length - 1) + 1 := by rw [sq]; omega
  have l' : forL false (.n 5) [5] b_from_when_2 (ups 1 ((w.length - 1) * (w.length - 1) + 1)) [sd (encW w), si (w.length : Nat), .s false (oL ((w.map rowMask).map PyData.int)), si (1 * 2 ^ w.length - 1), .s false (oL ((w.map rowMask).map PyData.int)), .z, .z] = _ := l
  rw [Int.one_mul] at l'
  have two : (2 : Int) ^ (w.length : Int).toNat = 2 ^ w.length := by rw [Int.toNat_natCast]
  unfold fromWhen
  rw [Int.one_mul]
  cases e : whenFrom (w.map rowMask) (2 ^ w.length - 1) ((w.length - 1) * (w.length - 1) + 1) 1 (w.map rowMask) with
  | none =>
    rw [e] at l'
    simp [sem_from_when, d_from_when, rm, c1, c2, c3, c4, c5, l', whenD, -List.map_map]
  | some j =>
    rw [e] at l'
    simp [sem_from_when, d_from_when, rm, c1, c2, c3, c4, c5, l', whenD, -List.map_map]
end Gemaingonethrou

/-! K45f -/
set_option Elab.async false
set_option linter.all false
set_option maxRecDepth 100000
set_option maxHeartbeats 4000000
namespace Gemaingonethrou
open PySem PySem.Spec PyProof.Rows L2 Wk
/-! the bag -/
def bagT (cells : List Int) (a b : Int) : OT := .l [.l ((cells.map .int).map .d), .d (.int a), .d (.int b)]
structure BagOk (cells : List Int) (a b : Int) : Prop where
  len : cells.length ≤ 63
  pos : ∀ x ∈ cells, 0 ≤ x
  a0 : 0 ≤ a
  b0 : 0 ≤ b
  b1 : b < 2147483647
theorem lay_ints : ∀ ns : List Int, PyData.canLayAll0 (ns.map .int) = true ∧ PyData.depthAll (ns.map .int) = 0
  | [] => by simp [PyData.canLayAll0, PyData.depthAll]
  | n :: r => by simp [PyData.canLayAll0, PyData.depthAll, PyData.canLay0, PyData.depth, lay_ints r]
theorem shaped_ints (ns : List Int) : SeqAt.shaped (.list (ns.map .int)) = true := by
  simp [SeqAt.shaped, PyData.canLay0, PyData.depth, lay_ints ns]
theorem ne_nil (ns : List Int) : PyData.eqv (.list (ns.map .int)) (.list []) = ns.isEmpty := by
  cases ns <;> simp [PyData.eqv, PyData.eqvAll]
abbrev bagS (cells : List Int) (a b : Int) : SE := .s true (bagT cells a b)
theorem ix0 {cells : List Int} {a b : Int} : atI [OT.l ((cells.map PyData.int).map .d), .d (.int a), .d (.int b)] 0 = some (OT.l ((cells.map PyData.int).map .d)) := rfl
theorem ix1 {x y z : OT} : atI [x, y, z] 1 = some y := rfl
theorem ix2 {x y z : OT} : atI [x, y, z] 2 = some z := rfl
theorem test_draw (cells : List Int) (a b : Int) (B C : SE) : w_l_draw_2 [bagS cells a b, B, .z, C] = some ([bagS cells a b, B, .z, C], decide (a = 0) && !cells.isEmpty) := by
  have e : fNe (.b (.l ((cells.map PyData.int).map .d))) (.w (.l [])) = some (Wk.B (!cells.isEmpty)) := by
    show ((lvL _).map PyData.list).bind _ = _
    rw [lvL_map]
    show (((lvL ([] : List OT)).map PyData.list).bind fun b => if SeqAt.shaped (PyData.list (cells.map .int)) = true ∧ SeqAt.shaped b = true then some (Wk.B (!PyData.eqv (PyData.list (cells.map .int)) b)) else none) = _
    show (if SeqAt.shaped (PyData.list (cells.map .int)) = true ∧ SeqAt.shaped (.list []) = true then some (Wk.B (!PyData.eqv (PyData.list (cells.map .int)) (.list []))) else none) = _
    rw [ne_nil, shaped_ints, if_pos ⟨rfl, by decide⟩]
  by_cases h : a = 0
  · simp [w_l_draw_2, bagT, ix1, atI, ixN, e, h, -List.map_map]
  · simp [w_l_draw_2, bagT, ix1, atI, ixN, e, h, -List.map_map]

theorem last_get {cells : List Int} {x : Int} : ((((cells ++ [x]).map PyData.int).map OT.d))[(((cells ++ [x]).map PyData.int).map OT.d).length - 1]? = some (.d (.int x)) := by simp
theorem last_drop {cells : List Int} {x : Int} : (((cells ++ [x]).map PyData.int).map OT.d).dropLast = (cells.map PyData.int).map .d := by simp
theorem body_draw (cells : List Int) (x b : Int) (B C : SE) : b_l_draw_1 [bagS (cells ++ [x]) 0 b, B, .z, C] = some (.nx [bagS cells (if x > 1000000000 then x else 0) b, B, si x, C]) := by
  have p : cPowB 10 9 = true := by decide
  by_cases h : 1000000000 < x
  · simp [b_l_draw_1, bagS, bagT, ixN, last_get, last_drop, p, h, -List.map_map, -List.map_append]
  · simp [b_l_draw_1, bagS, bagT, ixN, last_get, last_drop, p, h, -List.map_map, -List.map_append]
theorem whileL_no {t : DB} {ks : List Nat} {body : DS} {n : Nat} {es es1 : List SE} (h : t es = some (es1, false)) : whileL t ks body (n + 1) es = some (.nx es1) := by
  show (t es).bind _ = _
  rw [h]; rfl
theorem whileL_yes {t : DB} {ks : List Nat} {body : DS} {n : Nat} {es es1 es2 : List SE} (h : t es = some (es1, true)) (hb : body es1 = some (.nx es2)) : whileL t ks body (n + 1) es = whileL t ks body n (kill ks es2) := by
  show (t es).bind _ = _
  rw [h]
  show (match body es1 with
      | some (.nx es2) => whileL t ks body n (kill ks es2)
      | some (.ct es2) => whileL t ks body n (kill ks es2)
      | some (.bk es2) => some (.nx es2)
      | some (.rt o es2) => some (.rt o es2)
      | none => none) = _
  rw [hb]
theorem loop_draw (b : Int) (B C : SE) : ∀ (n : Nat) (cells : List Int) (a : Int), cells.length < n → (∀ x ∈ cells, 0 ≤ x) → 0 ≤ a →
    ∃ (c2 : List Int) (a2 : Int), whileL w_l_draw_2 [2] b_l_draw_1 n [bagS cells a b, B, .z, C] = some (.nx [bagS c2 a2 b, B, .z, C]) ∧ c2.length ≤ cells.length ∧ (∀ x ∈ c2, 0 ≤ x) ∧ 0 ≤ a2
  | 0, cells, a, h, _, _ => absurd h (Nat.not_lt_zero _)
  | n + 1, cells, a, h, hp, ha => by
    have t := test_draw cells a b B C
    by_cases c : (decide (a = 0) && !cells.isEmpty) = true
    · rw [c] at t
      rw [Bool.and_eq_true] at c
      have a0 : a = 0 := of_decide_eq_true c.1
      subst a0
      have ne : cells ≠ [] := fun e => by rw [e] at c; exact absurd c.2 (by decide)
      obtain ⟨ini, x, e⟩ : ∃ ini x, cells = ini ++ [x] := ⟨cells.dropLast, cells.getLast ne, (List.dropLast_concat_getLast ne).symm⟩
      subst e
      rw [whileL_yes t (body_draw ini x b B C)]
      have hx : 0 ≤ x := hp x (by simp)
      have hl : ini.length < n := by simp at h; exact h
      obtain ⟨c2, a2, h1, h2, h3, h4⟩ := loop_draw b B C n ini (if x > 1000000000 then x else 0) hl (fun y hy => hp y (by simp [hy])) (by split <;> omega)
      exact ⟨c2, a2, h1, by simp; omega, h3, h4⟩
    · rw [Bool.not_eq_true] at c
      rw [c] at t
      exact ⟨cells, a, whileL_no t, Nat.le_refl _, hp, ha⟩
theorem m_draw {cells : List Int} {a b below : Int} (h : BagOk cells a b) (h1 : 1 ≤ below) (h2 : below ≤ 1000000) :
    ∃ c2 a2 b2 x, sem_l_draw (bagT cells a b) [.int below] = some (bagT c2 a2 b2, Wk.I x) ∧ BagOk c2 a2 b2 ∧ 0 ≤ x ∧ x < below := by
  obtain ⟨c2, a2, l1, l2, l3, l4⟩ := loop_draw b (si below) .z fuel cells a (Nat.lt_of_le_of_lt h.len (by decide)) h.pos h.a0
  simp only [bagS, bagT, si] at l1
  have len2 : c2.length ≤ 63 := Nat.le_trans l2 h.len
  have b64 : b.natAbs < 2 ^ 64 := Nat.lt_of_le_of_lt (show b.natAbs ≤ 2147483647 from by have := h.b0; have := h.b1; omega) (by decide)
  have div1 : ∀ x : Int, cDivB x below = true := fun x => by
    have := log2_lt64 (n := below.natAbs) (Nat.lt_of_le_of_lt (show below.natAbs ≤ 1000000 from by omega) (by decide))
    exact decide_eq_true ⟨by omega, by omega⟩
  by_cases p : 0 < a2
  · refine ⟨c2, a2 / below, b, a2 % below, ?_, ⟨len2, l3, Int.ediv_nonneg l4 (by omega), h.b0, h.b1⟩, Int.emod_nonneg _ (by omega), Int.emod_lt_of_pos _ (by omega)⟩
    simp [sem_l_draw, d_l_draw, oWhile, l1, bagS, bagT, atI, ixN, p, div1, show (0 : Int) < below from by omega, -List.map_map]
  · have b0 := h.b0
    have b1 := h.b1
    have nb0 : 0 ≤ (b * 48271 + 11) % 2147483647 := Int.emod_nonneg _ (by decide)
    have nb1 : (b * 48271 + 11) % 2147483647 < 2147483647 := Int.emod_lt_of_pos _ (by decide)
    have m1 : cMulB b 48271 = true := cMul64 b64 (by decide)
    have m2 : cMulB ((b * 48271 + 11) % 2147483647) ((b * 48271 + 11) % 2147483647) = true := by
      have : ((b * 48271 + 11) % 2147483647).natAbs < 2 ^ 64 := Nat.lt_of_le_of_lt (show _ ≤ 2147483647 from by omega) (by decide)
      exact cMul64 this this
    have d7 : ∀ x : Int, cDivB x 7 = true := fun x => by
      unfold cDivB
      exact decide_eq_true ⟨by decide, by decide⟩
    refine ⟨c2, a2, (b * 48271 + 11) % 2147483647, (b * 48271 + 11) % 2147483647 * ((b * 48271 + 11) % 2147483647) % 2147483629 / 7 % below, ?_, ⟨len2, l3, l4, nb0, nb1⟩, Int.emod_nonneg _ (by omega), Int.emod_lt_of_pos _ (by omega)⟩
    simp [sem_l_draw, d_l_draw, oWhile, l1, bagS, bagT, atI, ixN, p, m1, m2, d7, show (0 : Int) < below from by omega, -List.map_map]
end Gemaingonethrou

/-! K45g -/
set_option Elab.async false
set_option linter.all false
set_option maxRecDepth 100000
set_option maxHeartbeats 4000000
namespace Gemaingonethrou
open PySem PySem.Spec PyProof.Rows L2 Wk
theorem m_pick {cells : List Int} {a b : Int} {ds : List PyData} (h : BagOk cells a b) (h1 : ds ≠ []) (h2 : ds.length ≤ 1000000) :
    ∃ c2 a2 b2, ∃ i : Nat, ∃ hi : i < ds.length, sem_l_pick (bagT cells a b) [.list ds] = some (bagT c2 a2 b2, D ds[i]) ∧ BagOk c2 a2 b2 := by
  have l0 : 0 < ds.length := List.length_pos_iff.mpr h1
  obtain ⟨c2, a2, b2, x, e, ok, x0, x1⟩ := m_draw (below := (ds.length : Nat)) h (by omega) (by omega)
  have hx : x.toNat < ds.length := by omega
  refine ⟨c2, a2, b2, x.toNat, hx, ?_, ok⟩
  have at1 : atI ds x = some ds[x.toNat] := by
    unfold atI ixN
    rw [if_pos x0, if_pos x1]
    show ds[x.toNat]? = _
    simp [hx]
  simp [sem_l_pick, d_l_pick, e, at1]
/-- the first bag -/
def mixOf : List Int → Int → Int
  | [], m => m
  | c :: r, m => mixOf r ((m * 48271 + c % 2147483629 + 7) % 2147483647)
theorem body_bag (A B : SE) {m : Int} (c : Int) (h0 : 0 ≤ m) (h1 : m < 2147483647) : b_l_own_bag_1 [A, B, si m, si c] = some (.nx [A, B, si ((m * 48271 + c % 2147483629 + 7) % 2147483647), si c]) := by
  have m1 : cMulB m 48271 = true := cMul64 (Nat.lt_of_le_of_lt (show m.natAbs ≤ 2147483647 from by omega) (by decide)) (by decide)
  simp [b_l_own_bag_1, m1]
theorem loop_bag (A B : SE) : ∀ (cs : List Int) (m : Int), 0 ≤ m → m < 2147483647 → forL false (.n 3) [3] b_l_own_bag_1 (cs.map .int) [A, B, si m, .z] = some (.nx [A, B, si (mixOf cs m), .z]) ∧ 0 ≤ mixOf cs m ∧ mixOf cs m < 2147483647
  | [], m, h0, h1 => ⟨rfl, h0, h1⟩
  | c :: r, m, h0, h1 => by
    have t1 : tgS false (.n 3) (.int c) [A, B, si m, .z] = some [A, B, si m, si c] := rfl
    rw [List.map_cons, forL_nx t1 (body_bag A B c h0 h1)]
    exact loop_bag A B r _ (Int.emod_nonneg _ (by decide)) (Int.emod_lt_of_pos _ (by decide))
theorem cut63 (ds : List PyData) : Wk.cutD ds none (some 63) = ds.take 63 := by
  have e : HT.sIx ds.length ds.length (some 63) = min 63 ds.length := HT.sIx_nat _ _ 63
  unfold Wk.cutD
  rw [HT.sIx_none, e, List.drop_zero, Nat.sub_zero]
  rcases Nat.le_total 63 ds.length with h | h
  · rw [Nat.min_eq_left h]
  · rw [Nat.min_eq_right h, List.take_of_length_le (Nat.le_refl _), List.take_of_length_le h]
theorem m_bag (ns : List Int) : ∃ cells b, sem_l_own_bag ns = some (.w (bagT cells 0 b)) ∧ BagOk cells 0 b := by
  obtain ⟨xs, hxs⟩ : ∃ xs, xs = ns.take 63 := ⟨_, rfl⟩
  have lx : xs.length ≤ 63 := by rw [hxs, List.length_take]; omega
  have cut : Wk.cutD (ns.map .int) none (some 63) = xs.map .int := by rw [cut63, hxs, List.map_take]
  obtain ⟨cs, hcs⟩ : ∃ cs, cs = xs.map fun c => (c.natAbs : Int) % 10 ^ 60 := ⟨_, rfl⟩
  have lc : cs.length ≤ 63 := by rw [hcs, List.length_map]; exact lx
  have e1 : ∀ (A B C : SE) (c : Int), e_l_own_bag_2 [A, B, C, si c] = some ([A, B, C, si c], Wk.I ((c.natAbs : Int) % 10 ^ 60)) := fun A B C c => by
    have p : cPowB 10 60 = true := by decide
    simp [e_l_own_bag_2, p]
  have c := compL_map (vs := [3]) (T := .n 3) (t := kTrue) (d := e_l_own_bag_2) (es := [.s false (.f ns), .z, .z, .z]) PyData.int (fun c => .int ((c.natAbs : Int) % 10 ^ 60)) xs
    (fun x _ => ⟨_, _, _, rfl, rfl, e1 _ _ _ x, rfl⟩) (Nat.le_trans lx (by decide))
  have e : xs.map (fun c => PyData.int ((c.natAbs : Int) % 10 ^ 60)) = cs.map .int := by rw [hcs, List.map_map]; rfl
  rw [e] at c
  obtain ⟨l, b0, b1⟩ := loop_bag (.s false (.f ns)) (sd (li cs)) cs (2468 + cs.length) (by omega) (by omega)
  have pos : ∀ x ∈ cs, 0 ≤ x := fun x hx => by
    rw [hcs] at hx
    obtain ⟨y, _, rfl⟩ := List.mem_map.mp hx
    exact Int.emod_nonneg _ (by decide)
  refine ⟨cs.reverse, mixOf cs (2468 + cs.length), ?_, ⟨by rw [List.length_reverse]; exact lc, fun x hx => pos x (List.mem_reverse.mp hx), Int.le_refl _, b0, b1⟩⟩
  have fl : fList (.w (oL (cs.map PyData.int))) = some (.w (oL (cs.map PyData.int))) := by
    show (lvO (.w (oL _))).map _ = _
    rw [lvO_WW]; rfl
  have fl2 : fList (D (li cs)) = some (.w (oL (cs.map PyData.int))) := rfl
  simp [sem_l_own_bag, d_l_own_bag, cut, c, l, fl, fl2, bagT, show 3 ≤ sizeLine from by decide, -List.map_map]
/-- two equal data -/
theorem m_same {d : PyData} (h1 : SeqAt.shaped d = true) (h2 : PyData.eqv d d = true) (h3 : reprOk d = true) : sem_l_same [d, d] = some (Wk.B true) := by
  have r : fRepr (D d) = some (Wk.S d.shown) := by
    show (some d).bind _ = _
    exact if_pos h3
  have e : ∀ x : Str, fEq (Wk.S x) (Wk.S x) = some (Wk.B true) := fun x => by
    show some (Wk.B (decide (x = x))) = _
    rw [decide_eq_true rfl]
  have e2 : fEq (D d) (D d) = some (Wk.B true) := by
    cases d with
    | int i => show some (Wk.B (decide (i = i))) = _; rw [decide_eq_true rfl]
    | str i => show some (Wk.B (decide (i = i))) = _; rw [decide_eq_true rfl]
    | bool i => show some (Wk.B (decide (i = i))) = _; rw [decide_eq_true rfl]
    | none => show (if SeqAt.shaped .none = true ∧ SeqAt.shaped .none = true then some (Wk.B (PyData.eqv .none .none)) else none) = _; rw [h2, if_pos ⟨h1, h1⟩]
    | list x => show (if SeqAt.shaped (.list x) = true ∧ SeqAt.shaped (.list x) = true then some (Wk.B (PyData.eqv (.list x) (.list x))) else none) = _; rw [h2, if_pos ⟨h1, h1⟩]
    | tuple x => show (if SeqAt.shaped (.tuple x) = true ∧ SeqAt.shaped (.tuple x) = true then some (Wk.B (PyData.eqv (.tuple x) (.tuple x))) else none) = _; rw [h2, if_pos ⟨h1, h1⟩]
    | dict x => show (if SeqAt.shaped (.dict x) = true ∧ SeqAt.shaped (.dict x) = true then some (Wk.B (PyData.eqv (.dict x) (.dict x))) else none) = _; rw [h2, if_pos ⟨h1, h1⟩]
  simp [sem_l_same, d_l_same, r, e, e2]
end Gemaingonethrou

/-! K45j -/
set_option Elab.async false
set_option linter.all false
set_option maxRecDepth 100000
set_option maxHeartbeats 4000000
namespace Gemaingonethrou
open PySem PySem.Spec PyProof.Rows L2 Wk
/-! _law_when -/
def stepL (x0 x1 x2 lot : Int) : Int := Builtin.bitOr (Builtin.bitOr (x0 * Builtin.bitAnd lot 1) (x1 * Builtin.bitAnd (lot / 2) 1)) (x2 * (lot / 4))
def ok8 (x : Int) : Bool := decide (0 ≤ x) && decide (x < 8)
def lwLoop (x0 x1 x2 : Int) (full : List Int) : Nat → Nat → List Int → Option Int
  | 0, _, _ => some 0
  | m + 1, k, now => if now = full then some k else if now.all ok8 = true then lwLoop x0 x1 x2 full m (k + 1) (now.map (stepL x0 x1 x2)) else none
theorem eqv_ints : ∀ a b : List Int, PyData.eqvAll (a.map .int) (b.map .int) = decide (a = b)
  | [], [] => by simp [PyData.eqvAll]
  | [], _ :: _ => by simp [PyData.eqvAll]
  | _ :: _, [] => by simp [PyData.eqvAll]
  | x :: a, y :: b => by
    rw [List.map_cons, List.map_cons, PyData.eqvAll, eqv_ints a b]
    simp [PyData.eqv]
    by_cases h : x = y <;> by_cases h2 : a = b <;> simp [h, h2]
theorem fEq_lists {x y : Wk.TO} {a b : List Int} (h1 : dvO x = some (li a)) (h2 : dvO y = some (li b)) (hx : ∀ i, x ≠ .b (.d (.int i))) (hs : ∀ i, x ≠ .b (.d (.str i))) (hb : ∀ i, x ≠ .b (.d (.bool i))) : fEq x y = some (Wk.B (decide (a = b))) := by
  have g : fEq x y = (dvO x).bind fun a => (dvO y).bind fun b => if SeqAt.shaped a = true ∧ SeqAt.shaped b = true then some (Wk.B (PyData.eqv a b)) else none := by
    unfold fEq
    split
    · exact absurd rfl (hx _)
    · exact absurd rfl (hs _)
    · exact absurd rfl (hb _)
    · rfl
  rw [g, h1, h2]
  show (if SeqAt.shaped (li a) = true ∧ SeqAt.shaped (li b) = true then some (Wk.B (PyData.eqv (li a) (li b))) else none) = _
  rw [if_pos ⟨shaped_ints a, shaped_ints b⟩]
  show some (Wk.B (PyData.eqvAll _ _)) = _
  rw [eqv_ints]
theorem at0 {α : Type} {x : α} {r : List α} : atI (x :: r) 0 = some x := by
  have h : ixN (x :: r).length 0 = some 0 := by
    unfold ixN
    rw [if_pos (by decide), if_pos (by rw [List.length_cons]; omega)]; rfl
  unfold atI
  rw [h]; rfl
theorem at1 {α : Type} {x y : α} {r : List α} : atI (x :: y :: r) 1 = some y := by
  have h : ixN (x :: y :: r).length 1 = some 1 := by
    unfold ixN
    rw [if_pos (by decide), if_pos (by rw [List.length_cons, List.length_cons]; omega)]; rfl
  unfold atI
  rw [h]; rfl
theorem at2 {α : Type} {x y z : α} {r : List α} : atI (x :: y :: z :: r) 2 = some z := by
  have h : ixN (x :: y :: z :: r).length 2 = some 2 := by
    unfold ixN
    rw [if_pos (by decide), if_pos (by rw [List.length_cons, List.length_cons, List.length_cons]; omega)]; rfl
  unfold atI
  rw [h]; rfl
abbrev sl (l : List Int) : SE := .s false (oL (l.map .int))
theorem e_lw {A C D' E : SE} {x0 x1 x2 : Int} {more : List Int} {lot : Int} (h0 : x0.natAbs < 2 ^ 64) (h1 : x1.natAbs < 2 ^ 64) (h2 : x2.natAbs < 2 ^ 64) (h : ok8 lot = true) :
    e_l_when_1 [A, sl (x0 :: x1 :: x2 :: more), C, D', E, si lot] = some ([A, sl (x0 :: x1 :: x2 :: more), C, D', E, si lot], Wk.I (stepL x0 x1 x2 lot)) := by
  unfold ok8 at h
  rw [Bool.and_eq_true, decide_eq_true_eq, decide_eq_true_eq] at h
  have a0 : cMulB x0 (Builtin.bitAnd lot 1) = true := by
    refine cMul64 h0 ?_
    rcases (by omega : lot = 0 ∨ lot = 1 ∨ lot = 2 ∨ lot = 3 ∨ lot = 4 ∨ lot = 5 ∨ lot = 6 ∨ lot = 7) with e | e | e | e | e | e | e | e <;> subst e <;> decide
  have a1 : cMulB x1 (Builtin.bitAnd (lot / 2) 1) = true := by
    refine cMul64 h1 ?_
    rcases (by omega : lot = 0 ∨ lot = 1 ∨ lot = 2 ∨ lot = 3 ∨ lot = 4 ∨ lot = 5 ∨ lot = 6 ∨ lot = 7) with e | e | e | e | e | e | e | e <;> subst e <;> decide
  have a2 : cMulB x2 (lot / 4) = true := by
    refine cMul64 h2 ?_
    rcases (by omega : lot = 0 ∨ lot = 1 ∨ lot = 2 ∨ lot = 3 ∨ lot = 4 ∨ lot = 5 ∨ lot = 6 ∨ lot = 7) with e | e | e | e | e | e | e | e <;> subst e <;> decide
  simp [e_l_when_1, at0, at1, at2, a0, a1, a2, stepL, -List.map_map]
theorem body_lw {A : SE} {x0 x1 x2 : Int} {more full now : List Int} {k : Int} (h0 : x0.natAbs < 2 ^ 64) (h1 : x1.natAbs < 2 ^ 64) (h2 : x2.natAbs < 2 ^ 64) (hl : now.length ≤ 100) (o : SE) (ho : o = sl now ∨ o = sd (li now)) :
    (now = full → ∃ es, b_l_when_2 [A, sl (x0 :: x1 :: x2 :: more), o, sl full, si k, .z] = some (.rt (Wk.I k) es)) ∧
    (now ≠ full → now.all ok8 = true → b_l_when_2 [A, sl (x0 :: x1 :: x2 :: more), o, sl full, si k, .z] = some (.nx [A, sl (x0 :: x1 :: x2 :: more), sl (now.map (stepL x0 x1 x2)), sl full, si k, .z])) := by
  have df : dvO (.b (oL (full.map PyData.int))) = some (li full) := by
    show (lvL _).map _ = _
    rw [lvL_map]; rfl
  have dn : dvO (.b (oL (now.map PyData.int))) = some (li now) := by
    show (lvL _).map _ = _
    rw [lvL_map]; rfl
  have q1 : fEq (.b (oL (now.map PyData.int))) (.b (oL (full.map PyData.int))) = some (Wk.B (decide (now = full))) := fEq_lists dn df nofun nofun nofun
  have q2 : fEq (D (li now)) (.b (oL (full.map PyData.int))) = some (Wk.B (decide (now = full))) := fEq_lists rfl df nofun nofun nofun
  refine ⟨fun e => ?_, fun e a => ?_⟩
  · rw [decide_eq_true e] at q1 q2
    rcases ho with rfl | rfl
    · exact ⟨_, by simp [b_l_when_2, q1, -List.map_map]; rfl⟩
    · exact ⟨_, by simp [b_l_when_2, q2, -List.map_map]; rfl⟩
  · rw [decide_eq_false e] at q1 q2
    have c := compL_map (vs := [5]) (T := .n 5) (t := kTrue) (d := e_l_when_1) (es := [A, sl (x0 :: x1 :: x2 :: more), sd (li now), sl full, si k, .z]) PyData.int (fun m => .int (stepL x0 x1 x2 m)) now
      (fun m hm => ⟨_, _, _, rfl, rfl, e_lw h0 h1 h2 (List.all_eq_true.mp a m hm), rfl⟩) (sz100 hl)
    have e2 : now.map (fun m => PyData.int (stepL x0 x1 x2 m)) = (now.map (stepL x0 x1 x2)).map .int := by rw [List.map_map]; rfl
    rw [e2] at c
    rcases ho with rfl | rfl
    · simp [b_l_when_2, q1, c, -List.map_map]
    · simp [b_l_when_2, q2, c, -List.map_map]
theorem loop_lw {A : SE} {x0 x1 x2 : Int} {more full : List Int} (h0 : x0.natAbs < 2 ^ 64) (h1 : x1.natAbs < 2 ^ 64) (h2 : x2.natAbs < 2 ^ 64) : ∀ (m k : Nat) (now : List Int) (o : SE) (r : Int), now.length ≤ 100 → (o = sl now ∨ o = sd (li now)) → lwLoop x0 x1 x2 full m k now = some r →
    ∃ es, forL false (.n 4) [4] b_l_when_2 (ups (k : Nat) m) [A, sl (x0 :: x1 :: x2 :: more), o, sl full, .z, .z] = some (.rt (Wk.I r) es) ∨ (r = 0 ∧ forL false (.n 4) [4] b_l_when_2 (ups (k : Nat) m) [A, sl (x0 :: x1 :: x2 :: more), o, sl full, .z, .z] = some (.nx es))
  | 0, k, now, o, r, _, _, h => by
    cases h
    exact ⟨_, .inr ⟨rfl, rfl⟩⟩
  | m + 1, k, now, o, r, hl, ho, h => by
    rw [ups_succ]
    obtain ⟨b1, b2⟩ := body_lw (A := A) (more := more) (full := full) (k := (k : Nat)) h0 h1 h2 hl o ho
    have t1 : tgS false (.n 4) (.int ((k : Nat) : Int)) [A, sl (x0 :: x1 :: x2 :: more), o, sl full, .z, .z] = some [A, sl (x0 :: x1 :: x2 :: more), o, sl full, si (k : Nat), .z] := rfl
    have w1 : lwLoop x0 x1 x2 full (m + 1) k now = if now = full then some (k : Int) else if now.all ok8 = true then lwLoop x0 x1 x2 full m (k + 1) (now.map (stepL x0 x1 x2)) else none := rfl
    rw [w1] at h
    by_cases e : now = full
    · rw [if_pos e] at h
      cases h
      obtain ⟨es, b⟩ := b1 e
      exact ⟨es, .inl (forL_rt t1 b)⟩
    · rw [if_neg e] at h
      obtain ⟨a, h⟩ := if_some h
      rw [forL_nx t1 (b2 e a)]
      have e : ((k : Nat) : Int) + 1 = ((k + 1 : Nat) : Int) := by omega
      rw [e]
      exact loop_lw h0 h1 h2 m (k + 1) _ _ r (by rw [List.length_map]; exact hl) (.inl rfl) h
def lawWhen (rows : List Int) : Option Int := match rows ++ [0, 0] with
  | x0 :: x1 :: x2 :: _ => lwLoop x0 x1 x2 (List.replicate rows.length (1 * 2 ^ rows.length - 1)) 5 1 rows
  | _ => none
end Gemaingonethrou

/-! K45k -/
set_option Elab.async false
set_option linter.all false
set_option maxRecDepth 100000
set_option maxHeartbeats 4000000
namespace Gemaingonethrou
open PySem PySem.Spec PyProof.Rows L2 Wk
theorem vAdd_LW {a b : List PyData} (h : a.length + b.length ≤ sizeLine) : fAdd (D (.list a)) (.w (oL b)) = some (.w (oL (a ++ b))) := by
  simp only [fAdd, lvO_D, lvO_WW, Option.bind_some, if_pos h]
theorem flat_one {α : Type} (x : α) : ∀ n : Nat, (List.replicate n [x]).flatten = List.replicate n x
  | 0 => rfl
  | n + 1 => by rw [List.replicate_succ, List.replicate_succ, List.flatten_cons, flat_one x n]; rfl
theorem u1 (n : Nat) (h : n ≤ 100) : ((n : Nat) : Int) < 2 ^ 63 := Int.lt_of_le_of_lt (show ((n : Nat) : Int) ≤ 100 from by omega) (by decide)
theorem u2 (n : Nat) : -(2 ^ 63) ≤ ((n : Nat) : Int) := Int.le_trans (show -(2 ^ 63) ≤ (0 : Int) from by decide) (by omega)
theorem u3 {x : PyData} {n : Nat} (h : n ≤ 100) : [x].length * n ≤ sizeLine := by rw [List.length_singleton, Nat.one_mul]; exact sz100 h
theorem u4 {a : List PyData} {k : Int} : fMul (.w (oL a)) (Wk.I k) = if k < 2 ^ 63 ∧ -(2 ^ 63) ≤ k ∧ a.length * k.toNat ≤ sizeLine then some (.w (oL (List.replicate k.toNat a).flatten)) else none := by
  have e : fMul (.w (oL a)) (Wk.I k) = (lvO (.w (oL a))).bind fun a => if k < 2 ^ 63 ∧ -(2 ^ 63) ≤ k ∧ a.length * k.toNat ≤ sizeLine then some (.w (oL (List.replicate k.toNat a).flatten)) else none := rfl
  rw [e, lvO_WW, Option.bind_some]
theorem vMul_W1 {x : PyData} {n : Nat} (h : n ≤ 100) : fMul (.w (oL [x])) (Wk.I (n : Nat)) = some (.w (oL (List.replicate n x))) := by
  rw [u4, if_pos ⟨u1 n h, u2 n, by rw [Int.toNat_natCast]; exact u3 h⟩, Int.toNat_natCast, flat_one]

theorem w1 {FM : Wk.TO → Wk.TO → Option Wk.TO} {rows : List Int} {R G : List PyData} (p1 : cPowB 1 (rows.length : Int) = true) (ad : fAdd (D (li rows)) (.w (.l [.d (.int 0), .d (.int 0)])) = some (.w (oL R)))
  (mu : FM (.w (.l [.d (.int (2 ^ rows.length - 1))])) (Wk.I (rows.length : Nat)) = some (.w (oL G))) (z1 : 1 ≤ sizeLine) (z2 : 2 ≤ sizeLine) :
  (oPar false [1, 2, 3] (kO1 (kOp true fAdd (kVar 0) (kLst (kO1 (kI 0) (kO1 (kI 0) kO0)))) (kO1 (kVar 0) (kO1 (kOp true FM (kLst (kO1 (kOp true fSub (kOp true fShl (kI 1) (kF fLen (kVar 0))) (kI 1)) kO0)) (kF fLen (kVar 0))) kO0)))) [sd (li rows), .z, .z, .z, .z, .z] = some (.nx [sd (li rows), .s false (oL R), sd (li rows), .s false (oL G), .z, .z]) := by
  simp [p1, ad, mu, z1, z2, -List.map_map]
theorem oSeq_nx {a b : DS} {es es1 : List SE} (h : a es = some (.nx es1)) : oSeq a b es = b es1 := by
  show (match a es with | some (.nx es1) => b es1 | r => r) = _
  rw [h]
theorem w2 {R G : List PyData} {rows : List Int} {r : Int} {es : List SE} (l : forL false (.n 4) [4] b_l_when_2 (ups 1 5) [sd (li rows), .s false (oL R), sd (li rows), .s false (oL G), .z, .z] = some (.rt (Wk.I r) es) ∨ (r = 0 ∧ forL false (.n 4) [4] b_l_when_2 (ups 1 5) [sd (li rows), .s false (oL R), sd (li rows), .s false (oL G), .z, .z] = some (.nx es))) :
  semEnd ((oSeq (oFor false (.n 4) [4] (iRange2 (kI 1) (kI 6)) b_l_when_2) (oRet (kI 0))) [sd (li rows), .s false (oL R), sd (li rows), .s false (oL G), .z, .z]) = some (Wk.I r) := by
  have s1 : sm 1 = true := by decide
  have s6 : sm 6 = true := by decide
  have f : oFor false (.n 4) [4] (iRange2 (kI 1) (kI 6)) b_l_when_2 [sd (li rows), .s false (oL R), sd (li rows), .s false (oL G), .z, .z] = forL false (.n 4) [4] b_l_when_2 (ups 1 5) [sd (li rows), .s false (oL R), sd (li rows), .s false (oL G), .z, .z] := by
    simp only [oFor, iRange2, kI, Option.bind_some, s1, s6, and_self, if_true, kill, List.set]
    rfl
  rcases l with l | ⟨r0, l⟩
  · show semEnd (match oFor _ _ _ _ _ _ with | some (.nx es1) => _ | r => r) = _
    rw [f, l]; rfl
  · rw [oSeq_nx (f.trans l), r0]; rfl
theorem m_l_when {rows : List Int} {r : Int} (h1 : 1 ≤ rows.length) (h2 : rows.length ≤ 100) (hb : ∀ x ∈ rows ++ [0, 0], x.natAbs < 2 ^ 64) (h : lawWhen rows = some r) : sem_l_when [li rows] = some (Wk.I r) := by
  obtain ⟨x0, x1, x2, more, e⟩ : ∃ x0 x1 x2 more, rows ++ [0, 0] = x0 :: x1 :: x2 :: more := by
    cases rows with
    | nil => simp at h1
    | cons a t => cases t with
      | nil => exact ⟨_, _, _, _, rfl⟩
      | cons b t => cases t with
        | nil => exact ⟨_, _, _, _, rfl⟩
        | cons c t => exact ⟨_, _, _, _, rfl⟩
  have w : lawWhen rows = lwLoop x0 x1 x2 (List.replicate rows.length (1 * 2 ^ rows.length - 1)) 5 1 rows := by unfold lawWhen; rw [e]
  rw [w] at h
  have b0 : x0.natAbs < 2 ^ 64 := hb _ (by rw [e]; simp)
  have b1 : x1.natAbs < 2 ^ 64 := hb _ (by rw [e]; simp)
  have b2 : x2.natAbs < 2 ^ 64 := hb _ (by rw [e]; simp)
  obtain ⟨es, l⟩ := loop_lw (A := sd (li rows)) (more := more) b0 b1 b2 5 1 rows (sd (li rows)) r h2 (.inr rfl) h
  have p1 : cPowB 1 (rows.length : Int) = true := decide_eq_true ⟨by omega, by omega, by decide⟩
  have s1 : sm 1 = true := by decide
  have s6 : sm 6 = true := by decide
  have ad : fAdd (D (li rows)) (.w (.l [.d (.int 0), .d (.int 0)])) = some (.w (oL ((x0 :: x1 :: x2 :: more).map PyData.int))) := by
    have q := vAdd_LW (a := rows.map .int) (b := [.int 0, .int 0]) (Nat.le_trans (show _ ≤ 102 from by rw [List.length_map]; show rows.length + 2 ≤ 102; omega) (by decide))
    have q2 : rows.map PyData.int ++ [.int 0, .int 0] = (x0 :: x1 :: x2 :: more).map .int := by rw [← e, List.map_append]; rfl
    rw [q2] at q
    exact q
  have mu : fMul (.w (.l [.d (.int (2 ^ rows.length - 1))])) (Wk.I (rows.length : Nat)) = some (.w (oL ((List.replicate rows.length (2 ^ rows.length - 1 : Int)).map PyData.int))) := by
    have q := vMul_W1 (x := .int (2 ^ rows.length - 1)) (n := rows.length) h2
    rw [List.map_replicate]
    exact q
  rw [Int.one_mul] at l
  obtain ⟨R, hR⟩ : ∃ R, R = (x0 :: x1 :: x2 :: more).map PyData.int := ⟨_, rfl⟩
  obtain ⟨G, hG⟩ : ∃ G, G = (List.replicate rows.length (2 ^ rows.length - 1 : Int)).map PyData.int := ⟨_, rfl⟩
  simp only [sl] at l
  rw [← hR, ← hG] at l
  rw [← hR] at ad
  rw [← hG] at mu
  rw [show (((1 : Nat) : Int)) = 1 from rfl] at l
  have z1 : 1 ≤ sizeLine := by decide
  have z2 : 2 ≤ sizeLine := by decide
  have e := w1 p1 ad mu z1 z2
  have q := w2 (rows := rows) (R := R) (G := G) (r := r) (es := es) l
  have st : padS 6 (dS [li rows]) = [sd (li rows), .z, .z, .z, .z, .z] := rfl
  show semEnd (oSeq _ _ (padS 6 (dS [li rows]))) = _
  rw [st, oSeq_nx e]
  exact q
end Gemaingonethrou

/-! K45m -/
set_option Elab.async false
set_option linter.all false
set_option maxRecDepth 100000
set_option maxHeartbeats 4000000
namespace Gemaingonethrou
open PySem PySem.Spec PyProof.Rows L2 Wk
/-! the small webs, in order -/
def lotsOf : Nat → List Int
  | 1 => [0, 1]
  | 2 => [0, 1, 3, 2]
  | _ => [0, 1, 3, 7, 5, 2, 6, 4]
def goneN (ls : List Int) : Nat → List (List Int)
  | 0 => [[]]
  | n + 1 => (goneN ls n).flatMap fun r => ls.map fun x => r ++ [x]
def gone (n : Nat) : List (List Int) := goneN (lotsOf n) n
def bitsOf (m : Int) : List Int := List.filterMap (fun (j : Nat) => if m / (2 : Int) ^ j % 2 = 1 then some (Int.ofNat j) else none) [0, 1, 2]
def webOf (rows : List Int) : List (List Int) := rows.map bitsOf
def whenL (rows : List Int) : Int := match fromWhen (webOf rows) with
  | none => 0
  | some k => k
/-! the six: whens_counts, webs_from_when, fewest_arrows and the law's -/
def isK (o : Option Nat) (k : Int) : Bool := match o with
  | none => false
  | some j => decide ((j : Int) = k)
def WebIn (w : List (List Int)) : Prop := WebOk w ∧ 1 ≤ w.length
theorem sz1000 {n : Nat} (h : n ≤ 1000) : n ≤ sizeLine := Nat.le_trans h (by decide)
theorem fEq_N (k : Int) : fEq (D .none) (Wk.I k) = some (Wk.B false) := rfl
theorem m_webs {n k : Int} {ws : List (List (List Int))} (ha : sem_all_webs [.int n] = some (.w (oL (ws.map encW)))) (hw : ∀ w ∈ ws, WebIn w) (hl : ws.length ≤ 1000) :
    sem_webs_from_when [.int n, .int k] = some (D (.tuple (ws.filterMap fun w => if isK (fromWhen w) k = true then some (encW w) else none))) := by
  have c := compL_fmM (vs := [2]) (T := .n 2) (t := t_webs_from_when_1) (d := kVar 2) (es := [si n, si k, .z]) encW (fun w => if isK (fromWhen w) k = true then some (encW w) else none) ws [] (fun w hm => by
    refine ⟨[si n, si k, sd (encW w)], rfl, ?_⟩
    have m := m_from_when (hw w hm).1 (hw w hm).2
    cases e : fromWhen w with
    | none =>
      rw [e] at m
      exact ⟨[si n, si k, sd (encW w)], by simp [t_webs_from_when_1, m, whenD, fEq_N], rfl⟩
    | some j =>
      rw [e] at m
      by_cases q : (j : Int) = k
      · have : isK (some j) k = true := decide_eq_true q
        simp only [this, if_true]
        exact ⟨[si n, si k, sd (encW w)], [si n, si k, sd (encW w)], by simp [t_webs_from_when_1, m, whenD, q], by simp, rfl⟩
      · have : isK (some j) k = false := decide_eq_false q
        simp only [this]
        exact ⟨[si n, si k, sd (encW w)], by simp [t_webs_from_when_1, m, whenD, q], rfl⟩) (by simpa using sz1000 hl)
  simp only [List.map_nil, List.nil_append] at c
  simp [sem_webs_from_when, d_webs_from_when, ha, c, -List.map_map]
/-! fewest_arrows -/
def isLe (o : Option Nat) (k : Int) : Bool := match o with
  | none => false
  | some j => decide ((j : Int) ≤ k)
def arrows (w : List (List Int)) : Int := (w.map fun r => (r.length : Int)).sum
def fewP (k : Int) : List (List (List Int)) → Int → Int
  | [], f => f
  | w :: r, f => fewP k r (if isLe (fromWhen w) k = true then min f (arrows w) else f)
theorem e_few {A B C E : SE} (w r : List (List Int)) (x : List Int) : e_fewest_arrows_1 [A, B, C, sd (encW w), E, sd (encR x)] = some ([A, B, C, sd (encW w), E, sd (encR x)], Wk.I (x.length : Nat)) := by
  simp [e_fewest_arrows_1]
theorem body_few {A : SE} {k f : Int} {w : List (List Int)} (h : WebIn w) : b_fewest_arrows_2 [A, si k, si f, sd (encW w), .z, .z] = some (.nx [A, si k, si (if isLe (fromWhen w) k = true then min f (arrows w) else f), sd (encW w), sd (whenD (fromWhen w)), .z]) := by
  have m := m_from_when h.1 h.2
  cases e : fromWhen w with
  | none =>
    rw [e] at m
    simp [b_fewest_arrows_2, m, whenD, isLe, isN]
  | some j =>
    rw [e] at m
    by_cases q : (j : Int) ≤ k
    · have c := compL_map (vs := [5]) (T := .n 5) (t := kTrue) (d := e_fewest_arrows_1) (es := [A, si k, si f, sd (encW w), si (j : Nat), .z]) encR (fun r => .int (r.length : Nat)) w
        (fun r hr => ⟨_, _, _, rfl, rfl, e_few w w r, rfl⟩) (sz100 h.1.1)
      have e2 : w.map (fun r => PyData.int (r.length : Nat)) = (w.map fun r => (r.length : Int)).map .int := by rw [List.map_map]; rfl
      rw [e2] at c
      simp [b_fewest_arrows_2, m, whenD, isLe, isN, q, c, arrows, fMin2, f2I, -List.map_map]
    · simp [b_fewest_arrows_2, m, whenD, isLe, isN, q]
theorem loop_few {A : SE} {k : Int} : ∀ (ws : List (List (List Int))) (f : Int), (∀ w ∈ ws, WebIn w) →
    forL false (.n 3) [3, 4] b_fewest_arrows_2 (ws.map encW) [A, si k, si f, .z, .z, .z] = some (.nx [A, si k, si (fewP k ws f), .z, .z, .z])
  | [], f, _ => rfl
  | w :: r, f, h => by
    have t1 : tgS false (.n 3) (encW w) [A, si k, si f, .z, .z, .z] = some [A, si k, si f, sd (encW w), .z, .z] := rfl
    rw [List.map_cons, forL_nx t1 (body_few (h w List.mem_cons_self))]
    exact loop_few r _ fun w hw => h w (List.mem_cons_of_mem _ hw)
theorem m_few {n k : Int} {ws : List (List (List Int))} (ha : sem_all_webs [.int n] = some (.w (oL (ws.map encW)))) (hw : ∀ w ∈ ws, WebIn w) (hn : cMulB n n = true) :
    sem_fewest_arrows [.int n, .int k] = some (Wk.I (fewP k ws (n * n))) := by
  have l := loop_few (A := si n) (k := k) ws (n * n) hw
  simp [sem_fewest_arrows, d_fewest_arrows, ha, hn, l, -List.map_map]
/-! whens_counts -/
def whenN : Option Nat → Nat
  | none => 0
  | some j => j
def bump (j : Nat) (cs : List Int) : List Int := cs.set j (cs[j]?.getD 0 + 1)
theorem ixN_nat {n j : Nat} (h : j < n) : ixN n (j : Int) = some j := by
  unfold ixN
  rw [if_pos (by omega), if_pos (by omega), Int.toNat_natCast]
theorem atI_nat {α : Type} {xs : List α} {j : Nat} (h : j < xs.length) : atI xs (j : Int) = xs[j]? := by
  unfold atI
  rw [ixN_nat h]; rfl
theorem ints_get (cs : List Int) (j : Nat) (h : j < cs.length) : ((cs.map PyData.int).map OT.d)[j]? = some (.d (.int (cs[j]?.getD 0))) := by
  rw [List.getElem?_map, List.getElem?_map, List.getElem?_eq_getElem h]; rfl
theorem ints_set (cs : List Int) (j : Nat) (v : Int) : ((cs.map PyData.int).map OT.d).set j (.d (.int v)) = ((cs.set j v).map PyData.int).map .d := by
  rw [List.map_set, List.map_set]
theorem body_cnt {A : SE} {cs : List Int} {w : List (List Int)} (h : WebIn w) (hj : whenN (fromWhen w) < cs.length) : b_whens_counts_1 [A, sl cs, sd (encW w), .z, .z] = some (.nx [A, sl (bump (whenN (fromWhen w)) cs), sd (encW w), sd (whenD (fromWhen w)), si (whenN (fromWhen w))]) := by
  have m := m_from_when h.1 h.2
  obtain ⟨xs, hx⟩ : ∃ xs, xs = (cs.map PyData.int).map OT.d := ⟨_, rfl⟩
  have hl : xs.length = cs.length := by rw [hx, List.length_map, List.length_map]
  have g : ∀ j : Nat, j < cs.length → xs[j]? = some (.d (.int (cs[j]?.getD 0))) := fun j hj => by rw [hx]; exact ints_get cs j hj
  have st : ∀ (j : Nat) (v : Int), xs.set j (.d (.int v)) = ((cs.set j v).map PyData.int).map .d := fun j v => by rw [hx]; exact ints_set cs j v
  have a : ∀ j : Nat, j < cs.length → atI xs (j : Int) = some (.d (.int (cs[j]?.getD 0))) := fun j hj => by rw [atI_nat (by rw [hl]; exact hj)]; exact g j hj
  have b : ∀ j : Nat, j < cs.length → ixN xs.length (j : Int) = some j := fun j hj => ixN_nat (by rw [hl]; exact hj)
  have e0 : sl cs = .s false (.l xs) := by rw [hx]
  rw [e0]
  cases e : fromWhen w with
  | none =>
    rw [e] at m hj
    have a0 := a 0 hj
    have b0 := b 0 hj
    have g0 := g 0 hj
    simp only [Int.ofNat_zero, Int.natCast_zero, Int.cast_ofNat_Int] at a0 b0
    simp [b_whens_counts_1, m, whenD, isN, whenN, a0, b0, g0, bump, st, -List.map_map, -List.getElem?_map]
  | some j =>
    rw [e] at m hj
    have a0 := a j hj
    have b0 := b j hj
    have g0 := g j hj
    simp [b_whens_counts_1, m, whenD, isN, whenN, a0, b0, g0, bump, st, -List.map_map, -List.getElem?_map]
def cntP : List (List (List Int)) → List Int → List Int
  | [], cs => cs
  | w :: r, cs => cntP r (bump (whenN (fromWhen w)) cs)
theorem loop_cnt {A : SE} : ∀ (ws : List (List (List Int))) (cs : List Int), (∀ w ∈ ws, WebIn w ∧ whenN (fromWhen w) < cs.length) →
    forL false (.n 2) [2, 3, 4] b_whens_counts_1 (ws.map encW) [A, sl cs, .z, .z, .z] = some (.nx [A, sl (cntP ws cs), .z, .z, .z])
  | [], cs, _ => rfl
  | w :: r, cs, h => by
    have t1 : tgS false (.n 2) (encW w) [A, sl cs, .z, .z, .z] = some [A, sl cs, sd (encW w), .z, .z] := rfl
    rw [List.map_cons, forL_nx t1 (body_cnt (h w List.mem_cons_self).1 (h w List.mem_cons_self).2)]
    exact loop_cnt r _ fun w hw => ⟨(h w (List.mem_cons_of_mem _ hw)).1, by unfold bump; rw [List.length_set]; exact (h w (List.mem_cons_of_mem _ hw)).2⟩
theorem w3 {FM : Wk.TO → Wk.TO → Option Wk.TO} {n : Int} {m : Nat} {G : List PyData} (m1 : FM (Wk.I (n - 1)) (Wk.I (n - 1)) = some (Wk.I ((n - 1) * (n - 1)))) (hm : (n - 1) * (n - 1) + 2 = (m : Int)) (m2 : FM (.w (.l [.d (.int 0)])) (Wk.I (m : Nat)) = some (.w (oL G))) (z1 : 1 ≤ sizeLine) :
    oSet 1 (kOp true FM (kLst (kO1 (kI 0) kO0)) (kOp true fAdd (kOp true FM (kOp true fSub (kVar 0) (kI 1)) (kOp true fSub (kVar 0) (kI 1))) (kI 2))) [si n, .z, .z, .z, .z] = some (.nx [si n, .s false (oL G), .z, .z, .z]) := by
  simp [m1, hm, m2, z1, -List.map_map]
theorem w4 {n : Int} {ws : List (List (List Int))} {G H : List Int} (ha : sem_all_webs [.int n] = some (.w (oL (ws.map encW)))) (l : forL false (.n 2) [2, 3, 4] b_whens_counts_1 (ws.map encW) [si n, sl G, .z, .z, .z] = some (.nx [si n, sl H, .z, .z, .z])) :
    semEnd ((oSeq (oFor false (.n 2) [2, 3, 4] (iSeq (kCall 1 sem_all_webs (kL1 (kVar 0) kL0))) b_whens_counts_1) (oRet (kF fTuple (kVar 1)))) [si n, sl G, .z, .z, .z]) = some (D (.tuple (H.map .int))) := by
  simp [ha, l, -List.map_map]
theorem m_cnt {n : Int} {m : Nat} {ws : List (List (List Int))} (ha : sem_all_webs [.int n] = some (.w (oL (ws.map encW)))) (hm : (n - 1) * (n - 1) + 2 = (m : Int)) (hm1 : m ≤ 100) (hc : cMulB (n - 1) (n - 1) = true) (hw : ∀ w ∈ ws, WebIn w ∧ whenN (fromWhen w) < m) :
    sem_whens_counts [.int n] = some (D (.tuple ((cntP ws (List.replicate m 0)).map .int))) := by
  have l := loop_cnt (A := si n) ws (List.replicate m 0) (fun w h => by rw [List.length_replicate]; exact hw w h)
  have m1 : fMul (Wk.I (n - 1)) (Wk.I (n - 1)) = some (Wk.I ((n - 1) * (n - 1))) := vMul_I hc
  have m2 : fMul (.w (oL [PyData.int 0])) (Wk.I (m : Nat)) = some (.w (oL ((List.replicate m (0 : Int)).map .int))) := by rw [List.map_replicate]; exact vMul_W1 hm1
  have e := w3 m1 hm m2 (by decide)
  have q := w4 ha l
  have st : padS 5 (dS [PyData.int n]) = [si n, .z, .z, .z, .z] := rfl
  show semEnd (oSeq _ _ (padS 5 (dS [PyData.int n]))) = _
  rw [st, oSeq_nx e]
  exact q
end Gemaingonethrou

/-! K45n -/
set_option Elab.async false
set_option linter.all false
set_option maxRecDepth 100000
set_option maxHeartbeats 4000000
namespace Gemaingonethrou
open PySem PySem.Spec PyProof.Rows L2 Wk
theorem vLen_W {L : List PyData} : fLen (.w (oL L)) = some (Wk.I (L.length : Nat)) := by
  show (lvO (.w (oL L))).map _ = _
  rw [lvO_WW]; rfl
/-! the law's own: counts, told webs, the fewest -/
def cntL (ws : List Int) (at' : Int) : Int := ((ws.filterMap fun k => if k = at' then some (PyData.int k) else none).length : Nat)
theorem e_cntL {n : Int} {ws : List Int} {a : Int} (h : ws.length ≤ 1000) : e_l_counts_2 [si n, sd (li ws), si a, .z] = some ([si n, sd (li ws), si a, .z], Wk.I (cntL ws a)) := by
  have c := compL_fmM (vs := [3]) (T := .n 3) (t := t_l_counts_1) (d := kVar 3) (es := [si n, sd (li ws), si a, .z]) PyData.int (fun k => if k = a then some (PyData.int k) else none) ws [] (fun k _ => by
    refine ⟨[si n, sd (li ws), si a, si k], rfl, ?_⟩
    by_cases q : k = a
    · simp only [if_pos q]
      exact ⟨[si n, sd (li ws), si a, si k], [si n, sd (li ws), si a, si k], by simp [t_l_counts_1, q], by simp, rfl⟩
    · simp only [if_neg q]
      exact ⟨[si n, sd (li ws), si a, si k], by simp [t_l_counts_1, q], rfl⟩) (by simpa using sz1000 h)
  simp only [List.map_nil, List.nil_append] at c
  have hl : (List.filterMap (fun k => if k = a then some (PyData.int k) else none) ws).length ≤ sizeLine := Nat.le_trans (List.length_filterMap_le _ _) (sz1000 h)
  unfold cntL
  generalize List.filterMap (fun k => if k = a then some (PyData.int k) else none) ws = L at c hl ⊢
  simp [e_l_counts_2, c, vLen_W, -List.map_map]
theorem w5 {FM : Wk.TO → Wk.TO → Option Wk.TO} {n : Int} {m : Nat} {x : PyData} {G : List PyData} (m1 : FM (Wk.I (n - 1)) (Wk.I (n - 1)) = some (Wk.I ((n - 1) * (n - 1)))) (hm : ((n - 1) * (n - 1) + 2).toNat = m) (s : sm ((n - 1) * (n - 1) + 2) = true)
    (c : compL [2] (.n 2) kTrue e_l_counts_2 (ups 0 m) [si n, sd x, .z, .z] [] = some ([si n, sd x, .z, .z], G.map .d)) :
    semEnd ((oRet (kF fTuple (kComp [2] (.n 2) (iRange1 (kOp true fAdd (kOp true FM (kOp true fSub (kVar 0) (kI 1)) (kOp true fSub (kVar 0) (kI 1))) (kI 2))) kTrue e_l_counts_2))) [si n, sd x, .z, .z]) = some (D (.tuple G)) := by
  simp [m1, hm, s, c, -List.map_map]
theorem m_cntL {n : Int} {m : Nat} {ws : List Int} (h : ws.length ≤ 1000) (hm : (n - 1) * (n - 1) + 2 = (m : Int)) (hm1 : m ≤ 100) (hc : cMulB (n - 1) (n - 1) = true) :
    sem_l_counts [.int n, li ws] = some (D (.tuple (((List.range m).map fun i => cntL ws (i : Nat)).map .int))) := by
  have c := compL_map (vs := [2]) (T := .n 2) (t := kTrue) (d := e_l_counts_2) (es := [si n, sd (li ws), .z, .z]) (fun i : Nat => PyData.int (0 + (i : Nat))) (fun i : Nat => .int (cntL ws (i : Nat))) (List.range m)
    (fun i _ => ⟨[si n, sd (li ws), si (0 + (i : Nat)), .z], _, _, rfl, rfl, by rw [Int.zero_add]; exact e_cntL h, rfl⟩) (by rw [List.length_range]; exact sz100 hm1)
  have e : (List.range m).map (fun i : Nat => PyData.int (cntL ws (i : Nat))) = ((List.range m).map fun i => cntL ws (i : Nat)).map .int := by rw [List.map_map]; rfl
  rw [e] at c
  have c' : compL [2] (.n 2) kTrue e_l_counts_2 (ups 0 m) [si n, sd (li ws), .z, .z] [] = _ := c
  have s : sm (m : Nat) = true := by
    unfold sm
    exact decide_eq_true ⟨by omega, by omega⟩
  have m1 : fMul (Wk.I (n - 1)) (Wk.I (n - 1)) = some (Wk.I ((n - 1) * (n - 1))) := vMul_I hc
  have q := w5 m1 (by rw [hm, Int.toNat_natCast]) (by rw [hm]; exact s) c'
  have st : padS 4 (dS [PyData.int n, li ws]) = [si n, sd (li ws), .z, .z] := rfl
  show semEnd (oRet _ (padS 4 (dS [PyData.int n, li ws]))) = _
  rw [st]
  exact q
/-- items with their numbers -/
def prs : Nat → List (List Int) → List (Nat × List Int)
  | _, [] => []
  | i, r :: l => (i, r) :: prs (i + 1) l
theorem prs_len : ∀ (l : List (List Int)) (i : Nat), (prs i l).length = l.length
  | [], _ => rfl
  | _ :: l, i => congrArg (· + 1) (prs_len l (i + 1))
theorem nums_prs : ∀ (l : List (List Int)) (i : Nat), nums i (l.map li) = (prs i l).map fun p => PyData.tuple [.int p.1, li p.2]
  | [], _ => rfl
  | r :: l, i => by
    rw [List.map_cons, nums_cons, nums_prs l (i + 1)]; rfl
theorem prs_get : ∀ (l : List (List Int)) (i : Nat) (p : Nat × List Int), p ∈ prs i l → i ≤ p.1 ∧ l[p.1 - i]? = some p.2
  | [], _, _, h => absurd h (by simp [prs])
  | r :: l, i, p, h => by
    rcases List.mem_cons.mp h with rfl | h
    · exact ⟨Nat.le_refl _, by rw [Nat.sub_self]; rfl⟩
    · obtain ⟨h1, h2⟩ := prs_get l (i + 1) p h
      refine ⟨by omega, ?_⟩
      have : p.1 - i = (p.1 - (i + 1)) + 1 := by omega
      rw [this, List.getElem?_cons_succ]
      exact h2
theorem prs_fm {β : Type} (g : List Int → Option β) : ∀ (l : List (List Int)) (i : Nat), (prs i l).filterMap (fun p => g p.2) = l.filterMap g
  | [], _ => rfl
  | r :: l, i => by
    show List.filterMap (fun p => g p.2) ((i, r) :: prs (i + 1) l) = _
    rw [List.filterMap_cons, List.filterMap_cons, prs_fm g l (i + 1)]
theorem when_at {l : List (List Int)} {wh : List Int → Int} {p : Nat × List Int} (h : p ∈ prs 0 l) : atI (((l.map wh).map PyData.int)) (p.1 : Nat) = some (.int (wh p.2)) := by
  obtain ⟨_, h2⟩ := prs_get l 0 p h
  rw [Nat.sub_zero] at h2
  have hl : p.1 < l.length := by
    rcases Nat.lt_or_ge p.1 l.length with h | h
    · exact h
    · rw [List.getElem?_eq_none h] at h2; cases h2
  rw [atI_nat (by rw [List.length_map, List.length_map]; exact hl), List.getElem?_map, List.getElem?_map, h2]; rfl
theorem m_told {l : List (List Int)} {wh : List Int → Int} {k : Int} (hw : ∀ r ∈ l, sem_l_web [li r] = some (D (encW (webOf r)))) (hl : l.length ≤ 1000) :
    sem_l_told_webs [.list (l.map li), li (l.map wh), .int k] = some (D (.tuple (l.filterMap fun r => if wh r = k then some (encW (webOf r)) else none))) := by
  obtain ⟨X, hX⟩ : ∃ X, X = l.map li := ⟨_, rfl⟩
  obtain ⟨Y, hY⟩ : ∃ Y, Y = (l.map wh).map PyData.int := ⟨_, rfl⟩
  show sem_l_told_webs [.list (l.map li), .list ((l.map wh).map .int), .int k] = _
  rw [← hX, ← hY]
  have w0 : ∀ p ∈ prs 0 l, atI Y (p.1 : Nat) = some (.int (wh p.2)) := fun p hp => by rw [hY]; exact when_at hp
  have c := compL_fmM (vs := [3, 4]) (T := .t [3, 4]) (t := t_l_told_webs_2) (d := e_l_told_webs_1) (es := [sd (.list X), sd (.list Y), si k, .z, .z]) (fun p : Nat × List Int => PyData.tuple [.int p.1, li p.2]) (fun p => if wh p.2 = k then some (encW (webOf p.2)) else none) (prs 0 l) [] (fun p hp => by
    refine ⟨[sd (.list X), sd (.list Y), si k, si (p.1 : Nat), sd (li p.2)], rfl, ?_⟩
    have w := w0 p hp
    have m := hw p.2 (by
      obtain ⟨_, h2⟩ := prs_get l 0 p hp
      exact List.mem_of_getElem? h2)
    by_cases q : wh p.2 = k
    · simp only [if_pos q]
      exact ⟨[sd (.list X), sd (.list Y), si k, si (p.1 : Nat), sd (li p.2)], [sd (.list X), sd (.list Y), si k, si (p.1 : Nat), sd (li p.2)], by simp [t_l_told_webs_2, w, q], by simp [e_l_told_webs_1, m], rfl⟩
    · simp only [if_neg q]
      exact ⟨[sd (.list X), sd (.list Y), si k, si (p.1 : Nat), sd (li p.2)], by simp [t_l_told_webs_2, w, q], rfl⟩) (by rw [prs_len]; simpa using sz1000 hl)
  simp only [List.map_nil, List.nil_append] at c
  rw [prs_fm (fun r => if wh r = k then some (encW (webOf r)) else none), ← nums_prs, ← hX] at c
  generalize List.filterMap (fun r => if wh r = k then some (encW (webOf r)) else none) l = L at c ⊢
  simp [sem_l_told_webs, d_l_told_webs, c, -List.map_map]
/-- the fewest -/
def bitN (x : Int) : Int := ([0, 1, 1, 2, 1, 2, 2, 3] : List Int)[x.toNat]?.getD 0
def sumBits (r : List Int) : Int := (r.map bitN).sum
def bitsS : SE := .s false (.l [.d (.int 0), .d (.int 1), .d (.int 1), .d (.int 2), .d (.int 1), .d (.int 2), .d (.int 2), .d (.int 3)])
theorem e_bits {A B C E F : SE} {x : Int} (h0 : 0 ≤ x) (h1 : x < 8) : e_l_fewest_1 [A, B, C, bitsS, E, F, si x] = some ([A, B, C, bitsS, E, F, si x], Wk.I (bitN x)) := by
  have a : atI [OT.d (.int 0), .d (.int 1), .d (.int 1), .d (.int 2), .d (.int 1), .d (.int 2), .d (.int 2), .d (.int 3)] x = some (.d (.int (bitN x))) := by
    rcases (by omega : x = 0 ∨ x = 1 ∨ x = 2 ∨ x = 3 ∨ x = 4 ∨ x = 5 ∨ x = 6 ∨ x = 7) with e | e | e | e | e | e | e | e <;> subst e <;> rfl
  simp [e_l_fewest_1, bitsS, a]
theorem e_sum {A B C E : SE} {r : List Int} (h : ∀ x ∈ r, ok8 x = true) (hl : r.length ≤ 100) : e_l_fewest_2 [A, B, C, bitsS, E, sd (li r), .z] = some ([A, B, C, bitsS, E, sd (li r), .z], Wk.I (sumBits r)) := by
  have c := compL_map (vs := [6]) (T := .n 6) (t := kTrue) (d := e_l_fewest_1) (es := [A, B, C, bitsS, E, sd (li r), .z]) PyData.int (fun x => .int (bitN x)) r
    (fun x hx => by
      have h' := h x hx
      unfold ok8 at h'
      rw [Bool.and_eq_true, decide_eq_true_eq, decide_eq_true_eq] at h'
      exact ⟨_, _, _, rfl, rfl, e_bits h'.1 h'.2, rfl⟩) (sz100 hl)
  have e : r.map (fun x => PyData.int (bitN x)) = (r.map bitN).map .int := by rw [List.map_map]; rfl
  rw [e] at c
  simp [e_l_fewest_2, c, sumBits, -List.map_map]
def fewL (wh : List Int → Int) (k : Int) (l : List (List Int)) : List Int := l.filterMap fun r => if 0 < wh r ∧ wh r ≤ k then some (sumBits r) else none
theorem fm_int {α : Type} (p : α → Prop) [DecidablePred p] (f : α → Int) : ∀ l : List α, (l.filterMap fun r => if p r then some (PyData.int (f r)) else none) = (l.filterMap fun r => if p r then some (f r) else none).map PyData.int
  | [] => rfl
  | r :: l => by
    rw [List.filterMap_cons, List.filterMap_cons, fm_int p f l]
    by_cases q : p r
    · simp only [if_pos q]; rfl
    · simp only [if_neg q]
theorem m_fewL {l : List (List Int)} {wh : List Int → Int} {k m : Int} (hw : ∀ r ∈ l, r.length ≤ 100 ∧ ∀ x ∈ r, ok8 x = true) (hl : l.length ≤ 1000) (hm : (fewL wh k l).min? = some m) :
    sem_l_fewest [.list (l.map li), li (l.map wh), .int k] = some (Wk.I m) := by
  obtain ⟨X, hX⟩ : ∃ X, X = l.map li := ⟨_, rfl⟩
  obtain ⟨Y, hY⟩ : ∃ Y, Y = (l.map wh).map PyData.int := ⟨_, rfl⟩
  show sem_l_fewest [.list (l.map li), .list ((l.map wh).map .int), .int k] = _
  rw [← hX, ← hY]
  have w0 : ∀ p ∈ prs 0 l, atI Y (p.1 : Nat) = some (.int (wh p.2)) := fun p hp => by rw [hY]; exact when_at hp
  have c := compL_fmM (vs := [4, 5]) (T := .t [4, 5]) (t := t_l_fewest_3) (d := e_l_fewest_2) (es := [sd (.list X), sd (.list Y), si k, bitsS, .z, .z, .z]) (fun p : Nat × List Int => PyData.tuple [.int p.1, li p.2]) (fun p => if 0 < wh p.2 ∧ wh p.2 ≤ k then some (PyData.int (sumBits p.2)) else none) (prs 0 l) [] (fun p hp => by
    refine ⟨[sd (.list X), sd (.list Y), si k, bitsS, si (p.1 : Nat), sd (li p.2), .z], rfl, ?_⟩
    have w := w0 p hp
    have mm := hw p.2 (by
      obtain ⟨_, h2⟩ := prs_get l 0 p hp
      exact List.mem_of_getElem? h2)
    have es := e_sum (A := sd (.list X)) (B := sd (.list Y)) (C := si k) (E := si (p.1 : Nat)) mm.2 mm.1
    by_cases q1 : 0 < wh p.2
    · by_cases q2 : wh p.2 ≤ k
      · simp only [if_pos (And.intro q1 q2)]
        exact ⟨[sd (.list X), sd (.list Y), si k, bitsS, si (p.1 : Nat), sd (li p.2), .z], [sd (.list X), sd (.list Y), si k, bitsS, si (p.1 : Nat), sd (li p.2), .z], by simp [t_l_fewest_3, w, q1, q2], es, rfl⟩
      · simp only [if_neg (fun h : 0 < wh p.2 ∧ wh p.2 ≤ k => q2 h.2)]
        exact ⟨[sd (.list X), sd (.list Y), si k, bitsS, si (p.1 : Nat), sd (li p.2), .z], by simp [t_l_fewest_3, w, q1, q2], rfl⟩
    · simp only [if_neg (fun h : 0 < wh p.2 ∧ wh p.2 ≤ k => q1 h.1)]
      exact ⟨[sd (.list X), sd (.list Y), si k, bitsS, si (p.1 : Nat), sd (li p.2), .z], by simp [t_l_fewest_3, w, q1], rfl⟩) (by rw [prs_len]; simpa using sz1000 hl)
  simp only [List.map_nil, List.nil_append] at c
  rw [prs_fm (fun r => if 0 < wh r ∧ wh r ≤ k then some (PyData.int (sumBits r)) else none), fm_int (fun r => 0 < wh r ∧ wh r ≤ k) sumBits, ← nums_prs, ← hX] at c
  have c2 : compL [4, 5] (.t [4, 5]) t_l_fewest_3 e_l_fewest_2 (nums 0 X) [sd (.list X), sd (.list Y), si k, .s false (.l [.d (.int 0), .d (.int 1), .d (.int 1), .d (.int 2), .d (.int 1), .d (.int 2), .d (.int 2), .d (.int 3)]), .z, .z, .z] [] = some ([sd (.list X), sd (.list Y), si k, bitsS, .z, .z, .z], ((fewL wh k l).map PyData.int).map OT.d) := c
  generalize fewL wh k l = L at c2 hm
  have mi : fMin (.w (oL (L.map PyData.int))) = some (Wk.I m) := by
    show (lvO (.w (oL _))).bind _ = _
    rw [lvO_WW]
    show (asInts _).bind _ = _
    rw [asInts_map]
    show (List.min? L).map _ = _
    rw [hm]; rfl
  simp [sem_l_fewest, d_l_fewest, c2, mi, show 8 ≤ sizeLine from by decide, -List.map_map]
end Gemaingonethrou

/-! K45p -/
set_option Elab.async false
set_option linter.all false
set_option maxRecDepth 100000
set_option maxHeartbeats 4000000
namespace Gemaingonethrou
open PySem PySem.Spec PyProof.Rows L2 Wk
/-! data of small numbers: their text is short -/
mutual
def nice : PyData → Bool
  | .none => true
  | .int i => decide (0 ≤ i) && decide (i < 1000)
  | .list xs => niceAll xs
  | .tuple xs => niceAll xs
  | .bool _ => false
  | .str _ => false
  | .dict _ => false
def niceAll : List PyData → Bool
  | [] => true
  | x :: xs => nice x && niceAll xs
end
mutual
def wt : PyData → Nat
  | .list xs => wtAll xs + 4
  | .tuple xs => wtAll xs + 4
  | _ => 4
def wtAll : List PyData → Nat
  | [] => 0
  | x :: xs => wt x + 2 + wtAll xs
end
theorem int_short : ∀ n : Nat, n < 1000 → ((toString (n : Int) : String) : Str).length ≤ 4 := by decide +kernel
theorem textFrom_le : ∀ (ts : List Str) (k : Nat) (acc : Str), (textFrom k acc ts).length ≤ acc.length + piled ts
  | [], k, acc => by show acc.length ≤ _; omega
  | t :: r, k, acc => by
    have h := textFrom_le r (k + 1) (acc ++ (if k > 0 then ", " else "" : String) ++ t)
    have e : (acc ++ (if k > 0 then ", " else "" : String) ++ t).length = acc.length + (if k > 0 then 2 else 0) + t.length := by
      rw [strLen_append, strLen_append]
      by_cases q : k > 0
      · rw [if_pos q, if_pos q]; rfl
      · rw [if_neg q, if_neg q]; rfl
    rw [e] at h
    rw [piled_cons]
    refine Nat.le_trans h ?_
    by_cases q : k > 0
    · rw [if_pos q]; omega
    · rw [if_neg q]; omega
theorem list_le (ts : List Str) : (listText ts).length ≤ piled ts + 4 := by
  unfold listText
  rw [strLen_append]
  have h := textFrom_le ts 0 "["
  have e1 : (("[" : String) : Str).length = 1 := rfl
  have e2 : (("]" : String) : Str).length = 1 := rfl
  rw [e1] at h
  rw [e2]
  omega
theorem tuple_le (ts : List Str) : (tupleText ts).length ≤ piled ts + 4 := by
  unfold tupleText
  rw [strLen_append, strLen_append]
  have e1 : (("(" : String) : Str).length = 1 := rfl
  have e2 : ((",)" : String) : Str).length = 2 := rfl
  have e3 : ((")" : String) : Str).length = 1 := rfl
  have h : (Str.join ", " ts).length ≤ piled ts := by
    by_cases q : ts = []
    · subst q; exact Nat.le_refl _
    · have := join_length_add ts q
      omega
  rw [e1]
  split
  · rw [e2]; omega
  · rw [e3]; omega
mutual
theorem shown_le : ∀ d : PyData, nice d = true → d.shown.length ≤ wt d ∧ d.showable = true ∧ d.canLay0 = true
  | .none, _ => ⟨by decide, by simp [PyData.showable], by simp [PyData.canLay0]⟩
  | .int i, h => by
    rw [nice, Bool.and_eq_true, decide_eq_true_eq, decide_eq_true_eq] at h
    obtain ⟨n, e⟩ : ∃ n : Nat, i = n := ⟨i.toNat, by omega⟩
    subst e
    have l := log2_lt64 (n := n) (Nat.lt_of_lt_of_le (show n < 1000 from by omega) (by decide))
    refine ⟨?_, ?_, by simp [PyData.canLay0]⟩
    · have s := int_short n (by omega)
      simp only [PyData.shown, wt]
      exact s
    · simp only [PyData.showable]
      exact decide_eq_true (by rw [Int.natAbs_natCast]; omega)
  | .list xs, h => by
    rw [nice] at h
    obtain ⟨a, b, c⟩ := shownAll_le xs h
    have l := list_le (PyData.shownAll xs)
    refine ⟨?_, by simpa only [PyData.showable] using b, by simpa only [PyData.canLay0] using c⟩
    simp only [PyData.shown, wt]
    omega
  | .tuple xs, h => by
    rw [nice] at h
    obtain ⟨a, b, c⟩ := shownAll_le xs h
    have l := tuple_le (PyData.shownAll xs)
    refine ⟨?_, by simpa only [PyData.showable] using b, by simpa only [PyData.canLay0] using c⟩
    simp only [PyData.shown, wt]
    omega
  | .bool _, h => by rw [nice] at h; cases h
  | .str _, h => by rw [nice] at h; cases h
  | .dict _, h => by rw [nice] at h; cases h
theorem shownAll_le : ∀ xs : List PyData, niceAll xs = true → piled (PyData.shownAll xs) ≤ wtAll xs ∧ PyData.showableAll xs = true ∧ PyData.canLayAll0 xs = true
  | [], _ => ⟨by simp [PyData.shownAll, piled], by simp [PyData.showableAll], by simp [PyData.canLayAll0]⟩
  | x :: xs, h => by
    rw [niceAll, Bool.and_eq_true] at h
    obtain ⟨a1, b1, c1⟩ := shown_le x h.1
    obtain ⟨a2, b2, c2⟩ := shownAll_le xs h.2
    refine ⟨?_, by simp only [PyData.showableAll, b1, b2, Bool.and_self], by simp only [PyData.canLayAll0, c1, c2, Bool.and_self]⟩
    simp only [PyData.shownAll, wtAll, piled_cons]
    omega
end
def goodD (d : PyData) : Bool := nice d && decide (d.depth ≤ 60) && decide (wt d ≤ 1000000)
theorem m_same2 {d : PyData} (h : goodD d = true) : sem_l_same [d, d] = some (Wk.B true) := by
  unfold goodD at h
  rw [Bool.and_eq_true, Bool.and_eq_true, decide_eq_true_eq, decide_eq_true_eq] at h
  obtain ⟨⟨h1, h2⟩, h3⟩ := h
  obtain ⟨a, b, c⟩ := shown_le d h1
  have s : d.shown.length ≤ sizeLine := Nat.le_trans (Nat.le_trans a h3) (by decide)
  refine m_same ?_ (SeqAt.eqv_refl d c) ?_
  · unfold SeqAt.shaped
    rw [c, Bool.true_and]
    exact decide_eq_true (by omega)
  · unfold reprOk
    rw [b, PyData.hasDict_of_canLay d c, decide_eq_true h2, decide_eq_true s]; rfl
end Gemaingonethrou

/-! K45q -/
set_option Elab.async false
set_option linter.all false
set_option maxRecDepth 100000
set_option maxHeartbeats 4000000
namespace Gemaingonethrou
open PySem PySem.Spec PyProof.Rows L2 Wk
/-! the webs of one to three places -/
theorem m_lot {m : Int} (h : ok8 m = true) : sem_l_lot [.int m] = some (D (encR (bitsOf m))) := by
  unfold ok8 at h
  rw [Bool.and_eq_true, decide_eq_true_eq, decide_eq_true_eq] at h
  rcases (by omega : m = 0 ∨ m = 1 ∨ m = 2 ∨ m = 3 ∨ m = 4 ∨ m = 5 ∨ m = 6 ∨ m = 7) with e | e | e | e | e | e | e | e <;> subst e <;> kernel_rfl
theorem m_l_web {r : List Int} (h : ∀ x ∈ r, ok8 x = true) (hl : r.length ≤ 100) : sem_l_web [li r] = some (D (encW (webOf r))) := by
  have c := compL_map (vs := [1]) (T := .n 1) (t := kTrue) (d := e_l_web_1) (es := [sd (li r), .z]) PyData.int (fun x => encR (bitsOf x)) r
    (fun x hx => ⟨_, _, _, rfl, rfl, (by simp [e_l_web_1, m_lot (h x hx)] : _ = some ([sd (li r), si x], D (encR (bitsOf x)))), rfl⟩) (sz100 hl)
  have e : r.map (fun x => encR (bitsOf x)) = (webOf r).map encR := by unfold webOf; rw [List.map_map]; rfl
  rw [e] at c
  simp [sem_l_web, d_l_web, c, -List.map_map]
theorem bits_plc {m p : Int} (h : p ∈ bitsOf m) : Plc p := by
  unfold bitsOf at h
  rw [List.mem_filterMap] at h
  obtain ⟨j, hj, h⟩ := h
  split at h
  · cases h
    have : j = 0 ∨ j = 1 ∨ j = 2 := by simpa using hj
    rcases this with rfl | rfl | rfl <;> exact ⟨by decide, by decide⟩
  · cases h
theorem bits_len (m : Int) : (bitsOf m).length ≤ 100 := by
  unfold bitsOf
  exact Nat.le_trans (List.length_filterMap_le _ _) (by decide)
theorem web_in {r : List Int} (h1 : 1 ≤ r.length) (h2 : r.length ≤ 3) : WebIn (webOf r) := by
  refine ⟨⟨by unfold webOf; rw [List.length_map]; omega, fun w hw => ?_⟩, by unfold webOf; rw [List.length_map]; omega⟩
  obtain ⟨x, _, rfl⟩ := List.mem_map.mp hw
  exact ⟨bits_len x, fun p hp => bits_plc hp⟩
def toldD (n : Nat) (k : Int) : PyData := .tuple ((gone n).filterMap fun r => if whenL r = k then some (encW (webOf r)) else none)
def fewD (n : Nat) (z k : Int) : Int := fewP k ((gone n).map webOf) (z * z)
def cntD (n m : Nat) : PyData := .tuple ((cntP ((gone n).map webOf) (List.replicate m 0)).map .int)
def chk1 (n m : Nat) : Bool := decide ((gone n).length ≤ 1000) && (gone n).all fun r => decide (1 ≤ r.length) && decide (r.length ≤ 3) && r.all ok8 && decide (lawWhen r = some (whenL r)) && decide (whenN (fromWhen (webOf r)) < m)
def chk2 (n m : Nat) (z : Int) : Bool := decide (cntP ((gone n).map webOf) (List.replicate m 0) = (List.range m).map fun i => cntL ((gone n).map whenL) (i : Nat)) && goodD (cntD n m)
def chk3 (n : Nat) (z k : Int) : Bool := decide ((fewL whenL k (gone n)).min? = some (fewD n z k)) && goodD (.int (fewD n z k)) && goodD (toldD n k)
structure Gone (n m : Nat) (z : Int) : Prop where
  ones : chk1 n m = true
  cnt : chk2 n m z = true
  few : ∀ k, 1 ≤ k → k ≤ 5 → chk3 n z k = true
  webs : sem_all_webs [.int z] = some (.w (oL (((gone n).map webOf).map encW)))
  sq : (z - 1) * (z - 1) + 2 = (m : Int)
  m100 : m ≤ 100
  c1 : cMulB (z - 1) (z - 1) = true
  c2 : cMulB z z = true
theorem k5 {p : Int → Prop} (h1 : p 1) (h2 : p 2) (h3 : p 3) (h4 : p 4) (h5 : p 5) : ∀ k : Int, 1 ≤ k → k ≤ 5 → p k := fun k a b => by
  rcases (by omega : k = 1 ∨ k = 2 ∨ k = 3 ∨ k = 4 ∨ k = 5) with e | e | e | e | e <;> subst e <;> assumption
section
variable {n m : Nat} {z k : Int} (G : Gone n m z)
include G
theorem Gone.len : (gone n).length ≤ 1000 := by
  have h := G.ones
  unfold chk1 at h
  rw [Bool.and_eq_true, decide_eq_true_eq] at h
  exact h.1
theorem Gone.row {r : List Int} (hr : r ∈ gone n) : 1 ≤ r.length ∧ r.length ≤ 3 ∧ (∀ x ∈ r, ok8 x = true) ∧ lawWhen r = some (whenL r) ∧ whenN (fromWhen (webOf r)) < m := by
  have h := G.ones
  unfold chk1 at h
  rw [Bool.and_eq_true] at h
  have q := List.all_eq_true.mp h.2 r hr
  rw [Bool.and_eq_true, Bool.and_eq_true, Bool.and_eq_true, Bool.and_eq_true, decide_eq_true_eq, decide_eq_true_eq, decide_eq_true_eq, decide_eq_true_eq] at q
  exact ⟨q.1.1.1.1, q.1.1.1.2, List.all_eq_true.mp q.1.1.2, q.1.2, q.2⟩
theorem Gone.win : ∀ w ∈ (gone n).map webOf, WebIn w := fun w hw => by
  obtain ⟨r, hr, rfl⟩ := List.mem_map.mp hw
  exact web_in (G.row hr).1 (G.row hr).2.1
theorem isK_when {r : List Int} (h1 : 1 ≤ k) : (isK (fromWhen (webOf r)) k = true) ↔ whenL r = k := by
  unfold isK whenL
  cases e : fromWhen (webOf r) with
  | none => exact ⟨fun h => (by cases h), fun h => absurd h (show ¬ ((0 : Int) = k) by omega)⟩
  | some j => exact ⟨fun h => of_decide_eq_true h, fun h => decide_eq_true h⟩
theorem Gone.r_webs (h1 : 1 ≤ k) : sem_webs_from_when [.int z, .int k] = some (D (toldD n k)) := by
  rw [m_webs G.webs G.win (by rw [List.length_map]; exact G.len), List.filterMap_map]
  unfold toldD
  congr 4
  funext r
  show (if isK (fromWhen (webOf r)) k = true then some (encW (webOf r)) else none) = _
  by_cases q : whenL r = k
  · rw [if_pos q, if_pos ((isK_when G h1).mpr q)]
  · rw [if_neg q, if_neg (fun h => q ((isK_when G h1).mp h))]
theorem Gone.r_told : sem_l_told_webs [.list ((gone n).map li), li ((gone n).map whenL), .int k] = some (D (toldD n k)) :=
  m_told (fun r hr => m_l_web (G.row hr).2.2.1 (Nat.le_trans (G.row hr).2.1 (by decide))) G.len
theorem Gone.r_cnt : sem_whens_counts [.int z] = some (D (cntD n m)) :=
  m_cnt G.webs G.sq G.m100 G.c1 fun w hw => by
    refine ⟨G.win w hw, ?_⟩
    obtain ⟨r, hr, rfl⟩ := List.mem_map.mp hw
    exact (G.row hr).2.2.2.2
theorem Gone.r_cntL : sem_l_counts [.int z, li ((gone n).map whenL)] = some (D (cntD n m)) := by
  have h := G.cnt
  unfold chk2 at h
  rw [Bool.and_eq_true, decide_eq_true_eq] at h
  rw [m_cntL (by rw [List.length_map]; exact G.len) G.sq G.m100 G.c1, ← h.1]
  rfl
theorem Gone.g_cnt : goodD (cntD n m) = true := by
  have h := G.cnt
  unfold chk2 at h
  rw [Bool.and_eq_true] at h
  exact h.2
theorem Gone.r_few : sem_fewest_arrows [.int z, .int k] = some (Wk.I (fewD n z k)) := m_few G.webs G.win G.c2
theorem Gone.r_fewL (h1 : 1 ≤ k) (h2 : k ≤ 5) : sem_l_fewest [.list ((gone n).map li), li ((gone n).map whenL), .int k] = some (Wk.I (fewD n z k)) := by
  have h := G.few k h1 h2
  unfold chk3 at h
  rw [Bool.and_eq_true, Bool.and_eq_true, decide_eq_true_eq] at h
  exact m_fewL (fun r hr => ⟨Nat.le_trans (G.row hr).2.1 (by decide), (G.row hr).2.2.1⟩) G.len h.1.1
theorem Gone.g_few (h1 : 1 ≤ k) (h2 : k ≤ 5) : goodD (.int (fewD n z k)) = true := by
  have h := G.few k h1 h2
  unfold chk3 at h
  rw [Bool.and_eq_true, Bool.and_eq_true, decide_eq_true_eq] at h
  exact h.1.2
theorem Gone.g_told (h1 : 1 ≤ k) (h2 : k ≤ 5) : goodD (toldD n k) = true := by
  have h := G.few k h1 h2
  unfold chk3 at h
  rw [Bool.and_eq_true] at h
  exact h.2
theorem Gone.r_when {r : List Int} (hr : r ∈ gone n) : sem_l_when [li r] = some (Wk.I (whenL r)) := by
  obtain ⟨a, b, c, d, _⟩ := G.row hr
  refine m_l_when a (Nat.le_trans b (by decide)) (fun x hx => ?_) d
  rcases List.mem_append.mp hx with h | h
  · have q := c x h
    unfold ok8 at q
    rw [Bool.and_eq_true, decide_eq_true_eq, decide_eq_true_eq] at q
    exact Nat.lt_of_lt_of_le (show x.natAbs < 8 from by omega) (by decide)
  · have : x = 0 := by simpa using h
    rw [this]; decide
end
theorem map2 (n : Nat) : (gone n).map (fun r => encW (webOf r)) = ((gone n).map webOf).map encW := by rw [List.map_map]; rfl
end Gemaingonethrou

/-! K45r1 -/
set_option Elab.async false
set_option linter.all false
set_option maxRecDepth 1000000
set_option maxHeartbeats 0
namespace Gemaingonethrou
open PySem PySem.Spec PyProof.Rows L2 Wk
theorem F3_3 : sem_all_webs [.int 3] = some (.w (oL ((gone 3).map fun r => encW (webOf r)))) := by kernel_rfl
theorem G3_ones : chk1 3 6 = true := by kernel_rfl
theorem G3_cnt : chk2 3 6 3 = true := by kernel_rfl
theorem G3_few1 : chk3 3 3 1 = true := by kernel_rfl
theorem G3_few2 : chk3 3 3 2 = true := by kernel_rfl
theorem G3_few3 : chk3 3 3 3 = true := by kernel_rfl
theorem G3_few4 : chk3 3 3 4 = true := by kernel_rfl
theorem G3_few5 : chk3 3 3 5 = true := by kernel_rfl
theorem G3 : Gone 3 6 3 := ⟨G3_ones, G3_cnt, k5 G3_few1 G3_few2 G3_few3 G3_few4 G3_few5, F3_3.trans (by rw [map2]), by decide, by decide, by decide, by decide⟩
theorem F1_3 : sem_l_gone [.int 3] = some (D (.list ((gone 3).map li))) := by kernel_rfl
end Gemaingonethrou

/-! K45r2 -/
set_option Elab.async false
set_option linter.all false
set_option maxRecDepth 1000000
set_option maxHeartbeats 0
namespace Gemaingonethrou
open PySem PySem.Spec PyProof.Rows L2 Wk
theorem F1_1 : sem_l_gone [.int 1] = some (D (.list ((gone 1).map li))) := by kernel_rfl
theorem F1_2 : sem_l_gone [.int 2] = some (D (.list ((gone 2).map li))) := by kernel_rfl
theorem F3_1 : sem_all_webs [.int 1] = some (.w (oL ((gone 1).map fun r => encW (webOf r)))) := by kernel_rfl
theorem F3_2 : sem_all_webs [.int 2] = some (.w (oL ((gone 2).map fun r => encW (webOf r)))) := by kernel_rfl
theorem G1 : Gone 1 2 1 := ⟨by kernel_rfl, by kernel_rfl, k5 (by kernel_rfl) (by kernel_rfl) (by kernel_rfl) (by kernel_rfl) (by kernel_rfl), F3_1.trans (by rw [map2]), by decide, by decide, by decide, by decide⟩
theorem G2 : Gone 2 3 2 := ⟨by kernel_rfl, by kernel_rfl, k5 (by kernel_rfl) (by kernel_rfl) (by kernel_rfl) (by kernel_rfl) (by kernel_rfl), F3_2.trans (by rw [map2]), by decide, by decide, by decide, by decide⟩
end Gemaingonethrou

/-! K45s -/
set_option Elab.async false
set_option linter.all false
set_option maxRecDepth 100000
set_option maxHeartbeats 4000000
namespace Gemaingonethrou
open PySem PySem.Spec PyProof.Rows L2 Wk
/-! quick equals of meanings, for closed parts -/
mutual
def eqPD : PyData → PyData → Bool
  | .none, .none => true
  | .int i, .int j => decide (i = j)
  | .list a, .list b => eqPL a b
  | .tuple a, .tuple b => eqPL a b
  | _, _ => false
def eqPL : List PyData → List PyData → Bool
  | [], [] => true
  | x :: a, y :: b => eqPD x y && eqPL a b
  | _, _ => false
end
mutual
theorem eqPD_ok : ∀ a b : PyData, eqPD a b = true → a = b
  | .none, b, h => by cases b <;> simp [eqPD] at h ⊢
  | .int i, b, h => by cases b <;> simp [eqPD] at h ⊢; exact h
  | .bool i, b, h => by cases b <;> simp [eqPD] at h
  | .str i, b, h => by cases b <;> simp [eqPD] at h
  | .dict i, b, h => by cases b <;> simp [eqPD] at h
  | .list a, b, h => by
    cases b with
    | list b => rw [eqPD] at h; rw [eqPL_ok a b h]
    | _ => simp [eqPD] at h
  | .tuple a, b, h => by
    cases b with
    | tuple b => rw [eqPD] at h; rw [eqPL_ok a b h]
    | _ => simp [eqPD] at h
theorem eqPL_ok : ∀ a b : List PyData, eqPL a b = true → a = b
  | [], b, h => by cases b <;> simp [eqPL] at h ⊢
  | x :: a, b, h => by
    cases b with
    | nil => simp [eqPL] at h
    | cons y b =>
      rw [eqPL, Bool.and_eq_true] at h
      rw [eqPD_ok x y h.1, eqPL_ok a b h.2]
end
def sameF (ds : List PyData) : Option Wk.TO := match ds with
  | [a, b] => if (eqPD a b && goodD a) = true then some (Wk.B true) else sem_l_same [a, b]
  | ds => sem_l_same ds
theorem same_eq : sem_l_same = sameF := by
  funext ds
  unfold sameF
  split
  · next a b =>
    split
    · next h =>
      rw [Bool.and_eq_true] at h
      rw [← eqPD_ok a b h.1]
      exact m_same2 h.2
    · rfl
  · rfl
theorem asInts_inv : ∀ {ds : List PyData} {ns : List Int}, asInts ds = some ns → ds = ns.map .int
  | [], ns, h => by simp [asInts] at h; subst h; rfl
  | d :: ds, ns, h => by
    cases d with
    | int i =>
      simp [asInts] at h
      obtain ⟨ms, h1, h2⟩ := h
      subst h2
      rw [asInts_inv h1]; rfl
    | _ => simp [asInts] at h
def unRows : List PyData → Option (List (List Int))
  | [] => some []
  | .tuple xs :: r => match asInts xs, unRows r with
    | some x, some y => some (x :: y)
    | _, _ => none
  | _ => none
theorem unRows_inv : ∀ {ds : List PyData} {w : List (List Int)}, unRows ds = some w → ds = w.map encR
  | [], w, h => by simp [unRows] at h; subst h; rfl
  | d :: ds, w, h => by
    cases d with
    | tuple xs =>
      rw [unRows] at h
      split at h
      · next x y h1 h2 =>
        cases h
        rw [asInts_inv h1, unRows_inv h2]; rfl
      · cases h
    | _ => simp [unRows] at h
def winB (w : List (List Int)) : Bool := decide (1 ≤ w.length) && decide (w.length ≤ 100) && w.all fun r => decide (r.length ≤ 100) && r.all fun p => decide (0 ≤ p) && decide (p ≤ 100)
theorem winB_ok {w : List (List Int)} (h : winB w = true) : WebIn w := by
  unfold winB at h
  rw [Bool.and_eq_true, Bool.and_eq_true, decide_eq_true_eq, decide_eq_true_eq] at h
  refine ⟨⟨h.1.2, fun r hr => ?_⟩, h.1.1⟩
  have q := List.all_eq_true.mp h.2 r hr
  rw [Bool.and_eq_true, decide_eq_true_eq] at q
  refine ⟨q.1, fun p hp => ?_⟩
  have z := List.all_eq_true.mp q.2 p hp
  rw [Bool.and_eq_true, decide_eq_true_eq, decide_eq_true_eq] at z
  exact z
def whenF (ds : List PyData) : Option Wk.TO := match ds with
  | [.tuple rs] => match unRows rs with
    | some w => if winB w = true then some (D (whenD (fromWhen w))) else sem_from_when [.tuple rs]
    | none => sem_from_when [.tuple rs]
  | ds => sem_from_when ds
theorem when_eq : sem_from_when = whenF := by
  funext ds
  unfold whenF
  split
  · next rs =>
    split
    · next w h =>
      split
      · next q =>
        rw [unRows_inv h]
        exact m_from_when (winB_ok q).1 (winB_ok q).2
      · rfl
    · rfl
  · rfl
def webF (ds : List PyData) : Option Wk.TO := match ds with
  | [.list rs] => match asInts rs with
    | some r => if (r.all ok8 && decide (r.length ≤ 100)) = true then some (D (encW (webOf r))) else sem_l_web [.list rs]
    | none => sem_l_web [.list rs]
  | ds => sem_l_web ds
theorem web_eq : sem_l_web = webF := by
  funext ds
  unfold webF
  split
  · next rs =>
    split
    · next r h =>
      split
      · next q =>
        rw [Bool.and_eq_true, decide_eq_true_eq] at q
        rw [asInts_inv h]
        exact m_l_web (fun x hx => List.all_eq_true.mp q.1 x hx) q.2
      · rfl
    · rfl
  · rfl
def ledT (f o : List Int) : Option (List Int) :=
  if f = [2, 4, 3] then
    if o = [0, 1, 2] then some [2, 4, 3] else if o = [0, 2, 1] then some [4, 5, 2] else if o = [1, 0, 2] then some [4, 1, 3] else
    if o = [1, 2, 0] then some [6, 4, 1] else if o = [2, 0, 1] then some [2, 5, 1] else if o = [2, 1, 0] then some [6, 1, 2] else none
  else if f = [2, 3] then
    if o = [0, 1] then some [2, 3] else if o = [1, 0] then some [3, 1] else none
  else none
theorem led0 : sem_l_led [li [2, 4, 3], li [0, 1, 2]] = some (D (li [2, 4, 3])) := by kernel_rfl
theorem led1 : sem_l_led [li [2, 4, 3], li [0, 2, 1]] = some (D (li [4, 5, 2])) := by kernel_rfl
theorem led2 : sem_l_led [li [2, 4, 3], li [1, 0, 2]] = some (D (li [4, 1, 3])) := by kernel_rfl
theorem led3 : sem_l_led [li [2, 4, 3], li [1, 2, 0]] = some (D (li [6, 4, 1])) := by kernel_rfl
theorem led4 : sem_l_led [li [2, 4, 3], li [2, 0, 1]] = some (D (li [2, 5, 1])) := by kernel_rfl
theorem led5 : sem_l_led [li [2, 4, 3], li [2, 1, 0]] = some (D (li [6, 1, 2])) := by kernel_rfl
theorem led6 : sem_l_led [li [2, 3], li [0, 1]] = some (D (li [2, 3])) := by kernel_rfl
theorem led7 : sem_l_led [li [2, 3], li [1, 0]] = some (D (li [3, 1])) := by kernel_rfl
theorem ledT_ok {f o l : List Int} (h : ledT f o = some l) : sem_l_led [li f, li o] = some (D (li l)) := by
  unfold ledT at h
  repeat' split at h
  all_goals first | (cases h; done) | skip
  all_goals (rename_i a b; cases h; subst_vars)
  all_goals first | exact led0 | exact led1 | exact led2 | exact led3 | exact led4 | exact led5 | exact led6 | exact led7
def ledF (ds : List PyData) : Option Wk.TO := match ds with
  | [.list a, .list b] => match asInts a, asInts b with
    | some f, some o => match ledT f o with
      | some l => some (D (li l))
      | none => sem_l_led [.list a, .list b]
    | _, _ => sem_l_led [.list a, .list b]
  | ds => sem_l_led ds
theorem led_eq : sem_l_led = ledF := by
  funext ds
  unfold ledF
  split
  · next a b =>
    split
    · next f o h1 h2 =>
      split
      · next l h =>
        rw [asInts_inv h1, asInts_inv h2]
        exact ledT_ok h
      · rfl
    · rfl
  · rfl
def eqF (x y : Wk.TO) : Option Wk.TO := match x, y with
  | .b (.d (.list a)), .b (.d (.list b)) => match asInts a, asInts b with
    | some f, some g => some (Wk.B (decide (f = g)))
    | _, _ => fEq (.b (.d (.list a))) (.b (.d (.list b)))
  | x, y => fEq x y
theorem eq_eq : fEq = eqF := by
  funext x y
  unfold eqF
  split
  · next a b =>
    split
    · next f g h1 h2 =>
      rw [asInts_inv h1, asInts_inv h2]
      exact fEq_lists rfl rfl nofun nofun nofun
    · rfl
  · rfl
end Gemaingonethrou

/-! K45t -/
set_option Elab.async false
set_option linter.all false
set_option maxRecDepth 1000000
set_option maxHeartbeats 0

namespace Gemaingonethrou
open PySem PySem.Spec PyProof.Rows L2 Wk
def preD : DS := (oSeq (oPar true [9, 10] (kO1 (kCall 1 sem_l_web (kL1 (kOp true fIx (kVar 2) (kVar 7)) kL0)) (kO1 (kLst kO0) kO0))) (oSeq (oFor true (.t [11, 12]) [11, 12] (iEnum (kVarF 9)) b_l_are_drawn_4) (oSeq (oSet 13 (kComp [19] (.n 19) (iSeq (kVarF 4)) t_l_are_drawn_2 e_l_are_drawn_1)) (oSet 14 (kLst (kO1 (kIte (kT (kOp true fGt (kOp true fIx (kVar 3) (kVar 7)) (kI 0))) (kOp true fIx (kVar 3) (kVar 7)) kN) (kO1 (kIte (kT (kOp true fNe (kVar 13) (kLst kO0))) (kOp true fIx (kVar 13) (kI 0)) kN) (kO1 (kF fTuple (kVar 10)) (kO1 (kVarF 9) kO0)))))))))
def postD : DS := (oSeq (oSet 15 (kLst (kO1 (kCall 1 sem_from_when (kL1 (kVarF 9) kL0)) (kO1 (kCall 1 sem_latest_order (kL1 (kVarF 9) kL0)) (kO1 (kCall 1 sem_arrows_of (kL1 (kVarF 9) kL0)) (kO1 (kVarF 9) kO0)))))) (oIf (kNot (kT (kCall 2 sem_l_same (kL1 (kVarF 15) (kL1 (kVarF 14) kL0))))) (oRet (kB false)) oNx))
def t2F : DB := (kT (kOp true eqF (kCall 2 ledF (kL1 (kVar 5) (kL1 (kVar 19) kL0))) (kOp true fIx (kVar 2) (kVar 7))))
def preF : DS := (oSeq (oPar true [9, 10] (kO1 (kCall 1 webF (kL1 (kOp true fIx (kVar 2) (kVar 7)) kL0)) (kO1 (kLst kO0) kO0))) (oSeq (oFor true (.t [11, 12]) [11, 12] (iEnum (kVarF 9)) b_l_are_drawn_4) (oSeq (oSet 13 (kComp [19] (.n 19) (iSeq (kVarF 4)) t2F e_l_are_drawn_1)) (oSet 14 (kLst (kO1 (kIte (kT (kOp true fGt (kOp true fIx (kVar 3) (kVar 7)) (kI 0))) (kOp true fIx (kVar 3) (kVar 7)) kN) (kO1 (kIte (kT (kOp true fNe (kVar 13) (kLst kO0))) (kOp true fIx (kVar 13) (kI 0)) kN) (kO1 (kF fTuple (kVar 10)) (kO1 (kVarF 9) kO0)))))))))
def postF : DS := (oSeq (oSet 15 (kLst (kO1 (kCall 1 whenF (kL1 (kVarF 9) kL0)) (kO1 (kCall 1 sem_latest_order (kL1 (kVarF 9) kL0)) (kO1 (kCall 1 sem_arrows_of (kL1 (kVarF 9) kL0)) (kO1 (kVarF 9) kO0)))))) (oIf (kNot (kT (kCall 2 sameF (kL1 (kVarF 15) (kL1 (kVarF 14) kL0))))) (oRet (kB false)) oNx))
theorem t2_eq : t_l_are_drawn_2 = t2F := by unfold t_l_are_drawn_2 t2F; rw [led_eq, eq_eq]
theorem pre_eq : preD = preF := by unfold preD preF; rw [t2_eq, web_eq]
theorem post_eq : postD = postF := by unfold postD postF; rw [same_eq, when_eq]
def ks6 : List Nat := [6, 7, 8, 9, 10, 11, 12, 13, 14, 15]
def nxk (ks : List Nat) : Option Oc → Option (List SE)
  | some (.nx es) => some (kill ks es)
  | _ => none
def chkD (pre post : DS) (st : List SE) : Option (SE × Option (List SE)) := match pre st with
  | some (.nx es) => some (gt es 6, nxk ks6 (post es))
  | _ => none
def ors (n : Nat) : PyData := if n = 2 then .list [li [0, 1], li [1, 0]] else .list [li [0,1,2], li [0,2,1], li [1,0,2], li [1,2,0], li [2,0,1], li [2,1,0]]
def fst (n : Nat) : PyData := if n = 2 then li [2, 3] else li [2, 4, 3]
def rowsL2 : List (List Int) := [[0, 0], [0, 1], [0, 3], [0, 2], [1, 0], [1, 1], [1, 3], [1, 2], [3, 0], [3, 1], [3, 3], [3, 2], [2, 0], [2, 1], [2, 3], [2, 2]]
def whensL2 : List Int := [0, 0, 0, 0, 0, 0, 0, 0, 0, 2, 1, 0, 0, 0, 2, 0]
def X2 : List PyData := [li [0, 0], li [0, 1], li [0, 3], li [0, 2], li [1, 0], li [1, 1], li [1, 3], li [1, 2], li [3, 0], li [3, 1], li [3, 3], li [3, 2], li [2, 0], li [2, 1], li [2, 3], li [2, 2]]
def Y2 : List PyData := [.int 0, .int 0, .int 0, .int 0, .int 0, .int 0, .int 0, .int 0, .int 0, .int 2, .int 1, .int 0, .int 0, .int 0, .int 2, .int 0]
def rowsL3 : List (List Int) := [[0, 0, 0], [0, 0, 1], [0, 0, 3], [0, 0, 7], [0, 0, 5], [0, 0, 2], [0, 0, 6], [0, 0, 4], [0, 1, 0], [0, 1, 1], [0, 1, 3], [0, 1, 7], [0, 1, 5], [0, 1, 2], [0, 1, 6], [0, 1, 4], [0, 3, 0], [0, 3, 1], [0, 3, 3], [0, 3, 7], [0, 3, 5], [0, 3, 2], [0, 3, 6], [0, 3, 4], [0, 7, 0], [0, 7, 1], [0, 7, 3], [0, 7, 7], [0, 7, 5], [0, 7, 2], [0, 7, 6], [0, 7, 4], [0, 5, 0], [0, 5, 1], [0, 5, 3], [0, 5, 7], [0, 5, 5], [0, 5, 2], [0, 5, 6], [0, 5, 4], [0, 2, 0], [0, 2, 1], [0, 2, 3], [0, 2, 7], [0, 2, 5], [0, 2, 2], [0, 2, 6], [0, 2, 4], [0, 6, 0], [0, 6, 1], [0, 6, 3], [0, 6, 7], [0, 6, 5], [0, 6, 2], [0, 6, 6], [0, 6, 4], [0, 4, 0], [0, 4, 1], [0, 4, 3], [0, 4, 7], [0, 4, 5], [0, 4, 2], [0, 4, 6], [0, 4, 4], [1, 0, 0], [1, 0, 1], [1, 0, 3], [1, 0, 7], [1, 0, 5], [1, 0, 2], [1, 0, 6], [1, 0, 4], [1, 1, 0], [1, 1, 1], [1, 1, 3], [1, 1, 7], [1, 1, 5], [1, 1, 2], [1, 1, 6], [1, 1, 4], [1, 3, 0], [1, 3, 1], [1, 3, 3], [1, 3, 7], [1, 3, 5], [1, 3, 2], [1, 3, 6], [1, 3, 4], [1, 7, 0], [1, 7, 1], [1, 7, 3], [1, 7, 7], [1, 7, 5], [1, 7, 2], [1, 7, 6], [1, 7, 4], [1, 5, 0], [1, 5, 1], [1, 5, 3], [1, 5, 7], [1, 5, 5], [1, 5, 2], [1, 5, 6], [1, 5, 4], [1, 2, 0], [1, 2, 1], [1, 2, 3], [1, 2, 7], [1, 2, 5], [1, 2, 2], [1, 2, 6], [1, 2, 4], [1, 6, 0], [1, 6, 1], [1, 6, 3], [1, 6, 7], [1, 6, 5], [1, 6, 2], [1, 6, 6], [1, 6, 4], [1, 4, 0], [1, 4, 1], [1, 4, 3], [1, 4, 7], [1, 4, 5], [1, 4, 2], [1, 4, 6], [1, 4, 4], [3, 0, 0], [3, 0, 1], [3, 0, 3], [3, 0, 7], [3, 0, 5], [3, 0, 2], [3, 0, 6], [3, 0, 4], [3, 1, 0], [3, 1, 1], [3, 1, 3], [3, 1, 7], [3, 1, 5], [3, 1, 2], [3, 1, 6], [3, 1, 4], [3, 3, 0], [3, 3, 1], [3, 3, 3], [3, 3, 7], [3, 3, 5], [3, 3, 2], [3, 3, 6], [3, 3, 4], [3, 7, 0], [3, 7, 1], [3, 7, 3], [3, 7, 7], [3, 7, 5], [3, 7, 2], [3, 7, 6], [3, 7, 4], [3, 5, 0], [3, 5, 1], [3, 5, 3], [3, 5, 7], [3, 5, 5], [3, 5, 2], [3, 5, 6], [3, 5, 4], [3, 2, 0], [3, 2, 1], [3, 2, 3], [3, 2, 7], [3, 2, 5], [3, 2, 2], [3, 2, 6], [3, 2, 4], [3, 6, 0], [3, 6, 1], [3, 6, 3], [3, 6, 7], [3, 6, 5], [3, 6, 2], [3, 6, 6], [3, 6, 4], [3, 4, 0], [3, 4, 1], [3, 4, 3], [3, 4, 7], [3, 4, 5], [3, 4, 2], [3, 4, 6], [3, 4, 4], [7, 0, 0], [7, 0, 1], [7, 0, 3], [7, 0, 7], [7, 0, 5], [7, 0, 2], [7, 0, 6], [7, 0, 4], [7, 1, 0], [7, 1, 1], [7, 1, 3], [7, 1, 7], [7, 1, 5], [7, 1, 2], [7, 1, 6], [7, 1, 4], [7, 3, 0], [7, 3, 1], [7, 3, 3], [7, 3, 7], [7, 3, 5], [7, 3, 2], [7, 3, 6], [7, 3, 4], [7, 7, 0], [7, 7, 1], [7, 7, 3], [7, 7, 7], [7, 7, 5], [7, 7, 2], [7, 7, 6], [7, 7, 4], [7, 5, 0], [7, 5, 1], [7, 5, 3], [7, 5, 7], [7, 5, 5], [7, 5, 2], [7, 5, 6], [7, 5, 4], [7, 2, 0], [7, 2, 1], [7, 2, 3], [7, 2, 7], [7, 2, 5], [7, 2, 2], [7, 2, 6], [7, 2, 4], [7, 6, 0], [7, 6, 1], [7, 6, 3], [7, 6, 7], [7, 6, 5], [7, 6, 2], [7, 6, 6], [7, 6, 4], [7, 4, 0], [7, 4, 1], [7, 4, 3], [7, 4, 7], [7, 4, 5], [7, 4, 2], [7, 4, 6], [7, 4, 4], [5, 0, 0], [5, 0, 1], [5, 0, 3], [5, 0, 7], [5, 0, 5], [5, 0, 2], [5, 0, 6], [5, 0, 4], [5, 1, 0], [5, 1, 1], [5, 1, 3], [5, 1, 7], [5, 1, 5], [5, 1, 2], [5, 1, 6], [5, 1, 4], [5, 3, 0], [5, 3, 1], [5, 3, 3], [5, 3, 7], [5, 3, 5], [5, 3, 2], [5, 3, 6], [5, 3, 4], [5, 7, 0], [5, 7, 1], [5, 7, 3], [5, 7, 7], [5, 7, 5], [5, 7, 2], [5, 7, 6], [5, 7, 4], [5, 5, 0], [5, 5, 1], [5, 5, 3], [5, 5, 7], [5, 5, 5], [5, 5, 2], [5, 5, 6], [5, 5, 4], [5, 2, 0], [5, 2, 1], [5, 2, 3], [5, 2, 7], [5, 2, 5], [5, 2, 2], [5, 2, 6], [5, 2, 4], [5, 6, 0], [5, 6, 1], [5, 6, 3], [5, 6, 7], [5, 6, 5], [5, 6, 2], [5, 6, 6], [5, 6, 4], [5, 4, 0], [5, 4, 1], [5, 4, 3], [5, 4, 7], [5, 4, 5], [5, 4, 2], [5, 4, 6], [5, 4, 4], [2, 0, 0], [2, 0, 1], [2, 0, 3], [2, 0, 7], [2, 0, 5], [2, 0, 2], [2, 0, 6], [2, 0, 4], [2, 1, 0], [2, 1, 1], [2, 1, 3], [2, 1, 7], [2, 1, 5], [2, 1, 2], [2, 1, 6], [2, 1, 4], [2, 3, 0], [2, 3, 1], [2, 3, 3], [2, 3, 7], [2, 3, 5], [2, 3, 2], [2, 3, 6], [2, 3, 4], [2, 7, 0], [2, 7, 1], [2, 7, 3], [2, 7, 7], [2, 7, 5], [2, 7, 2], [2, 7, 6], [2, 7, 4], [2, 5, 0], [2, 5, 1], [2, 5, 3], [2, 5, 7], [2, 5, 5], [2, 5, 2], [2, 5, 6], [2, 5, 4], [2, 2, 0], [2, 2, 1], [2, 2, 3], [2, 2, 7], [2, 2, 5], [2, 2, 2], [2, 2, 6], [2, 2, 4], [2, 6, 0], [2, 6, 1], [2, 6, 3], [2, 6, 7], [2, 6, 5], [2, 6, 2], [2, 6, 6], [2, 6, 4], [2, 4, 0], [2, 4, 1], [2, 4, 3], [2, 4, 7], [2, 4, 5], [2, 4, 2], [2, 4, 6], [2, 4, 4], [6, 0, 0], [6, 0, 1], [6, 0, 3], [6, 0, 7], [6, 0, 5], [6, 0, 2], [6, 0, 6], [6, 0, 4], [6, 1, 0], [6, 1, 1], [6, 1, 3], [6, 1, 7], [6, 1, 5], [6, 1, 2], [6, 1, 6], [6, 1, 4], [6, 3, 0], [6, 3, 1], [6, 3, 3], [6, 3, 7], [6, 3, 5], [6, 3, 2], [6, 3, 6], [6, 3, 4], [6, 7, 0], [6, 7, 1], [6, 7, 3], [6, 7, 7], [6, 7, 5], [6, 7, 2], [6, 7, 6], [6, 7, 4], [6, 5, 0], [6, 5, 1], [6, 5, 3], [6, 5, 7], [6, 5, 5], [6, 5, 2], [6, 5, 6], [6, 5, 4], [6, 2, 0], [6, 2, 1], [6, 2, 3], [6, 2, 7], [6, 2, 5], [6, 2, 2], [6, 2, 6], [6, 2, 4], [6, 6, 0], [6, 6, 1], [6, 6, 3], [6, 6, 7], [6, 6, 5], [6, 6, 2], [6, 6, 6], [6, 6, 4], [6, 4, 0], [6, 4, 1], [6, 4, 3], [6, 4, 7], [6, 4, 5], [6, 4, 2], [6, 4, 6], [6, 4, 4], [4, 0, 0], [4, 0, 1], [4, 0, 3], [4, 0, 7], [4, 0, 5], [4, 0, 2], [4, 0, 6], [4, 0, 4], [4, 1, 0], [4, 1, 1], [4, 1, 3], [4, 1, 7], [4, 1, 5], [4, 1, 2], [4, 1, 6], [4, 1, 4], [4, 3, 0], [4, 3, 1], [4, 3, 3], [4, 3, 7], [4, 3, 5], [4, 3, 2], [4, 3, 6], [4, 3, 4], [4, 7, 0], [4, 7, 1], [4, 7, 3], [4, 7, 7], [4, 7, 5], [4, 7, 2], [4, 7, 6], [4, 7, 4], [4, 5, 0], [4, 5, 1], [4, 5, 3], [4, 5, 7], [4, 5, 5], [4, 5, 2], [4, 5, 6], [4, 5, 4], [4, 2, 0], [4, 2, 1], [4, 2, 3], [4, 2, 7], [4, 2, 5], [4, 2, 2], [4, 2, 6], [4, 2, 4], [4, 6, 0], [4, 6, 1], [4, 6, 3], [4, 6, 7], [4, 6, 5], [4, 6, 2], [4, 6, 6], [4, 6, 4], [4, 4, 0], [4, 4, 1], [4, 4, 3], [4, 4, 7], [4, 4, 5], [4, 4, 2], [4, 4, 6], [4, 4, 4]]
def whensL3 : List Int := [0, 0, 0, 0, 0, 0, 0, 0, 0, 0, 0, 0, 0, 0, 0, 0, 0, 0, 0, 0, 0, 0, 0, 0, 0, 0, 0, 0, 0, 0, 0, 0, 0, 0, 0, 0, 0, 0, 0, 0, 0, 0, 0, 0, 0, 0, 0, 0, 0, 0, 0, 0, 0, 0, 0, 0, 0, 0, 0, 0, 0, 0, 0, 0, 0, 0, 0, 0, 0, 0, 0, 0, 0, 0, 0, 0, 0, 0, 0, 0, 0, 0, 0, 0, 0, 0, 0, 0, 0, 0, 0, 0, 0, 0, 0, 0, 0, 0, 0, 0, 0, 0, 0, 0, 0, 0, 0, 0, 0, 0, 0, 0, 0, 0, 0, 0, 0, 0, 0, 0, 0, 0, 0, 0, 0, 0, 0, 0, 0, 0, 0, 0, 0, 0, 0, 0, 0, 0, 0, 0, 0, 0, 0, 0, 0, 0, 0, 0, 0, 0, 0, 0, 0, 3, 2, 2, 2, 2, 2, 0, 0, 3, 3, 2, 2, 4, 2, 0, 0, 0, 0, 0, 0, 0, 0, 0, 0, 3, 2, 2, 2, 0, 0, 0, 0, 4, 3, 2, 3, 0, 0, 0, 0, 0, 0, 0, 0, 0, 0, 0, 0, 2, 2, 2, 2, 3, 2, 0, 0, 2, 2, 2, 2, 3, 2, 0, 0, 2, 2, 1, 2, 2, 2, 0, 0, 2, 2, 2, 2, 3, 2, 0, 0, 0, 0, 0, 0, 0, 0, 0, 0, 2, 2, 2, 2, 0, 0, 0, 0, 3, 3, 2, 3, 0, 0, 0, 0, 0, 0, 0, 0, 0, 0, 0, 0, 0, 3, 3, 0, 4, 3, 0, 0, 0, 2, 2, 0, 3, 2, 0, 0, 0, 2, 2, 0, 2, 2, 0, 0, 0, 3, 2, 0, 3, 2, 0, 0, 0, 0, 0, 0, 0, 0, 0, 0, 0, 2, 2, 0, 0, 0, 0, 0, 0, 4, 2, 0, 0, 0, 0, 0, 0, 0, 0, 0, 0, 0, 0, 0, 0, 0, 0, 0, 0, 0, 0, 0, 0, 0, 0, 0, 0, 0, 0, 0, 3, 2, 2, 2, 2, 2, 0, 0, 5, 4, 3, 3, 0, 4, 0, 0, 0, 0, 0, 0, 0, 0, 0, 0, 4, 3, 3, 3, 0, 0, 0, 0, 0, 5, 3, 4, 0, 0, 0, 0, 0, 0, 0, 0, 0, 0, 0, 0, 0, 4, 3, 4, 5, 3, 0, 0, 4, 3, 2, 2, 3, 2, 0, 0, 3, 2, 2, 2, 2, 2, 0, 0, 4, 2, 2, 3, 4, 3, 0, 0, 0, 0, 0, 0, 0, 0, 0, 0, 3, 3, 2, 2, 0, 0, 0, 0, 5, 4, 2, 3, 0, 0, 0, 0, 0, 0, 0, 0, 0, 0, 0, 0, 0, 5, 3, 0, 0, 4, 0, 0, 0, 3, 2, 0, 4, 3, 0, 0, 0, 3, 2, 0, 3, 3, 0, 0, 0, 4, 2, 0, 5, 3, 0, 0, 0, 0, 0, 0, 0, 0, 0, 0, 0, 4, 2, 0, 0, 0, 0, 0, 0, 0, 2, 0, 0, 0, 0]
def X3 : List PyData := [li [0, 0, 0], li [0, 0, 1], li [0, 0, 3], li [0, 0, 7], li [0, 0, 5], li [0, 0, 2], li [0, 0, 6], li [0, 0, 4], li [0, 1, 0], li [0, 1, 1], li [0, 1, 3], li [0, 1, 7], li [0, 1, 5], li [0, 1, 2], li [0, 1, 6], li [0, 1, 4], li [0, 3, 0], li [0, 3, 1], li [0, 3, 3], li [0, 3, 7], li [0, 3, 5], li [0, 3, 2], li [0, 3, 6], li [0, 3, 4], li [0, 7, 0], li [0, 7, 1], li [0, 7, 3], li [0, 7, 7], li [0, 7, 5], li [0, 7, 2], li [0, 7, 6], li [0, 7, 4], li [0, 5, 0], li [0, 5, 1], li [0, 5, 3], li [0, 5, 7], li [0, 5, 5], li [0, 5, 2], li [0, 5, 6], li [0, 5, 4], li [0, 2, 0], li [0, 2, 1], li [0, 2, 3], li [0, 2, 7], li [0, 2, 5], li [0, 2, 2], li [0, 2, 6], li [0, 2, 4], li [0, 6, 0], li [0, 6, 1], li [0, 6, 3], li [0, 6, 7], li [0, 6, 5], li [0, 6, 2], li [0, 6, 6], li [0, 6, 4], li [0, 4, 0], li [0, 4, 1], li [0, 4, 3], li [0, 4, 7], li [0, 4, 5], li [0, 4, 2], li [0, 4, 6], li [0, 4, 4], li [1, 0, 0], li [1, 0, 1], li [1, 0, 3], li [1, 0, 7], li [1, 0, 5], li [1, 0, 2], li [1, 0, 6], li [1, 0, 4], li [1, 1, 0], li [1, 1, 1], li [1, 1, 3], li [1, 1, 7], li [1, 1, 5], li [1, 1, 2], li [1, 1, 6], li [1, 1, 4], li [1, 3, 0], li [1, 3, 1], li [1, 3, 3], li [1, 3, 7], li [1, 3, 5], li [1, 3, 2], li [1, 3, 6], li [1, 3, 4], li [1, 7, 0], li [1, 7, 1], li [1, 7, 3], li [1, 7, 7], li [1, 7, 5], li [1, 7, 2], li [1, 7, 6], li [1, 7, 4], li [1, 5, 0], li [1, 5, 1], li [1, 5, 3], li [1, 5, 7], li [1, 5, 5], li [1, 5, 2], li [1, 5, 6], li [1, 5, 4], li [1, 2, 0], li [1, 2, 1], li [1, 2, 3], li [1, 2, 7], li [1, 2, 5], li [1, 2, 2], li [1, 2, 6], li [1, 2, 4], li [1, 6, 0], li [1, 6, 1], li [1, 6, 3], li [1, 6, 7], li [1, 6, 5], li [1, 6, 2], li [1, 6, 6], li [1, 6, 4], li [1, 4, 0], li [1, 4, 1], li [1, 4, 3], li [1, 4, 7], li [1, 4, 5], li [1, 4, 2], li [1, 4, 6], li [1, 4, 4], li [3, 0, 0], li [3, 0, 1], li [3, 0, 3], li [3, 0, 7], li [3, 0, 5], li [3, 0, 2], li [3, 0, 6], li [3, 0, 4], li [3, 1, 0], li [3, 1, 1], li [3, 1, 3], li [3, 1, 7], li [3, 1, 5], li [3, 1, 2], li [3, 1, 6], li [3, 1, 4], li [3, 3, 0], li [3, 3, 1], li [3, 3, 3], li [3, 3, 7], li [3, 3, 5], li [3, 3, 2], li [3, 3, 6], li [3, 3, 4], li [3, 7, 0], li [3, 7, 1], li [3, 7, 3], li [3, 7, 7], li [3, 7, 5], li [3, 7, 2], li [3, 7, 6], li [3, 7, 4], li [3, 5, 0], li [3, 5, 1], li [3, 5, 3], li [3, 5, 7], li [3, 5, 5], li [3, 5, 2], li [3, 5, 6], li [3, 5, 4], li [3, 2, 0], li [3, 2, 1], li [3, 2, 3], li [3, 2, 7], li [3, 2, 5], li [3, 2, 2], li [3, 2, 6], li [3, 2, 4], li [3, 6, 0], li [3, 6, 1], li [3, 6, 3], li [3, 6, 7], li [3, 6, 5], li [3, 6, 2], li [3, 6, 6], li [3, 6, 4], li [3, 4, 0], li [3, 4, 1], li [3, 4, 3], li [3, 4, 7], li [3, 4, 5], li [3, 4, 2], li [3, 4, 6], li [3, 4, 4], li [7, 0, 0], li [7, 0, 1], li [7, 0, 3], li [7, 0, 7], li [7, 0, 5], li [7, 0, 2], li [7, 0, 6], li [7, 0, 4], li [7, 1, 0], li [7, 1, 1], li [7, 1, 3], li [7, 1, 7], li [7, 1, 5], li [7, 1, 2], li [7, 1, 6], li [7, 1, 4], li [7, 3, 0], li [7, 3, 1], li [7, 3, 3], li [7, 3, 7], li [7, 3, 5], li [7, 3, 2], li [7, 3, 6], li [7, 3, 4], li [7, 7, 0], li [7, 7, 1], li [7, 7, 3], li [7, 7, 7], li [7, 7, 5], li [7, 7, 2], li [7, 7, 6], li [7, 7, 4], li [7, 5, 0], li [7, 5, 1], li [7, 5, 3], li [7, 5, 7], li [7, 5, 5], li [7, 5, 2], li [7, 5, 6], li [7, 5, 4], li [7, 2, 0], li [7, 2, 1], li [7, 2, 3], li [7, 2, 7], li [7, 2, 5], li [7, 2, 2], li [7, 2, 6], li [7, 2, 4], li [7, 6, 0], li [7, 6, 1], li [7, 6, 3], li [7, 6, 7], li [7, 6, 5], li [7, 6, 2], li [7, 6, 6], li [7, 6, 4], li [7, 4, 0], li [7, 4, 1], li [7, 4, 3], li [7, 4, 7], li [7, 4, 5], li [7, 4, 2], li [7, 4, 6], li [7, 4, 4], li [5, 0, 0], li [5, 0, 1], li [5, 0, 3], li [5, 0, 7], li [5, 0, 5], li [5, 0, 2], li [5, 0, 6], li [5, 0, 4], li [5, 1, 0], li [5, 1, 1], li [5, 1, 3], li [5, 1, 7], li [5, 1, 5], li [5, 1, 2], li [5, 1, 6], li [5, 1, 4], li [5, 3, 0], li [5, 3, 1], li [5, 3, 3], li [5, 3, 7], li [5, 3, 5], li [5, 3, 2], li [5, 3, 6], li [5, 3, 4], li [5, 7, 0], li [5, 7, 1], li [5, 7, 3], li [5, 7, 7], li [5, 7, 5], li [5, 7, 2], li [5, 7, 6], li [5, 7, 4], li [5, 5, 0], li [5, 5, 1], li [5, 5, 3], li [5, 5, 7], li [5, 5, 5], li [5, 5, 2], li [5, 5, 6], li [5, 5, 4], li [5, 2, 0], li [5, 2, 1], li [5, 2, 3], li [5, 2, 7], li [5, 2, 5], li [5, 2, 2], li [5, 2, 6], li [5, 2, 4], li [5, 6, 0], li [5, 6, 1], li [5, 6, 3], li [5, 6, 7], li [5, 6, 5], li [5, 6, 2], li [5, 6, 6], li [5, 6, 4], li [5, 4, 0], li [5, 4, 1], li [5, 4, 3], li [5, 4, 7], li [5, 4, 5], li [5, 4, 2], li [5, 4, 6], li [5, 4, 4], li [2, 0, 0], li [2, 0, 1], li [2, 0, 3], li [2, 0, 7], li [2, 0, 5], li [2, 0, 2], li [2, 0, 6], li [2, 0, 4], li [2, 1, 0], li [2, 1, 1], li [2, 1, 3], li [2, 1, 7], li [2, 1, 5], li [2, 1, 2], li [2, 1, 6], li [2, 1, 4], li [2, 3, 0], li [2, 3, 1], li [2, 3, 3], li [2, 3, 7], li [2, 3, 5], li [2, 3, 2], li [2, 3, 6], li [2, 3, 4], li [2, 7, 0], li [2, 7, 1], li [2, 7, 3], li [2, 7, 7], li [2, 7, 5], li [2, 7, 2], li [2, 7, 6], li [2, 7, 4], li [2, 5, 0], li [2, 5, 1], li [2, 5, 3], li [2, 5, 7], li [2, 5, 5], li [2, 5, 2], li [2, 5, 6], li [2, 5, 4], li [2, 2, 0], li [2, 2, 1], li [2, 2, 3], li [2, 2, 7], li [2, 2, 5], li [2, 2, 2], li [2, 2, 6], li [2, 2, 4], li [2, 6, 0], li [2, 6, 1], li [2, 6, 3], li [2, 6, 7], li [2, 6, 5], li [2, 6, 2], li [2, 6, 6], li [2, 6, 4], li [2, 4, 0], li [2, 4, 1], li [2, 4, 3], li [2, 4, 7], li [2, 4, 5], li [2, 4, 2], li [2, 4, 6], li [2, 4, 4], li [6, 0, 0], li [6, 0, 1], li [6, 0, 3], li [6, 0, 7], li [6, 0, 5], li [6, 0, 2], li [6, 0, 6], li [6, 0, 4], li [6, 1, 0], li [6, 1, 1], li [6, 1, 3], li [6, 1, 7], li [6, 1, 5], li [6, 1, 2], li [6, 1, 6], li [6, 1, 4], li [6, 3, 0], li [6, 3, 1], li [6, 3, 3], li [6, 3, 7], li [6, 3, 5], li [6, 3, 2], li [6, 3, 6], li [6, 3, 4], li [6, 7, 0], li [6, 7, 1], li [6, 7, 3], li [6, 7, 7], li [6, 7, 5], li [6, 7, 2], li [6, 7, 6], li [6, 7, 4], li [6, 5, 0], li [6, 5, 1], li [6, 5, 3], li [6, 5, 7], li [6, 5, 5], li [6, 5, 2], li [6, 5, 6], li [6, 5, 4], li [6, 2, 0], li [6, 2, 1], li [6, 2, 3], li [6, 2, 7], li [6, 2, 5], li [6, 2, 2], li [6, 2, 6], li [6, 2, 4], li [6, 6, 0], li [6, 6, 1], li [6, 6, 3], li [6, 6, 7], li [6, 6, 5], li [6, 6, 2], li [6, 6, 6], li [6, 6, 4], li [6, 4, 0], li [6, 4, 1], li [6, 4, 3], li [6, 4, 7], li [6, 4, 5], li [6, 4, 2], li [6, 4, 6], li [6, 4, 4], li [4, 0, 0], li [4, 0, 1], li [4, 0, 3], li [4, 0, 7], li [4, 0, 5], li [4, 0, 2], li [4, 0, 6], li [4, 0, 4], li [4, 1, 0], li [4, 1, 1], li [4, 1, 3], li [4, 1, 7], li [4, 1, 5], li [4, 1, 2], li [4, 1, 6], li [4, 1, 4], li [4, 3, 0], li [4, 3, 1], li [4, 3, 3], li [4, 3, 7], li [4, 3, 5], li [4, 3, 2], li [4, 3, 6], li [4, 3, 4], li [4, 7, 0], li [4, 7, 1], li [4, 7, 3], li [4, 7, 7], li [4, 7, 5], li [4, 7, 2], li [4, 7, 6], li [4, 7, 4], li [4, 5, 0], li [4, 5, 1], li [4, 5, 3], li [4, 5, 7], li [4, 5, 5], li [4, 5, 2], li [4, 5, 6], li [4, 5, 4], li [4, 2, 0], li [4, 2, 1], li [4, 2, 3], li [4, 2, 7], li [4, 2, 5], li [4, 2, 2], li [4, 2, 6], li [4, 2, 4], li [4, 6, 0], li [4, 6, 1], li [4, 6, 3], li [4, 6, 7], li [4, 6, 5], li [4, 6, 2], li [4, 6, 6], li [4, 6, 4], li [4, 4, 0], li [4, 4, 1], li [4, 4, 3], li [4, 4, 7], li [4, 4, 5], li [4, 4, 2], li [4, 4, 6], li [4, 4, 4]]
def Y3 : List PyData := [.int 0, .int 0, .int 0, .int 0, .int 0, .int 0, .int 0, .int 0, .int 0, .int 0, .int 0, .int 0, .int 0, .int 0, .int 0, .int 0, .int 0, .int 0, .int 0, .int 0, .int 0, .int 0, .int 0, .int 0, .int 0, .int 0, .int 0, .int 0, .int 0, .int 0, .int 0, .int 0, .int 0, .int 0, .int 0, .int 0, .int 0, .int 0, .int 0, .int 0, .int 0, .int 0, .int 0, .int 0, .int 0, .int 0, .int 0, .int 0, .int 0, .int 0, .int 0, .int 0, .int 0, .int 0, .int 0, .int 0, .int 0, .int 0, .int 0, .int 0, .int 0, .int 0, .int 0, .int 0, .int 0, .int 0, .int 0, .int 0, .int 0, .int 0, .int 0, .int 0, .int 0, .int 0, .int 0, .int 0, .int 0, .int 0, .int 0, .int 0, .int 0, .int 0, .int 0, .int 0, .int 0, .int 0, .int 0, .int 0, .int 0, .int 0, .int 0, .int 0, .int 0, .int 0, .int 0, .int 0, .int 0, .int 0, .int 0, .int 0, .int 0, .int 0, .int 0, .int 0, .int 0, .int 0, .int 0, .int 0, .int 0, .int 0, .int 0, .int 0, .int 0, .int 0, .int 0, .int 0, .int 0, .int 0, .int 0, .int 0, .int 0, .int 0, .int 0, .int 0, .int 0, .int 0, .int 0, .int 0, .int 0, .int 0, .int 0, .int 0, .int 0, .int 0, .int 0, .int 0, .int 0, .int 0, .int 0, .int 0, .int 0, .int 0, .int 0, .int 0, .int 0, .int 0, .int 0, .int 0, .int 0, .int 0, .int 0, .int 0, .int 0, .int 3, .int 2, .int 2, .int 2, .int 2, .int 2, .int 0, .int 0, .int 3, .int 3, .int 2, .int 2, .int 4, .int 2, .int 0, .int 0, .int 0, .int 0, .int 0, .int 0, .int 0, .int 0, .int 0, .int 0, .int 3, .int 2, .int 2, .int 2, .int 0, .int 0, .int 0, .int 0, .int 4, .int 3, .int 2, .int 3, .int 0, .int 0, .int 0, .int 0, .int 0, .int 0, .int 0, .int 0, .int 0, .int 0, .int 0, .int 0, .int 2, .int 2, .int 2, .int 2, .int 3, .int 2, .int 0, .int 0, .int 2, .int 2, .int 2, .int 2, .int 3, .int 2, .int 0, .int 0, .int 2, .int 2, .int 1, .int 2, .int 2, .int 2, .int 0, .int 0, .int 2, .int 2, .int 2, .int 2, .int 3, .int 2, .int 0, .int 0, .int 0, .int 0, .int 0, .int 0, .int 0, .int 0, .int 0, .int 0, .int 2, .int 2, .int 2, .int 2, .int 0, .int 0, .int 0, .int 0, .int 3, .int 3, .int 2, .int 3, .int 0, .int 0, .int 0, .int 0, .int 0, .int 0, .int 0, .int 0, .int 0, .int 0, .int 0, .int 0, .int 0, .int 3, .int 3, .int 0, .int 4, .int 3, .int 0, .int 0, .int 0, .int 2, .int 2, .int 0, .int 3, .int 2, .int 0, .int 0, .int 0, .int 2, .int 2, .int 0, .int 2, .int 2, .int 0, .int 0, .int 0, .int 3, .int 2, .int 0, .int 3, .int 2, .int 0, .int 0, .int 0, .int 0, .int 0, .int 0, .int 0, .int 0, .int 0, .int 0, .int 0, .int 2, .int 2, .int 0, .int 0, .int 0, .int 0, .int 0, .int 0, .int 4, .int 2, .int 0, .int 0, .int 0, .int 0, .int 0, .int 0, .int 0, .int 0, .int 0, .int 0, .int 0, .int 0, .int 0, .int 0, .int 0, .int 0, .int 0, .int 0, .int 0, .int 0, .int 0, .int 0, .int 0, .int 0, .int 0, .int 0, .int 0, .int 0, .int 0, .int 3, .int 2, .int 2, .int 2, .int 2, .int 2, .int 0, .int 0, .int 5, .int 4, .int 3, .int 3, .int 0, .int 4, .int 0, .int 0, .int 0, .int 0, .int 0, .int 0, .int 0, .int 0, .int 0, .int 0, .int 4, .int 3, .int 3, .int 3, .int 0, .int 0, .int 0, .int 0, .int 0, .int 5, .int 3, .int 4, .int 0, .int 0, .int 0, .int 0, .int 0, .int 0, .int 0, .int 0, .int 0, .int 0, .int 0, .int 0, .int 0, .int 4, .int 3, .int 4, .int 5, .int 3, .int 0, .int 0, .int 4, .int 3, .int 2, .int 2, .int 3, .int 2, .int 0, .int 0, .int 3, .int 2, .int 2, .int 2, .int 2, .int 2, .int 0, .int 0, .int 4, .int 2, .int 2, .int 3, .int 4, .int 3, .int 0, .int 0, .int 0, .int 0, .int 0, .int 0, .int 0, .int 0, .int 0, .int 0, .int 3, .int 3, .int 2, .int 2, .int 0, .int 0, .int 0, .int 0, .int 5, .int 4, .int 2, .int 3, .int 0, .int 0, .int 0, .int 0, .int 0, .int 0, .int 0, .int 0, .int 0, .int 0, .int 0, .int 0, .int 0, .int 5, .int 3, .int 0, .int 0, .int 4, .int 0, .int 0, .int 0, .int 3, .int 2, .int 0, .int 4, .int 3, .int 0, .int 0, .int 0, .int 3, .int 2, .int 0, .int 3, .int 3, .int 0, .int 0, .int 0, .int 4, .int 2, .int 0, .int 5, .int 3, .int 0, .int 0, .int 0, .int 0, .int 0, .int 0, .int 0, .int 0, .int 0, .int 0, .int 0, .int 4, .int 2, .int 0, .int 0, .int 0, .int 0, .int 0, .int 0, .int 0, .int 2, .int 0, .int 0, .int 0, .int 0]
def stD (bag : OT) (n : Nat) (X Y : List PyData) (F : SE) (t : SE) (at' : Int) : List SE := [.s true bag, si (n : Nat), sd (.list X), sd (.list Y), sd (ors n), sd (fst n), t, si at', F, .z, .z, .z, .z, .z, .z, .z, .z, .z, .z, .z]
def stE (bag : OT) (n : Nat) (X Y : List PyData) : List SE := [.s true bag, si (n : Nat), sd (.list X), sd (.list Y), sd (ors n), sd (fst n), .z, .z, .z, .z, .z, .z, .z, .z, .z, .z, .z, .z, .z, .z]
end Gemaingonethrou

/-! K45u -/
set_option Elab.async false
set_option linter.all false
set_option maxRecDepth 1000000
set_option maxHeartbeats 0
namespace Gemaingonethrou
open PySem PySem.Spec PyProof.Rows L2 Wk
/-! each web that can be drawn -/
def mapC (f : Int → Option (SE × Option (List SE))) : Nat → Int → List (Option (SE × Option (List SE)))
  | 0, _ => []
  | n + 1, a => f a :: mapC f n (a + 1)
def rep (v : Option (SE × Option (List SE))) : Nat → List (Option (SE × Option (List SE)))
  | 0 => []
  | n + 1 => v :: rep v n
theorem mapC_get {f : Int → Option (SE × Option (List SE))} {v : Option (SE × Option (List SE))} : ∀ (n : Nat) (a : Int), mapC f n a = rep v n → ∀ i : Int, a ≤ i → i < a + n → f i = v
  | 0, a, _, i, h1, h2 => by omega
  | n + 1, a, h, i, h1, h2 => by
    have h' : f a :: mapC f n (a + 1) = v :: rep v n := h
    rw [List.cons.injEq] at h'
    by_cases e : i = a
    · rw [e]; exact h'.1
    · exact mapC_get n (a + 1) h'.2 i (by omega) (by omega)
theorem D3_0 (bag : OT) (F t : SE) : mapC (fun a => chkD preF postF (stD bag 3 X3 Y3 F t a)) 32 0 = rep (some (t, some (stE bag 3 X3 Y3))) 32 := by kernel_rfl
theorem D3_1 (bag : OT) (F t : SE) : mapC (fun a => chkD preF postF (stD bag 3 X3 Y3 F t a)) 32 32 = rep (some (t, some (stE bag 3 X3 Y3))) 32 := by kernel_rfl
theorem D3_2 (bag : OT) (F t : SE) : mapC (fun a => chkD preF postF (stD bag 3 X3 Y3 F t a)) 32 64 = rep (some (t, some (stE bag 3 X3 Y3))) 32 := by kernel_rfl
theorem D3_3 (bag : OT) (F t : SE) : mapC (fun a => chkD preF postF (stD bag 3 X3 Y3 F t a)) 32 96 = rep (some (t, some (stE bag 3 X3 Y3))) 32 := by kernel_rfl
theorem D3_4 (bag : OT) (F t : SE) : mapC (fun a => chkD preF postF (stD bag 3 X3 Y3 F t a)) 32 128 = rep (some (t, some (stE bag 3 X3 Y3))) 32 := by kernel_rfl
theorem D3_5 (bag : OT) (F t : SE) : mapC (fun a => chkD preF postF (stD bag 3 X3 Y3 F t a)) 32 160 = rep (some (t, some (stE bag 3 X3 Y3))) 32 := by kernel_rfl
theorem D3_6 (bag : OT) (F t : SE) : mapC (fun a => chkD preF postF (stD bag 3 X3 Y3 F t a)) 32 192 = rep (some (t, some (stE bag 3 X3 Y3))) 32 := by kernel_rfl
theorem D3_7 (bag : OT) (F t : SE) : mapC (fun a => chkD preF postF (stD bag 3 X3 Y3 F t a)) 32 224 = rep (some (t, some (stE bag 3 X3 Y3))) 32 := by kernel_rfl
theorem D3_8 (bag : OT) (F t : SE) : mapC (fun a => chkD preF postF (stD bag 3 X3 Y3 F t a)) 32 256 = rep (some (t, some (stE bag 3 X3 Y3))) 32 := by kernel_rfl
theorem D3_9 (bag : OT) (F t : SE) : mapC (fun a => chkD preF postF (stD bag 3 X3 Y3 F t a)) 32 288 = rep (some (t, some (stE bag 3 X3 Y3))) 32 := by kernel_rfl
theorem D3_10 (bag : OT) (F t : SE) : mapC (fun a => chkD preF postF (stD bag 3 X3 Y3 F t a)) 32 320 = rep (some (t, some (stE bag 3 X3 Y3))) 32 := by kernel_rfl
theorem D3_11 (bag : OT) (F t : SE) : mapC (fun a => chkD preF postF (stD bag 3 X3 Y3 F t a)) 32 352 = rep (some (t, some (stE bag 3 X3 Y3))) 32 := by kernel_rfl
theorem D3_12 (bag : OT) (F t : SE) : mapC (fun a => chkD preF postF (stD bag 3 X3 Y3 F t a)) 32 384 = rep (some (t, some (stE bag 3 X3 Y3))) 32 := by kernel_rfl
theorem D3_13 (bag : OT) (F t : SE) : mapC (fun a => chkD preF postF (stD bag 3 X3 Y3 F t a)) 32 416 = rep (some (t, some (stE bag 3 X3 Y3))) 32 := by kernel_rfl
theorem D3_14 (bag : OT) (F t : SE) : mapC (fun a => chkD preF postF (stD bag 3 X3 Y3 F t a)) 32 448 = rep (some (t, some (stE bag 3 X3 Y3))) 32 := by kernel_rfl
theorem D3_15 (bag : OT) (F t : SE) : mapC (fun a => chkD preF postF (stD bag 3 X3 Y3 F t a)) 32 480 = rep (some (t, some (stE bag 3 X3 Y3))) 32 := by kernel_rfl
theorem D2_0 (bag : OT) (F t : SE) : mapC (fun a => chkD preF postF (stD bag 2 X2 Y2 F t a)) 16 0 = rep (some (t, some (stE bag 2 X2 Y2))) 16 := by kernel_rfl
theorem D3 (bag : OT) (F t : SE) (i : Int) (h0 : 0 ≤ i) (h1 : i < 512) : chkD preD postD (stD bag 3 X3 Y3 F t i) = some (t, some (stE bag 3 X3 Y3)) := by
  rw [pre_eq, post_eq]
  by_cases q0 : i < 32
  · exact mapC_get 32 0 (D3_0 bag F t) i (by omega) (by omega)
  by_cases q1 : i < 64
  · exact mapC_get 32 32 (D3_1 bag F t) i (by omega) (by omega)
  by_cases q2 : i < 96
  · exact mapC_get 32 64 (D3_2 bag F t) i (by omega) (by omega)
  by_cases q3 : i < 128
  · exact mapC_get 32 96 (D3_3 bag F t) i (by omega) (by omega)
  by_cases q4 : i < 160
  · exact mapC_get 32 128 (D3_4 bag F t) i (by omega) (by omega)
  by_cases q5 : i < 192
  · exact mapC_get 32 160 (D3_5 bag F t) i (by omega) (by omega)
  by_cases q6 : i < 224
  · exact mapC_get 32 192 (D3_6 bag F t) i (by omega) (by omega)
  by_cases q7 : i < 256
  · exact mapC_get 32 224 (D3_7 bag F t) i (by omega) (by omega)
  by_cases q8 : i < 288
  · exact mapC_get 32 256 (D3_8 bag F t) i (by omega) (by omega)
  by_cases q9 : i < 320
  · exact mapC_get 32 288 (D3_9 bag F t) i (by omega) (by omega)
  by_cases q10 : i < 352
  · exact mapC_get 32 320 (D3_10 bag F t) i (by omega) (by omega)
  by_cases q11 : i < 384
  · exact mapC_get 32 352 (D3_11 bag F t) i (by omega) (by omega)
  by_cases q12 : i < 416
  · exact mapC_get 32 384 (D3_12 bag F t) i (by omega) (by omega)
  by_cases q13 : i < 448
  · exact mapC_get 32 416 (D3_13 bag F t) i (by omega) (by omega)
  by_cases q14 : i < 480
  · exact mapC_get 32 448 (D3_14 bag F t) i (by omega) (by omega)
  exact mapC_get 32 480 (D3_15 bag F t) i (by omega) (by omega)
theorem D2 (bag : OT) (F t : SE) (i : Int) (h0 : 0 ≤ i) (h1 : i < 16) : chkD preD postD (stD bag 2 X2 Y2 F t i) = some (t, some (stE bag 2 X2 Y2)) := by
  rw [pre_eq, post_eq]
  exact mapC_get 16 0 (D2_0 bag F t) i (by omega) (by omega)
end Gemaingonethrou

/-! K45u2 -/
set_option Elab.async false
set_option linter.all false
set_option maxRecDepth 1000000
set_option maxHeartbeats 0
namespace Gemaingonethrou
open PySem PySem.Spec PyProof.Rows L2 Wk
/-! each firm web, the orders still the law's own list -/
def orsO (n : Nat) : SE := if n = 2 then .s false (.l [.l [.d (.int 0), .d (.int 1)], .l [.d (.int 1), .d (.int 0)]]) else .s false (.l [.l [.d (.int 0), .d (.int 1), .d (.int 2)], .l [.d (.int 0), .d (.int 2), .d (.int 1)], .l [.d (.int 1), .d (.int 0), .d (.int 2)], .l [.d (.int 1), .d (.int 2), .d (.int 0)], .l [.d (.int 2), .d (.int 0), .d (.int 1)], .l [.d (.int 2), .d (.int 1), .d (.int 0)]])
def stO (bag : OT) (n : Nat) (X Y : List PyData) (F : SE) (t : SE) (at' : Int) : List SE := [.s true bag, si (n : Nat), sd (.list X), sd (.list Y), orsO n, sd (fst n), t, si at', F, .z, .z, .z, .z, .z, .z, .z, .z, .z, .z, .z]
def firm2 : List Int := [9, 10, 14]
def firm3 : List Int := [153, 154, 155, 156, 157, 158, 161, 162, 163, 164, 165, 166, 177, 178, 179, 180, 185, 186, 187, 188, 201, 202, 203, 204, 205, 206, 209, 210, 211, 212, 213, 214, 217, 218, 219, 220, 221, 222, 225, 226, 227, 228, 229, 230, 241, 242, 243, 244, 249, 250, 251, 252, 266, 267, 269, 270, 274, 275, 277, 278, 282, 283, 285, 286, 290, 291, 293, 294, 306, 307, 314, 315, 345, 346, 347, 348, 349, 350, 353, 354, 355, 356, 358, 369, 370, 371, 372, 378, 379, 380, 394, 395, 396, 397, 398, 401, 402, 403, 404, 405, 406, 409, 410, 411, 412, 413, 414, 417, 418, 419, 420, 421, 422, 433, 434, 435, 436, 441, 442, 443, 444, 458, 459, 462, 466, 467, 469, 470, 474, 475, 477, 478, 482, 483, 485, 486, 498, 499, 507]
def mapL (f : Int → Option (SE × Option (List SE))) : List Int → List (Option (SE × Option (List SE)))
  | [] => []
  | a :: l => f a :: mapL f l
theorem mapL_get {f : Int → Option (SE × Option (List SE))} {v : Option (SE × Option (List SE))} : ∀ (l : List Int), mapL f l = rep v l.length → ∀ i ∈ l, f i = v
  | [], _, i, h => absurd h (by simp)
  | a :: l, h, i, hi => by
    have h' : f a :: mapL f l = v :: rep v l.length := h
    rw [List.cons.injEq] at h'
    rcases List.mem_cons.mp hi with e | e
    · rw [e]; exact h'.1
    · exact mapL_get l h'.2 i e
def fp0 : List Int := [153, 154, 155, 156, 157, 158, 161, 162, 163, 164, 165, 166, 177, 178, 179, 180, 185, 186, 187, 188, 201, 202, 203, 204, 205, 206, 209, 210, 211, 212, 213, 214, 217, 218, 219]
theorem O3_0 (bag : OT) (F t : SE) : mapL (fun a => chkD preF postF (stO bag 3 X3 Y3 F t a)) fp0 = rep (some (t, some (stE bag 3 X3 Y3))) 35 := by kernel_rfl
def fp1 : List Int := [220, 221, 222, 225, 226, 227, 228, 229, 230, 241, 242, 243, 244, 249, 250, 251, 252, 266, 267, 269, 270, 274, 275, 277, 278, 282, 283, 285, 286, 290, 291, 293, 294, 306, 307]
theorem O3_1 (bag : OT) (F t : SE) : mapL (fun a => chkD preF postF (stO bag 3 X3 Y3 F t a)) fp1 = rep (some (t, some (stE bag 3 X3 Y3))) 35 := by kernel_rfl
def fp2 : List Int := [314, 315, 345, 346, 347, 348, 349, 350, 353, 354, 355, 356, 358, 369, 370, 371, 372, 378, 379, 380, 394, 395, 396, 397, 398, 401, 402, 403, 404, 405, 406, 409, 410, 411, 412]
theorem O3_2 (bag : OT) (F t : SE) : mapL (fun a => chkD preF postF (stO bag 3 X3 Y3 F t a)) fp2 = rep (some (t, some (stE bag 3 X3 Y3))) 35 := by kernel_rfl
def fp3 : List Int := [413, 414, 417, 418, 419, 420, 421, 422, 433, 434, 435, 436, 441, 442, 443, 444, 458, 459, 462, 466, 467, 469, 470, 474, 475, 477, 478, 482, 483, 485, 486, 498, 499, 507]
theorem O3_3 (bag : OT) (F t : SE) : mapL (fun a => chkD preF postF (stO bag 3 X3 Y3 F t a)) fp3 = rep (some (t, some (stE bag 3 X3 Y3))) 34 := by kernel_rfl
theorem O2_0 (bag : OT) (F t : SE) : mapL (fun a => chkD preF postF (stO bag 2 X2 Y2 F t a)) firm2 = rep (some (t, some (stE bag 2 X2 Y2))) 3 := by kernel_rfl
theorem fp_eq : firm3 = fp0 ++ fp1 ++ fp2 ++ fp3 := rfl
theorem O3 (bag : OT) (F t : SE) (i : Int) (h : i ∈ firm3) : chkD preD postD (stO bag 3 X3 Y3 F t i) = some (t, some (stE bag 3 X3 Y3)) := by
  rw [pre_eq, post_eq]
  rw [fp_eq] at h
  rcases List.mem_append.mp h with h | h
  rotate_left
  · exact mapL_get fp3 (O3_3 bag F t) i h
  rcases List.mem_append.mp h with h | h
  rotate_left
  · exact mapL_get fp2 (O3_2 bag F t) i h
  rcases List.mem_append.mp h with h | h
  rotate_left
  · exact mapL_get fp1 (O3_1 bag F t) i h
  exact mapL_get fp0 (O3_0 bag F t) i h
theorem O2 (bag : OT) (F t : SE) (i : Int) (h : i ∈ firm2) : chkD preD postD (stO bag 2 X2 Y2 F t i) = some (t, some (stE bag 2 X2 Y2)) := by
  rw [pre_eq, post_eq]
  exact mapL_get firm2 (O2_0 bag F t) i h
theorem firm2_in : ∀ i ∈ firm2, 0 ≤ i ∧ i < 16 := by decide
theorem firm3_in : ∀ i ∈ firm3, 0 ≤ i ∧ i < 512 := by decide +kernel
end Gemaingonethrou

/-! K45x -/
set_option Elab.async false
set_option linter.all false
set_option maxRecDepth 1000000
set_option maxHeartbeats 4000000
namespace Gemaingonethrou
open PySem PySem.Spec PyProof.Rows L2 Wk
/-! one call over three places; all calls over one and two -/
structure Gx (n m : Nat) (z : Int) (X Y : List PyData) : Prop where
  g : Gone n m z
  hX : (gone n).map li = X
  hY : ((gone n).map whenL).map .int = Y
def X1 : List PyData := [li [0], li [1]]
def Y1 : List PyData := [.int 0, .int 1]
theorem Gx1 : Gx 1 2 1 X1 Y1 := ⟨G1, by kernel_rfl, by kernel_rfl⟩
theorem Gx2 : Gx 2 3 2 X2 Y2 := ⟨G2, by kernel_rfl, by kernel_rfl⟩
theorem Gx3 : Gx 3 6 3 X3 Y3 := ⟨G3, by kernel_rfl, by kernel_rfl⟩
section
variable {n m : Nat} {z k : Int} {X Y : List PyData} (G : Gx n m z X Y)
include G
theorem Gx.told : sem_l_told_webs [.list X, .list Y, .int k] = some (D (toldD n k)) := by
  rw [← G.hX, ← G.hY]; exact G.g.r_told
theorem Gx.cntL : sem_l_counts [.int z, .list Y] = some (D (cntD n m)) := by
  rw [← G.hY]; exact G.g.r_cntL
theorem Gx.fewL (h1 : 1 ≤ k) (h2 : k ≤ 5) : sem_l_fewest [.list X, .list Y, .int k] = some (Wk.I (fewD n z k)) := by
  rw [← G.hX, ← G.hY]; exact G.g.r_fewL h1 h2
end
abbrev SM := List PyData → Option Wk.TO
abbrev SM1 := OT → List PyData → Option (OT × Wk.TO)
theorem w_great {s1 s3 s4 s5 s6 s7 s8 : SM} {s2 : SM1} {t0 t1 t2 t3 : OT} {X Y C T : PyData} {F x y w : Int}
    (e1 : s2 t0 [.int 5] = some (t1, Wk.I x)) (e2 : s2 t1 [.int 5] = some (t2, Wk.I y)) (e3 : s2 t2 [.int 2] = some (t3, Wk.I w))
    (f1 : s3 [.int 3] = some (D C)) (f2 : s4 [.int 3, Y] = some (D C)) (f3 : s1 [C, C] = some (Wk.B true))
    (f4 : s5 [.int 3, .int (1 + y)] = some (D T)) (f5 : s6 [X, Y, .int (1 + y)] = some (D T)) (f6 : s1 [T, T] = some (Wk.B true))
    (f7 : s7 [.int 3, .int (1 + y)] = some (Wk.I F)) (f8 : s8 [X, Y, .int (1 + y)] = some (Wk.I F)) (f9 : s1 [.int F, .int F] = some (Wk.B true)) :
    semEnd1 ((oSeq (oPar true [3, 4, 5] (kO1 (kCall1 1 0 s2 (kL1 (kI 5) kL0)) (kO1 (kOp false fAdd (kI 1) (kCall1 1 0 s2 (kL1 (kI 5) kL0))) (kO1 (kOp false fEq (kCall1 1 0 s2 (kL1 (kI 2) kL0)) (kI 0)) kO0)))) (oSeq (oIf (kT (kOp true fEq (kVar 3) (kI 0))) (oRet (kCall 2 s1 (kL1 (kIte (kT (kVar 5)) (kCall 1 s3 (kL1 (kI 3) kL0)) (kCall 1 s3 (kL1 (kI 3) kL0))) (kL1 (kCall 2 s4 (kL1 (kI 3) (kL1 (kVar 2) kL0))) kL0)))) oNx) (oSeq (oIf (kT (kOp true fLt (kVar 3) (kI 3))) (oSeq (oSet 6 (kIte (kT (kVar 5)) (kCall 2 s5 (kL1 (kI 3) (kL1 (kVarF 4) kL0))) (kCall 2 s5 (kL1 (kI 3) (kL1 (kVarF 4) kL0))))) (oRet (kCall 2 s1 (kL1 (kVarF 6) (kL1 (kCall 3 s6 (kL1 (kVar 1) (kL1 (kVar 2) (kL1 (kVarF 4) kL0)))) kL0))))) oNx) (oRet (kCall 2 s1 (kL1 (kIte (kT (kVar 5)) (kCall 2 s7 (kL1 (kI 3) (kL1 (kVarF 4) kL0))) (kCall 2 s7 (kL1 (kI 3) (kL1 (kVarF 4) kL0)))) (kL1 (kCall 3 s8 (kL1 (kVar 1) (kL1 (kVar 2) (kL1 (kVarF 4) kL0)))) kL0))))))) [.s true t0, sd X, sd Y, .z, .z, .z, .z]) = some (t3, Wk.B true) := by
  by_cases q1 : x = 0
  · by_cases q3 : w = 0
    · simp [e1, e2, e3, q1, q3, f1, f2, f3]
    · simp [e1, e2, e3, q1, q3, f1, f2, f3]
  · by_cases q2 : x < 3
    · by_cases q3 : w = 0
      · simp [e1, e2, e3, q1, q2, q3, f4, f5, f6]
      · simp [e1, e2, e3, q1, q2, q3, f4, f5, f6]
    · by_cases q3 : w = 0
      · simp [e1, e2, e3, q1, q2, q3, f7, f8, f9]
      · simp [e1, e2, e3, q1, q2, q3, f7, f8, f9]
theorem r_great {cells : List Int} {a b : Int} (h : BagOk cells a b) : ∃ c2 a2 b2, sem_l_is_great (bagT cells a b) [.list X3, .list Y3] = some (bagT c2 a2 b2, Wk.B true) ∧ BagOk c2 a2 b2 := by
  obtain ⟨c1, a1, b1, x, e1, o1, x0, x5⟩ := m_draw (below := 5) h (by decide) (by decide)
  obtain ⟨c2, a2, b2, y, e2, o2, y0, y5⟩ := m_draw (below := 5) o1 (by decide) (by decide)
  obtain ⟨c3, a3, b3, w, e3, o3, w0, w2⟩ := m_draw (below := 2) o2 (by decide) (by decide)
  refine ⟨c3, a3, b3, ?_, o3⟩
  have k1 : 1 ≤ 1 + y := by omega
  have k5 : 1 + y ≤ 5 := by omega
  have f1 := Gx3.g.r_cnt
  have f2 := Gx3.cntL
  have f3 := m_same2 Gx3.g.g_cnt
  have f4 := Gx3.g.r_webs k1
  have f5 := Gx3.told (k := 1 + y)
  have f6 := m_same2 (Gx3.g.g_told k1 k5)
  have f7 := Gx3.g.r_few (k := 1 + y)
  have f8 := Gx3.fewL k1 k5
  have f9 := m_same2 (Gx3.g.g_few k1 k5)
  have st : padS 7 (.s true (bagT cells a b) :: dS [.list X3, .list Y3]) = [.s true (bagT cells a b), sd (.list X3), sd (.list Y3), .z, .z, .z, .z] := rfl
  show semEnd1 (d_l_is_great (padS 7 (.s true (bagT cells a b) :: dS [.list X3, .list Y3]))) = _
  rw [st]
  unfold d_l_is_great
  exact w_great e1 e2 e3 f1 f2 f3 f4 f5 f6 f7 f8 f9
end Gemaingonethrou

/-! K45y -/
set_option Elab.async false
set_option linter.all false
set_option maxRecDepth 1000000
set_option maxHeartbeats 4000000
namespace Gemaingonethrou
open PySem PySem.Spec PyProof.Rows L2 Wk
/-! all calls over one and two places -/
theorem frz2 {a b : PyData} : frz (.w (.l [.d a, .d b])) = some (.list [a, b]) := rfl
theorem frz3 {a b c : PyData} : frz (.w (.l [.d a, .d b, .d c])) = some (.list [a, b, c]) := rfl
theorem z2L : 2 ≤ sizeLine := by decide
theorem z3L : 3 ≤ sizeLine := by decide
theorem w_small1 {s1 s5 s6 s7 s8 : SM} {t0 : OT} {z k F : Int} {X Y : PyData} {TL : List PyData} {E G : SE}
    (f4 : s5 [.int z, .int k] = some (D (.tuple TL))) (f5 : s6 [X, Y, .int k] = some (D (.tuple TL)))
    (f7 : s7 [.int z, .int k] = some (Wk.I F)) (f8 : s8 [X, Y, .int k] = some (Wk.I F)) (f9 : s1 [.list [.tuple TL, .int F], .list [.tuple TL, .int F]] = some (Wk.B true)) :
    (oSeq (oPar true [7, 8] (kO1 (kCall 3 s6 (kL1 (kVar 2) (kL1 (kVar 3) (kL1 (kVar 6) kL0)))) (kO1 (kCall 3 s8 (kL1 (kVar 2) (kL1 (kVar 3) (kL1 (kVar 6) kL0)))) kO0))) (oIf (kNot (kT (kCall 2 s1 (kL1 (kLst (kO1 (kCall 2 s5 (kL1 (kVar 1) (kL1 (kVar 6) kL0))) (kO1 (kCall 2 s7 (kL1 (kVar 1) (kL1 (kVar 6) kL0))) kO0))) (kL1 (kLst (kO1 (kVarF 7) (kO1 (kVarF 8) kO0))) kL0))))) (oRet (kB false)) oNx)) [.s true t0, si z, sd X, sd Y, E, G, si k, .z, .z] = some (.nx [.s true t0, si z, sd X, sd Y, E, G, si k, sd (.tuple TL), si F]) := by
  simp [f4, f5, f7, f8, f9, frz2, z2L]
theorem w_small {s1 s3 s4 s5 s6 s7 s8 : SM} {s2 : SM1} {t0 t1 : OT} {z x F : Int} {X Y : PyData} {C TL : List PyData}
    (e1 : s2 t0 [.int 5] = some (t1, Wk.I x))
    (f1 : s3 [.int z] = some (D (.tuple C))) (f2 : s4 [.int z, Y] = some (D (.tuple C))) (f3 : s1 [.list [.tuple C, .tuple C], .list [.tuple C, .tuple C]] = some (Wk.B true))
    (f4 : s5 [.int z, .int (1 + x)] = some (D (.tuple TL))) (f5 : s6 [X, Y, .int (1 + x)] = some (D (.tuple TL)))
    (f7 : s7 [.int z, .int (1 + x)] = some (Wk.I F)) (f8 : s8 [X, Y, .int (1 + x)] = some (Wk.I F)) (f9 : s1 [.list [.tuple TL, .int F], .list [.tuple TL, .int F]] = some (Wk.B true))
    (l : forL true (.n 6) [6, 7, 8] b_l_are_small_1 (ups 1 5) [.s true t1, si z, sd X, sd Y, sd (.tuple C), si (1 + x), .z, .z, .z] = some (.nx [.s true t1, si z, sd X, sd Y, sd (.tuple C), si (1 + x), .z, .z, .z]))
    (m1 : sm 1 = true) (m6 : sm 6 = true) :
    semEnd1 ((oSeq (oPar true [4, 5] (kO1 (kCall 2 s4 (kL1 (kVar 1) (kL1 (kVar 3) kL0))) (kO1 (kOp false fAdd (kI 1) (kCall1 1 0 s2 (kL1 (kI 5) kL0))) kO0))) (oSeq (oIf (kNot (kT (kCall 2 s1 (kL1 (kLst (kO1 (kCall 1 s3 (kL1 (kVar 1) kL0)) (kO1 (kCall 1 s3 (kL1 (kVar 1) kL0)) kO0))) (kL1 (kLst (kO1 (kVarF 4) (kO1 (kVarF 4) kO0))) kL0))))) (oRet (kB false)) oNx) (oSeq (oFor true (.n 6) [6, 7, 8] (iRange2 (kI 1) (kI 6)) b_l_are_small_1) (oSeq (oPar true [7, 8] (kO1 (kCall 3 s6 (kL1 (kVar 2) (kL1 (kVar 3) (kL1 (kVarF 5) kL0)))) (kO1 (kCall 3 s8 (kL1 (kVar 2) (kL1 (kVar 3) (kL1 (kVarF 5) kL0)))) kO0))) (oRet (kCall 2 s1 (kL1 (kLst (kO1 (kCall 2 s5 (kL1 (kVar 1) (kL1 (kVarF 5) kL0))) (kO1 (kCall 2 s7 (kL1 (kVar 1) (kL1 (kVarF 5) kL0))) kO0))) (kL1 (kLst (kO1 (kVarF 7) (kO1 (kVarF 8) kO0))) kL0)))))))) [.s true t0, si z, sd X, sd Y, .z, .z, .z, .z, .z]) = some (t1, Wk.B true) := by
  simp [e1, f1, f2, f3, f4, f5, f7, f8, f9, l, m1, m6, frz2, z2L]
section
variable {n m : Nat} {z : Int} {X Y : List PyData} (G : Gx n m z X Y) (gp : ∀ k : Int, 1 ≤ k → k ≤ 5 → goodD (.list [toldD n k, .int (fewD n z k)]) = true)
include G gp
theorem b_small {t0 : OT} {E H : SE} {k : Int} (h1 : 1 ≤ k) (h2 : k ≤ 5) : b_l_are_small_1 [.s true t0, si z, sd (.list X), sd (.list Y), E, H, si k, .z, .z] = some (.nx [.s true t0, si z, sd (.list X), sd (.list Y), E, H, si k, sd (toldD n k), si (fewD n z k)]) := by
  unfold b_l_are_small_1
  exact w_small1 (G.g.r_webs h1) G.told G.g.r_few (G.fewL h1 h2) (m_same2 (gp k h1 h2))
theorem l_small {t0 : OT} {E H : SE} : ∀ (j : Nat) (k : Int), 1 ≤ k → k + j ≤ 6 → forL true (.n 6) [6, 7, 8] b_l_are_small_1 (ups k j) [.s true t0, si z, sd (.list X), sd (.list Y), E, H, .z, .z, .z] = some (.nx [.s true t0, si z, sd (.list X), sd (.list Y), E, H, .z, .z, .z])
  | 0, k, _, _ => rfl
  | j + 1, k, h1, h2 => by
    have t1 : tgS true (.n 6) (.int k) [.s true t0, si z, sd (.list X), sd (.list Y), E, H, .z, .z, .z] = some [.s true t0, si z, sd (.list X), sd (.list Y), E, H, si k, .z, .z] := rfl
    rw [ups_succ, forL_nx t1 (b_small G gp h1 (by omega))]
    exact l_small j (k + 1) (by omega) (by omega)
theorem r_small {cells : List Int} {a b : Int} (gc : goodD (.list [cntD n m, cntD n m]) = true) (h : BagOk cells a b) : ∃ c2 a2 b2, sem_l_are_small (bagT cells a b) [.int z, .list X, .list Y] = some (bagT c2 a2 b2, Wk.B true) ∧ BagOk c2 a2 b2 := by
  obtain ⟨c1, a1, b1, x, e1, o1, x0, x5⟩ := m_draw (below := 5) h (by decide) (by decide)
  refine ⟨c1, a1, b1, ?_, o1⟩
  have k1 : 1 ≤ 1 + x := by omega
  have k5 : 1 + x ≤ 5 := by omega
  have st : padS 9 (.s true (bagT cells a b) :: dS [.int z, .list X, .list Y]) = [.s true (bagT cells a b), si z, sd (.list X), sd (.list Y), .z, .z, .z, .z, .z] := rfl
  show semEnd1 (d_l_are_small (padS 9 (.s true (bagT cells a b) :: dS [.int z, .list X, .list Y]))) = _
  rw [st]
  unfold d_l_are_small
  exact w_small e1 G.g.r_cnt G.cntL (m_same2 gc) (G.g.r_webs k1) G.told G.g.r_few (G.fewL k1 k5) (m_same2 (gp _ k1 k5)) (l_small G gp 5 1 (by omega) (by omega)) (by decide) (by decide)
end
theorem gp1 : ∀ k : Int, 1 ≤ k → k ≤ 5 → goodD (.list [toldD 1 k, .int (fewD 1 1 k)]) = true := k5 (by kernel_rfl) (by kernel_rfl) (by kernel_rfl) (by kernel_rfl) (by kernel_rfl)
theorem gp2 : ∀ k : Int, 1 ≤ k → k ≤ 5 → goodD (.list [toldD 2 k, .int (fewD 2 2 k)]) = true := k5 (by kernel_rfl) (by kernel_rfl) (by kernel_rfl) (by kernel_rfl) (by kernel_rfl)
theorem gc1 : goodD (.list [cntD 1 2, cntD 1 2]) = true := by kernel_rfl
theorem gc2 : goodD (.list [cntD 2 3, cntD 2 3]) = true := by kernel_rfl
end Gemaingonethrou

/-! K45v -/
set_option Elab.async false
set_option linter.all false
set_option maxRecDepth 1000000
set_option maxHeartbeats 4000000
namespace Gemaingonethrou
open PySem PySem.Spec PyProof.Rows L2 Wk
/-! drawn webs -/
def restD : DS := (oSeq (oPar true [9, 10] (kO1 (kCall 1 sem_l_web (kL1 (kOp true fIx (kVar 2) (kVar 7)) kL0)) (kO1 (kLst kO0) kO0))) (oSeq (oFor true (.t [11, 12]) [11, 12] (iEnum (kVarF 9)) b_l_are_drawn_4) (oSeq (oSet 13 (kComp [19] (.n 19) (iSeq (kVarF 4)) t_l_are_drawn_2 e_l_are_drawn_1)) (oSeq (oSet 14 (kLst (kO1 (kIte (kT (kOp true fGt (kOp true fIx (kVar 3) (kVar 7)) (kI 0))) (kOp true fIx (kVar 3) (kVar 7)) kN) (kO1 (kIte (kT (kOp true fNe (kVar 13) (kLst kO0))) (kOp true fIx (kVar 13) (kI 0)) kN) (kO1 (kF fTuple (kVar 10)) (kO1 (kVarF 9) kO0)))))) (oSeq (oIf (kT (kOp true fEq (kVar 6) (kI 0))) (oSet 15 (kLst (kO1 (kCall 1 sem_from_when (kL1 (kVarF 9) kL0)) (kO1 (kCall 1 sem_latest_order (kL1 (kVarF 9) kL0)) (kO1 (kCall 1 sem_arrows_of (kL1 (kVarF 9) kL0)) (kO1 (kVarF 9) kO0)))))) (oSet 15 (kLst (kO1 (kCall 1 sem_from_when (kL1 (kVarF 9) kL0)) (kO1 (kCall 1 sem_latest_order (kL1 (kVarF 9) kL0)) (kO1 (kCall 1 sem_arrows_of (kL1 (kVarF 9) kL0)) (kO1 (kVarF 9) kO0))))))) (oIf (kNot (kT (kCall 2 sem_l_same (kL1 (kVarF 15) (kL1 (kVarF 14) kL0))))) (oRet (kB false)) oNx))))))
def ifD : DS := (oIf (kT (kOp true fEq (kVar 6) (kI 0))) (oSet 15 (kLst (kO1 (kCall 1 sem_from_when (kL1 (kVarF 9) kL0)) (kO1 (kCall 1 sem_latest_order (kL1 (kVarF 9) kL0)) (kO1 (kCall 1 sem_arrows_of (kL1 (kVarF 9) kL0)) (kO1 (kVarF 9) kO0)))))) (oSet 15 (kLst (kO1 (kCall 1 sem_from_when (kL1 (kVarF 9) kL0)) (kO1 (kCall 1 sem_latest_order (kL1 (kVarF 9) kL0)) (kO1 (kCall 1 sem_arrows_of (kL1 (kVarF 9) kL0)) (kO1 (kVarF 9) kO0)))))))
def lastD : DS := (oIf (kNot (kT (kCall 2 sem_l_same (kL1 (kVarF 15) (kL1 (kVarF 14) kL0))))) (oRet (kB false)) oNx)
theorem oSeq_assoc (a b c : DS) : oSeq (oSeq a b) c = oSeq a (oSeq b c) := by
  funext es
  show (match (match a es with | some (.nx es1) => b es1 | r => r) with | some (.nx es1) => c es1 | r => r) = (match a es with | some (.nx es1) => (match b es1 with | some (.nx es1) => c es1 | r => r) | r => r)
  cases a es with
  | none => rfl
  | some oc => cases oc <;> rfl
theorem rest_split : restD = oSeq preD (oSeq ifD lastD) := by
  unfold preD
  rw [oSeq_assoc, oSeq_assoc, oSeq_assoc]; rfl
theorem oIf_same {t : DB} {a : DS} {es : List SE} {b : Bool} (h : t es = some (es, b)) : oIf t a a es = a es := by
  show (t es).bind _ = _
  rw [h]
  show (if b = true then a es else a es) = _
  rw [ite_self]
theorem rest_of {st v : List SE} {t : Int} (h : chkD preD postD st = some (si t, some v)) : ∃ es, restD st = some (.nx es) ∧ kill ks6 es = v := by
  unfold chkD at h
  split at h
  · next es1 h1 =>
    rw [Option.some.injEq, Prod.mk.injEq] at h
    obtain ⟨g, h⟩ := h
    unfold nxk at h
    split at h
    · next es2 h2 =>
      rw [Option.some.injEq] at h
      refine ⟨es2, ?_, h⟩
      rw [rest_split, oSeq_nx h1]
      have q : ifD es1 = (oSet 15 (kLst (kO1 (kCall 1 sem_from_when (kL1 (kVarF 9) kL0)) (kO1 (kCall 1 sem_latest_order (kL1 (kVarF 9) kL0)) (kO1 (kCall 1 sem_arrows_of (kL1 (kVarF 9) kL0)) (kO1 (kVarF 9) kO0)))))) es1 := oIf_same (b := decide (t = 0)) (by simp [g])
      show (match ifD es1 with | some (.nx es1) => lastD es1 | r => r) = _
      rw [q]
      exact h2
    · cases h
  · cases h
theorem w_head1 {s9 s2 : SM1} {R : DS} {t0 t1 t2 : OT} {z t at0 p : Int} {X Y FL : List PyData} {o4 f : SE} (e1 : s2 t0 [.int (X.length : Nat)] = some (t1, Wk.I at0))
    (c : compL [16, 17] (.t [16, 17]) t_l_are_drawn_5 (kVar 16) (nums 0 Y) [.s true t1, si z, sd (.list X), sd (.list Y), o4, f, si t, si at0, .z, .z, .z, .z, .z, .z, .z, .z, .z, .z, .z, .z] [] = some ([.s true t1, si z, sd (.list X), sd (.list Y), o4, f, si t, si at0, .z, .z, .z, .z, .z, .z, .z, .z, .z, .z, .z, .z], FL.map .d))
    (pk : s9 t1 [.list FL] = some (t2, Wk.I p)) (ht : t < 3) :
    (oSeq (oSet 7 (kCall1 1 0 s2 (kL1 (kF fLen (kVar 2)) kL0))) (oSeq (oSet 8 (kComp [16, 17] (.t [16, 17]) (iEnum (kVar 3)) t_l_are_drawn_5 (kVar 16))) (oSeq (oSet 7 (kIte (kT (kOp true fLt (kVar 6) (kI 3))) (kCall1 1 0 s9 (kL1 (kVarF 8) kL0)) (kVarF 7))) R))) [.s true t0, si z, sd (.list X), sd (.list Y), o4, f, si t, .z, .z, .z, .z, .z, .z, .z, .z, .z, .z, .z, .z, .z] = R [.s true t2, si z, sd (.list X), sd (.list Y), o4, f, si t, si p, sd (.list FL), .z, .z, .z, .z, .z, .z, .z, .z, .z, .z, .z] := by
  simp [e1, c, pk, ht]
theorem w_head2 {s9 s2 : SM1} {R : DS} {t0 t1 : OT} {z t at0 : Int} {X Y FL : List PyData} {o4 f : SE} (e1 : s2 t0 [.int (X.length : Nat)] = some (t1, Wk.I at0))
    (c : compL [16, 17] (.t [16, 17]) t_l_are_drawn_5 (kVar 16) (nums 0 Y) [.s true t1, si z, sd (.list X), sd (.list Y), o4, f, si t, si at0, .z, .z, .z, .z, .z, .z, .z, .z, .z, .z, .z, .z] [] = some ([.s true t1, si z, sd (.list X), sd (.list Y), o4, f, si t, si at0, .z, .z, .z, .z, .z, .z, .z, .z, .z, .z, .z, .z], FL.map .d))
    (ht : ¬ t < 3) :
    (oSeq (oSet 7 (kCall1 1 0 s2 (kL1 (kF fLen (kVar 2)) kL0))) (oSeq (oSet 8 (kComp [16, 17] (.t [16, 17]) (iEnum (kVar 3)) t_l_are_drawn_5 (kVar 16))) (oSeq (oSet 7 (kIte (kT (kOp true fLt (kVar 6) (kI 3))) (kCall1 1 0 s9 (kL1 (kVarF 8) kL0)) (kVarF 7))) R))) [.s true t0, si z, sd (.list X), sd (.list Y), o4, f, si t, .z, .z, .z, .z, .z, .z, .z, .z, .z, .z, .z, .z, .z] = R [.s true t1, si z, sd (.list X), sd (.list Y), o4, f, si t, si at0, .s false (oL FL), .z, .z, .z, .z, .z, .z, .z, .z, .z, .z, .z] := by
  simp [e1, c, ht]
/-- the numbers of the firm ones -/
def prI : Nat → List Int → List (Nat × Int)
  | _, [] => []
  | i, r :: l => (i, r) :: prI (i + 1) l
theorem prI_len : ∀ (l : List Int) (i : Nat), (prI i l).length = l.length
  | [], _ => rfl
  | _ :: l, i => congrArg (· + 1) (prI_len l (i + 1))
theorem nums_prI : ∀ (l : List Int) (i : Nat), nums i (l.map .int) = (prI i l).map fun p => PyData.tuple [.int p.1, .int p.2]
  | [], _ => rfl
  | r :: l, i => by
    rw [List.map_cons, nums_cons, nums_prI l (i + 1)]; rfl
def firmD (ws : List Int) : List PyData := (prI 0 ws).filterMap fun p => if 0 < p.2 then some (PyData.int (p.1 : Nat)) else none
theorem firm_comp {t1 : OT} {z t at0 : Int} {X Y : List PyData} {ws : List Int} {o4 f : SE} (hY : Y = ws.map .int) (hl : ws.length ≤ 1000) :
    compL [16, 17] (.t [16, 17]) t_l_are_drawn_5 (kVar 16) (nums 0 Y) [.s true t1, si z, sd (.list X), sd (.list Y), o4, f, si t, si at0, .z, .z, .z, .z, .z, .z, .z, .z, .z, .z, .z, .z] [] = some ([.s true t1, si z, sd (.list X), sd (.list Y), o4, f, si t, si at0, .z, .z, .z, .z, .z, .z, .z, .z, .z, .z, .z, .z], (firmD ws).map .d) := by
  have c := compL_fmM (vs := [16, 17]) (T := .t [16, 17]) (t := t_l_are_drawn_5) (d := kVar 16) (es := [.s true t1, si z, sd (.list X), sd (.list Y), o4, f, si t, si at0, .z, .z, .z, .z, .z, .z, .z, .z, .z, .z, .z, .z]) (fun p : Nat × Int => PyData.tuple [.int p.1, .int p.2]) (fun p => if 0 < p.2 then some (PyData.int (p.1 : Nat)) else none) (prI 0 ws) [] (fun p hp => by
    refine ⟨[.s true t1, si z, sd (.list X), sd (.list Y), o4, f, si t, si at0, .z, .z, .z, .z, .z, .z, .z, .z, si (p.1 : Nat), si p.2, .z, .z], rfl, ?_⟩
    by_cases q : 0 < p.2
    · simp only [if_pos q]
      exact ⟨[.s true t1, si z, sd (.list X), sd (.list Y), o4, f, si t, si at0, .z, .z, .z, .z, .z, .z, .z, .z, si (p.1 : Nat), si p.2, .z, .z], [.s true t1, si z, sd (.list X), sd (.list Y), o4, f, si t, si at0, .z, .z, .z, .z, .z, .z, .z, .z, si (p.1 : Nat), si p.2, .z, .z], by simp [t_l_are_drawn_5, q], by simp, rfl⟩
    · simp only [if_neg q]
      exact ⟨[.s true t1, si z, sd (.list X), sd (.list Y), o4, f, si t, si at0, .z, .z, .z, .z, .z, .z, .z, .z, si (p.1 : Nat), si p.2, .z, .z], by simp [t_l_are_drawn_5, q], rfl⟩) (by rw [prI_len]; simpa using sz1000 hl)
  simp only [List.map_nil, List.nil_append] at c
  rw [← nums_prI] at c
  rw [hY]
  rw [hY] at c
  exact c
end Gemaingonethrou

/-! K45v2 -/
set_option Elab.async false
set_option linter.all false
set_option maxRecDepth 1000000
set_option maxHeartbeats 4000000
namespace Gemaingonethrou
open PySem PySem.Spec PyProof.Rows L2 Wk
def stB (bag : OT) (n : Nat) (X Y : List PyData) (o4 : SE) (t : SE) : List SE := [.s true bag, si (n : Nat), sd (.list X), sd (.list Y), o4, sd (fst n), t, .z, .z, .z, .z, .z, .z, .z, .z, .z, .z, .z, .z, .z]
def stP (bag : OT) (n : Nat) (X Y : List PyData) (o4 : SE) (t : SE) (p : SE) (F : SE) : List SE := [.s true bag, si (n : Nat), sd (.list X), sd (.list Y), o4, sd (fst n), t, p, F, .z, .z, .z, .z, .z, .z, .z, .z, .z, .z, .z]
theorem t_pick {n : Nat} {X Y : List PyData} {o4 : SE} {ws FL : List Int} {t : Int} (hX1 : 1 ≤ X.length) (hX2 : X.length ≤ 1000) (hY : Y = ws.map .int) (hl : ws.length ≤ 1000) (hF : firmD ws = FL.map .int) (hF1 : FL ≠ []) (hF2 : FL.length ≤ 1000) (ht : t < 3)
    (ck : ∀ (bag : OT) (F : SE) (p : Int), p ∈ FL → chkD preD postD (stP bag n X Y o4 (si t) (si p) F) = some (si t, some (stE bag n X Y)))
    {cells : List Int} {a b : Int} (h : BagOk cells a b) : ∃ c2 a2 b2 es, b_l_are_drawn_6 (stB (bagT cells a b) n X Y o4 (si t)) = some (.nx es) ∧ kill ks6 es = stE (bagT c2 a2 b2) n X Y ∧ BagOk c2 a2 b2 := by
  obtain ⟨c1, a1, b1, x, e1, o1, x0, x1⟩ := m_draw (below := (X.length : Nat)) h (by omega) (by omega)
  obtain ⟨c2, a2, b2, i, hi, e2, o2⟩ := m_pick (ds := FL.map .int) o1 (by simpa using hF1) (by rw [List.length_map]; omega)
  rw [List.getElem_map] at e2
  have hi' : i < FL.length := by rw [List.length_map] at hi; exact hi
  have c := firm_comp (t1 := bagT c1 a1 b1) (z := (n : Nat)) (t := t) (at0 := x) (X := X) (o4 := o4) (f := sd (fst n)) hY hl
  rw [hF] at c
  obtain ⟨es, r1, r2⟩ := rest_of (ck (bagT c2 a2 b2) (sd (.list (FL.map .int))) FL[i] (List.getElem_mem hi'))
  refine ⟨c2, a2, b2, es, ?_, r2, o2⟩
  have w := w_head1 (R := restD) e1 c e2 ht
  unfold b_l_are_drawn_6
  exact w.trans r1
theorem t_free {n : Nat} {X Y : List PyData} {o4 : SE} {ws : List Int} {t : Int} (hX1 : 1 ≤ X.length) (hX2 : X.length ≤ 1000) (hY : Y = ws.map .int) (hl : ws.length ≤ 1000) (ht : ¬ t < 3)
    (ck : ∀ (bag : OT) (F : SE) (p : Int), 0 ≤ p → p < (X.length : Nat) → chkD preD postD (stP bag n X Y o4 (si t) (si p) F) = some (si t, some (stE bag n X Y)))
    {cells : List Int} {a b : Int} (h : BagOk cells a b) : ∃ c2 a2 b2 es, b_l_are_drawn_6 (stB (bagT cells a b) n X Y o4 (si t)) = some (.nx es) ∧ kill ks6 es = stE (bagT c2 a2 b2) n X Y ∧ BagOk c2 a2 b2 := by
  obtain ⟨c1, a1, b1, x, e1, o1, x0, x1⟩ := m_draw (below := (X.length : Nat)) h (by omega) (by omega)
  have c := firm_comp (t1 := bagT c1 a1 b1) (z := (n : Nat)) (t := t) (at0 := x) (X := X) (o4 := o4) (f := sd (fst n)) hY hl
  obtain ⟨es, r1, r2⟩ := rest_of (ck (bagT c1 a1 b1) (.s false (oL (firmD ws))) x x0 x1)
  refine ⟨c1, a1, b1, es, ?_, r2, o1⟩
  have w := w_head2 (s9 := sem_l_pick) (R := restD) e1 c ht
  unfold b_l_are_drawn_6
  exact w.trans r1
theorem r_drawnG {n : Nat} {X Y : List PyData} {ws FL : List Int} (hX1 : 1 ≤ X.length) (hX2 : X.length ≤ 1000) (hY : Y = ws.map .int) (hl : ws.length ≤ 1000) (hF : firmD ws = FL.map .int) (hF1 : FL ≠ []) (hF2 : FL.length ≤ 1000)
    (hin : ∀ i ∈ FL, 0 ≤ i ∧ i < (X.length : Nat))
    (ck0 : ∀ (bag : OT) (F t : SE) (p : Int), p ∈ FL → chkD preD postD (stO bag n X Y F t p) = some (t, some (stE bag n X Y)))
    (ck : ∀ (bag : OT) (F t : SE) (p : Int), 0 ≤ p → p < (X.length : Nat) → chkD preD postD (stD bag n X Y F t p) = some (t, some (stE bag n X Y)))
    (first : ∀ bag : OT, (oPar true [4, 5] (kO1 (kCall 1 sem_l_orders (kL1 (kVar 1) kL0)) (kO1 (kOp true fIx (kD (kLst (kO1 (kLst (kO1 (kI 0) kO0)) (kO1 (kLst (kO1 (kI 2) (kO1 (kI 3) kO0))) (kO1 (kLst (kO1 (kI 2) (kO1 (kI 4) (kO1 (kI 3) kO0)))) kO0))))) (kOp true fSub (kVar 1) (kI 1))) kO0))) [.s true bag, si (n : Nat), sd (.list X), sd (.list Y), .z, .z, .z, .z, .z, .z, .z, .z, .z, .z, .z, .z, .z, .z, .z, .z] = some (.nx (stB bag n X Y (orsO n) .z)))
    {cells : List Int} {a b : Int} (h : BagOk cells a b) : ∃ c2 a2 b2, sem_l_are_drawn (bagT cells a b) [.int (n : Nat), .list X, .list Y] = some (bagT c2 a2 b2, Wk.B true) ∧ BagOk c2 a2 b2 := by
  have tg : ∀ (bag : OT) (o4 : SE) (t : Int), tgS true (.n 6) (.int t) (stB bag n X Y o4 .z) = some (stB bag n X Y o4 (si t)) := fun _ _ _ => rfl
  have sE : ∀ bag : OT, stE bag n X Y = stB bag n X Y (sd (ors n)) .z := fun _ => rfl
  obtain ⟨c1, a1, b1, es1, p1, q1, o1⟩ := t_pick (n := n) (o4 := orsO n) (t := 0) hX1 hX2 hY hl hF hF1 hF2 (by decide) (fun bag F p hp => ck0 bag F (si 0) p hp) h
  obtain ⟨c2, a2, b2, es2, p2, q2, o2⟩ := t_pick (n := n) (o4 := sd (ors n)) (t := 1) hX1 hX2 hY hl hF hF1 hF2 (by decide) (fun bag F p hp => ck bag F (si 1) p (hin p hp).1 (hin p hp).2) o1
  obtain ⟨c3, a3, b3, es3, p3, q3, o3⟩ := t_pick (n := n) (o4 := sd (ors n)) (t := 2) hX1 hX2 hY hl hF hF1 hF2 (by decide) (fun bag F p hp => ck bag F (si 2) p (hin p hp).1 (hin p hp).2) o2
  obtain ⟨c4, a4, b4, es4, p4, q4, o4⟩ := t_free (n := n) (o4 := sd (ors n)) (t := 3) hX1 hX2 hY hl (by decide) (fun bag F p hp => ck bag F (si 3) p hp) o3
  obtain ⟨c5, a5, b5, es5, p5, q5, o5⟩ := t_free (n := n) (o4 := sd (ors n)) (t := 4) hX1 hX2 hY hl (by decide) (fun bag F p hp => ck bag F (si 4) p hp) o4
  refine ⟨c5, a5, b5, ?_, o5⟩
  have u : ups 0 5 = [.int 0, .int 1, .int 2, .int 3, .int 4] := rfl
  have l : forL true (.n 6) ks6 b_l_are_drawn_6 (ups 0 5) (stB (bagT cells a b) n X Y (orsO n) .z) = some (.nx (stB (bagT c5 a5 b5) n X Y (sd (ors n)) .z)) := by
    rw [u, forL_nx (tg _ _ 0) p1, q1, sE, forL_nx (tg _ _ 1) p2, q2, sE, forL_nx (tg _ _ 2) p3, q3, sE, forL_nx (tg _ _ 3) p4, q4, sE, forL_nx (tg _ _ 4) p5, q5, sE, forL_nil]
  have st : padS 20 (.s true (bagT cells a b) :: dS [.int (n : Nat), .list X, .list Y]) = [.s true (bagT cells a b), si (n : Nat), sd (.list X), sd (.list Y), .z, .z, .z, .z, .z, .z, .z, .z, .z, .z, .z, .z, .z, .z, .z, .z] := rfl
  show semEnd1 (d_l_are_drawn (padS 20 (.s true (bagT cells a b) :: dS [.int (n : Nat), .list X, .list Y]))) = _
  rw [st]
  unfold d_l_are_drawn
  rw [oSeq_nx (first (bagT cells a b))]
  have f : oFor true (.n 6) [6, 7, 8, 9, 10, 11, 12, 13, 14, 15] (iRange1 (kI 5)) b_l_are_drawn_6 (stB (bagT cells a b) n X Y (orsO n) .z) = some (.nx (stB (bagT c5 a5 b5) n X Y (sd (ors n)) .z)) := by
    have s5 : sm 5 = true := by decide
    have g : oFor true (.n 6) [6, 7, 8, 9, 10, 11, 12, 13, 14, 15] (iRange1 (kI 5)) b_l_are_drawn_6 (stB (bagT cells a b) n X Y (orsO n) .z) = forL true (.n 6) ks6 b_l_are_drawn_6 (ups 0 5) (stB (bagT cells a b) n X Y (orsO n) .z) := by
      simp only [oFor, iRange1, i1, kI, Option.bind_some, s5, if_true, Option.map_some]
      rfl
    rw [g, l]
  rw [oSeq_nx f]
  rfl
theorem r_drawn3 {cells : List Int} {a b : Int} (h : BagOk cells a b) : ∃ c2 a2 b2, sem_l_are_drawn (bagT cells a b) [.int 3, .list X3, .list Y3] = some (bagT c2 a2 b2, Wk.B true) ∧ BagOk c2 a2 b2 := by
  have len : X3.length = 512 := by kernel_rfl
  exact r_drawnG (n := 3) (ws := whensL3) (FL := firm3) (by rw [len]; decide) (by rw [len]; decide) (by kernel_rfl) (by decide +kernel) (by kernel_rfl) (by decide) (by decide +kernel) (fun i hi => by rw [len]; exact firm3_in i hi)
    (fun bag F t p hp => O3 bag F t p hp) (fun bag F t p h0 h1 => D3 bag F t p h0 (by rw [len] at h1; exact h1)) (fun bag => by kernel_rfl) h
theorem r_drawn2 {cells : List Int} {a b : Int} (h : BagOk cells a b) : ∃ c2 a2 b2, sem_l_are_drawn (bagT cells a b) [.int 2, .list X2, .list Y2] = some (bagT c2 a2 b2, Wk.B true) ∧ BagOk c2 a2 b2 := by
  have len : X2.length = 16 := by kernel_rfl
  exact r_drawnG (n := 2) (ws := whensL2) (FL := firm2) (by rw [len]; decide) (by rw [len]; decide) (by kernel_rfl) (by decide +kernel) (by kernel_rfl) (by decide) (by decide +kernel) (fun i hi => by rw [len]; exact firm2_in i hi)
    (fun bag F t p hp => O2 bag F t p hp) (fun bag F t p h0 h1 => D2 bag F t p h0 (by rw [len] at h1; exact h1)) (fun bag => by kernel_rfl) h
end Gemaingonethrou

/-! K45w -/
set_option Elab.async false
set_option linter.all false
set_option maxRecDepth 1000000
set_option maxHeartbeats 4000000
namespace Gemaingonethrou
open PySem PySem.Spec PyProof.Rows L2 Wk
/-! the latest ones -/
def lRest : DS := (oSeq (oSet 10 (kCall 1 sem_l_web (kL1 (kCall 2 sem_l_led (kL1 (kVar 5) (kL1 (kVar 9) kL0))) kL0))) (oSeq (oSet 11 (kIte (kT (kOp true fEq (kVar 8) (kI 0))) (kCall 2 sem_names_led (kL1 (kCall 1 sem_l_web (kL1 (kVar 5) kL0)) (kL1 (kVar 9) kL0))) (kCall 2 sem_names_led (kL1 (kCall 1 sem_l_web (kL1 (kVar 5) kL0)) (kL1 (kVar 9) kL0))))) (oSeq (oSet 12 (kIte (kT (kOp true fEq (kVar 8) (kI 0))) (kCall 1 sem_latest_order (kL1 (kVarF 10) kL0)) (kCall 1 sem_latest_order (kL1 (kVarF 10) kL0)))) (oIf (kNot (kT (kCall 2 sem_l_same (kL1 (kLst (kO1 (kVarF 11) (kO1 (kVarF 12) (kO1 (kCall 1 sem_from_when (kL1 (kVarF 10) kL0)) kO0)))) (kL1 (kLst (kO1 (kVarF 10) (kO1 (kVar 9) (kO1 (kVar 4) kO0)))) kL0))))) (oRet (kB false)) oNx))))
def lRestF : DS := (oSeq (oSet 10 (kCall 1 webF (kL1 (kCall 2 sem_l_led (kL1 (kVar 5) (kL1 (kVar 9) kL0))) kL0))) (oSeq (oSet 11 (kIte (kT (kOp true fEq (kVar 8) (kI 0))) (kCall 2 sem_names_led (kL1 (kCall 1 webF (kL1 (kVar 5) kL0)) (kL1 (kVar 9) kL0))) (kCall 2 sem_names_led (kL1 (kCall 1 webF (kL1 (kVar 5) kL0)) (kL1 (kVar 9) kL0))))) (oSeq (oSet 12 (kIte (kT (kOp true fEq (kVar 8) (kI 0))) (kCall 1 sem_latest_order (kL1 (kVarF 10) kL0)) (kCall 1 sem_latest_order (kL1 (kVarF 10) kL0)))) (oIf (kNot (kT (kCall 2 sameF (kL1 (kLst (kO1 (kVarF 11) (kO1 (kVarF 12) (kO1 (kCall 1 whenF (kL1 (kVarF 10) kL0)) kO0)))) (kL1 (kLst (kO1 (kVarF 10) (kO1 (kVar 9) (kO1 (kVar 4) kO0)))) kL0))))) (oRet (kB false)) oNx))))
theorem lRest_eq : lRest = lRestF := by unfold lRest lRestF; rw [same_eq, when_eq, web_eq]
def lateN (n : Nat) : Int := if n = 2 then 2 else 5
def ledN (n : Nat) : List (List Int) := if n = 2 then [[2, 3], [3, 1]] else [[2, 4, 3], [4, 5, 2], [4, 1, 3], [6, 4, 1], [2, 5, 1], [6, 1, 2]]
def latN (n : Nat) : List (List Int) := if n = 2 then [[3, 1], [2, 3]] else [[2, 5, 1], [2, 4, 3], [6, 1, 2], [6, 4, 1], [4, 1, 3], [4, 5, 2]]
def ks8 : List Nat := [8, 9, 10, 11, 12]
def lst (bag : OT) (n : Nat) (X Y : PyData) (t o : SE) : List SE := [.s true bag, si (n : Nat), sd X, sd Y, si (lateN n), sd (fst n), sd (.list ((ledN n).map li)), sd (.list ((latN n).map li)), t, o, .z, .z, .z, .z, .z]
def lst2 (bag : OT) (n : Nat) (X Y : PyData) (l7 : SE) : List SE := [.s true bag, si (n : Nat), sd X, sd Y, si (lateN n), sd (fst n), .s false (oL ((ledN n).map li)), l7, .z, .z, .z, .z, .z, .z, .z]
theorem w_lat {s9 : SM1} {s10 : SM} {t0 t1 : OT} {z : Int} {X Y : PyData} {A B C D' t : SE} {O : Wk.TO} {OL o : List PyData} (eo : s10 [.int z] = some O) (ho : frz O = some (.list OL)) (pk : s9 t0 [.list OL] = some (t1, D (.list o))) :
    (oSet 9 (kF fTuple (kCall1 1 0 s9 (kL1 (kCall 1 s10 (kL1 (kVar 1) kL0)) kL0)))) [.s true t0, si z, sd X, sd Y, A, B, C, D', t, .z, .z, .z, .z, .z, .z] = some (.nx [.s true t1, si z, sd X, sd Y, A, B, C, D', t, sd (.tuple o), .z, .z, .z, .z, .z]) := by
  simp [eo, ho, pk]
theorem late_comp {n m : Nat} {z : Int} {X Y : List PyData} (G : Gx n m z X Y) {bag : OT} {n' : Nat} {late : Int} {B C : SE} :
    compL [13, 14] (.t [13, 14]) t_l_are_latest_4 (kVar 14) (nums 0 X) [.s true bag, si (n' : Nat), sd (.list X), sd (.list Y), si late, B, C, .z, .z, .z, .z, .z, .z, .z, .z] [] = some ([.s true bag, si (n' : Nat), sd (.list X), sd (.list Y), si late, B, C, .z, .z, .z, .z, .z, .z, .z, .z], ((gone n).filterMap fun r => if whenL r = late then some (li r) else none).map .d) := by
  have w0 : ∀ p ∈ prs 0 (gone n), atI Y (p.1 : Nat) = some (.int (whenL p.2)) := fun p hp => by rw [← G.hY]; exact when_at hp
  have c := compL_fmM (vs := [13, 14]) (T := .t [13, 14]) (t := t_l_are_latest_4) (d := kVar 14) (es := [.s true bag, si (n' : Nat), sd (.list X), sd (.list Y), si late, B, C, .z, .z, .z, .z, .z, .z, .z, .z]) (fun p : Nat × List Int => PyData.tuple [.int p.1, li p.2]) (fun p => if whenL p.2 = late then some (li p.2) else none) (prs 0 (gone n)) [] (fun p hp => by
    refine ⟨[.s true bag, si (n' : Nat), sd (.list X), sd (.list Y), si late, B, C, .z, .z, .z, .z, .z, .z, si (p.1 : Nat), sd (li p.2)], rfl, ?_⟩
    have w := w0 p hp
    by_cases q : whenL p.2 = late
    · simp only [if_pos q]
      exact ⟨[.s true bag, si (n' : Nat), sd (.list X), sd (.list Y), si late, B, C, .z, .z, .z, .z, .z, .z, si (p.1 : Nat), sd (li p.2)], [.s true bag, si (n' : Nat), sd (.list X), sd (.list Y), si late, B, C, .z, .z, .z, .z, .z, .z, si (p.1 : Nat), sd (li p.2)], by simp [t_l_are_latest_4, w, q], by simp, rfl⟩
    · simp only [if_neg q]
      exact ⟨[.s true bag, si (n' : Nat), sd (.list X), sd (.list Y), si late, B, C, .z, .z, .z, .z, .z, .z, si (p.1 : Nat), sd (li p.2)], by simp [t_l_are_latest_4, w, q], rfl⟩) (by rw [prs_len]; simpa using sz1000 G.g.len)
  simp only [List.map_nil, List.nil_append] at c
  rw [prs_fm (fun r => if whenL r = late then some (li r) else none), ← nums_prs, G.hX] at c
  exact c
theorem lat2 : ((gone 2).filterMap fun r => if whenL r = 2 then some (li r) else none) = (latN 2).map li := by kernel_rfl
theorem lat3 : ((gone 3).filterMap fun r => if whenL r = 5 then some (li r) else none) = (latN 3).map li := by kernel_rfl
def ordN (n : Nat) : List (List Int) := if n = 2 then [[0, 1], [1, 0]] else [[0,1,2], [0,2,1], [1,0,2], [1,2,0], [2,0,1], [2,1,0]]
/-- what is to be known of the prefix and of the turns -/
structure Lat (n : Nat) (O : Wk.TO) : Prop where
  p1 : ∀ (bag : OT) (X Y : PyData), (oSeq (oPar true [4, 5] (kO1 (kOp true fAdd (kOp true fMul (kOp true fSub (kVar 1) (kI 1)) (kOp true fSub (kVar 1) (kI 1))) (kI 1)) (kO1 (kOp true fIx (kD (kLst (kO1 (kLst (kO1 (kI 0) kO0)) (kO1 (kLst (kO1 (kI 2) (kO1 (kI 3) kO0))) (kO1 (kLst (kO1 (kI 2) (kO1 (kI 4) (kO1 (kI 3) kO0)))) kO0))))) (kOp true fSub (kVar 1) (kI 1))) kO0))) (oSet 6 (kComp [9] (.n 9) (iSeq (kD (kCall 1 sem_l_orders (kL1 (kVar 1) kL0)))) kTrue e_l_are_latest_5))) [.s true bag, si (n : Nat), sd X, sd Y, .z, .z, .z, .z, .z, .z, .z, .z, .z, .z, .z] = some (.nx (lst2 bag n X Y .z))
  p2 : ∀ (bag : OT) (X Y : PyData), (oSeq (oIf (kOr (kNot (kT (kF fAll (kComp [14] (.n 14) (iSeq (kVarF 7)) kTrue e_l_are_latest_2)))) (kNot (kT (kF fAll (kComp [14] (.n 14) (iSeq (kVarF 6)) kTrue e_l_are_latest_3))))) (oRet (kB false)) oNx) (oSeq (oIf (kNot (kT (kCall 2 sem_l_same (kL1 (kLst (kO1 (kCall 1 sem_late_bound (kL1 (kVar 1) kL0)) (kO1 (kCall 1 sem_latest_web (kL1 (kVar 1) kL0)) (kO1 (kCall 1 sem_late_bound (kL1 (kVar 1) kL0)) kO0)))) (kL1 (kLst (kO1 (kVar 4) (kO1 (kCall 1 sem_l_web (kL1 (kVar 5) kL0)) (kO1 (kVar 4) kO0)))) kL0))))) (oRet (kB false)) oNx) (oIf (kT (kOp true fNe (kCall 1 sem_latest_web (kL1 (kVar 1) kL0)) (kCall 1 sem_l_web (kL1 (kVar 5) kL0)))) (oRet (kB false)) oNx))) (lst2 bag n X Y (.s false (oL ((latN n).map li)))) = some (.nx (lst bag n X Y .z .z))
  o1 : sem_l_orders [.int (n : Nat)] = some O
  o2 : frz O = some (.list ((ordN n).map li))
  t0 : ∀ (bag : OT) (X Y : PyData), ∀ o ∈ ordN n, nxk ks8 (lRestF (lst bag n X Y (si 0) (sd (encR o)))) = some (lst bag n X Y .z .z)
  t1 : ∀ (bag : OT) (X Y : PyData), ∀ o ∈ ordN n, nxk ks8 (lRestF (lst bag n X Y (si 1) (sd (encR o)))) = some (lst bag n X Y .z .z)
theorem Lat2 : Lat 2 (.w (.l [.l [.d (.int 0), .d (.int 1)], .l [.d (.int 1), .d (.int 0)]])) where
  p1 := fun bag X Y => by kernel_rfl
  p2 := fun bag X Y => by kernel_rfl
  o1 := by kernel_rfl
  o2 := by kernel_rfl
  t0 := fun bag X Y o ho => by
    have h : o = [0, 1] ∨ o = [1, 0] := by simpa [ordN] using ho
    rcases h with e | e <;> subst e <;> kernel_rfl
  t1 := fun bag X Y o ho => by
    have h : o = [0, 1] ∨ o = [1, 0] := by simpa [ordN] using ho
    rcases h with e | e <;> subst e <;> kernel_rfl
theorem Lat3 : Lat 3 (.w (.l [.l [.d (.int 0), .d (.int 1), .d (.int 2)], .l [.d (.int 0), .d (.int 2), .d (.int 1)], .l [.d (.int 1), .d (.int 0), .d (.int 2)], .l [.d (.int 1), .d (.int 2), .d (.int 0)], .l [.d (.int 2), .d (.int 0), .d (.int 1)], .l [.d (.int 2), .d (.int 1), .d (.int 0)]])) where
  p1 := fun bag X Y => by kernel_rfl
  p2 := fun bag X Y => by kernel_rfl
  o1 := by kernel_rfl
  o2 := by kernel_rfl
  t0 := fun bag X Y o ho => by
    have h : o = [0, 1, 2] ∨ o = [0, 2, 1] ∨ o = [1, 0, 2] ∨ o = [1, 2, 0] ∨ o = [2, 0, 1] ∨ o = [2, 1, 0] := by simpa [ordN] using ho
    rcases h with e | e | e | e | e | e <;> subst e <;> kernel_rfl
  t1 := fun bag X Y o ho => by
    have h : o = [0, 1, 2] ∨ o = [0, 2, 1] ∨ o = [1, 0, 2] ∨ o = [1, 2, 0] ∨ o = [2, 0, 1] ∨ o = [2, 1, 0] := by simpa [ordN] using ho
    rcases h with e | e | e | e | e | e <;> subst e <;> kernel_rfl
theorem t_lat {n : Nat} {O : Wk.TO} (L : Lat n O) {X Y : PyData} {t : Int} (T : ∀ (bag : OT), ∀ o ∈ ordN n, nxk ks8 (lRestF (lst bag n X Y (si t) (sd (encR o)))) = some (lst bag n X Y .z .z)) {cells : List Int} {a b : Int} (h : BagOk cells a b) :
    ∃ c2 a2 b2 es, b_l_are_latest_1 (lst (bagT cells a b) n X Y (si t) .z) = some (.nx es) ∧ kill ks8 es = lst (bagT c2 a2 b2) n X Y .z .z ∧ BagOk c2 a2 b2 := by
  obtain ⟨c2, a2, b2, i, hi, e2, o2⟩ := m_pick (ds := (ordN n).map li) h (by unfold ordN; split <;> simp) (by unfold ordN; split <;> simp)
  rw [List.getElem_map] at e2
  have hi' : i < (ordN n).length := by rw [List.length_map] at hi; exact hi
  have q := T (bagT c2 a2 b2) (ordN n)[i] (List.getElem_mem hi')
  rw [← lRest_eq] at q
  unfold nxk at q
  split at q
  · next es r1 =>
    rw [Option.some.injEq] at q
    refine ⟨c2, a2, b2, es, ?_, q, o2⟩
    have w := w_lat (X := X) (Y := Y) (A := si (lateN n)) (B := sd (fst n)) (C := sd (.list ((ledN n).map li))) (D' := sd (.list ((latN n).map li))) (t := si t) L.o1 L.o2 e2
    unfold b_l_are_latest_1
    exact (oSeq_nx w).trans r1
  · cases q
theorem r_lat {n m : Nat} {O : Wk.TO} {X Y : List PyData} (G : Gx n m (n : Nat) X Y) (L : Lat n O) (hl : ((gone n).filterMap fun r => if whenL r = lateN n then some (li r) else none) = (latN n).map li)
    {cells : List Int} {a b : Int} (h : BagOk cells a b) : ∃ c2 a2 b2, sem_l_are_latest (bagT cells a b) [.int (n : Nat), .list X, .list Y] = some (bagT c2 a2 b2, Wk.B true) ∧ BagOk c2 a2 b2 := by
  obtain ⟨c1, a1, b1, es1, p1, q1, o1⟩ := t_lat L (X := .list X) (Y := .list Y) (fun bag o ho => L.t0 bag (.list X) (.list Y) o ho) h
  obtain ⟨c2, a2, b2, es2, p2, q2, o2⟩ := t_lat L (X := .list X) (Y := .list Y) (fun bag o ho => L.t1 bag (.list X) (.list Y) o ho) o1
  refine ⟨c2, a2, b2, ?_, o2⟩
  have tg : ∀ (bag : OT) (t : Int), tgS true (.n 8) (.int t) (lst bag n (.list X) (.list Y) .z .z) = some (lst bag n (.list X) (.list Y) (si t) .z) := fun _ _ => rfl
  have l : forL true (.n 8) ks8 b_l_are_latest_1 [.int 0, .int 1] (lst (bagT cells a b) n (.list X) (.list Y) .z .z) = some (.nx (lst (bagT c2 a2 b2) n (.list X) (.list Y) .z .z)) := by
    rw [forL_nx (tg _ 0) p1, q1, forL_nx (tg _ 1) p2, q2, forL_nil]
  have c := late_comp G (bag := bagT cells a b) (n' := n) (late := lateN n) (B := sd (fst n)) (C := .s false (oL ((ledN n).map li)))
  rw [hl] at c
  have s1 := L.p1 (bagT cells a b) (.list X) (.list Y)
  have s3 := L.p2 (bagT cells a b) (.list X) (.list Y)
  have s2 : (oSet 7 (kComp [13, 14] (.t [13, 14]) (iEnum (kVar 2)) t_l_are_latest_4 (kVar 14))) (lst2 (bagT cells a b) n (.list X) (.list Y) .z) = some (.nx (lst2 (bagT cells a b) n (.list X) (.list Y) (.s false (oL ((latN n).map li))))) := by
    generalize (latN n).map li = V at c ⊢
    unfold lst2
    generalize (ledN n).map li = U at c ⊢
    simp [c]
  have s4 : (oFor true (.n 8) [8, 9, 10, 11, 12] (iRange1 (kI 2)) b_l_are_latest_1) (lst (bagT cells a b) n (.list X) (.list Y) .z .z) = some (.nx (lst (bagT c2 a2 b2) n (.list X) (.list Y) .z .z)) := by
    have m2 : sm 2 = true := by decide
    have g : (oFor true (.n 8) [8, 9, 10, 11, 12] (iRange1 (kI 2)) b_l_are_latest_1) (lst (bagT cells a b) n (.list X) (.list Y) .z .z) = forL true (.n 8) ks8 b_l_are_latest_1 (ups 0 2) (lst (bagT cells a b) n (.list X) (.list Y) .z .z) := by
      simp only [oFor, iRange1, i1, kI, Option.bind_some, m2, if_true, Option.map_some]
      rfl
    rw [g]; exact l
  have st : padS 15 (.s true (bagT cells a b) :: dS [.int (n : Nat), .list X, .list Y]) = [.s true (bagT cells a b), si (n : Nat), sd (.list X), sd (.list Y), .z, .z, .z, .z, .z, .z, .z, .z, .z, .z, .z] := rfl
  show semEnd1 (d_l_are_latest (padS 15 (.s true (bagT cells a b) :: dS [.int (n : Nat), .list X, .list Y]))) = _
  rw [st]
  have e : d_l_are_latest = oSeq ((oSeq (oPar true [4, 5] (kO1 (kOp true fAdd (kOp true fMul (kOp true fSub (kVar 1) (kI 1)) (kOp true fSub (kVar 1) (kI 1))) (kI 1)) (kO1 (kOp true fIx (kD (kLst (kO1 (kLst (kO1 (kI 0) kO0)) (kO1 (kLst (kO1 (kI 2) (kO1 (kI 3) kO0))) (kO1 (kLst (kO1 (kI 2) (kO1 (kI 4) (kO1 (kI 3) kO0)))) kO0))))) (kOp true fSub (kVar 1) (kI 1))) kO0))) (oSet 6 (kComp [9] (.n 9) (iSeq (kD (kCall 1 sem_l_orders (kL1 (kVar 1) kL0)))) kTrue e_l_are_latest_5)))) (oSeq (oSet 7 (kComp [13, 14] (.t [13, 14]) (iEnum (kVar 2)) t_l_are_latest_4 (kVar 14))) (oSeq ((oSeq (oIf (kOr (kNot (kT (kF fAll (kComp [14] (.n 14) (iSeq (kVarF 7)) kTrue e_l_are_latest_2)))) (kNot (kT (kF fAll (kComp [14] (.n 14) (iSeq (kVarF 6)) kTrue e_l_are_latest_3))))) (oRet (kB false)) oNx) (oSeq (oIf (kNot (kT (kCall 2 sem_l_same (kL1 (kLst (kO1 (kCall 1 sem_late_bound (kL1 (kVar 1) kL0)) (kO1 (kCall 1 sem_latest_web (kL1 (kVar 1) kL0)) (kO1 (kCall 1 sem_late_bound (kL1 (kVar 1) kL0)) kO0)))) (kL1 (kLst (kO1 (kVar 4) (kO1 (kCall 1 sem_l_web (kL1 (kVar 5) kL0)) (kO1 (kVar 4) kO0)))) kL0))))) (oRet (kB false)) oNx) (oIf (kT (kOp true fNe (kCall 1 sem_latest_web (kL1 (kVar 1) kL0)) (kCall 1 sem_l_web (kL1 (kVar 5) kL0)))) (oRet (kB false)) oNx)))) (oSeq (oFor true (.n 8) [8, 9, 10, 11, 12] (iRange1 (kI 2)) b_l_are_latest_1) (oRet (kB true))))) := by
    unfold d_l_are_latest
    rw [oSeq_assoc, oSeq_assoc, oSeq_assoc]
  rw [e, oSeq_nx s1, oSeq_nx s2, oSeq_nx s3, oSeq_nx s4]
  rfl
theorem r_latest2 {cells : List Int} {a b : Int} (h : BagOk cells a b) : ∃ c2 a2 b2, sem_l_are_latest (bagT cells a b) [.int 2, .list X2, .list Y2] = some (bagT c2 a2 b2, Wk.B true) ∧ BagOk c2 a2 b2 :=
  r_lat (n := 2) Gx2 Lat2 lat2 h
theorem r_latest3 {cells : List Int} {a b : Int} (h : BagOk cells a b) : ∃ c2 a2 b2, sem_l_are_latest (bagT cells a b) [.int 3, .list X3, .list Y3] = some (bagT c2 a2 b2, Wk.B true) ∧ BagOk c2 a2 b2 :=
  r_lat (n := 3) Gx3 Lat3 lat3 h
end Gemaingonethrou

/-! K45z -/
set_option Elab.async false
set_option linter.all false
set_option maxRecDepth 1000000
set_option maxHeartbeats 4000000
namespace Gemaingonethrou
open PySem PySem.Spec PyProof.Rows L2 Wk
/-! the law -/
theorem w_law1 {sg : SM} {sG sS sL sD : SM1} {A : SE} {t0 t1 t2 t3 : OT} {X Y : List PyData} (g : sg [.int 1] = some (D (.list X)))
    (c : compL [5] (.n 5) kTrue e_law_1 X [A, .s false t0, si 1, sd (.list X), .z, .z] [] = some ([A, .s false t0, si 1, sd (.list X), .z, .z], Y.map .d))
    (h1 : sS t0 [.int 1, .list X, .list Y] = some (t1, Wk.B true)) :
    (oSeq (oSet 3 (kCall 1 sg (kL1 (kVar 2) kL0))) (oSeq (oSet 4 (kComp [5] (.n 5) (iSeq (kVarF 3)) kTrue e_law_1)) (oSeq (oIf (kAnd (kT (kOp true fEq (kVar 2) (kI 3))) (kNot (kT (kCall1 2 1 sG (kL1 (kVarF 3) (kL1 (kVarF 4) kL0)))))) (oRet (kB false)) oNx) (oSeq (oIf (kAnd (kT (kOp true fLt (kVar 2) (kI 3))) (kNot (kT (kCall1 3 1 sS (kL1 (kVar 2) (kL1 (kVarF 3) (kL1 (kVarF 4) kL0))))))) (oRet (kB false)) oNx) (oSeq (oIf (kAnd (kT (kOp true fGt (kVar 2) (kI 1))) (kNot (kT (kCall1 3 1 sL (kL1 (kVar 2) (kL1 (kVarF 3) (kL1 (kVarF 4) kL0))))))) (oRet (kB false)) oNx) (oIf (kAnd (kT (kOp true fGt (kVar 2) (kI 1))) (kNot (kT (kCall1 3 1 sD (kL1 (kVar 2) (kL1 (kVarF 3) (kL1 (kVarF 4) kL0))))))) (oRet (kB false)) oNx)))))) [A, .s false t0, si 1, .z, .z, .z] = some (.nx [A, .s false t1, si 1, sd (.list X), sd (.list Y), .z]) := by
  simp [g, c, h1]
theorem w_law2 {sg : SM} {sG sS sL sD : SM1} {A : SE} {t0 t1 t2 t3 : OT} {X Y : List PyData} (g : sg [.int 2] = some (D (.list X)))
    (c : compL [5] (.n 5) kTrue e_law_1 X [A, .s false t0, si 2, sd (.list X), .z, .z] [] = some ([A, .s false t0, si 2, sd (.list X), .z, .z], Y.map .d))
    (h1 : sS t0 [.int 2, .list X, .list Y] = some (t1, Wk.B true)) (h2 : sL t1 [.int 2, .list X, .list Y] = some (t2, Wk.B true)) (h3 : sD t2 [.int 2, .list X, .list Y] = some (t3, Wk.B true)) :
    (oSeq (oSet 3 (kCall 1 sg (kL1 (kVar 2) kL0))) (oSeq (oSet 4 (kComp [5] (.n 5) (iSeq (kVarF 3)) kTrue e_law_1)) (oSeq (oIf (kAnd (kT (kOp true fEq (kVar 2) (kI 3))) (kNot (kT (kCall1 2 1 sG (kL1 (kVarF 3) (kL1 (kVarF 4) kL0)))))) (oRet (kB false)) oNx) (oSeq (oIf (kAnd (kT (kOp true fLt (kVar 2) (kI 3))) (kNot (kT (kCall1 3 1 sS (kL1 (kVar 2) (kL1 (kVarF 3) (kL1 (kVarF 4) kL0))))))) (oRet (kB false)) oNx) (oSeq (oIf (kAnd (kT (kOp true fGt (kVar 2) (kI 1))) (kNot (kT (kCall1 3 1 sL (kL1 (kVar 2) (kL1 (kVarF 3) (kL1 (kVarF 4) kL0))))))) (oRet (kB false)) oNx) (oIf (kAnd (kT (kOp true fGt (kVar 2) (kI 1))) (kNot (kT (kCall1 3 1 sD (kL1 (kVar 2) (kL1 (kVarF 3) (kL1 (kVarF 4) kL0))))))) (oRet (kB false)) oNx)))))) [A, .s false t0, si 2, .z, .z, .z] = some (.nx [A, .s false t3, si 2, sd (.list X), sd (.list Y), .z]) := by
  simp [g, c, h1, h2, h3]
theorem w_law3 {sg : SM} {sG sS sL sD : SM1} {A : SE} {t0 t1 t2 t3 : OT} {X Y : List PyData} (g : sg [.int 3] = some (D (.list X)))
    (c : compL [5] (.n 5) kTrue e_law_1 X [A, .s false t0, si 3, sd (.list X), .z, .z] [] = some ([A, .s false t0, si 3, sd (.list X), .z, .z], Y.map .d))
    (h1 : sG t0 [.list X, .list Y] = some (t1, Wk.B true)) (h2 : sL t1 [.int 3, .list X, .list Y] = some (t2, Wk.B true)) (h3 : sD t2 [.int 3, .list X, .list Y] = some (t3, Wk.B true)) :
    (oSeq (oSet 3 (kCall 1 sg (kL1 (kVar 2) kL0))) (oSeq (oSet 4 (kComp [5] (.n 5) (iSeq (kVarF 3)) kTrue e_law_1)) (oSeq (oIf (kAnd (kT (kOp true fEq (kVar 2) (kI 3))) (kNot (kT (kCall1 2 1 sG (kL1 (kVarF 3) (kL1 (kVarF 4) kL0)))))) (oRet (kB false)) oNx) (oSeq (oIf (kAnd (kT (kOp true fLt (kVar 2) (kI 3))) (kNot (kT (kCall1 3 1 sS (kL1 (kVar 2) (kL1 (kVarF 3) (kL1 (kVarF 4) kL0))))))) (oRet (kB false)) oNx) (oSeq (oIf (kAnd (kT (kOp true fGt (kVar 2) (kI 1))) (kNot (kT (kCall1 3 1 sL (kL1 (kVar 2) (kL1 (kVarF 3) (kL1 (kVarF 4) kL0))))))) (oRet (kB false)) oNx) (oIf (kAnd (kT (kOp true fGt (kVar 2) (kI 1))) (kNot (kT (kCall1 3 1 sD (kL1 (kVar 2) (kL1 (kVarF 3) (kL1 (kVarF 4) kL0))))))) (oRet (kB false)) oNx)))))) [A, .s false t0, si 3, .z, .z, .z] = some (.nx [A, .s false t3, si 3, sd (.list X), sd (.list Y), .z]) := by
  simp [g, c, h1, h2, h3]
theorem c_law {n m : Nat} {z : Int} {X Y : List PyData} (G : Gx n m z X Y) {A : SE} {t0 : OT} :
    compL [5] (.n 5) kTrue e_law_1 X [A, .s false t0, si z, sd (.list X), .z, .z] [] = some ([A, .s false t0, si z, sd (.list X), .z, .z], Y.map .d) := by
  have c := compL_map (vs := [5]) (T := .n 5) (t := kTrue) (d := e_law_1) (es := [A, .s false t0, si z, sd (.list X), .z, .z]) li (fun r => .int (whenL r)) (gone n)
    (fun r hr => ⟨_, _, _, rfl, rfl, (by simp [e_law_1, G.g.r_when hr] : _ = some ([A, .s false t0, si z, sd (.list X), .z, sd (li r)], Wk.I (whenL r))), rfl⟩) (sz1000 G.g.len)
  have e : (gone n).map (fun r => PyData.int (whenL r)) = ((gone n).map whenL).map .int := by rw [List.map_map]; rfl
  rw [e, G.hX, G.hY] at c
  exact c
theorem sem_holds (ns : List Int) (hl : ns.length ≤ 63) : sem_law ns = some (Wk.B true) := by
  obtain ⟨cells, b, e0, o0⟩ := m_bag ns
  obtain ⟨c1, a1, b1, e1, o1⟩ := r_small Gx1 gp1 gc1 o0
  obtain ⟨c2, a2, b2, e2, o2⟩ := r_small Gx2 gp2 gc2 o1
  obtain ⟨c3, a3, b3, e3, o3⟩ := r_latest2 o2
  obtain ⟨c4, a4, b4, e4, o4⟩ := r_drawn2 o3
  obtain ⟨c5, a5, b5, e5, o5⟩ := r_great o4
  obtain ⟨c6, a6, b6, e6, o6⟩ := r_latest3 o5
  obtain ⟨c7, a7, b7, e7, o7⟩ := r_drawn3 o6
  have g1 : sem_l_gone [.int 1] = some (D (.list X1)) := by rw [F1_1, Gx1.hX]
  have g2 : sem_l_gone [.int 2] = some (D (.list X2)) := by rw [F1_2, Gx2.hX]
  have g3 : sem_l_gone [.int 3] = some (D (.list X3)) := by rw [F1_3, Gx3.hX]
  have w1 := w_law1 (A := .s false (.f ns)) (t2 := bagT cells 0 b) (t3 := bagT cells 0 b) (sG := sem_l_is_great) (sL := sem_l_are_latest) (sD := sem_l_are_drawn) g1 (c_law Gx1) e1
  have w2 := w_law2 (A := .s false (.f ns)) (sG := sem_l_is_great) g2 (c_law Gx2) e2 e3 e4
  have w3 := w_law3 (A := .s false (.f ns)) (sS := sem_l_are_small) g3 (c_law Gx3) e5 e6 e7
  have tg : ∀ (t : OT) (k : Int), tgS false (.n 2) (.int k) [.s false (.f ns), .s false t, .z, .z, .z, .z] = some [.s false (.f ns), .s false t, si k, .z, .z, .z] := fun _ _ => rfl
  have l : forL false (.n 2) [2, 3, 4] b_law_2 [.int 1, .int 2, .int 3] [.s false (.f ns), .s false (bagT cells 0 b), .z, .z, .z, .z] = some (.nx [.s false (.f ns), .s false (bagT c7 a7 b7), .z, .z, .z, .z]) := by
    rw [forL_nx (tg _ 1) (show b_law_2 _ = _ from w1)]
    show forL false (.n 2) [2, 3, 4] b_law_2 [.int 2, .int 3] [.s false (.f ns), .s false (bagT c1 a1 b1), .z, .z, .z, .z] = _
    rw [forL_nx (tg _ 2) (show b_law_2 _ = _ from w2)]
    show forL false (.n 2) [2, 3, 4] b_law_2 [.int 3] [.s false (.f ns), .s false (bagT c4 a4 b4), .z, .z, .z, .z] = _
    rw [forL_nx (tg _ 3) (show b_law_2 _ = _ from w3)]
    rfl
  have st : padS 6 [.s false (.f ns)] = [.s false (.f ns), .z, .z, .z, .z, .z] := rfl
  have s0 : (oSet 1 (kCallF sem_l_own_bag (kVar 0))) [.s false (.f ns), .z, .z, .z, .z, .z] = some (.nx [.s false (.f ns), .s false (bagT cells 0 b), .z, .z, .z, .z]) := by
    have k : kCallF sem_l_own_bag (kVar 0) [.s false (.f ns), .z, .z, .z, .z, .z] = some ([.s false (.f ns), .z, .z, .z, .z, .z], .w (bagT cells 0 b)) := by
      show (sem_l_own_bag ns).map _ = _
      rw [e0]; rfl
    show (kCallF sem_l_own_bag (kVar 0) _).bind _ = _
    rw [k]; rfl
  have z3 : 3 ≤ sizeLine := by decide
  have s1 : (oFor false (.n 2) [2, 3, 4] (iSeq (kLst (kO1 (kI 1) (kO1 (kI 2) (kO1 (kI 3) kO0))))) b_law_2) [.s false (.f ns), .s false (bagT cells 0 b), .z, .z, .z, .z] = some (.nx [.s false (.f ns), .s false (bagT c7 a7 b7), .z, .z, .z, .z]) := by
    have g : ∀ es : List SE, (oFor false (.n 2) [2, 3, 4] (iSeq (kLst (kO1 (kI 1) (kO1 (kI 2) (kO1 (kI 3) kO0))))) b_law_2) es = forL false (.n 2) [2, 3, 4] b_law_2 [.int 1, .int 2, .int 3] (kill [2, 3, 4] es) := fun es => by
      simp [z3, lvO, lvL]
    rw [g]
    exact l
  show semEnd (d_law (padS 6 [.s false (.f ns)])) = _
  rw [st]
  unfold d_law
  rw [oSeq_nx s0, oSeq_nx s1]
  rfl
end Gemaingonethrou

/-! K45h -/
set_option Elab.async false
set_option linter.all false
set_option maxRecDepth 100000
set_option maxHeartbeats 0
namespace Gemaingonethrou
open PySem PySem.Spec PyProof.Rows L2 Wk
/-! the head -/
def dd_l_own_bag : He.DefD := ⟨("_law_own_bag", none), "_law_own_bag", "_law_own_bag", defArgs st_l_own_bag, defBody st_l_own_bag, defScope st_l_own_bag, [], []⟩
def dd_l_gone : He.DefD := ⟨("_law_gone", none), "_law_gone", "_law_gone", defArgs st_l_gone, defBody st_l_gone, defScope st_l_gone, [], []⟩
def dd_l_when : He.DefD := ⟨("_law_when", none), "_law_when", "_law_when", defArgs st_l_when, defBody st_l_when, defScope st_l_when, [], []⟩
def dd_l_same : He.DefD := ⟨("_law_same", none), "_law_same", "_law_same", defArgs st_l_same, defBody st_l_same, defScope st_l_same, [], []⟩
def dd_l_draw : He.DefD := ⟨("_law_draw", none), "_law_draw", "_law_draw", defArgs st_l_draw, defBody st_l_draw, defScope st_l_draw, [], []⟩
def dd_l_fewest : He.DefD := ⟨("_law_fewest", none), "_law_fewest", "_law_fewest", defArgs st_l_fewest, defBody st_l_fewest, defScope st_l_fewest, [], []⟩
def dd_l_counts : He.DefD := ⟨("_law_counts", none), "_law_counts", "_law_counts", defArgs st_l_counts, defBody st_l_counts, defScope st_l_counts, [], []⟩
def dd_lot_of : He.DefD := ⟨("lot_of", none), "lot_of", "lot_of", defArgs st_lot_of, defBody st_lot_of, defScope st_lot_of, [], []⟩
def dd_all_webs : He.DefD := ⟨("all_webs", none), "all_webs", "all_webs", defArgs st_all_webs, defBody st_all_webs, defScope st_all_webs, [], []⟩
def dd_row_masks : He.DefD := ⟨("row_masks", none), "row_masks", "row_masks", defArgs st_row_masks, defBody st_row_masks, defScope st_row_masks, [], []⟩
def dd_led_mask : He.DefD := ⟨("led_mask", none), "led_mask", "led_mask", defArgs st_led_mask, defBody st_led_mask, defScope st_led_mask, [], []⟩
def dd_masks_behind : He.DefD := ⟨("masks_behind", none), "masks_behind", "masks_behind", defArgs st_masks_behind, defBody st_masks_behind, defScope st_masks_behind, [], []⟩
def dd_from_when : He.DefD := ⟨("from_when", none), "from_when", "from_when", defArgs st_from_when, defBody st_from_when, defScope st_from_when, [], []⟩
def dd_webs_from_when : He.DefD := ⟨("webs_from_when", none), "webs_from_when", "webs_from_when", defArgs st_webs_from_when, defBody st_webs_from_when, defScope st_webs_from_when, [], []⟩
def dd_l_lot : He.DefD := ⟨("_law_lot", none), "_law_lot", "_law_lot", defArgs st_l_lot, defBody st_l_lot, defScope st_l_lot, [], []⟩
def dd_l_web : He.DefD := ⟨("_law_web", none), "_law_web", "_law_web", defArgs st_l_web, defBody st_l_web, defScope st_l_web, [], []⟩
def dd_l_told_webs : He.DefD := ⟨("_law_told_webs", none), "_law_told_webs", "_law_told_webs", defArgs st_l_told_webs, defBody st_l_told_webs, defScope st_l_told_webs, [], []⟩
def dd_fewest_arrows : He.DefD := ⟨("fewest_arrows", none), "fewest_arrows", "fewest_arrows", defArgs st_fewest_arrows, defBody st_fewest_arrows, defScope st_fewest_arrows, [], []⟩
def dd_whens_counts : He.DefD := ⟨("whens_counts", none), "whens_counts", "whens_counts", defArgs st_whens_counts, defBody st_whens_counts, defScope st_whens_counts, [], []⟩
def dd_l_is_great : He.DefD := ⟨("_law_is_great", none), "_law_is_great", "_law_is_great", defArgs st_l_is_great, defBody st_l_is_great, defScope st_l_is_great, [], []⟩
def dd_l_are_small : He.DefD := ⟨("_law_are_small", none), "_law_are_small", "_law_are_small", defArgs st_l_are_small, defBody st_l_are_small, defScope st_l_are_small, [], []⟩
def dd_l_led : He.DefD := ⟨("_law_led", none), "_law_led", "_law_led", defArgs st_l_led, defBody st_l_led, defScope st_l_led, [], []⟩
def dd_latest_web : He.DefD := ⟨("latest_web", none), "latest_web", "latest_web", defArgs st_latest_web, defBody st_latest_web, defScope st_latest_web, [], []⟩
def dd_l_orders : He.DefD := ⟨("_law_orders", none), "_law_orders", "_law_orders", defArgs st_l_orders, defBody st_l_orders, defScope st_l_orders, [], []⟩
def dd_l_pick : He.DefD := ⟨("_law_pick", none), "_law_pick", "_law_pick", defArgs st_l_pick, defBody st_l_pick, defScope st_l_pick, [], []⟩
def dd_web_of : He.DefD := ⟨("web_of", none), "web_of", "web_of", defArgs st_web_of, defBody st_web_of, defScope st_web_of, [], []⟩
def dd_arrows_of : He.DefD := ⟨("arrows_of", none), "arrows_of", "arrows_of", defArgs st_arrows_of, defBody st_arrows_of, defScope st_arrows_of, [], []⟩
def dd_names_led : He.DefD := ⟨("names_led", none), "names_led", "names_led", defArgs st_names_led, defBody st_names_led, defScope st_names_led, [], []⟩
def dd_order_from : He.DefD := ⟨("order_from", none), "order_from", "order_from", defArgs st_order_from, defBody st_order_from, defScope st_order_from, [], []⟩
def dd_latest_order : He.DefD := ⟨("latest_order", none), "latest_order", "latest_order", defArgs st_latest_order, defBody st_latest_order, defScope st_latest_order, [], []⟩
def dd_late_bound : He.DefD := ⟨("late_bound", none), "late_bound", "late_bound", defArgs st_late_bound, defBody st_late_bound, defScope st_late_bound, [], []⟩
def dd_l_are_latest : He.DefD := ⟨("_law_are_latest", none), "_law_are_latest", "_law_are_latest", defArgs st_l_are_latest, defBody st_l_are_latest, defScope st_l_are_latest, [], []⟩
def dd_l_are_drawn : He.DefD := ⟨("_law_are_drawn", none), "_law_are_drawn", "_law_are_drawn", defArgs st_l_are_drawn, defBody st_l_are_drawn, defScope st_l_are_drawn, [], []⟩
def dd_law : He.DefD := ⟨("law", none), "law", "law", defArgs st_law, defBody st_law, defScope st_law, [], []⟩
def fns : List He.DefD := [dd_l_own_bag, dd_l_gone, dd_l_when, dd_l_same, dd_l_draw, dd_l_fewest, dd_l_counts, dd_lot_of, dd_all_webs, dd_row_masks, dd_led_mask, dd_masks_behind, dd_from_when, dd_webs_from_when, dd_l_lot, dd_l_web, dd_l_told_webs, dd_fewest_arrows, dd_whens_counts, dd_l_is_great, dd_l_are_small, dd_l_led, dd_latest_web, dd_l_orders, dd_l_pick, dd_web_of, dd_arrows_of, dd_names_led, dd_order_from, dd_latest_order, dd_late_bound, dd_l_are_latest, dd_l_are_drawn, dd_law]
def fas : List He.Fa := [.glo "_law_own_bag", .glo "_law_gone", .glo "_law_when", .glo "_law_same", .glo "_law_draw", .glo "_law_fewest", .glo "_law_counts", .glo "lot_of", .glo "all_webs", .glo "row_masks", .glo "led_mask", .glo "masks_behind", .glo "from_when", .glo "webs_from_when", .glo "_law_lot", .glo "_law_web", .glo "_law_told_webs", .glo "fewest_arrows", .glo "whens_counts", .glo "_law_is_great", .glo "_law_are_small", .glo "_law_led", .glo "latest_web", .glo "_law_orders", .glo "_law_pick", .glo "web_of", .glo "arrows_of", .glo "names_led", .glo "order_from", .glo "latest_order", .glo "late_bound", .glo "_law_are_latest", .glo "_law_are_drawn", .glo "law", .free "abs", .free "all", .free "enumerate", .free "int", .free "len", .free "list", .free "min", .free "range", .free "repr", .free "reversed", .free "sorted", .free "sum", .free "tuple"]
abbrev R : PySem.W.OpenRow := PySem.W.OpenLaw.row PySem.Challenge.rw_fromsomestepon_k45_whole_main_gone_throu
abbrev hk : PySem.W.Hook := He.hookD 4 fas fns
def ob (s : PySem.W.SharedT) : He.AlD := He.obsDG 4 fas fns (HandSHeadRun.getT s)
theorem ob_eq (s : PySem.W.SharedT) : ob s = hk.obs s.abs := He.obsDG_eq (HandSHeadRun.getT_eq s)
def loose0 : List Str := [("arrows_of" : Str), ("web_of" : Str), ("names_led" : Str), ("row_masks" : Str), ("lot_of" : Str), ("led_mask" : Str), ("masks_behind" : Str), ("from_when" : Str), ("all_webs" : Str), ("whens_counts" : Str), ("webs_from_when" : Str), ("fewest_arrows" : Str)]
def loose1 : List Str := [("latest_web" : Str), ("late_bound" : Str), ("order_from" : Str), ("latest_order" : Str), ("_law_own_bag" : Str), ("_law_draw" : Str), ("_law_pick" : Str), ("_law_lot" : Str), ("_law_web" : Str), ("_law_led" : Str), ("_law_same" : Str), ("_law_when" : Str)]
def loose2 : List Str := [("_law_gone" : Str), ("_law_orders" : Str), ("_law_counts" : Str), ("_law_told_webs" : Str), ("_law_fewest" : Str), ("_law_are_small" : Str), ("_law_is_great" : Str), ("_law_are_latest" : Str), ("_law_are_drawn" : Str)]
def loose : List Str := loose0 ++ (loose1 ++ (loose2))
theorem run (w : World) : HandSHeadRun.RunEq R (PySem.W.view R.prog [39]) hk ob 6000 loose w := by
  intro os
  kernel_rfl
theorem facts {P : Program} {w : World} {K : PySem.W.Frag} {h : Heap} {mg : Str → Option Value} {f : Addr} (X : K.In h) (G : h.Ns mainGlobals mg) (hfa : mg ("law" : Str) = some (.ref f)) (c : He.SaysD fas fns K) :
    ∃ fd : FuncData, (∀ (s : Shared) (v : Value), BindsTo s fd ⟨[v], []⟩ [("script", v)]) ∧ ∀ base : Heap, K.In base → base.Ns mainGlobals mg → FnG P w K mg base CX0 6 f fd ["script"] (SfF K sem_law) := by
  obtain ⟨fd_l_own_bag, F_l_own_bag⟩ := c.def_ 0 (d := dd_l_own_bag) rfl
  obtain ⟨fd_l_gone, F_l_gone⟩ := c.def_ 1 (d := dd_l_gone) rfl
  obtain ⟨fd_l_when, F_l_when⟩ := c.def_ 2 (d := dd_l_when) rfl
  obtain ⟨fd_l_same, F_l_same⟩ := c.def_ 3 (d := dd_l_same) rfl
  obtain ⟨fd_l_draw, F_l_draw⟩ := c.def_ 4 (d := dd_l_draw) rfl
  obtain ⟨fd_l_fewest, F_l_fewest⟩ := c.def_ 5 (d := dd_l_fewest) rfl
  obtain ⟨fd_l_counts, F_l_counts⟩ := c.def_ 6 (d := dd_l_counts) rfl
  obtain ⟨fd_lot_of, F_lot_of⟩ := c.def_ 7 (d := dd_lot_of) rfl
  obtain ⟨fd_all_webs, F_all_webs⟩ := c.def_ 8 (d := dd_all_webs) rfl
  obtain ⟨fd_row_masks, F_row_masks⟩ := c.def_ 9 (d := dd_row_masks) rfl
  obtain ⟨fd_led_mask, F_led_mask⟩ := c.def_ 10 (d := dd_led_mask) rfl
  obtain ⟨fd_masks_behind, F_masks_behind⟩ := c.def_ 11 (d := dd_masks_behind) rfl
  obtain ⟨fd_from_when, F_from_when⟩ := c.def_ 12 (d := dd_from_when) rfl
  obtain ⟨fd_webs_from_when, F_webs_from_when⟩ := c.def_ 13 (d := dd_webs_from_when) rfl
  obtain ⟨fd_l_lot, F_l_lot⟩ := c.def_ 14 (d := dd_l_lot) rfl
  obtain ⟨fd_l_web, F_l_web⟩ := c.def_ 15 (d := dd_l_web) rfl
  obtain ⟨fd_l_told_webs, F_l_told_webs⟩ := c.def_ 16 (d := dd_l_told_webs) rfl
  obtain ⟨fd_fewest_arrows, F_fewest_arrows⟩ := c.def_ 17 (d := dd_fewest_arrows) rfl
  obtain ⟨fd_whens_counts, F_whens_counts⟩ := c.def_ 18 (d := dd_whens_counts) rfl
  obtain ⟨fd_l_is_great, F_l_is_great⟩ := c.def_ 19 (d := dd_l_is_great) rfl
  obtain ⟨fd_l_are_small, F_l_are_small⟩ := c.def_ 20 (d := dd_l_are_small) rfl
  obtain ⟨fd_l_led, F_l_led⟩ := c.def_ 21 (d := dd_l_led) rfl
  obtain ⟨fd_latest_web, F_latest_web⟩ := c.def_ 22 (d := dd_latest_web) rfl
  obtain ⟨fd_l_orders, F_l_orders⟩ := c.def_ 23 (d := dd_l_orders) rfl
  obtain ⟨fd_l_pick, F_l_pick⟩ := c.def_ 24 (d := dd_l_pick) rfl
  obtain ⟨fd_web_of, F_web_of⟩ := c.def_ 25 (d := dd_web_of) rfl
  obtain ⟨fd_arrows_of, F_arrows_of⟩ := c.def_ 26 (d := dd_arrows_of) rfl
  obtain ⟨fd_names_led, F_names_led⟩ := c.def_ 27 (d := dd_names_led) rfl
  obtain ⟨fd_order_from, F_order_from⟩ := c.def_ 28 (d := dd_order_from) rfl
  obtain ⟨fd_latest_order, F_latest_order⟩ := c.def_ 29 (d := dd_latest_order) rfl
  obtain ⟨fd_late_bound, F_late_bound⟩ := c.def_ 30 (d := dd_late_bound) rfl
  obtain ⟨fd_l_are_latest, F_l_are_latest⟩ := c.def_ 31 (d := dd_l_are_latest) rfl
  obtain ⟨fd_l_are_drawn, F_l_are_drawn⟩ := c.def_ 32 (d := dd_l_are_drawn) rfl
  obtain ⟨fd, F⟩ := c.def_ 33 (d := dd_law) rfl
  have e := hfa.symm.trans (He.glo_ok X G (c.fact 33 (f := .glo "law") rfl))
  cases e
  have m : Bi mg := ⟨He.free_ok X G (c.fact 34 (f := .free "abs") rfl), He.free_ok X G (c.fact 35 (f := .free "all") rfl), He.free_ok X G (c.fact 36 (f := .free "enumerate") rfl), He.free_ok X G (c.fact 37 (f := .free "int") rfl), He.free_ok X G (c.fact 38 (f := .free "len") rfl), He.free_ok X G (c.fact 39 (f := .free "list") rfl), He.free_ok X G (c.fact 40 (f := .free "min") rfl), He.free_ok X G (c.fact 41 (f := .free "range") rfl), He.free_ok X G (c.fact 42 (f := .free "repr") rfl), He.free_ok X G (c.fact 43 (f := .free "reversed") rfl), He.free_ok X G (c.fact 44 (f := .free "sorted") rfl), He.free_ok X G (c.fact 45 (f := .free "sum") rfl), He.free_ok X G (c.fact 46 (f := .free "tuple") rfl)⟩
  refine ⟨fd, fun s v => FunD.bindsA (ps := ["script"]) F (fun _ _ _ _ _ _ us hl => match us, hl with | [_], _ => rfl) s [v] rfl, fun base _ _ => ?_⟩
  have C_l_own_bag := cal_of (P := P) (w := w) (base := base) F_l_own_bag (He.glo_ok X G (c.fact 0 (f := .glo "_law_own_bag") rfl)) (ok_l_own_bag m  F_l_own_bag) (fun _ _ _ _ _ _ us hl => match us, hl with | [_], _ => rfl) (fun _ _ _ _ _ _ us hl => match us, hl with | [_], _ => rfl)
  have C_l_gone := cal_of (P := P) (w := w) (base := base) F_l_gone (He.glo_ok X G (c.fact 1 (f := .glo "_law_gone") rfl)) (ok_l_gone m  F_l_gone) (fun _ _ _ _ _ _ us hl => match us, hl with | [_], _ => rfl) (fun _ _ _ _ _ _ us hl => match us, hl with | [_], _ => rfl)
  have C_l_when := cal_of (P := P) (w := w) (base := base) F_l_when (He.glo_ok X G (c.fact 2 (f := .glo "_law_when") rfl)) (ok_l_when m  F_l_when) (fun _ _ _ _ _ _ us hl => match us, hl with | [_], _ => rfl) (fun _ _ _ _ _ _ us hl => match us, hl with | [_], _ => rfl)
  have C_l_same := cal_of (P := P) (w := w) (base := base) F_l_same (He.glo_ok X G (c.fact 3 (f := .glo "_law_same") rfl)) (ok_l_same m  F_l_same) (fun _ _ _ _ _ _ us hl => match us, hl with | [_, _], _ => rfl) (fun _ _ _ _ _ _ us hl => match us, hl with | [_, _], _ => rfl)
  have C_l_draw := cal_of (P := P) (w := w) (base := base) F_l_draw (He.glo_ok X G (c.fact 4 (f := .glo "_law_draw") rfl)) (ok_l_draw m  F_l_draw) (fun _ _ _ _ _ _ us hl => match us, hl with | [_, _], _ => rfl) (fun _ _ _ _ _ _ us hl => match us, hl with | [_, _], _ => rfl)
  have C_l_fewest := cal_of (P := P) (w := w) (base := base) F_l_fewest (He.glo_ok X G (c.fact 5 (f := .glo "_law_fewest") rfl)) (ok_l_fewest m  F_l_fewest) (fun _ _ _ _ _ _ us hl => match us, hl with | [_, _, _], _ => rfl) (fun _ _ _ _ _ _ us hl => match us, hl with | [_, _, _], _ => rfl)
  have C_l_counts := cal_of (P := P) (w := w) (base := base) F_l_counts (He.glo_ok X G (c.fact 6 (f := .glo "_law_counts") rfl)) (ok_l_counts m  F_l_counts) (fun _ _ _ _ _ _ us hl => match us, hl with | [_, _], _ => rfl) (fun _ _ _ _ _ _ us hl => match us, hl with | [_, _], _ => rfl)
  have C_lot_of := cal_of (P := P) (w := w) (base := base) F_lot_of (He.glo_ok X G (c.fact 7 (f := .glo "lot_of") rfl)) (ok_lot_of m  F_lot_of) (fun _ _ _ _ _ _ us hl => match us, hl with | [_, _], _ => rfl) (fun _ _ _ _ _ _ us hl => match us, hl with | [_, _], _ => rfl)
  have C_all_webs := cal_of (P := P) (w := w) (base := base) F_all_webs (He.glo_ok X G (c.fact 8 (f := .glo "all_webs") rfl)) (ok_all_webs m C_lot_of F_all_webs) (fun _ _ _ _ _ _ us hl => match us, hl with | [_], _ => rfl) (fun _ _ _ _ _ _ us hl => match us, hl with | [_], _ => rfl)
  have C_row_masks := cal_of (P := P) (w := w) (base := base) F_row_masks (He.glo_ok X G (c.fact 9 (f := .glo "row_masks") rfl)) (ok_row_masks m  F_row_masks) (fun _ _ _ _ _ _ us hl => match us, hl with | [_], _ => rfl) (fun _ _ _ _ _ _ us hl => match us, hl with | [_], _ => rfl)
  have C_led_mask := cal_of (P := P) (w := w) (base := base) F_led_mask (He.glo_ok X G (c.fact 10 (f := .glo "led_mask") rfl)) (ok_led_mask m  F_led_mask) (fun _ _ _ _ _ _ us hl => match us, hl with | [_, _], _ => rfl) (fun _ _ _ _ _ _ us hl => match us, hl with | [_, _], _ => rfl)
  have C_masks_behind := cal_of (P := P) (w := w) (base := base) F_masks_behind (He.glo_ok X G (c.fact 11 (f := .glo "masks_behind") rfl)) (ok_masks_behind m C_led_mask F_masks_behind) (fun _ _ _ _ _ _ us hl => match us, hl with | [_, _], _ => rfl) (fun _ _ _ _ _ _ us hl => match us, hl with | [_, _], _ => rfl)
  have C_from_when := cal_of (P := P) (w := w) (base := base) F_from_when (He.glo_ok X G (c.fact 12 (f := .glo "from_when") rfl)) (ok_from_when m C_row_masks C_masks_behind F_from_when) (fun _ _ _ _ _ _ us hl => match us, hl with | [_], _ => rfl) (fun _ _ _ _ _ _ us hl => match us, hl with | [_], _ => rfl)
  have C_webs_from_when := cal_of (P := P) (w := w) (base := base) F_webs_from_when (He.glo_ok X G (c.fact 13 (f := .glo "webs_from_when") rfl)) (ok_webs_from_when m C_all_webs C_from_when F_webs_from_when) (fun _ _ _ _ _ _ us hl => match us, hl with | [_, _], _ => rfl) (fun _ _ _ _ _ _ us hl => match us, hl with | [_, _], _ => rfl)
  have C_l_lot := cal_of (P := P) (w := w) (base := base) F_l_lot (He.glo_ok X G (c.fact 14 (f := .glo "_law_lot") rfl)) (ok_l_lot m  F_l_lot) (fun _ _ _ _ _ _ us hl => match us, hl with | [_], _ => rfl) (fun _ _ _ _ _ _ us hl => match us, hl with | [_], _ => rfl)
  have C_l_web := cal_of (P := P) (w := w) (base := base) F_l_web (He.glo_ok X G (c.fact 15 (f := .glo "_law_web") rfl)) (ok_l_web m C_l_lot F_l_web) (fun _ _ _ _ _ _ us hl => match us, hl with | [_], _ => rfl) (fun _ _ _ _ _ _ us hl => match us, hl with | [_], _ => rfl)
  have C_l_told_webs := cal_of (P := P) (w := w) (base := base) F_l_told_webs (He.glo_ok X G (c.fact 16 (f := .glo "_law_told_webs") rfl)) (ok_l_told_webs m C_l_web F_l_told_webs) (fun _ _ _ _ _ _ us hl => match us, hl with | [_, _, _], _ => rfl) (fun _ _ _ _ _ _ us hl => match us, hl with | [_, _, _], _ => rfl)
  have C_fewest_arrows := cal_of (P := P) (w := w) (base := base) F_fewest_arrows (He.glo_ok X G (c.fact 17 (f := .glo "fewest_arrows") rfl)) (ok_fewest_arrows m C_all_webs C_from_when F_fewest_arrows) (fun _ _ _ _ _ _ us hl => match us, hl with | [_, _], _ => rfl) (fun _ _ _ _ _ _ us hl => match us, hl with | [_, _], _ => rfl)
  have C_whens_counts := cal_of (P := P) (w := w) (base := base) F_whens_counts (He.glo_ok X G (c.fact 18 (f := .glo "whens_counts") rfl)) (ok_whens_counts m C_all_webs C_from_when F_whens_counts) (fun _ _ _ _ _ _ us hl => match us, hl with | [_], _ => rfl) (fun _ _ _ _ _ _ us hl => match us, hl with | [_], _ => rfl)
  have C_l_is_great := cal_of (P := P) (w := w) (base := base) F_l_is_great (He.glo_ok X G (c.fact 19 (f := .glo "_law_is_great") rfl)) (ok_l_is_great m C_l_same C_l_draw C_l_fewest C_l_counts C_webs_from_when C_l_told_webs C_fewest_arrows C_whens_counts F_l_is_great) (fun _ _ _ _ _ _ us hl => match us, hl with | [_, _, _], _ => rfl) (fun _ _ _ _ _ _ us hl => match us, hl with | [_, _, _], _ => rfl)
  have C_l_are_small := cal_of (P := P) (w := w) (base := base) F_l_are_small (He.glo_ok X G (c.fact 20 (f := .glo "_law_are_small") rfl)) (ok_l_are_small m C_l_same C_l_counts C_l_told_webs C_l_fewest C_l_draw C_webs_from_when C_fewest_arrows C_whens_counts F_l_are_small) (fun _ _ _ _ _ _ us hl => match us, hl with | [_, _, _, _], _ => rfl) (fun _ _ _ _ _ _ us hl => match us, hl with | [_, _, _, _], _ => rfl)
  have C_l_led := cal_of (P := P) (w := w) (base := base) F_l_led (He.glo_ok X G (c.fact 21 (f := .glo "_law_led") rfl)) (ok_l_led m  F_l_led) (fun _ _ _ _ _ _ us hl => match us, hl with | [_, _], _ => rfl) (fun _ _ _ _ _ _ us hl => match us, hl with | [_, _], _ => rfl)
  have C_latest_web := cal_of (P := P) (w := w) (base := base) F_latest_web (He.glo_ok X G (c.fact 22 (f := .glo "latest_web") rfl)) (ok_latest_web m  F_latest_web) (fun _ _ _ _ _ _ us hl => match us, hl with | [_], _ => rfl) (fun _ _ _ _ _ _ us hl => match us, hl with | [_], _ => rfl)
  have C_l_orders := cal_of (P := P) (w := w) (base := base) F_l_orders (He.glo_ok X G (c.fact 23 (f := .glo "_law_orders") rfl)) (ok_l_orders m  F_l_orders) (fun _ _ _ _ _ _ us hl => match us, hl with | [_], _ => rfl) (fun _ _ _ _ _ _ us hl => match us, hl with | [_], _ => rfl)
  have C_l_pick := cal_of (P := P) (w := w) (base := base) F_l_pick (He.glo_ok X G (c.fact 24 (f := .glo "_law_pick") rfl)) (ok_l_pick m C_l_draw F_l_pick) (fun _ _ _ _ _ _ us hl => match us, hl with | [_, _], _ => rfl) (fun _ _ _ _ _ _ us hl => match us, hl with | [_, _], _ => rfl)
  have C_web_of := cal_of (P := P) (w := w) (base := base) F_web_of (He.glo_ok X G (c.fact 25 (f := .glo "web_of") rfl)) (ok_web_of m  F_web_of) (fun _ _ _ _ _ _ us hl => match us, hl with | [_, _], _ => rfl) (fun _ _ _ _ _ _ us hl => match us, hl with | [_, _], _ => rfl)
  have C_arrows_of := cal_of (P := P) (w := w) (base := base) F_arrows_of (He.glo_ok X G (c.fact 26 (f := .glo "arrows_of") rfl)) (ok_arrows_of m  F_arrows_of) (fun _ _ _ _ _ _ us hl => match us, hl with | [_], _ => rfl) (fun _ _ _ _ _ _ us hl => match us, hl with | [_], _ => rfl)
  have C_names_led := cal_of (P := P) (w := w) (base := base) F_names_led (He.glo_ok X G (c.fact 27 (f := .glo "names_led") rfl)) (ok_names_led m C_web_of C_arrows_of F_names_led) (fun _ _ _ _ _ _ us hl => match us, hl with | [_, _], _ => rfl) (fun _ _ _ _ _ _ us hl => match us, hl with | [_, _], _ => rfl)
  have C_order_from := cal_of (P := P) (w := w) (base := base) F_order_from (He.glo_ok X G (c.fact 28 (f := .glo "order_from") rfl)) (ok_order_from m  F_order_from) (fun _ _ _ _ _ _ us hl => match us, hl with | [_, _, _], _ => rfl) (fun _ _ _ _ _ _ us hl => match us, hl with | [_, _, _], _ => rfl)
  have C_latest_order := cal_of (P := P) (w := w) (base := base) F_latest_order (He.glo_ok X G (c.fact 29 (f := .glo "latest_order") rfl)) (ok_latest_order m C_order_from C_names_led C_latest_web F_latest_order) (fun _ _ _ _ _ _ us hl => match us, hl with | [_], _ => rfl) (fun _ _ _ _ _ _ us hl => match us, hl with | [_], _ => rfl)
  have C_late_bound := cal_of (P := P) (w := w) (base := base) F_late_bound (He.glo_ok X G (c.fact 30 (f := .glo "late_bound") rfl)) (ok_late_bound m  F_late_bound) (fun _ _ _ _ _ _ us hl => match us, hl with | [_], _ => rfl) (fun _ _ _ _ _ _ us hl => match us, hl with | [_], _ => rfl)
  have C_l_are_latest := cal_of (P := P) (w := w) (base := base) F_l_are_latest (He.glo_ok X G (c.fact 31 (f := .glo "_law_are_latest") rfl)) (ok_l_are_latest m C_l_led C_l_same C_latest_web C_l_web C_l_orders C_l_pick C_names_led C_latest_order C_late_bound C_from_when F_l_are_latest) (fun _ _ _ _ _ _ us hl => match us, hl with | [_, _, _, _], _ => rfl) (fun _ _ _ _ _ _ us hl => match us, hl with | [_, _, _, _], _ => rfl)
  have C_l_are_drawn := cal_of (P := P) (w := w) (base := base) F_l_are_drawn (He.glo_ok X G (c.fact 32 (f := .glo "_law_are_drawn") rfl)) (ok_l_are_drawn m C_l_orders C_l_draw C_l_pick C_l_web C_l_same C_from_when C_latest_order C_arrows_of C_l_led F_l_are_drawn) (fun _ _ _ _ _ _ us hl => match us, hl with | [_, _, _, _], _ => rfl) (fun _ _ _ _ _ _ us hl => match us, hl with | [_, _, _, _], _ => rfl)
  exact ok_law m C_l_own_bag C_l_gone C_l_when C_l_is_great C_l_are_small C_l_are_latest C_l_are_drawn F
end Gemaingonethrou
open PySem PySem.W PySem.Calls PyProof.Rows
theorem PySem.Challenge.cw_fromsomestepon_k45_whole_main_gone_throu_holds : PySem.Challenge.rw_fromsomestepon_k45_whole_main_gone_throu.Holds := by
  w_on; o_law
  refine HandSHeadRun.head_any (r := (OpenLaw.row PySem.Challenge.rw_fromsomestepon_k45_whole_main_gone_throu)) (q := view ((OpenLaw.row PySem.Challenge.rw_fromsomestepon_k45_whole_main_gone_throu)).prog [39]) (H := Gemaingonethrou.hk)
    (ob := Gemaingonethrou.ob) (M := 6000) (loose := Gemaingonethrou.loose)
    (d := HandSHeadRun.topDef ((OpenLaw.row PySem.Challenge.rw_fromsomestepon_k45_whole_main_gone_throu)).prog 39) (kwd := []) Gemaingonethrou.ob_eq
    (by kernel_rfl) (fun s => by kernel_rfl) Gemaingonethrou.run (by kernel_rfl) (by kernel_rfl) (by kernel_rfl) (by rfl)
    (by first | assumption | decide +kernel) (by decide +kernel) ⟨rfl, rfl, rfl, rfl, rfl, by decide +kernel⟩ ?hw ?hc
  case hw => w_witness2
  case hc =>
    refine Wk.walk_gE (l := PySem.Challenge.rw_fromsomestepon_k45_whole_main_gone_throu) (n := 63) (k := 6) (x := "script") (sem := Gemaingonethrou.sem_law) rfl (by decide) (by kernel_rfl)
      ⟨rfl, by decide, by decide⟩ ?F Gemaingonethrou.sem_holds
    intro w mg fa h Y G hm0
    obtain ⟨K, KX, c⟩ := Y
    have hm1 : mg ("law" : PySem.Str) = some (.ref fa) := by
      have e : (HandSHeadRun.topDef ((OpenLaw.row PySem.Challenge.rw_fromsomestepon_k45_whole_main_gone_throu)).prog 39).name = ("law" : PySem.Str) := by kernel_rfl
      rw [← e]
      exact hm0
    obtain ⟨fd, hb, hF⟩ := Gemaingonethrou.facts (P := (PySem.Challenge.rw_fromsomestepon_k45_whole_main_gone_throu).prog) (w := w) KX G hm1 c
    exact ⟨K, fd, KX, hb, hF⟩
