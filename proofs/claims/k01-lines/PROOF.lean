import PyProof.Rows.All
import Wide.All
import OpenK.AllK
import Wide.FinOn
import HandS.ForMost
import HandS.Exc
import HandS.TryOnly
import HandS.ExcOwn
import HandS.WordsExc
import HandS.StrMore
import HandS.IsInst
import HandS.Style
import PySem.Challenge.RW_boxtable_k01_lines
set_option Elab.async false
set_option linter.all false
set_option maxRecDepth 100000
/-! A layer of plain functions over the hand layer: what a piece of Python computes, as a Lean function over plain data. -/
namespace Fx
open PySem PySem.Spec L2
open PyProof.Rows hiding St

/-- plain data: tuples and lists by what they hold; scr: the script -/
inductive T where
  | non | bl (b : Bool) | int (i : Int) | str (s : Str) | tup (ts : List T) | lst (ts : List T) | scr (ns : List Int)

/-! ### what a value is, in a heap -/
mutual
inductive Rp (K : PySem.W.Frag) (H : Hp) : V → T → Prop
  | non : Rp K H .non .non
  | bl (b : Bool) : Rp K H (.bl b) (.bl b)
  | int (i : Int) : Rp K H (.int i) (.int i)
  | str (s : Str) : Rp K H (.str s) (.str s)
  | tup {a : Addr} {vs : List V} {ts : List T} : H a = some (.tup vs) → Rps K H vs ts → Rp K H (.ref a) (.tup ts)
  | lst {a : Addr} {vs : List V} {ts : List T} : H a = some (.lst vs) → Rps K H vs ts → Rp K H (.ref a) (.lst ts)
  | scr {a : Addr} {ns : List Int} : SqL K H a (ns.map V.int) → Rp K H (.ref a) (.scr ns)
inductive Rps (K : PySem.W.Frag) (H : Hp) : List V → List T → Prop
  | nil : Rps K H [] []
  | cons {v : V} {vs : List V} {t : T} {ts : List T} : Rp K H v t → Rps K H vs ts → Rps K H (v :: vs) (t :: ts)
end

section
variable {K : PySem.W.Frag} {H H' : Hp} {v : V} {vs : List V} {t : T} {ts : List T}
mutual
theorem Rp.mono (e : Same H H') : ∀ {t : T} {v : V}, Rp K H v t → Rp K H' v t
  | _, _, .non => .non
  | _, _, .bl b => .bl b
  | _, _, .int i => .int i
  | _, _, .str s => .str s
  | _, _, .tup h r => .tup (e _ _ h) (Rps.mono e r)
  | _, _, .lst h r => .lst (e _ _ h) (Rps.mono e r)
  | _, _, .scr h => .scr (e.seq h)
theorem Rps.mono (e : Same H H') : ∀ {ts : List T} {vs : List V}, Rps K H vs ts → Rps K H' vs ts
  | _, _, .nil => .nil
  | _, _, .cons h r => .cons (Rp.mono e h) (Rps.mono e r)
end
theorem Rps.length : ∀ {ts : List T} {vs : List V}, Rps K H vs ts → vs.length = ts.length
  | _, _, .nil => rfl
  | _, _, .cons _ r => by rw [List.length_cons, List.length_cons, r.length]
theorem Rps.get : ∀ {ts : List T} {vs : List V} {i : Nat} {t : T}, Rps K H vs ts → ts[i]? = some t → ∃ v, vs[i]? = some v ∧ Rp K H v t
  | _, _, _, _, .nil, h => by simp at h
  | _, _, 0, _, .cons h _, e => by
    have e' := Option.some.inj e
    subst e'
    exact ⟨_, rfl, h⟩
  | _, _, i + 1, _, .cons _ r, e => by
    obtain ⟨v, h1, h2⟩ := r.get (i := i) (by simpa using e)
    exact ⟨v, by simpa using h1, h2⟩
theorem Rps.getV : ∀ {ts : List T} {vs : List V} {i : Nat} {v : V}, Rps K H vs ts → vs[i]? = some v → ∃ t, ts[i]? = some t ∧ Rp K H v t
  | _, _, _, _, .nil, h => by simp at h
  | _, _, 0, _, .cons h _, e => by
    have e' := Option.some.inj e
    subst e'
    exact ⟨_, rfl, h⟩
  | _, _, i + 1, _, .cons _ r, e => by
    obtain ⟨v, h1, h2⟩ := r.getV (i := i) (by simpa using e)
    exact ⟨v, by simpa using h1, h2⟩
theorem Rps.append : ∀ {ts us : List T} {vs ws : List V}, Rps K H vs ts → Rps K H ws us → Rps K H (vs ++ ws) (ts ++ us)
  | _, _, _, _, .nil, h => h
  | _, _, _, _, .cons a r, h => .cons a (Rps.append r h)
theorem Rps.take : ∀ {ts : List T} {vs : List V} (n : Nat), Rps K H vs ts → Rps K H (vs.take n) (ts.take n)
  | _, _, 0, _ => .nil
  | _, _, _ + 1, .nil => .nil
  | _, _, n + 1, .cons a r => .cons a (Rps.take n r)
theorem Rps.drop : ∀ {ts : List T} {vs : List V} (n : Nat), Rps K H vs ts → Rps K H (vs.drop n) (ts.drop n)
  | _, _, 0, h => h
  | _, _, _ + 1, .nil => .nil
  | _, _, n + 1, .cons _ r => Rps.drop n r
theorem Rps.set : ∀ {ts : List T} {vs : List V} (i : Nat) {v : V} {t : T}, Rps K H vs ts → Rp K H v t → Rps K H (vs.set i v) (ts.set i t)
  | _, _, _, _, _, .nil, _ => .nil
  | _, _, 0, _, _, .cons _ r, h => .cons h r
  | _, _, i + 1, _, _, .cons a r, h => .cons a (Rps.set i r h)
theorem Rps.dropLast {ts : List T} {vs : List V} (h : Rps K H vs ts) : Rps K H vs.dropLast ts.dropLast := by
  rw [List.dropLast_eq_take, List.dropLast_eq_take, h.length]
  exact h.take _
theorem Rps.reverse {ts : List T} {vs : List V} (h : Rps K H vs ts) : Rps K H vs.reverse ts.reverse := by
  induction ts generalizing vs with
  | nil => cases h; exact .nil
  | cons t ts ih =>
    cases h with
    | cons a r =>
      rw [List.reverse_cons, List.reverse_cons]
      exact (ih r).append (.cons a .nil)
theorem Rps.rep {t : T} {v : V} (h : Rp K H v t) : ∀ n : Nat, Rps K H (List.replicate n v) (List.replicate n t)
  | 0 => .nil
  | n + 1 => .cons h (Rps.rep h n)
theorem Rps.ints : ∀ {ns : List Int} {vs : List V}, Rps K H vs (ns.map T.int) → vs = ns.map V.int
  | [], _, .nil => rfl
  | n :: ns, _, .cons (.int _) r => by rw [List.map_cons, Rps.ints r]
theorem Rps.ofInts : ∀ (ns : List Int), Rps K H (ns.map V.int) (ns.map T.int)
  | [] => .nil
  | n :: ns => .cons (.int n) (Rps.ofInts ns)
theorem Rps.strs : ∀ {ns : List Str} {vs : List V}, Rps K H vs (ns.map T.str) → vs = ns.map V.str
  | [], _, .nil => rfl
  | n :: ns, _, .cons (.str _) r => by rw [List.map_cons, Rps.strs r]
theorem Rps.ofStrs : ∀ (ns : List Str), Rps K H (ns.map V.str) (ns.map T.str)
  | [] => .nil
  | n :: ns => .cons (.str n) (Rps.ofStrs ns)
end

/-! ### heaps: what stays -/
def Cst : HO → Bool
  | .tup _ => true
  | .frz _ _ => true
  | _ => false
/-- Hs: the part of H that nobody changes; all tuples are in it -/
structure Ok (Hs H : Hp) : Prop where
  sub : Same Hs H
  cst : ∀ a o, H a = some o → Cst o = true → Hs a = some o
structure Gr (Hs H Hs' H' : Hp) : Prop where
  s : Same Hs Hs'
  h : Same H H'
  n : ∀ a o, H a = some o → Hs' a = Hs a
  ok : Ok Hs' H'
section
variable {Hs H Hs1 H1 Hs2 H2 : Hp} {p : Addr} {o : HO}
theorem Ok.refl (H : Hp) : Ok H H := ⟨Same.refl H, fun _ _ h _ => h⟩
theorem Gr.refl (k : Ok Hs H) : Gr Hs H Hs H := ⟨Same.refl _, Same.refl _, fun _ _ _ => rfl, k⟩
theorem Gr.trans (a : Gr Hs H Hs1 H1) (b : Gr Hs1 H1 Hs2 H2) : Gr Hs H Hs2 H2 :=
  ⟨a.s.trans b.s, a.h.trans b.h, fun x o e => (b.n x o (a.h x o e)).trans (a.n x o e), b.ok⟩
theorem same_new (h : H p = none) : Same H (upd H p o) := fun b x e => by
  rw [upd_ne (ne_of_none e h)]
  exact e
/-- a new object, of no more change -/
theorem Gr.new (k : Ok Hs H) (h : H p = none) : Gr Hs H (upd Hs p o) (upd H p o) := by
  have hs : Hs p = none := k.sub.free h
  refine ⟨same_new hs, same_new h, fun a x e => upd_ne (ne_of_none e h), ⟨fun a x e => ?_, fun a x e c => ?_⟩⟩
  · by_cases ha : a = p
    · subst ha; rw [upd_same] at e ⊢; exact e
    · rw [upd_ne ha] at e ⊢; exact k.sub _ _ e
  · by_cases ha : a = p
    · subst ha; rw [upd_same] at e ⊢; exact e
    · rw [upd_ne ha] at e ⊢; exact k.cst _ _ e c
/-- a new object that may still change -/
theorem Gr.new0 (k : Ok Hs H) (h : H p = none) (c : Cst o = false) : Gr Hs H Hs (upd H p o) := by
  refine ⟨Same.refl _, same_new h, fun _ _ _ => rfl, ⟨fun a x e => same_new h _ _ (k.sub _ _ e), fun a x e cx => ?_⟩⟩
  by_cases ha : a = p
  · subst ha; rw [upd_same] at e; cases e; rw [c] at cx; cases cx
  · rw [upd_ne ha] at e; exact k.cst _ _ e cx
end

/-- lists that are new behind H, and what never changes -/
def Frs (H H' : Hp) : Hp := fun a => match H' a with
  | some (.lst xs) => if (H a).isSome then none else some (.lst xs)
  | some o => if Cst o then some o else none
  | none => none
/-- the stable part behind a step that made new things and changed nothing -/
def Nxt (Hs H H' : Hp) : Hp := fun a => if (H a).isSome then Hs a else H' a
section
variable {Hs H H' H1 H2 : Hp}
theorem Frs.sub : Same (Frs H H') H' := fun a o e => by
  unfold Frs at e
  cases q : H' a with
  | none => rw [q] at e; cases e
  | some x =>
    rw [q] at e
    cases x with
    | lst xs =>
      dsimp only at e
      split at e
      · cases e
      · exact e
    | _ => dsimp only at e; split at e <;> first | exact e | cases e
theorem Gr.nxt (k : Ok Hs H) (h : Same H H') : Gr Hs H (Nxt Hs H H') H' := by
  refine ⟨fun a o e => ?_, h, fun a o e => ?_, ⟨fun a o e => ?_, fun a o e c => ?_⟩⟩
  · unfold Nxt; rw [k.sub a o e]; exact e
  · unfold Nxt; rw [e]; rfl
  · unfold Nxt at e
    cases q : H a with
    | none => rw [q] at e; exact e
    | some x => rw [q] at e; exact h _ _ (k.sub _ _ e)
  · unfold Nxt
    cases q : H a with
    | none => exact e
    | some x =>
      have e2 := h _ _ q
      rw [e] at e2
      cases e2
      exact k.cst _ _ q c
theorem Frs.nxt (k : Ok Hs H) (h : Same H H') : Same (Frs H H') (Nxt Hs H H') := fun a o e => by
  have e1 := Frs.sub a o e
  unfold Nxt
  cases q : H a with
  | none => exact e1
  | some x =>
    have e2 := h _ _ q
    rw [e1] at e2
    cases e2
    have c : Cst o = true := by
      unfold Frs at e
      rw [e1] at e
      cases o with
      | lst xs =>
        dsimp only at e
        rw [q] at e
        cases e
      | _ => dsimp only at e; split at e <;> first | assumption | cases e
    exact k.cst _ _ q c
theorem Frs.cst {a : Addr} {o : HO} (h : H' a = some o) (c : Cst o = true) : Frs H H' a = some o := by
  unfold Frs
  rw [h]
  cases o with
  | lst xs => cases c
  | _ => dsimp only; rw [c]; rfl
theorem Frs.lst {a : Addr} {xs : List V} (h : H' a = some (.lst xs)) (n : H a = none) : Frs H H' a = some (.lst xs) := by
  unfold Frs
  rw [h, n]
  rfl
/-- seen from an earlier heap -/
theorem Frs.back (h : Same H H1) : Same (Frs H1 H2) (Frs H H2) := fun a o e => by
  have e1 := Frs.sub a o e
  cases o with
  | lst xs =>
    refine Frs.lst e1 (h.free ?_)
    unfold Frs at e
    rw [e1] at e
    cases q : H1 a with
    | none => rfl
    | some x => rw [q] at e; cases e
  | tup xs => exact Frs.cst e1 rfl
  | frz x u => exact Frs.cst e1 rfl
  | _ => unfold Frs at e; rw [e1] at e; cases e
theorem Frs.fwd (h : Same H1 H2) : Same (Frs H H1) (Frs H H2) := fun a o e => by
  have e1 := Frs.sub a o e
  cases o with
  | lst xs =>
    refine Frs.lst (h _ _ e1) ?_
    unfold Frs at e
    rw [e1] at e
    cases q : H a with
    | none => rfl
    | some x => rw [q] at e; cases e
  | tup xs => exact Frs.cst (h _ _ e1) rfl
  | frz x u => exact Frs.cst (h _ _ e1) rfl
  | _ => unfold Frs at e; rw [e1] at e; cases e
end

/-! ### no list within -/
mutual
def noL : T → Bool
  | .lst _ => false
  | .scr _ => false
  | .tup ts => noLs ts
  | _ => true
def noLs : List T → Bool
  | [] => true
  | t :: ts => noL t && noLs ts
end
mutual
theorem Rp.flat {K : PySem.W.Frag} {H H' : Hp} (h : ∀ a xs, H a = some (.tup xs) → H' a = some (.tup xs)) : ∀ {t : T} {v : V}, Rp K H v t → noL t = true → Rp K H' v t
  | _, _, .non, _ => .non
  | _, _, .bl b, _ => .bl b
  | _, _, .int i, _ => .int i
  | _, _, .str s, _ => .str s
  | _, _, .tup e r, n => .tup (h _ _ e) (Rps.flat h r n)
  | _, _, .lst _ _, n => by cases n
  | _, _, .scr _, n => by cases n
theorem Rps.flat {K : PySem.W.Frag} {H H' : Hp} (h : ∀ a xs, H a = some (.tup xs) → H' a = some (.tup xs)) : ∀ {ts : List T} {vs : List V}, Rps K H vs ts → noLs ts = true → Rps K H' vs ts
  | _, _, .nil, _ => .nil
  | _, _, .cons a r, n => by
    have n' : (noL _ && noLs _) = true := n
    rw [Bool.and_eq_true] at n'
    exact .cons (Rp.flat h a n'.1) (Rps.flat h r n'.2)
end
theorem noLs_append : ∀ {ts us : List T}, noLs (ts ++ us) = (noLs ts && noLs us)
  | [], us => by simp [noLs]
  | t :: ts, us => by
    show (noL t && noLs (ts ++ us)) = ((noL t && noLs ts) && noLs us)
    rw [noLs_append, Bool.and_assoc]
theorem noLs_of : ∀ {ts : List T}, (∀ t ∈ ts, noL t = true) → noLs ts = true
  | [], _ => rfl
  | t :: ts, h => by
    show (noL t && noLs ts) = true
    rw [h t List.mem_cons_self, noLs_of fun u hu => h u (List.mem_cons_of_mem _ hu)]
    rfl
theorem noLs_mem : ∀ {ts : List T} {t : T}, noLs ts = true → t ∈ ts → noL t = true
  | u :: ts, t, h, m => by
    have h' : (noL u && noLs ts) = true := h
    rw [Bool.and_eq_true] at h'
    rcases List.mem_cons.mp m with e | m
    · rw [e]; exact h'.1
    · exact noLs_mem h'.2 m
end Fx

namespace Fx
open PySem PySem.Spec L2
open PyProof.Rows hiding St

/-! ### slots: unknown; a value that stays; a list that this slot alone holds; a list of such lists -/
inductive Sl where
  | un | sh (t : T) | ow (ts : List T) | ob (tss : List (List T))
abbrev Ev := List Sl
inductive Rows (K : PySem.W.Frag) (Hs H : Hp) (lab : Addr → Option Nat) (i : Nat) : List Addr → List (List T) → Prop
  | nil : Rows K Hs H lab i [] []
  | cons {r : Addr} {rs : List Addr} {vs : List V} {ts : List T} {tss : List (List T)} : lab r = some i → H r = some (.lst vs) → Rps K Hs vs ts → Rows K Hs H lab i rs tss → Rows K Hs H lab i (r :: rs) (ts :: tss)
def SlOk (K : PySem.W.Frag) (Hs H : Hp) (lab : Addr → Option Nat) (i : Nat) (o : Option V) : Sl → Prop
  | .un => True
  | .sh t => ∃ v, o = some v ∧ Rp K Hs v t
  | .ow ts => ∃ a vs, o = some (.ref a) ∧ lab a = some i ∧ H a = some (.lst vs) ∧ Rps K Hs vs ts
  | .ob tss => ∃ a rs, o = some (.ref a) ∧ lab a = some i ∧ H a = some (.lst (rs.map V.ref)) ∧ (a :: rs).Nodup ∧ Rows K Hs H lab i rs tss
/-- the base: the stable part and the kept part at the start -/
structure Bs where
  hs : Hp
  b : Hp
structure Bd (B : Bs) (Hs H : Hp) : Prop where
  s : Same B.hs Hs
  h : Same B.b H
  n : ∀ a o, B.b a = some o → Hs a = B.hs a
  ok : Ok Hs H
structure Rl (K : PySem.W.Frag) (B : Bs) (Hs H : Hp) (σ : St) (ev : Ev) : Prop where
  bd : Bd B Hs H
  len : ev.length = σ.length
  lab : ∃ lab : Addr → Option Nat, (∀ a i, lab a = some i → B.b a = none ∧ Hs a = none ∧ ∃ o, H a = some o) ∧ ∀ i s o, ev[i]? = some s → σ[i]? = some o → SlOk K Hs H lab i o s

section
variable {K : PySem.W.Frag} {B : Bs} {Hs H Hs' H' Hs1 H1 : Hp} {σ : St} {ev : Ev} {lab lab' : Addr → Option Nat} {i : Nat} {o : Option V} {s : Sl}
theorem Bd.to (b : Bd B Hs H) (g : Gr Hs H Hs' H') : Bd B Hs' H' :=
  ⟨b.s.trans g.s, b.h.trans g.h, fun a o e => (g.n a o (b.h a o e)).trans (b.n a o e), g.ok⟩
theorem Rows.imp (hs : Same Hs Hs') (h : ∀ a o, lab a = some i → H a = some o → lab' a = some i ∧ H' a = some o) : ∀ {rs : List Addr} {tss : List (List T)}, Rows K Hs H lab i rs tss → Rows K Hs' H' lab' i rs tss
  | _, _, .nil => .nil
  | _, _, .cons l e r t => .cons (h _ _ l e).1 (h _ _ l e).2 (r.mono hs) (Rows.imp hs h t)
theorem SlOk.imp (hs : Same Hs Hs') (h : ∀ a o, lab a = some i → H a = some o → lab' a = some i ∧ H' a = some o) (x : SlOk K Hs H lab i o s) : SlOk K Hs' H' lab' i o s := by
  cases s with
  | un => trivial
  | sh t => obtain ⟨v, e, r⟩ := x; exact ⟨v, e, r.mono hs⟩
  | ow ts => obtain ⟨a, vs, e, l, q, r⟩ := x; exact ⟨a, vs, e, (h _ _ l q).1, (h _ _ l q).2, r.mono hs⟩
  | ob tss => obtain ⟨a, rs, e, l, q, nd, r⟩ := x; exact ⟨a, rs, e, (h _ _ l q).1, (h _ _ l q).2, nd, r.imp hs h⟩
theorem Rl.to (R : Rl K B Hs H σ ev) (g : Gr Hs H Hs' H') : Rl K B Hs' H' σ ev := by
  obtain ⟨lab, l1, l2⟩ := R.lab
  refine ⟨R.bd.to g, R.len, lab, fun a i e => ?_, fun i s o e1 e2 => (l2 i s o e1 e2).imp g.s fun a x e q => ⟨e, g.h _ _ q⟩⟩
  obtain ⟨b, z, x, q⟩ := l1 a i e
  exact ⟨b, (g.n a x q).trans z, x, g.h _ _ q⟩
/-- one slot is given a new meaning; the others' things stand -/
theorem Rl.put (R : Rl K B Hs H σ ev) (bd : Bd B Hs' H') (ss : Same Hs Hs') (v : Option V) (new : Addr → Bool) (hn : ∀ a, new a = true → B.b a = none ∧ Hs' a = none ∧ ∃ x, H' a = some x)
    (fr : ∀ lab : Addr → Option Nat, (∀ a j, lab a = some j → B.b a = none ∧ Hs a = none ∧ ∃ o, H a = some o) → (∀ i s o, ev[i]? = some s → σ[i]? = some o → SlOk K Hs H lab i o s) →
      ∀ a j, lab a = some j → j ≠ i → new a = false ∧ Hs' a = none ∧ ∀ x, H a = some x → H' a = some x)
    (hs : SlOk K Hs' H' (fun a => if new a then some i else none) i v s) : Rl K B Hs' H' (σ.set i v) (ev.set i s) := by
  obtain ⟨lab, l1, l2⟩ := R.lab
  have f := fr lab l1 l2
  refine ⟨bd, by rw [List.length_set, List.length_set]; exact R.len, fun a => if new a then some i else if lab a = some i then none else lab a, fun a j e => ?_, fun j s' o e1 e2 => ?_⟩
  · dsimp only at e
    cases na : new a with
    | true =>
      rw [na] at e
      exact hn a na
    | false =>
      rw [na] at e
      simp only [Bool.false_eq_true, if_false] at e
      by_cases hl : lab a = some i
      · rw [if_pos hl] at e; cases e
      · rw [if_neg hl] at e
        have hj : j ≠ i := fun z => hl (z ▸ e)
        obtain ⟨b, z, x, q⟩ := l1 a j e
        obtain ⟨_, f2, f3⟩ := f a j e hj
        exact ⟨b, f2, x, f3 x q⟩
  · by_cases hj : j = i
    · subst hj
      have h1 : j < ev.length := by
        have := (List.getElem?_eq_some_iff.mp e1).1
        rw [List.length_set] at this
        exact this
      rw [List.getElem?_set_self h1] at e1
      rw [List.getElem?_set_self (by rw [← R.len]; exact h1)] at e2
      cases e1; cases e2
      refine hs.imp (Same.refl _) fun a x l q => ⟨?_, q⟩
      have na : new a = true := by
        cases z : new a with
        | true => rfl
        | false => rw [z] at l; cases l
      simp only [na, if_true]
    · rw [List.getElem?_set_ne (Ne.symm hj)] at e1 e2
      refine (l2 j s' o e1 e2).imp ss fun a x l q => ?_
      obtain ⟨f1, f2, f3⟩ := f a j l hj
      refine ⟨?_, f3 x q⟩
      have : lab a ≠ some i := fun z => hj (by rw [l] at z; exact Option.some.inj z)
      simp only [f1, Bool.false_eq_true, if_false, this]
      exact l
theorem Rl.set (R : Rl K B Hs H σ ev) {v : V} {t : T} (h : Rp K Hs v t) (i : Nat) : Rl K B Hs H (σ.set i (some v)) (ev.set i (.sh t)) :=
  R.put R.bd (Same.refl _) (some v) (fun _ => false) (fun _ z => by cases z) (fun lab l1 _ a j e _ => ⟨rfl, (l1 a j e).2.1, fun _ q => q⟩) ⟨v, rfl, h⟩
theorem Rl.un (R : Rl K B Hs H σ ev) (v : Option V) (i : Nat) : Rl K B Hs H (σ.set i v) (ev.set i .un) :=
  R.put R.bd (Same.refl _) v (fun _ => false) (fun _ z => by cases z) (fun lab l1 _ a j e _ => ⟨rfl, (l1 a j e).2.1, fun _ q => q⟩) trivial
/-- a new list, held by slot i alone -/
theorem Rl.setOw (R : Rl K B Hs H σ ev) {a : Addr} {vs : List V} {ts : List T} (ss : Same H H') (ha : H a = none) (hv : H' a = some (.lst vs)) (h : Rps K Hs vs ts) (ok : Ok Hs H') (i : Nat) :
    Rl K B Hs H' (σ.set i (some (.ref a))) (ev.set i (.ow ts)) := by
  have hsa : Hs a = none := R.bd.ok.sub.free ha
  have hba : B.b a = none := R.bd.h.free ha
  refine R.put ⟨R.bd.s, R.bd.h.trans ss, R.bd.n, ok⟩ (Same.refl _) (some (.ref a)) (fun x => decide (x = a)) (fun x z => ?_) (fun lab l1 _ x j e _ => ?_) ⟨a, vs, rfl, by simp, hv, h⟩
  · have z : x = a := of_decide_eq_true z
    subst z
    exact ⟨hba, hsa, _, hv⟩
  · obtain ⟨b, z, y, q⟩ := l1 x j e
    refine ⟨decide_eq_false fun e => ?_, z, fun y q => ss _ _ q⟩
    rw [e, ha] at q; cases q
/-- a slot's own list is rewritten -/
theorem Rl.mutOw (R : Rl K B Hs H σ ev) {ts us : List T} (he : ev[i]? = some (.ow ts)) : ∃ a vs, σ[i]? = some (some (.ref a)) ∧ H a = some (.lst vs) ∧ Rps K Hs vs ts ∧
    ∀ ws, Rps K Hs ws us → Rl K B Hs (upd H a (.lst ws)) σ (ev.set i (.ow us)) := by
  obtain ⟨lab, l1, l2⟩ := R.lab
  have hi : i < σ.length := by rw [← R.len]; exact (List.getElem?_eq_some_iff.mp he).1
  obtain ⟨a, vs, eo, la, ha, r⟩ := l2 i _ _ he (List.getElem?_eq_getElem hi)
  have e2 : σ[i]? = some (some (.ref a)) := by rw [List.getElem?_eq_getElem hi, eo]
  obtain ⟨hb, hz, _⟩ := l1 a i la
  refine ⟨a, vs, e2, ha, r, fun ws hw => ?_⟩
  have es : σ.set i (some (.ref a)) = σ := by
    apply List.ext_getElem?
    intro j
    by_cases hj : j = i
    · subst hj; rw [List.getElem?_set_self hi, e2]
    · rw [List.getElem?_set_ne (Ne.symm hj)]
  have key : Rl K B Hs (upd H a (.lst ws)) (σ.set i (some (.ref a))) (ev.set i (.ow us)) := by
    have bd : Bd B Hs (upd H a (.lst ws)) := by
      refine ⟨R.bd.s, fun x o e => ?_, R.bd.n, ⟨fun x o e => ?_, fun x o e c => ?_⟩⟩
      · rw [upd_ne (ne_of_none e hb)]; exact R.bd.h _ _ e
      · rw [upd_ne (ne_of_none e hz)]; exact R.bd.ok.sub _ _ e
      · by_cases hx : x = a
        · subst hx; rw [upd_same] at e; cases e; cases c
        · rw [upd_ne hx] at e; exact R.bd.ok.cst _ _ e c
    refine ⟨bd, by rw [List.length_set, List.length_set]; exact R.len, lab, fun x j e => ?_, fun j s' o e1 e2' => ?_⟩
    · obtain ⟨b, z, y, q⟩ := l1 x j e
      refine ⟨b, z, ?_⟩
      by_cases hx : x = a
      · subst hx; exact ⟨_, upd_same⟩
      · exact ⟨y, by rw [upd_ne hx]; exact q⟩
    · by_cases hj : j = i
      · subst hj
        rw [List.getElem?_set_self (by rw [R.len]; exact hi)] at e1
        rw [List.getElem?_set_self hi] at e2'
        cases e1; cases e2'
        exact ⟨a, ws, rfl, la, upd_same, hw⟩
      · rw [List.getElem?_set_ne (Ne.symm hj)] at e1 e2'
        refine (l2 j s' o e1 e2').imp (Same.refl _) fun x y l q => ⟨l, ?_⟩
        have hx : x ≠ a := fun z => hj (by rw [z, la] at l; exact (Option.some.inj l).symm)
        rw [upd_ne hx]; exact q
  rw [es] at key
  exact key
/-- a slot's own list is given free: it changes no more -/
theorem Rl.frz (R : Rl K B Hs H σ ev) {ts : List T} (he : ev[i]? = some (.ow ts)) : ∃ Hs', Same Hs Hs' ∧ Rl K B Hs' H σ (ev.set i (.sh (.lst ts))) := by
  obtain ⟨lab, l1, l2⟩ := R.lab
  have hi : i < σ.length := by rw [← R.len]; exact (List.getElem?_eq_some_iff.mp he).1
  obtain ⟨a, vs, eo, la, ha, r⟩ := l2 i _ _ he (List.getElem?_eq_getElem hi)
  have e2 : σ[i]? = some (some (.ref a)) := by rw [List.getElem?_eq_getElem hi, eo]
  obtain ⟨hb, hz, _⟩ := l1 a i la
  have ss : Same Hs (upd Hs a (.lst vs)) := same_new hz
  refine ⟨upd Hs a (.lst vs), ss, ?_⟩
  have es : σ.set i (some (.ref a)) = σ := by
    apply List.ext_getElem?
    intro j
    by_cases hj : j = i
    · subst hj; rw [List.getElem?_set_self hi, e2]
    · rw [List.getElem?_set_ne (Ne.symm hj)]
  have bd : Bd B (upd Hs a (.lst vs)) H := by
    refine ⟨R.bd.s.trans ss, R.bd.h, fun x o e => ?_, ⟨fun x o e => ?_, fun x o e c => ss _ _ (R.bd.ok.cst _ _ e c)⟩⟩
    · rw [upd_ne (ne_of_none e hb)]; exact R.bd.n _ _ e
    · by_cases hx : x = a
      · subst hx; rw [upd_same] at e; cases e; exact ha
      · rw [upd_ne hx] at e; exact R.bd.ok.sub _ _ e
  have key : Rl K B (upd Hs a (.lst vs)) H (σ.set i (some (.ref a))) (ev.set i (.sh (.lst ts))) := by
    refine ⟨bd, by rw [List.length_set, List.length_set]; exact R.len, fun x => if x = a then none else lab x, fun x j e => ?_, fun j s' o e1 e2' => ?_⟩
    · dsimp only at e
      by_cases hx : x = a
      · rw [if_pos hx] at e; cases e
      · rw [if_neg hx] at e
        obtain ⟨b, z, y, q⟩ := l1 x j e
        exact ⟨b, by rw [upd_ne hx]; exact z, y, q⟩
    · by_cases hj : j = i
      · subst hj
        rw [List.getElem?_set_self (by rw [R.len]; exact hi)] at e1
        rw [List.getElem?_set_self hi] at e2'
        cases e1; cases e2'
        exact ⟨.ref a, rfl, .lst upd_same (r.mono ss)⟩
      · rw [List.getElem?_set_ne (Ne.symm hj)] at e1 e2'
        refine (l2 j s' o e1 e2').imp ss fun x y l q => ⟨?_, q⟩
        have hx : x ≠ a := fun z => hj (by rw [z, la] at l; exact (Option.some.inj l).symm)
        simp only [hx, if_false]
        exact l
  rw [es] at key
  exact key
end

/-! ### readings by plain functions -/
/-- an expression -/
def tF (K : PySem.W.Frag) (f : Ev → Option T) : TE := fun σ H Q => ∃ B Hs ev t, Rl K B Hs H σ ev ∧ f ev = some t ∧ ∀ v Hs' H', Gr Hs H Hs' H' → Rp K Hs' v t → Q v H'
/-- an expression whose value's lists are new -/
def tN (K : PySem.W.Frag) (f : Ev → Option T) : TE := fun σ H Q => ∃ B Hs ev t, Rl K B Hs H σ ev ∧ f ev = some t ∧ ∀ v H', Same H H' → Rp K (Frs H H') v t → Q v H'
/-- a test -/
def tT (K : PySem.W.Frag) (f : Ev → Option Bool) : TT := fun σ H Q => ∃ B Hs ev b, Rl K B Hs H σ ev ∧ f ev = some b ∧ ∀ Hs' H', Gr Hs H Hs' H' → Q b H'
/-- arguments -/
def tA (K : PySem.W.Frag) (f : Ev → Option (List T)) : TA := fun σ H Q => ∃ B Hs ev ts, Rl K B Hs H σ ev ∧ f ev = some ts ∧ ∀ vs Hs' H', Gr Hs H Hs' H' → Rps K Hs' vs ts → Q vs H'

section
variable {X : Cx} {e : Expr} {t t' : TE}
theorem PE.by (h : PE X e t) (i : ∀ σ H Q, t' σ H Q → t σ H Q) : PE X e t' := ⟨fun pins s σ H Q I hw => h.run pins s σ H Q I (i σ H Q hw)⟩
theorem PT.by {t t' : TT} (h : PT X e t) (i : ∀ σ H Q, t' σ H Q → t σ H Q) : PT X e t' := ⟨fun pins s σ H Q I hw => h.run pins s σ H Q I (i σ H Q hw)⟩
theorem PW.by {t t' : TT} (h : PW X e t) (i : ∀ σ H Q, t' σ H Q → t σ H Q) : PW X e t' := ⟨fun wh pins s σ H Q I hw => h.run wh pins s σ H Q I (i σ H Q hw)⟩
theorem PA.by {es : List Expr} {t t' : TA} (h : PA X es t) (i : ∀ σ H Q, t' σ H Q → t σ H Q) : PA X es t' := ⟨fun pos pins s σ H Q I hw => h.run pos pins s σ H Q I (i σ H Q hw)⟩
end

/-- what a binary operation on values does, as a function on data -/
def OpD (K : PySem.W.Frag) (r : R2) (g : T → T → Option T) : Prop := ∀ (Hs H : Hp) (x y : V) (d e z : T), Ok Hs H → Rp K Hs x d → Rp K Hs y e → g d e = some z → ∀ Q : VK, (∀ v Hs' H', Gr Hs H Hs' H' → Rp K Hs' v z → Q v H') → r x y H Q
def OpN (K : PySem.W.Frag) (r : R2) (g : T → T → Option T) : Prop := ∀ (Hs H : Hp) (x y : V) (d e z : T), Ok Hs H → Rp K Hs x d → Rp K Hs y e → g d e = some z → ∀ Q : VK, (∀ v H', Same H H' → Rp K (Frs H H') v z → Q v H') → r x y H Q
def CallD (K : PySem.W.Frag) (r : List V → Hp → VK → Prop) (g : List T → Option T) : Prop := ∀ (Hs H : Hp) (vs : List V) (ds : List T) (z : T), Ok Hs H → Rps K Hs vs ds → g ds = some z → ∀ Q : VK, (∀ v Hs' H', Gr Hs H Hs' H' → Rp K Hs' v z → Q v H') → r vs H Q
def CallN (K : PySem.W.Frag) (r : List V → Hp → VK → Prop) (g : List T → Option T) : Prop := ∀ (Hs H : Hp) (vs : List V) (ds : List T) (z : T), Ok Hs H → Rps K Hs vs ds → g ds = some z → ∀ Q : VK, (∀ v H', Same H H' → Rp K (Frs H H') v z → Q v H') → r vs H Q
def f2 (g : T → T → Option T) (fa fb : Ev → Option T) : Ev → Option T := fun ev => (fa ev).bind fun d => (fb ev).bind fun e => g d e
def f1 (g : T → Option T) (fa : Ev → Option T) : Ev → Option T := fun ev => (fa ev).bind g
def fC (g : List T → Option T) (fa : Ev → Option (List T)) : Ev → Option T := fun ev => (fa ev).bind g
def fVar (i : Nat) : Ev → Option T := fun ev => match ev[i]? with
  | some (.sh t) => some t
  | _ => none
def fK (t : T) : Ev → Option T := fun _ => some t
def fNil : Ev → Option (List T) := fun _ => some []
def fCons (fa : Ev → Option T) (fr : Ev → Option (List T)) : Ev → Option (List T) := fun ev => (fa ev).bind fun d => (fr ev).bind fun ds => some (d :: ds)
theorem bind_some {α β : Type} {o : Option α} {g : α → Option β} {z : β} (h : o.bind g = some z) : ∃ d, o = some d ∧ g d = some z := by
  cases o with
  | none => cases h
  | some d => exact ⟨d, rfl, h⟩

section
variable {K : PySem.W.Frag} {X : Cx} {a b e : Expr} {es : List Expr} {fa fb : Ev → Option T} {fs : Ev → Option (List T)} {pos p : Pos} {x : Str} {r : R2} {g : T → T → Option T}
theorem fe_of (h : PE X e (tN K fa)) : PE X e (tF K fa) := PE.by h fun σ H Q ⟨B, Hs, ev, t, R, hf, q⟩ => ⟨B, Hs, ev, t, R, hf, fun v H' s r => q v _ H' (Gr.nxt R.bd.ok s) (r.mono (Frs.nxt R.bd.ok s))⟩
theorem fe_var (i : Nat) (hN : X.N[i]? = some x := by rfl) (hv : Vis X.env.scope x := by first | exact Or.inl rfl | exact Or.inr (Or.inl rfl) | exact Or.inr (Or.inr rfl)) (hd : (x == ("__debug__" : Str)) = false := by decide)
    (hcd : (x == ("__classdict__" : Str)) = false := by decide) : PE X (.Name x pos) (tF K (fVar i)) := PE.by (pe_var (i := i) hN hv hd hcd) fun σ H Q ⟨B, Hs, ev, t, R, hf, q⟩ => by
  unfold fVar at hf
  cases hs : ev[i]? with
  | none => rw [hs] at hf; cases hf
  | some s =>
    rw [hs] at hf
    cases s with
    | sh u =>
      cases hf
      obtain ⟨lab, _, l2⟩ := R.lab
      have hi : i < σ.length := by rw [← R.len]; exact (List.getElem?_eq_some_iff.mp hs).1
      obtain ⟨v, e, rp⟩ := l2 i _ _ hs (List.getElem?_eq_getElem hi)
      exact ⟨v, by rw [List.getElem?_eq_getElem hi, e], q v Hs H (Gr.refl R.bd.ok) rp⟩
    | _ => cases hf
theorem fe_int {i : Int} {j : Nat} : PE X (.Constant (.int i) j pos) (tF K (fK (.int i))) := PE.by pe_int fun σ H Q ⟨B, Hs, ev, t, R, hf, q⟩ => by cases hf; exact q _ Hs H (Gr.refl R.bd.ok) (.int i)
theorem fe_bl {i : Bool} {j : Nat} : PE X (.Constant (.bool i) j pos) (tF K (fK (.bl i))) := PE.by pe_bl fun σ H Q ⟨B, Hs, ev, t, R, hf, q⟩ => by cases hf; exact q _ Hs H (Gr.refl R.bd.ok) (.bl i)
theorem fe_non {j : Nat} : PE X (.Constant .none j pos) (tF K (fK .non)) := PE.by pe_non fun σ H Q ⟨B, Hs, ev, t, R, hf, q⟩ => by cases hf; exact q _ Hs H (Gr.refl R.bd.ok) .non
theorem fe_str {i : Str} {j : Nat} : PE X (.Constant (.str i) j pos) (tF K (fK (.str i))) := PE.by pe_str fun σ H Q ⟨B, Hs, ev, t, R, hf, q⟩ => by cases hf; exact q _ Hs H (Gr.refl R.bd.ok) (.str i)
/-- a module's constant -/
theorem fe_globI {i : Int} {tk : Tok} (hg : Gl X x) (hm : X.mg x = some (.int i tk)) (hd : (x == ("__debug__" : Str)) = false := by decide) : PE X (.Name x pos) (tF K (fK (.int i))) :=
  PE.by (pe_glob (v := .int i) hg hm ⟨_, rfl⟩ hd) fun σ H Q ⟨B, Hs, ev, t, R, hf, q⟩ => by cases hf; exact q _ Hs H (Gr.refl R.bd.ok) (.int i)
theorem fe_globS {i : Str} {tk : Tok} (hg : Gl X x) (hm : X.mg x = some (.str i tk)) (hd : (x == ("__debug__" : Str)) = false := by decide) : PE X (.Name x pos) (tF K (fK (.str i))) :=
  PE.by (pe_glob (v := .str i) hg hm ⟨_, rfl⟩ hd) fun σ H Q ⟨B, Hs, ev, t, R, hf, q⟩ => by cases hf; exact q _ Hs H (Gr.refl R.bd.ok) (.str i)
theorem op2D (ho : OpD K r g) : ∀ σ H Q, tF K (f2 g fa fb) σ H Q → tOp r (tF K fa) (tF K fb) σ H Q := fun σ H Q ⟨B, Hs, ev, t, R, hf, q⟩ => by
  obtain ⟨d, h1, hf⟩ := bind_some hf
  obtain ⟨e, h2, hf⟩ := bind_some hf
  exact ⟨B, Hs, ev, d, R, h1, fun x Hs1 H1 g1 r1 => ⟨B, Hs1, ev, e, R.to g1, h2, fun y Hs2 H2 g2 r2 => ho Hs2 H2 x y d e t g2.ok (r1.mono g2.s) r2 hf Q fun v Hs3 H3 g3 r3 => q v Hs3 H3 ((g1.trans g2).trans g3) r3⟩⟩
theorem op2N (ho : OpN K r g) : ∀ σ H Q, tN K (f2 g fa fb) σ H Q → tOp r (tF K fa) (tF K fb) σ H Q := fun σ H Q ⟨B, Hs, ev, t, R, hf, q⟩ => by
  obtain ⟨d, h1, hf⟩ := bind_some hf
  obtain ⟨e, h2, hf⟩ := bind_some hf
  exact ⟨B, Hs, ev, d, R, h1, fun x Hs1 H1 g1 r1 => ⟨B, Hs1, ev, e, R.to g1, h2, fun y Hs2 H2 g2 r2 => ho Hs2 H2 x y d e t g2.ok (r1.mono g2.s) r2 hf Q fun v H3 s3 r3 =>
    q v H3 ((g1.h.trans g2.h).trans s3) (r3.mono (Frs.back (g1.h.trans g2.h)))⟩⟩
theorem fe_op {op : Operator} (ho : OpR X (binaryOp op) r) (hr : OpD K r g) (ha : PE X a (tF K fa)) (hb : PE X b (tF K fb)) : PE X (.BinOp a op b pos) (tF K (f2 g fa fb)) := PE.by (pe_op ho ha hb) (op2D hr)
theorem fn_op {op : Operator} (ho : OpR X (binaryOp op) r) (hr : OpN K r g) (ha : PE X a (tF K fa)) (hb : PE X b (tF K fb)) : PE X (.BinOp a op b pos) (tN K (f2 g fa fb)) := PE.by (pe_op ho ha hb) (op2N hr)
theorem fe_cmp {op : CmpOp} (ho : OpR X (compareOp op) r) (hr : OpD K r g) (ha : PE X a (tF K fa)) (hb : PE X b (tF K fb)) (hm : behindInMarks op b = false) : PE X (.Compare a [op] [b] pos) (tF K (f2 g fa fb)) := PE.by (pe_cmpR ho ha hb hm) (op2D hr)
/-- the test of a value that is True or False -/
def fTest (f : Ev → Option T) : Ev → Option Bool := fun ev => match f ev with
  | some (.bl b) => some b
  | _ => none
theorem testF {f : Ev → Option T} : ∀ σ H Q, tT K (fTest f) σ H Q → tF K f σ H fun x H1 => ∃ c, x = .bl c ∧ Q c H1 := fun σ H Q ⟨B, Hs, ev, b, R, hf, q⟩ => by
  unfold fTest at hf
  cases h : f ev with
  | none => rw [h] at hf; cases hf
  | some t =>
    rw [h] at hf
    cases t with
    | bl c => cases hf; exact ⟨B, Hs, ev, _, R, h, fun v Hs' H' g r => by cases r; exact ⟨_, rfl, q Hs' H' g⟩⟩
    | _ => cases hf
theorem ft_cmp {op : CmpOp} (ho : OpR X (compareOp op) r) (hr : OpD K r g) (ha : PE X a (tF K fa)) (hb : PE X b (tF K fb)) (hm : behindInMarks op b = false) : PT X (.Compare a [op] [b] pos) (tT K (fTest (f2 g fa fb))) :=
  PT.by (pt_cmpR ho ha hb hm) fun σ H Q h => op2D hr _ _ _ (testF _ _ _ h)
theorem ft_val {f : Ev → Option T} (h : PE X e (tF K f)) (he : ∀ whole, isTrue e X.env whole = (do let v ← whole; standAt e.pos; holding [v] (truthy v)) := by intro _; rfl) : PT X e (tT K (fTest f)) := PT.by (pt_val h he) testF
def fAnd (f g : Ev → Option Bool) : Ev → Option Bool := fun ev => match f ev with
  | some true => g ev
  | some false => some false
  | none => none
def fOr (f g : Ev → Option Bool) : Ev → Option Bool := fun ev => match f ev with
  | some true => some true
  | some false => g ev
  | none => none
def fNot (f : Ev → Option Bool) : Ev → Option Bool := fun ev => (f ev).map fun b => !b
theorem ft_not {f : Ev → Option Bool} (h : PT X a (tT K f)) : PT X (.UnaryOp .Not a pos) (tT K (fNot f)) := PT.by (pt_not h) fun σ H Q ⟨B, Hs, ev, b, R, hf, q⟩ => by
  unfold fNot at hf
  cases hb : f ev with
  | none => rw [hb] at hf; cases hf
  | some c => rw [hb] at hf; cases hf; exact ⟨B, Hs, ev, c, R, hb, fun Hs' H' g => q Hs' H' g⟩
theorem fw_and1 {f : Ev → Option Bool} (h : PT X a (tT K f)) : PW X (.BoolOp .And [a] pos) (tT K f) := pw_and1 h
theorem fw_or1 {f : Ev → Option Bool} (h : PT X a (tT K f)) : PW X (.BoolOp .Or [a] pos) (tT K f) := pw_or1 h
theorem fw_and {f g : Ev → Option Bool} {rest : List Expr} (ha : PT X a (tT K f)) (hb : PW X (.BoolOp .And (b :: rest) pos) (tT K g)) : PW X (.BoolOp .And (a :: b :: rest) pos) (tT K (fAnd f g)) := PW.by (pw_and ha hb) fun σ H Q ⟨B, Hs, ev, c, R, hf, q⟩ => by
  unfold fAnd at hf
  cases h : f ev with
  | none => rw [h] at hf; cases hf
  | some d =>
    rw [h] at hf
    refine ⟨B, Hs, ev, d, R, h, fun Hs' H' gr => ?_⟩
    cases d with
    | true => exact ⟨B, Hs', ev, c, R.to gr, hf, fun Hs2 H2 g2 => q Hs2 H2 (gr.trans g2)⟩
    | false => cases hf; exact q Hs' H' gr
theorem fw_or {f g : Ev → Option Bool} {rest : List Expr} (ha : PT X a (tT K f)) (hb : PW X (.BoolOp .Or (b :: rest) pos) (tT K g)) : PW X (.BoolOp .Or (a :: b :: rest) pos) (tT K (fOr f g)) := PW.by (pw_or ha hb) fun σ H Q ⟨B, Hs, ev, c, R, hf, q⟩ => by
  unfold fOr at hf
  cases h : f ev with
  | none => rw [h] at hf; cases hf
  | some d =>
    rw [h] at hf
    refine ⟨B, Hs, ev, d, R, h, fun Hs' H' gr => ?_⟩
    cases d with
    | false => exact ⟨B, Hs', ev, c, R.to gr, hf, fun Hs2 H2 g2 => q Hs2 H2 (gr.trans g2)⟩
    | true => cases hf; exact q Hs' H' gr
/-- .. as values -/
def fAndV (f g : Ev → Option T) : Ev → Option T := fun ev => match f ev with
  | some (.bl true) => g ev
  | some (.bl false) => some (.bl false)
  | _ => none
def fOrV (f g : Ev → Option T) : Ev → Option T := fun ev => match f ev with
  | some (.bl true) => some (.bl true)
  | some (.bl false) => g ev
  | _ => none
def fNotV (f : Ev → Option T) : Ev → Option T := fun ev => match f ev with
  | some (.bl b) => some (.bl (!b))
  | _ => none
theorem fe_one {op : BoolOp} {f : Ev → Option T} (h : PE X a (tF K f)) : PE X (.BoolOp op [a] pos) (tF K f) := pe_one h
theorem fe_and {f g : Ev → Option T} {rest : List Expr} (ha : PE X a (tF K f)) (hb : PE X (.BoolOp .And (b :: rest) pos) (tF K g)) : PE X (.BoolOp .And (a :: b :: rest) pos) (tF K (fAndV f g)) := PE.by (pe_and ha hb) fun σ H Q ⟨B, Hs, ev, c, R, hf, q⟩ => by
  unfold fAndV at hf
  cases h : f ev with
  | none => rw [h] at hf; cases hf
  | some d =>
    rw [h] at hf
    cases d with
    | bl d =>
      refine ⟨B, Hs, ev, _, R, h, fun v Hs' H' gr rp => ?_⟩
      cases rp
      refine ⟨d, rfl, ?_⟩
      cases d with
      | true => exact ⟨B, Hs', ev, c, R.to gr, hf, fun w Hs2 H2 g2 r2 => q w Hs2 H2 (gr.trans g2) r2⟩
      | false => cases hf; exact q _ Hs' H' gr (.bl false)
    | _ => cases hf
theorem fe_or {f g : Ev → Option T} {rest : List Expr} (ha : PE X a (tF K f)) (hb : PE X (.BoolOp .Or (b :: rest) pos) (tF K g)) : PE X (.BoolOp .Or (a :: b :: rest) pos) (tF K (fOrV f g)) := PE.by (pe_or ha hb) fun σ H Q ⟨B, Hs, ev, c, R, hf, q⟩ => by
  unfold fOrV at hf
  cases h : f ev with
  | none => rw [h] at hf; cases hf
  | some d =>
    rw [h] at hf
    cases d with
    | bl d =>
      refine ⟨B, Hs, ev, _, R, h, fun v Hs' H' gr rp => ?_⟩
      cases rp
      refine ⟨d, rfl, ?_⟩
      cases d with
      | false => exact ⟨B, Hs', ev, c, R.to gr, hf, fun w Hs2 H2 g2 r2 => q w Hs2 H2 (gr.trans g2) r2⟩
      | true => cases hf; exact q _ Hs' H' gr (.bl true)
    | _ => cases hf
theorem fe_not {f : Ev → Option T} (ha : PE X a (tF K f)) : PE X (.UnaryOp .Not a pos) (tF K (fNotV f)) := PE.by (pe_not ha) fun σ H Q ⟨B, Hs, ev, c, R, hf, q⟩ => by
  unfold fNotV at hf
  cases h : f ev with
  | none => rw [h] at hf; cases hf
  | some d =>
    rw [h] at hf
    cases d with
    | bl d =>
      refine ⟨B, Hs, ev, _, R, h, fun v Hs' H' gr rp => ?_⟩
      cases rp
      cases hf
      exact ⟨d, rfl, q _ Hs' H' gr (.bl _)⟩
    | _ => cases hf
/-- a < b <= c -/
def fChain (g g' : T → T → Option T) (fa fb fc : Ev → Option T) : Ev → Option T := fun ev => (fa ev).bind fun d => (fb ev).bind fun e => match g d e with
  | some (.bl true) => (fc ev).bind fun c => g' e c
  | some (.bl false) => some (.bl false)
  | _ => none
theorem fa_nil : PA X [] (tA K fNil) := PA.by pa_nil fun σ H Q ⟨B, Hs, ev, c, R, hf, q⟩ => by cases hf; exact q [] Hs H (Gr.refl R.bd.ok) .nil
theorem fa_cons (ha : PE X e (tF K fa)) (hr : PA X es (tA K fs)) (hs : starEach (e :: es) X.env = (false, eval e X.env) :: starEach es X.env := by rfl) : PA X (e :: es) (tA K (fCons fa fs)) := PA.by (pa_cons ha hr hs) fun σ H Q ⟨B, Hs, ev, c, R, hf, q⟩ => by
  obtain ⟨d, h1, hf⟩ := bind_some hf
  obtain ⟨ds, h2, hf⟩ := bind_some hf
  cases hf
  exact ⟨B, Hs, ev, d, R, h1, fun x Hs1 H1 g1 r1 => ⟨B, Hs1, ev, ds, R.to g1, h2, fun xs Hs2 H2 g2 r2 => q _ Hs2 H2 (g1.trans g2) (.cons (r1.mono g2.s) r2)⟩⟩
theorem callD {r : List V → Hp → VK → Prop} {g : List T → Option T} (hr : CallD K r g) : ∀ σ H Q, tF K (fC g fs) σ H Q → tCB r (tA K fs) σ H Q := fun σ H Q ⟨B, Hs, ev, c, R, hf, q⟩ => by
  obtain ⟨ds, h1, hf⟩ := bind_some hf
  exact ⟨B, Hs, ev, ds, R, h1, fun vs Hs1 H1 g1 r1 => hr Hs1 H1 vs ds c g1.ok r1 hf Q fun v Hs2 H2 g2 r2 => q v Hs2 H2 (g1.trans g2) r2⟩
theorem callN {r : List V → Hp → VK → Prop} {g : List T → Option T} (hr : CallN K r g) : ∀ σ H Q, tN K (fC g fs) σ H Q → tCB r (tA K fs) σ H Q := fun σ H Q ⟨B, Hs, ev, c, R, hf, q⟩ => by
  obtain ⟨ds, h1, hf⟩ := bind_some hf
  exact ⟨B, Hs, ev, ds, R, h1, fun vs Hs1 H1 g1 r1 => hr Hs1 H1 vs ds c g1.ok r1 hf Q fun v H2 s2 r2 => q v H2 (g1.h.trans s2) (r2.mono (Frs.back g1.h))⟩
section
variable {r : List V → Hp → VK → Prop} {g : List T → Option T} {id Ty : String}
theorem fe_callB (hc : CallR X (.builtin id) r) (hr : CallD K r g) (hg : Gl X x) (hm : X.mg x = none) (hv : bootBuiltins x = some (.builtin id)) (ha : PA X (e :: es) (tA K fs)) (hn : x ≠ "__name__" := by decide) (hdb : (x == ("__debug__" : Str)) = false := by decide)
    (he : starEach (e :: es) X.env = (false, eval e X.env) :: starEach es X.env := by rfl) (hpl : (backTo pos (starEach es X.env)).any (·.1) = false := by rfl) : PE X (.Call (.Name x p) (e :: es) [] pos) (tF K (fC g fs)) :=
  PE.by (pe_callB hc hg hm hv ha hn hdb he hpl) (callD hr)
theorem fn_callB (hc : CallR X (.builtin id) r) (hr : CallN K r g) (hg : Gl X x) (hm : X.mg x = none) (hv : bootBuiltins x = some (.builtin id)) (ha : PA X (e :: es) (tA K fs)) (hn : x ≠ "__name__" := by decide) (hdb : (x == ("__debug__" : Str)) = false := by decide)
    (he : starEach (e :: es) X.env = (false, eval e X.env) :: starEach es X.env := by rfl) (hpl : (backTo pos (starEach es X.env)).any (·.1) = false := by rfl) : PE X (.Call (.Name x p) (e :: es) [] pos) (tN K (fC g fs)) :=
  PE.by (pe_callB hc hg hm hv ha hn hdb he hpl) (callN hr)
theorem fe_callTy (hc : CallR X (.type Ty) r) (hr : CallD K r g) (hg : Gl X x) (hm : X.mg x = none) (hv : bootBuiltins x = some (.type Ty)) (ha : PA X (e :: es) (tA K fs)) (hn : x ≠ "__name__" := by decide) (hdb : (x == ("__debug__" : Str)) = false := by decide)
    (he : starEach (e :: es) X.env = (false, eval e X.env) :: starEach es X.env := by rfl) (hpl : (backTo pos (starEach es X.env)).any (·.1) = false := by rfl) : PE X (.Call (.Name x p) (e :: es) [] pos) (tF K (fC g fs)) :=
  PE.by (pe_callTy hc hg hm hv ha hn hdb he hpl) (callD hr)
theorem fn_callTy (hc : CallR X (.type Ty) r) (hr : CallN K r g) (hg : Gl X x) (hm : X.mg x = none) (hv : bootBuiltins x = some (.type Ty)) (ha : PA X (e :: es) (tA K fs)) (hn : x ≠ "__name__" := by decide) (hdb : (x == ("__debug__" : Str)) = false := by decide)
    (he : starEach (e :: es) X.env = (false, eval e X.env) :: starEach es X.env := by rfl) (hpl : (backTo pos (starEach es X.env)).any (·.1) = false := by rfl) : PE X (.Call (.Name x p) (e :: es) [] pos) (tN K (fC g fs)) :=
  PE.by (pe_callTy hc hg hm hv ha hn hdb he hpl) (callN hr)
end
end
end Fx

namespace Fx
open PySem PySem.Spec L2
open PyProof.Rows hiding St

/-! ### statements -/
inductive Out where
  | nx (e : Ev) | rt (t : T) | rf (t : T) | bk (e : Ev) | ct (e : Ev) | ex (c : Str) (e : Ev)
def Post (K : PySem.W.Frag) (mg : Str → Option Value) (W : WX) (B : Bs) (Hs : Hp) (D : Ends) : Out → Prop
  | .nx e => ∀ σ' Hs' H', Same Hs Hs' → Rl K B Hs' H' σ' e → D.nx σ' H'
  | .bk e => ∀ σ' Hs' H', Same Hs Hs' → Rl K B Hs' H' σ' e → D.bk σ' H'
  | .ct e => ∀ σ' Hs' H', Same Hs Hs' → Rl K B Hs' H' σ' e → D.ct σ' H'
  | .rt t => ∀ v Hs' H', Same Hs Hs' → Bd B Hs' H' → Rp K Hs' v t → D.rt v H'
  | .rf t => ∀ v Hs' H', Same Hs Hs' → Bd B Hs' H' → Rp K (Frs B.b H') v t → D.rt v H'
  | .ex c e => ∀ σ' Hs' H' cls, Same Hs Hs' → Rl K B Hs' H' σ' e → mg c = some cls → W cls none σ' H'
def tS (K : PySem.W.Frag) (mg : Str → Option Value) (W : WX) (F : Ev → Option Out) : TS := fun D σ H => ∃ B Hs ev o, Rl K B Hs H σ ev ∧ F ev = some o ∧ Post K mg W B Hs D o
section
variable {K : PySem.W.Frag} {mg : Str → Option Value} {W : WX} {B : Bs} {Hs Hs' H : Hp} {D D' : Ends} {o : Out}
theorem Post.to (h : Post K mg W B Hs D o) (s : Same Hs Hs') : Post K mg W B Hs' D o := by
  cases o with
  | nx e => exact fun σ' Hs2 H' s2 => h σ' Hs2 H' (s.trans s2)
  | bk e => exact fun σ' Hs2 H' s2 => h σ' Hs2 H' (s.trans s2)
  | ct e => exact fun σ' Hs2 H' s2 => h σ' Hs2 H' (s.trans s2)
  | rt t => exact fun v Hs2 H' s2 => h v Hs2 H' (s.trans s2)
  | rf t => exact fun v Hs2 H' s2 => h v Hs2 H' (s.trans s2)
  | ex c e => exact fun σ' Hs2 H' cls s2 => h σ' Hs2 H' cls (s.trans s2)
end
def fSeq (F G : Ev → Option Out) : Ev → Option Out := fun ev => match F ev with
  | some (.nx e) => G e
  | o => o
def fSkip : Ev → Option Out := fun ev => some (.nx ev)
def fIf (c : Ev → Option Bool) (F G : Ev → Option Out) : Ev → Option Out := fun ev => match c ev with
  | some true => F ev
  | some false => G ev
  | none => none
def fSet (i : Nat) (f : Ev → Option T) : Ev → Option Out := fun ev => (f ev).map fun t => .nx (ev.set i (.sh t))
def fSetOw (i : Nat) (f : Ev → Option T) : Ev → Option Out := fun ev => match f ev with
  | some (.lst ts) => if noLs ts then some (.nx (ev.set i (.ow ts))) else none
  | _ => none
def fRet (f : Ev → Option T) : Ev → Option Out := fun ev => (f ev).map .rt
def fRetF (f : Ev → Option T) : Ev → Option Out := fun ev => (f ev).map .rf
def fRaise (c : Str) : Ev → Option Out := fun ev => some (.ex c ev)
/-- the slot's list is given free ahead -/
def fFrz (i : Nat) (F : Ev → Option Out) : Ev → Option Out := fun ev => match ev[i]? with
  | some (.ow ts) => F (ev.set i (.sh (.lst ts)))
  | _ => none
def But (a : Addr) (H : Hp) : Hp := fun b => if b = a then none else H b
theorem Gr.but {Hs H H' : Hp} {a : Addr} {vs : List V} (k : Ok Hs H) (h : Same H H') (n : H a = none) (e : H' a = some (.lst vs)) : Gr Hs H (But a (Nxt Hs H H')) H' := by
  have g := Gr.nxt k h
  refine ⟨fun b o q => ?_, h, fun b o q => ?_, ⟨fun b o q => ?_, fun b o q c => ?_⟩⟩
  · unfold But; rw [if_neg (ne_of_none (k.sub _ _ q) n)]; exact g.s _ _ q
  · unfold But; rw [if_neg (ne_of_none q n)]; exact g.n _ _ q
  · unfold But at q
    by_cases hb : b = a
    · rw [if_pos hb] at q; cases q
    · rw [if_neg hb] at q; exact g.ok.sub _ _ q
  · unfold But
    rw [if_neg (fun z => by rw [z, e] at q; cases q; cases c)]
    exact g.ok.cst _ _ q c

section
variable {X : Cx} {K : PySem.W.Frag} {mg : Str → Option Value} {W : WX} {st : Stmt} {rest : List Stmt} {e : Expr} {F G : Ev → Option Out} {f : Ev → Option T} {c : Expr} {fc : Ev → Option Bool} {pos : Pos} {x : Str}
theorem PS.by {t t' : TS} (h : PS X st t) (i : ∀ D σ H, t' D σ H → t D σ H) : PS X st t' := ⟨fun pins s σ H D I hw => h.run pins s σ H D I (i D σ H hw)⟩
theorem PSs.by {t t' : TS} (h : PSs X rest t) (i : ∀ D σ H, t' D σ H → t D σ H) : PSs X rest t' := ⟨fun pins s σ H D I hw => h.run pins s σ H D I (i D σ H hw)⟩
theorem fs_nil : PSs X [] (tS K mg W fSkip) := PSs.by pss_nil fun D σ H ⟨B, Hs, ev, o, R, hf, q⟩ => by
  cases hf
  exact q σ Hs H (Same.refl _) R
theorem fs_cons (h1 : PS X st (tS K mg W F)) (h2 : PSs X rest (tS K mg W G)) : PSs X (st :: rest) (tS K mg W (fSeq F G)) := PSs.by (pss_cons h1 h2) fun D σ H ⟨B, Hs, ev, o, R, hf, q⟩ => by
  unfold fSeq at hf
  cases h : F ev with
  | none => rw [h] at hf; cases hf
  | some p =>
    rw [h] at hf
    refine ⟨B, Hs, ev, p, R, h, ?_⟩
    cases p with
    | nx e' => exact fun σ' Hs' H' ss R' => ⟨B, Hs', e', o, R', hf, q.to ss⟩
    | _ => cases hf; exact q
theorem fs_one (h1 : PS X st (tS K mg W F)) : PSs X [st] (tS K mg W F) := pss_one h1
theorem fs_pass : PS X (.Pass pos) (tS K mg W fSkip) := PS.by ps_pass fun D σ H ⟨B, Hs, ev, o, R, hf, q⟩ => by
  cases hf
  exact q σ Hs H (Same.refl _) R
theorem fs_if {a b : List Stmt} (hc : PT X c (tT K fc)) (ha : PSs X a (tS K mg W F)) (hb : PSs X b (tS K mg W G)) : PS X (.If c a b pos) (tS K mg W (fIf fc F G)) := PS.by (ps_if hc ha hb) fun D σ H ⟨B, Hs, ev, o, R, hf, q⟩ => by
  unfold fIf at hf
  cases h : fc ev with
  | none => rw [h] at hf; cases hf
  | some b =>
    rw [h] at hf
    refine ⟨B, Hs, ev, b, R, h, fun Hs' H' g => ?_⟩
    cases b with
    | true => exact ⟨B, Hs', ev, o, R.to g, hf, q.to g.s⟩
    | false => exact ⟨B, Hs', ev, o, R.to g, hf, q.to g.s⟩
theorem asgD (i : Nat) : ∀ D σ H, tS K mg W (fSet i f) D σ H → tAsg (tF K f) (gName i) D σ H := fun D σ H ⟨B, Hs, ev, o, R, hf, q⟩ => by
  unfold fSet at hf
  cases h : f ev with
  | none => rw [h] at hf; cases hf
  | some t =>
    rw [h] at hf
    cases hf
    exact ⟨B, Hs, ev, t, R, h, fun v Hs' H' g r => q _ Hs' H' g.s ((R.to g).set r i)⟩
theorem asgN (i : Nat) : ∀ D σ H, tS K mg W (fSetOw i f) D σ H → tAsg (tN K f) (gName i) D σ H := fun D σ H ⟨B, Hs, ev, o, R, hf, q⟩ => by
  unfold fSetOw at hf
  cases h : f ev with
  | none => rw [h] at hf; cases hf
  | some t =>
    rw [h] at hf
    cases t with
    | lst ts =>
      dsimp only at hf
      split at hf
      · rename_i hz
        cases hf
        refine ⟨B, Hs, ev, _, R, h, fun v H' s r => ?_⟩
        cases r with
        | lst e r =>
          rename_i a vs
          have e1 := Frs.sub _ _ e
          have n1 : H a = none := by
            unfold Frs at e
            rw [e1] at e
            cases z : H a with
            | none => rfl
            | some y => rw [z] at e; cases e
          have g := Gr.but R.bd.ok s n1 e1
          refine q _ _ H' g.s (R.put (R.bd.to g) g.s (some (.ref a)) (fun y => decide (y = a)) (fun y z => ?_) (fun lab l1 _ y j l _ => ?_) ⟨a, vs, rfl, by simp, e1, ?_⟩)
          · have z := of_decide_eq_true z
            subst z
            exact ⟨R.bd.h.free n1, by unfold But; rw [if_pos rfl], _, e1⟩
          · obtain ⟨_, z, y', q'⟩ := l1 y j l
            have hy : y ≠ a := fun e => by rw [e, n1] at q'; cases q'
            refine ⟨decide_eq_false hy, (g.n _ _ q').trans z, fun _ q => s _ _ q⟩
          · refine r.flat (fun b xs q => ?_) hz
            refine g.ok.cst _ _ (Frs.sub _ _ q) rfl
      · cases hf
    | _ => cases hf
theorem fs_set (i : Nat) {pos' : Pos} (hN : X.N.Nodup) (he : PE X e (tF K f)) (hi : X.N[i]? = some x := by rfl) (hx : Loc X.env.scope x := by first | exact Or.inl rfl | exact Or.inr rfl) (hs : swapsWith e (some (.Name x pos')) pos.line X.env = pure false := by rfl)
    (hf : X.fn x = true ∨ X.env.scope.names.lookup x = some .local := by first | exact .inl rfl | exact .inr rfl) : PS X (.Assign [.Name x pos'] e pos) (tS K mg W (fSet i f)) := PS.by (ps_set hN hi hx he hs hf) (asgD i)
theorem fs_setOw (i : Nat) {pos' : Pos} (hN : X.N.Nodup) (he : PE X e (tN K f)) (hi : X.N[i]? = some x := by rfl) (hx : Loc X.env.scope x := by first | exact Or.inl rfl | exact Or.inr rfl) (hs : swapsWith e (some (.Name x pos')) pos.line X.env = pure false := by rfl)
    (hf : X.fn x = true ∨ X.env.scope.names.lookup x = some .local := by first | exact .inl rfl | exact .inr rfl) : PS X (.Assign [.Name x pos'] e pos) (tS K mg W (fSetOw i f)) := PS.by (ps_set hN hi hx he hs hf) (asgN i)
theorem fs_ret (he : PE X e (tF K f)) : PS X (.Return (some e) pos) (tS K mg W (fRet f)) := PS.by (ps_ret he) fun D σ H ⟨B, Hs, ev, o, R, hf, q⟩ => by
  unfold fRet at hf
  cases h : f ev with
  | none => rw [h] at hf; cases hf
  | some t =>
    rw [h] at hf
    cases hf
    exact ⟨B, Hs, ev, t, R, h, fun v Hs' H' g r => q v Hs' H' g.s (R.bd.to g) r⟩
theorem fs_retF (he : PE X e (tN K f)) : PS X (.Return (some e) pos) (tS K mg W (fRetF f)) := PS.by (ps_ret he) fun D σ H ⟨B, Hs, ev, o, R, hf, q⟩ => by
  unfold fRetF at hf
  cases h : f ev with
  | none => rw [h] at hf; cases hf
  | some t =>
    rw [h] at hf
    cases hf
    refine ⟨B, Hs, ev, t, R, h, fun v H' s r => ?_⟩
    have g := Gr.nxt R.bd.ok s
    exact q v _ H' g.s (R.bd.to g) (r.mono (Frs.back R.bd.h))
theorem fs_break : PS X (.Break pos) (tS K mg W fun ev => some (.bk ev)) := PS.by ps_break fun D σ H ⟨B, Hs, ev, o, R, hf, q⟩ => by
  cases hf
  exact q σ Hs H (Same.refl _) R
theorem fs_continue : PS X (.Continue pos) (tS K mg W fun ev => some (.ct ev)) := PS.by ps_continue fun D σ H ⟨B, Hs, ev, o, R, hf, q⟩ => by
  cases hf
  exact q σ Hs H (Same.refl _) R
theorem fs_frz (i : Nat) (h : PS X st (tS K mg W F)) : PS X st (tS K mg W (fFrz i F)) := PS.by h fun D σ H ⟨B, Hs, ev, o, R, hf, q⟩ => by
  unfold fFrz at hf
  cases h : ev[i]? with
  | none => rw [h] at hf; cases hf
  | some s =>
    rw [h] at hf
    cases s with
    | ow ts =>
      obtain ⟨Hs', ss, R'⟩ := R.frz h
      exact ⟨B, Hs', _, o, R', hf, q.to ss⟩
    | _ => cases hf
/-- an expression whose value is dropped -/
def fDrop (f : Ev → Option T) : Ev → Option Out := fun ev => (f ev).map fun _ => .nx ev
theorem fs_expr (he : PE X e (tF K f)) (hs : swapsWith e none pos.line X.env = pure false := by rfl) : PS X (.Expr e pos) (tS K mg W (fDrop f)) := PS.by (ps_expr he hs) fun D σ H ⟨B, Hs, ev, o, R, hf, q⟩ => by
  unfold fDrop at hf
  cases h : f ev with
  | none => rw [h] at hf; cases hf
  | some t =>
    rw [h] at hf
    cases hf
    exact ⟨B, Hs, ev, t, R, h, fun v Hs' H' g r => q _ Hs' H' g.s (R.to g)⟩
/-! ### a slot's own list: append, pop, an item stored -/
def fApp (i : Nat) (f : Ev → Option T) : Ev → Option Out := fun ev => match ev[i]?, f ev with
  | some (.ow ts), some t => if noL t && decide (ts.length < sizeLine) then some (.nx (ev.set i (.ow (ts ++ [t])))) else none
  | _, _ => none
theorem Rl.at_ow {K : PySem.W.Frag} {B : Bs} {Hs H : Hp} {σ : St} {ev : Ev} {i : Nat} {ts : List T} (R : Rl K B Hs H σ ev) (he : ev[i]? = some (.ow ts)) : ∃ a vs, σ[i]? = some (some (.ref a)) ∧ H a = some (.lst vs) ∧ Rps K Hs vs ts := by
  obtain ⟨a, vs, h1, h2, h3, _⟩ := R.mutOw (us := []) he
  exact ⟨a, vs, h1, h2, h3⟩
theorem fs_app (i : Nat) {e : Expr} {p apos cpos : Pos} (hN : X.N[i]? = some x := by rfl) (he : PE X e (tF K f)) (hv : Vis X.env.scope x := by first | exact Or.inl rfl | exact Or.inr (Or.inl rfl) | exact Or.inr (Or.inr rfl)) (hd : (x == ("__debug__" : Str)) = false := by decide)
    (hcd : (x == ("__classdict__" : Str)) = false := by decide)
    (hbase : attributeBase (.Name x p) "append" X.env (eval (.Name x p) X.env) = eval (.Name x p) X.env := by rfl)
    (hfew : ((backTo cpos (starEach [e] X.env)).all (fun x => !x.1) && (backToKw cpos (keywordEach [] X.env)).all (fun x => x.1.isSome)
      && decide ([e].length + ([] : List Keyword).length + (if ([] : List Keyword).isEmpty then 0 else 1) < 30)) = true := by rfl)
    (hline : (apos.endLine == cpos.line) = true := by rfl) (hs : starEach [e] X.env = (false, eval e X.env) :: starEach [] X.env := by rfl) (hplain : (backTo cpos (starEach [] X.env)).any (·.1) = false := by rfl)
    (hsw : swapsWith (.Call (.Attribute (.Name x p) "append" apos) [e] [] cpos) none pos.line X.env = pure false := by rfl) :
    PS X (.Expr (.Call (.Attribute (.Name x p) "append" apos) [e] [] cpos) pos) (tS K mg W (fApp i f)) :=
  PS.by (ps_expr (pe_bm PySem.F.plainAttrs_list PySem.F.slot_list_append PySem.F.type_list_append mt_append (pe_var (i := i) hN hv hd hcd) (pa_cons he pa_nil hs) hbase hfew hline hs hplain) hsw) fun D σ H ⟨B, Hs, ev, o, R, hf, q⟩ => by
    unfold fApp at hf
    cases h : ev[i]? with
    | none => rw [h] at hf; cases hf
    | some s =>
      rw [h] at hf
      cases s with
      | ow ts =>
        cases h2 : f ev with
        | none => rw [h2] at hf; cases hf
        | some t =>
          rw [h2] at hf
          dsimp only at hf
          split at hf
          · rename_i hz
            rw [Bool.and_eq_true, decide_eq_true_eq] at hz
            cases hf
            obtain ⟨a, vs, e1, e2, e3⟩ := R.at_ow h
            refine ⟨.ref a, e1, .inl ⟨rfl, _, SqL.of e2⟩, B, Hs, ev, t, R, h2, fun v Hs' H' g r => ?_⟩
            have R' := R.to g
            obtain ⟨a', vs', e1', e2', e3', m⟩ := R'.mutOw (us := ts ++ [t]) h
            rw [e1] at e1'
            cases e1'
            refine ⟨a, vs', v, rfl, rfl, e2', by rw [e3'.length]; exact hz.2, ?_⟩
            exact q _ Hs' _ g.s (m _ (e3'.append (.cons r .nil)))
          · cases hf
      | _ => cases hf
def fPop (i : Nat) : Ev → Option Out := fun ev => match ev[i]? with
  | some (.ow ts) => if ts.isEmpty then none else some (.nx (ev.set i (.ow ts.dropLast)))
  | _ => none
theorem fs_pop (i : Nat) {p apos cpos : Pos} (hN : X.N[i]? = some x := by rfl) (hv : Vis X.env.scope x := by first | exact Or.inl rfl | exact Or.inr (Or.inl rfl) | exact Or.inr (Or.inr rfl)) (hd : (x == ("__debug__" : Str)) = false := by decide)
    (hcd : (x == ("__classdict__" : Str)) = false := by decide)
    (hbase : attributeBase (.Name x p) "pop" X.env (eval (.Name x p) X.env) = eval (.Name x p) X.env := by rfl)
    (hline : (apos.endLine == cpos.line) = true := by rfl)
    (hsw : swapsWith (.Call (.Attribute (.Name x p) "pop" apos) [] [] cpos) none pos.line X.env = pure false := by rfl) :
    PS X (.Expr (.Call (.Attribute (.Name x p) "pop" apos) [] [] cpos) pos) (tS K mg W (fPop i)) :=
  PS.by (ps_expr (pe_bm0 PySem.F.plainAttrs_list PySem.F.slot_list_pop PySem.F.type_list_pop mt_pop (pe_var (i := i) hN hv hd hcd) hbase hline) hsw) fun D σ H ⟨B, Hs, ev, o, R, hf, q⟩ => by
    unfold fPop at hf
    cases h : ev[i]? with
    | none => rw [h] at hf; cases hf
    | some s =>
      rw [h] at hf
      cases s with
      | ow ts =>
        dsimp only at hf
        cases hz : ts.isEmpty with
        | true => rw [hz] at hf; cases hf
        | false =>
          rw [hz] at hf
          cases hf
          obtain ⟨a, vs, e1, e2, e3, m⟩ := R.mutOw (us := ts.dropLast) h
          have hl : 0 < vs.length := by
            rw [e3.length]
            cases ts with
            | nil => cases hz
            | cons _ _ => exact Nat.zero_lt_succ _
          refine ⟨.ref a, e1, .inl ⟨rfl, _, SqL.of e2⟩, a, vs, vs[vs.length - 1], rfl, rfl, e2, List.getElem?_eq_getElem (by omega), ?_⟩
          exact q _ Hs _ (Same.refl _) (m _ e3.dropLast)
      | _ => cases hf
end

/-! ### a list that may be read now: a slot's own, or one that stays -/
def tL (K : PySem.W.Frag) (f : Ev → Option (List T)) : TE := fun σ H Q => ∃ B Hs ev ts, Rl K B Hs H σ ev ∧ f ev = some ts ∧ ∀ a vs Hs' H', Gr Hs H Hs' H' → H' a = some (.lst vs) → Rps K Hs' vs ts → Q (.ref a) H'
def fOw (i : Nat) : Ev → Option (List T) := fun ev => match ev[i]? with
  | some (.ow ts) => some ts
  | _ => none
def fLst (f : Ev → Option T) : Ev → Option (List T) := fun ev => match f ev with
  | some (.lst ts) => some ts
  | _ => none
def atT (ts : List T) (i : Int) : Option T := (ixN ts.length i).bind fun j => ts[j]?
theorem atI_of {K : PySem.W.Frag} {H : Hp} {vs : List V} {ts : List T} {i : Int} {t : T} (r : Rps K H vs ts) (h : atT ts i = some t) : ∃ v, atI vs i = some v ∧ Rp K H v t := by
  unfold atT at h
  unfold atI
  rw [r.length]
  cases e : ixN ts.length i with
  | none => rw [e] at h; cases h
  | some j =>
    rw [e] at h
    exact r.get h
def fIxL (fl : Ev → Option (List T)) (fi : Ev → Option T) : Ev → Option T := fun ev => match fl ev, fi ev with
  | some ts, some (.int i) => atT ts i
  | _, _ => none
def fLenL (fl : Ev → Option (List T)) : Ev → Option T := fun ev => (fl ev).map fun ts => .int ts.length
section
variable {X : Cx} {K : PySem.W.Frag} {e b : Expr} {f fi : Ev → Option T} {fl : Ev → Option (List T)} {pos p : Pos} {x : Str}
theorem fl_of (h : PE X e (tF K f)) : PE X e (tL K (fLst f)) := PE.by h fun σ H Q ⟨B, Hs, ev, ts, R, hf, q⟩ => by
  unfold fLst at hf
  cases h : f ev with
  | none => rw [h] at hf; cases hf
  | some t =>
    rw [h] at hf
    cases t with
    | lst us =>
      cases hf
      refine ⟨B, Hs, ev, _, R, h, fun v Hs' H' g r => ?_⟩
      cases r with
      | lst e r => exact q _ _ Hs' H' g (g.ok.sub _ _ e) r
    | _ => cases hf
theorem fl_ow (i : Nat) (hN : X.N[i]? = some x := by rfl) (hv : Vis X.env.scope x := by first | exact Or.inl rfl | exact Or.inr (Or.inl rfl) | exact Or.inr (Or.inr rfl)) (hd : (x == ("__debug__" : Str)) = false := by decide)
    (hcd : (x == ("__classdict__" : Str)) = false := by decide) : PE X (.Name x pos) (tL K (fOw i)) := PE.by (pe_var (i := i) hN hv hd hcd) fun σ H Q ⟨B, Hs, ev, ts, R, hf, q⟩ => by
  unfold fOw at hf
  cases hs : ev[i]? with
  | none => rw [hs] at hf; cases hf
  | some s =>
    rw [hs] at hf
    cases s with
    | ow us =>
      cases hf
      obtain ⟨a, vs, e1, e2, e3⟩ := R.at_ow hs
      exact ⟨.ref a, e1, q a vs Hs H (Gr.refl R.bd.ok) e2 e3⟩
    | _ => cases hf
theorem fe_ixL (ha : PE X e (tL K fl)) (hb : PE X b (tF K fi)) (hK : X.K = K := by rfl) (hs : PlainIx b := by exact fun _ _ => rfl) : PE X (.Subscript e b pos) (tF K (fIxL fl fi)) := by
  subst hK
  refine PE.by (pe_ix ix_list ha hb hs) fun σ H Q ⟨B, Hs, ev, t, R, hf, q⟩ => ?_
  unfold fIxL at hf
  cases h : fl ev with
  | none => rw [h] at hf; cases hf
  | some ts =>
    cases h2 : fi ev with
    | none => rw [h, h2] at hf; cases hf
    | some d =>
      rw [h, h2] at hf
      cases d with
      | int i =>
        refine ⟨B, Hs, ev, ts, R, h, fun a vs Hs' H' g ea r => ⟨B, Hs', ev, _, R.to g, h2, fun v Hs2 H2 g2 r2 => ?_⟩⟩
        cases r2
        obtain ⟨w, e1, e2⟩ := atI_of (r.mono g2.s) hf
        exact ⟨a, vs, i, w, rfl, rfl, SqL.of (g2.h _ _ ea), e1, q w Hs2 H2 (g.trans g2) e2⟩
      | _ => cases hf
theorem fe_lenL (hm : X.mg "len" = none) (ha : PE X e (tL K fl)) (hg : Gl X "len" := by rfl) (hK : X.K = K := by rfl)
    (he : starEach [e] X.env = (false, eval e X.env) :: starEach [] X.env := by rfl) (hpl : (backTo pos (starEach [] X.env)).any (·.1) = false := by rfl) : PE X (.Call (.Name "len" p) [e] [] pos) (tF K (fLenL fl)) := by
  subst hK
  refine PE.by (pe_callB call_len_seq hg hm PySem.boot_len (pa_cons ha pa_nil he) (by decide) (by decide) he hpl) fun σ H Q ⟨B, Hs, ev, t, R, hf, q⟩ => ?_
  unfold fLenL at hf
  cases h : fl ev with
  | none => rw [h] at hf; cases hf
  | some ts =>
    rw [h] at hf
    cases hf
    refine ⟨B, Hs, ev, ts, R, h, fun a vs Hs' H' g ea r => ⟨a, vs, rfl, .inl (SqL.of ea), ?_⟩⟩
    rw [r.length]
    exact q _ Hs' H' g (.int _)
end
end Fx

namespace Fx
open PySem PySem.Spec L2
open PyProof.Rows hiding St

/-! ### what a loop walks -/
def Yl (K : PySem.W.Frag) (J : It) (ds : List T) (Hs0 : Hp) : Prop := ∀ (i : Nat) (Hs H : Hp), Same Hs0 Hs → Ok Hs H →
  (i < ds.length → J.go i H) ∧ (ds.length ≤ i → J.stop i H) ∧ ∀ x H', J.yld i H x H' → ∀ t, ds[i]? = some t → ∃ Hs', Gr Hs H Hs' H' ∧ Rp K Hs' x t
def tI (K : PySem.W.Frag) (f : Ev → Option (List T)) : TI := fun σ H R => ∃ B Hs ev ds, Rl K B Hs H σ ev ∧ f ev = some ds ∧ ∀ J Hs' H', Gr Hs H Hs' H' → Yl K J ds Hs' → R J H'
def fItems (f : Ev → Option T) : Ev → Option (List T) := fun ev => match f ev with
  | some (.lst ts) => some ts
  | some (.scr ns) => some (ns.map .int)
  | _ => none
def fTup (f : Ev → Option T) : Ev → Option (List T) := fun ev => match f ev with
  | some (.tup ts) => some ts
  | _ => none
def fSigns (f : Ev → Option T) : Ev → Option (List T) := fun ev => match f ev with
  | some (.str s) => some (s.cps.toList.map fun c => .str ⟨#[c]⟩)
  | _ => none
def irange (lo : Int) (n : Nat) : List T := (List.range n).map fun (i : Nat) => .int (lo + (i : Nat))
def irangeC (lo c : Int) (n : Nat) : List T := (List.range n).map fun (i : Nat) => .int (lo + (i : Nat) * c)
def fRng1 (fs : Ev → Option (List T)) : Ev → Option (List T) := fun ev => match fs ev with
  | some [.int j] => if -(2 ^ 62) ≤ j ∧ j < 2 ^ 62 then some (irange 0 j.toNat) else none
  | _ => none
def fRng2 (fs : Ev → Option (List T)) : Ev → Option (List T) := fun ev => match fs ev with
  | some [.int i, .int j] => if -(2 ^ 62) ≤ i ∧ i < 2 ^ 62 ∧ -(2 ^ 62) ≤ j ∧ j < 2 ^ 62 then some (irange i (j - i).toNat) else none
  | _ => none
instance (i j c : Int) (n : Nat) : Decidable (RgC i j c n) := by unfold RgC; infer_instance
def fRng3 (fs : Ev → Option (List T)) : Ev → Option (List T) := fun ev => match fs ev with
  | some [.int i, .int j, .int c] => if RgC i j c (Builtin.Range.rangeSize i j c).toNat then some (irangeC i c (Builtin.Range.rangeSize i j c).toNat) else none
  | _ => none
def fEnum (fs : Ev → Option (List T)) : Ev → Option (List T) := fun ev => match fs ev with
  | some [.lst ts] => some (ts.mapIdx fun i t => .tup [.int (i : Nat), t])
  | _ => none
def fZip (fs : Ev → Option (List T)) : Ev → Option (List T) := fun ev => match fs ev with
  | some [.lst ts, .lst us] => some (List.zipWith (fun t u => .tup [t, u]) ts us)
  | _ => none
section
variable {X : Cx} {K : PySem.W.Frag} {tg e e2 e3 iter : Expr} {f : Ev → Option T} {fs : Ev → Option (List T)} {p pos tpos : Pos} {elts : List Expr} {kk : Nat}
theorem PI.by {t t' : TI} (h : PI X tg iter t) (i : ∀ σ H R, t' σ H R → t σ H R) : PI X tg iter t' := ⟨fun pins s σ H R I hw => h.run pins s σ H R I (i σ H R hw)⟩
theorem yl_list {a : Addr} {vs : List V} {ts : List T} {Hs0 : Hp} (h : SqL K Hs0 a vs) (inj : ∀ H, Same Hs0 H → ∀ ys, SqL K H a ys → SqL K H a vs → True) (r : Rps K Hs0 vs ts) : Yl K (Itl K a) ts Hs0 := fun i Hs H ss ok => by
  have q : SqL K H a vs := Same.seq ok.sub (Same.seq ss h)
  refine ⟨fun hi => ?_, fun hi => ⟨vs, q, by rw [r.length]; exact hi⟩, fun x H' y t ht => ?_⟩
  · obtain ⟨v, h1, _⟩ := r.get (List.getElem?_eq_getElem hi)
    exact ⟨vs, v, q, h1⟩
  · obtain ⟨rfl, y⟩ := y
    obtain ⟨v, h1, h2⟩ := r.get ht
    have e := y vs q
    rw [h1] at e
    cases e
    exact ⟨Hs, Gr.refl ok, h2.mono ss⟩
theorem fi_list (h : PE X e (tF K f)) (hK : X.K = K := by rfl) : PI X tg e (tI K (fItems f)) := by
  subst hK
  refine PI.by (pi_list h) fun σ H R ⟨B, Hs, ev, ds, Rr, hf, q⟩ => ?_
  unfold fItems at hf
  cases h : f ev with
  | none => rw [h] at hf; cases hf
  | some t =>
    rw [h] at hf
    cases t with
    | lst us =>
      cases hf
      refine ⟨B, Hs, ev, _, Rr, h, fun v Hs' H' g r => ?_⟩
      cases r with
      | lst e r => exact ⟨_, rfl, ⟨_, SqL.of (g.ok.sub _ _ e)⟩, q _ Hs' H' g (yl_list (SqL.of e) (fun _ _ _ _ _ => trivial) r)⟩
    | scr ns =>
      cases hf
      refine ⟨B, Hs, ev, _, Rr, h, fun v Hs' H' g r => ?_⟩
      cases r with
      | scr e => exact ⟨_, rfl, ⟨_, Same.seq g.ok.sub e⟩, q _ Hs' H' g (yl_list e (fun _ _ _ _ _ => trivial) (Rps.ofInts ns))⟩
    | _ => cases hf
theorem fi_tup (h : PE X e (tF K f)) (hK : X.K = K := by rfl) : PI X tg e (tI K (fTup f)) := by
  subst hK
  refine PI.by (pi_tup h) fun σ H R ⟨B, Hs, ev, ds, Rr, hf, q⟩ => ?_
  unfold fTup at hf
  cases h : f ev with
  | none => rw [h] at hf; cases hf
  | some t =>
    rw [h] at hf
    cases t with
    | tup us =>
      cases hf
      refine ⟨B, Hs, ev, _, Rr, h, fun v Hs' H' g r => ?_⟩
      cases r with
      | tup e r =>
        rename_i a vs
        refine ⟨_, rfl, ⟨_, SqT.of (g.ok.sub _ _ e)⟩, q _ Hs' H' g fun i Hs2 H2 ss ok => ?_⟩
        have z : SqT X.K H2 a vs := SqT.of (ok.sub _ _ (ss _ _ e))
        refine ⟨fun hi => ?_, fun hi => ⟨vs, z, by rw [r.length]; exact hi⟩, fun x H' y t ht => ?_⟩
        · obtain ⟨v, h1, _⟩ := r.get (List.getElem?_eq_getElem hi)
          exact ⟨vs, v, z, h1⟩
        · obtain ⟨rfl, y⟩ := y
          obtain ⟨v, h1, h2⟩ := r.get ht
          have e := y vs z
          rw [h1] at e
          cases e
          exact ⟨Hs2, Gr.refl ok, h2.mono ss⟩
    | _ => cases hf
theorem fi_str (h : PE X e (tF K f)) : PI X tg e (tI K (fSigns f)) := PI.by (pi_str h) fun σ H R ⟨B, Hs, ev, ds, Rr, hf, q⟩ => by
  unfold fSigns at hf
  cases h : f ev with
  | none => rw [h] at hf; cases hf
  | some t =>
    rw [h] at hf
    cases t with
    | str s =>
      cases hf
      refine ⟨B, Hs, ev, _, Rr, h, fun v Hs' H' g r => ?_⟩
      cases r
      refine ⟨s, rfl, q _ Hs' H' g fun i Hs2 H2 ss ok => ⟨fun hi => ?_, fun hi => ?_, fun x H' y t ht => ?_⟩⟩
      · rw [List.length_map, Array.length_toList] at hi; exact hi
      · rw [List.length_map, Array.length_toList] at hi; exact hi
      · obtain ⟨rfl, c, hc, rfl⟩ := y
        rw [List.getElem?_map, Array.getElem?_toList, hc] at ht
        cases ht
        exact ⟨Hs2, Gr.refl ok, .str _⟩
    | _ => cases hf
theorem yl_range {lo : Int} {n : Nat} {Hs0 : Hp} : Yl K (Itr lo n) (irange lo n) Hs0 := fun i Hs H ss ok => by
  have hl : (irange lo n).length = n := by unfold irange; rw [List.length_map, List.length_range]
  refine ⟨fun hi => by rw [hl] at hi; exact hi, fun hi => by rw [hl] at hi; exact hi, fun x H' y t ht => ?_⟩
  obtain ⟨rfl, rfl⟩ := y
  have hi : i < n := by rw [← hl]; exact (List.getElem?_eq_some_iff.mp ht).1
  unfold irange at ht
  rw [List.getElem?_map, List.getElem?_range hi] at ht
  cases ht
  exact ⟨Hs, Gr.refl ok, .int _⟩
theorem yl_rangeC {lo c : Int} {n : Nat} {Hs0 : Hp} : Yl K (Itc lo c n) (irangeC lo c n) Hs0 := fun i Hs H ss ok => by
  have hl : (irangeC lo c n).length = n := by unfold irangeC; rw [List.length_map, List.length_range]
  refine ⟨fun hi => by rw [hl] at hi; exact hi, fun hi => by rw [hl] at hi; exact hi, fun x H' y t ht => ?_⟩
  obtain ⟨rfl, rfl⟩ := y
  have hi : i < n := by rw [← hl]; exact (List.getElem?_eq_some_iff.mp ht).1
  unfold irangeC at ht
  rw [List.getElem?_map, List.getElem?_range hi] at ht
  cases ht
  exact ⟨Hs, Gr.refl ok, .int _⟩
theorem fi_range1 (hm : X.mg "range" = none) (ha : PA X [e] (tA K fs)) (hg : Gl X "range" := by rfl) (hs : starEach [e] X.env = [(false, eval e X.env)] := by rfl) : PI X tg (.Call (.Name "range" p) [e] [] pos) (tI K (fRng1 fs)) :=
  PI.by (pi_range1 hg hm ha hs) fun σ H R ⟨B, Hs, ev, ds, Rr, hf, q⟩ => by
    unfold fRng1 at hf
    split at hf
    · rename_i j h
      split at hf
      · rename_i hz
        cases hf
        refine ⟨B, Hs, ev, _, Rr, h, fun vs Hs' H' g r => ?_⟩
        cases r with
        | cons a r => cases r; cases a; exact ⟨j, rfl, hz.1, hz.2, q _ Hs' H' g yl_range⟩
      · cases hf
    · cases hf
theorem fi_range2 (hm : X.mg "range" = none) (ha : PA X [e, e2] (tA K fs)) (hg : Gl X "range" := by rfl) (hs : starEach [e, e2] X.env = [(false, eval e X.env), (false, eval e2 X.env)] := by rfl) (hs2 : starEach [e2] X.env = [(false, eval e2 X.env)] := by rfl) :
    PI X tg (.Call (.Name "range" p) [e, e2] [] pos) (tI K (fRng2 fs)) :=
  PI.by (pi_range2 hg hm ha hs hs2) fun σ H R ⟨B, Hs, ev, ds, Rr, hf, q⟩ => by
    unfold fRng2 at hf
    split at hf
    · rename_i i j h
      split at hf
      · rename_i hz
        cases hf
        refine ⟨B, Hs, ev, _, Rr, h, fun vs Hs' H' g r => ?_⟩
        cases r with
        | cons a r =>
          cases r with
          | cons b r => cases r; cases a; cases b; exact ⟨i, j, rfl, hz, q _ Hs' H' g yl_range⟩
      · cases hf
    · cases hf
theorem fi_enum (hm : X.mg "enumerate" = none) (ha : PA X [e] (tA K fs)) (hg : Gl X "enumerate" := by rfl) (hs : starEach [e] X.env = [(false, eval e X.env)] := by rfl) (hK : X.K = K := by rfl) :
    PI X (.Tuple elts kk tpos) (.Call (.Name "enumerate" p) [e] [] pos) (tI K (fEnum fs)) := by
  subst hK
  refine PI.by (pi_enum hg hm ha hs) fun σ H R ⟨B, Hs, ev, ds, Rr, hf, q⟩ => ?_
  unfold fEnum at hf
  split at hf
  · rename_i ts h
    cases hf
    refine ⟨B, Hs, ev, _, Rr, h, fun vs Hs' H' g r => ?_⟩
    cases r with
    | cons a r =>
      cases r
      cases a with
      | lst e r =>
        rename_i a vs
        refine ⟨a, vs, rfl, SqL.of (g.ok.sub _ _ e), q _ Hs' H' g fun i Hs2 H2 ss ok => ?_⟩
        have z : SqL X.K H2 a vs := SqL.of (ok.sub _ _ (ss _ _ e))
        have hl : (ts.mapIdx fun i t => T.tup [.int (i : Nat), t]).length = ts.length := List.length_mapIdx
        refine ⟨fun hi => ?_, fun hi => ⟨vs, z, by rw [r.length, ← hl]; exact hi⟩, fun x H' y t ht => ?_⟩
        · rw [hl] at hi
          obtain ⟨v, h1, _⟩ := r.get (List.getElem?_eq_getElem hi)
          exact ⟨vs, v, z, h1⟩
        · obtain ⟨Tt, w, rfl, hT, rfl, y⟩ := y
          rw [List.getElem?_mapIdx] at ht
          cases hi : ts[i]? with
          | none => rw [hi] at ht; cases ht
          | some u =>
            rw [hi] at ht
            cases ht
            obtain ⟨v, h1, h2⟩ := r.get hi
            have e := y vs z
            rw [h1] at e
            cases e
            have g2 := Gr.new ok hT (o := .tup [.int (i : Nat), w])
            exact ⟨_, g2, .tup upd_same (.cons (.int _) (.cons ((h2.mono ss).mono g2.s) .nil))⟩
  · cases hf
theorem fi_zip (hm : X.mg "zip" = none) (ha : PA X [e, e2] (tA K fs)) (hg : Gl X "zip" := by rfl) (hK : X.K = K := by rfl)
    (hs : starEach [e, e2] X.env = (false, eval e X.env) :: starEach [e2] X.env := by rfl) (hpl : (backTo pos (starEach [e2] X.env)).any (·.1) = false := by rfl) :
    PI X (.Tuple elts kk tpos) (.Call (.Name "zip" p) [e, e2] [] pos) (tI K (fZip fs)) := by
  subst hK
  refine PI.by (pi_zip hg hm ha hs hpl) fun σ H R ⟨B, Hs, ev, ds, Rr, hf, q⟩ => ?_
  unfold fZip at hf
  split at hf
  · rename_i ts us h
    cases hf
    refine ⟨B, Hs, ev, _, Rr, h, fun vs Hs' H' g r => ?_⟩
    cases r with
    | cons a r =>
      cases r with
      | cons b r0 =>
        cases r0
        cases a with
        | lst ea ra =>
          cases b with
          | lst eb rb =>
            rename_i a vs b ws
            refine ⟨a, b, vs, ws, rfl, SqL.of (g.ok.sub _ _ ea), SqL.of (g.ok.sub _ _ eb), q _ Hs' H' g fun i Hs2 H2 ss ok => ?_⟩
            have za : SqL X.K H2 a vs := SqL.of (ok.sub _ _ (ss _ _ ea))
            have zb : SqL X.K H2 b ws := SqL.of (ok.sub _ _ (ss _ _ eb))
            refine ⟨fun hi => ?_, fun hi => ⟨vs, ws, za, zb, ?_⟩, fun x H' y t ht => ?_⟩
            · rw [List.length_zipWith] at hi
              obtain ⟨v, h1, _⟩ := ra.get (List.getElem?_eq_getElem (show i < ts.length by omega))
              obtain ⟨w, h2, _⟩ := rb.get (List.getElem?_eq_getElem (show i < us.length by omega))
              exact ⟨vs, ws, v, w, za, zb, h1, h2⟩
            · rw [List.length_zipWith] at hi
              rw [ra.length, rb.length]
              omega
            · obtain ⟨Tt, v, w, rfl, hT, rfl, y1, y2⟩ := y
              rw [List.getElem?_zipWith] at ht
              cases hi : ts[i]? with
              | none => rw [hi] at ht; cases ht
              | some t1 =>
                cases hj : us[i]? with
                | none => rw [hi, hj] at ht; cases ht
                | some t2 =>
                  rw [hi, hj] at ht
                  cases ht
                  obtain ⟨v', h1, h2⟩ := ra.get hi
                  obtain ⟨w', h3, h4⟩ := rb.get hj
                  have e1 := y1 vs za
                  have e2 := y2 ws zb
                  rw [h1] at e1
                  rw [h3] at e2
                  cases e1
                  cases e2
                  have g2 := Gr.new ok hT (o := .tup [v, w])
                  exact ⟨_, g2, .tup upd_same (.cons ((h2.mono ss).mono g2.s) (.cons ((h4.mono ss).mono g2.s) .nil))⟩
  · cases hf
end

/-! ### targets: a name; a pair of names -/
def b1 (i : Nat) : T → Ev → Option Ev := fun t ev => some (ev.set i (.sh t))
def b2 (i j : Nat) : T → Ev → Option Ev := fun t ev => match t with
  | .tup [t1, t2] => some ((ev.set i (.sh t1)).set j (.sh t2))
  | _ => none
/-- what a target's rule must say: where it stands among the slots -/
def TgD (K : PySem.W.Frag) (g : TG) (b : T → Ev → Option Ev) (is : List Nat) : Prop := ∀ B Hs H σ ev v t ev' (Q : L2.St → Hp → Prop), Rl K B Hs H σ ev → Rp K Hs v t → b t ev = some ev' →
  (∀ σ', Rl K B Hs H σ' ev' → (∀ k, k ∉ is → σ'[k]? = σ[k]?) → σ'.length = σ.length → Q σ' H) → g v σ H Q
theorem tg_1 {K : PySem.W.Frag} (i : Nat) : TgD K (gName i) (b1 i) [i] := fun B Hs H σ ev v t ev' Q R r hb q => by
  cases hb
  refine q _ (R.set r i) (fun k hk => List.getElem?_set_ne (fun e => hk (by simp [e]))) (List.length_set)
theorem tg_2 {K : PySem.W.Frag} (i j : Nat) : TgD K (gTup K 2 (gCons (gName i) (gCons (gName j) gNil))) (b2 i j) [i, j] := fun B Hs H σ ev v t ev' Q R r hb q => by
  unfold b2 at hb
  split at hb
  · cases hb
    cases r with
    | tup e r =>
      cases r with
      | cons r1 r =>
        cases r with
        | cons r2 r =>
          cases r
          refine ⟨_, _, rfl, SqT.of (R.bd.ok.sub _ _ e), rfl, _, _, rfl, _, _, rfl, rfl, ?_⟩
          refine q _ ((R.set r1 i).set r2 j) (fun k hk => ?_) (by rw [List.length_set, List.length_set])
          rw [List.getElem?_set_ne (fun e => hk (by simp [e])), List.getElem?_set_ne (fun e => hk (by simp [e]))]
  · cases hb

/-! ### for -/
def loopF (b : T → Ev → Option Ev) (F : Ev → Option Out) : List T → Ev → Option Out
  | [], ev => some (.nx ev)
  | t :: ts, ev => match b t ev with
    | none => none
    | some e1 => match F e1 with
      | some (.nx e2) => loopF b F ts e2
      | some (.ct e2) => loopF b F ts e2
      | some (.bk e2) => some (.nx e2)
      | o => o
def fFor (fi : Ev → Option (List T)) (b : T → Ev → Option Ev) (F : Ev → Option Out) : Ev → Option Out := fun ev => (fi ev).bind fun ts => loopF b F ts ev
theorem fs_for {X : Cx} {K : PySem.W.Frag} {mg : Str → Option Value} {W : WX} {tg iter : Expr} {body : List Stmt} {pos : Pos} {fi : Ev → Option (List T)} {g : TG} {b : T → Ev → Option Ev} {is : List Nat} {F : Ev → Option Out} (hp : PassesOwn (model X.prog X.w) X.A X.env X.xe) (hc : X.calm = true)
    (hi : PI X tg iter (tI K fi)) (hg : PG X tg g) (hb : TgD K g b is) (hbody : PSs X body (tS K mg W F)) (hs : ∀ x, foldedSetIterable iter X.env x = pure x := by intro _; rfl) : PS X (.For tg iter body [] pos) (tS K mg W (fFor fi b F)) :=
  PS.by (ps_for hp hc hi hg hbody hs) fun D σ H ⟨B, Hs, ev, o, R, hf, q⟩ => by
    obtain ⟨ds, h1, hf⟩ := bind_some hf
    refine ⟨B, Hs, ev, ds, R, h1, fun J Hs1 H1 g1 hy => ⟨fun i m σ H => m = ds.length - i ∧ i ≤ ds.length ∧ ∃ Hs2 ev2, Same Hs1 Hs2 ∧ Rl K B Hs2 H σ ev2 ∧ loopF b F (ds.drop i) ev2 = some o, ⟨ds.length, by simp, Nat.zero_le _, Hs1, ev, Same.refl _, R.to g1, hf⟩, ?_⟩⟩
    rintro i m σ2 H2 ⟨rfl, hi, Hs2, ev2, ss, R2, hl⟩
    obtain ⟨y1, y2, y3⟩ := hy i Hs2 H2 ss R2.bd.ok
    by_cases hlt : i < ds.length
    · refine .inr ⟨y1 hlt, fun σ' H' => ∃ Hs3 ev3, Same Hs1 Hs3 ∧ Rl K B Hs3 H' σ' ev3 ∧ loopF b F (ds.drop (i + 1)) ev3 = some o, fun σ' H' hN => ⟨ds.length - (i + 1), by omega, rfl, hlt, hN⟩, fun x H' yy => ?_⟩
      obtain ⟨Hs3, g3, r3⟩ := y3 x H' yy _ (List.getElem?_eq_getElem hlt)
      rw [List.drop_eq_getElem_cons hlt] at hl
      unfold loopF at hl
      cases hb1 : b ds[i] ev2 with
      | none => rw [hb1] at hl; cases hl
      | some e1 =>
        rw [hb1] at hl
        refine hb B Hs3 H' σ2 ev2 x _ e1 _ (R2.to g3) r3 hb1 fun σ4 R4 _ _ => ?_
        dsimp only at hl
        cases hF : F e1 with
        | none => rw [hF] at hl; cases hl
        | some p =>
          rw [hF] at hl
          have s3 : Same Hs1 Hs3 := ss.trans g3.s
          refine ⟨B, Hs3, e1, p, R4, hF, ?_⟩
          cases p with
          | nx e2 => exact fun σ5 Hs5 H5 s5 R5 => ⟨Hs5, e2, s3.trans s5, R5, hl⟩
          | ct e2 => exact fun σ5 Hs5 H5 s5 R5 => ⟨Hs5, e2, s3.trans s5, R5, hl⟩
          | bk e2 => cases hl; exact fun σ5 Hs5 H5 s5 R5 => q σ5 Hs5 H5 (g1.s.trans (s3.trans s5)) R5
          | rt t => cases hl; exact fun v Hs5 H5 s5 => q v Hs5 H5 (g1.s.trans (s3.trans s5))
          | rf t => cases hl; exact fun v Hs5 H5 s5 => q v Hs5 H5 (g1.s.trans (s3.trans s5))
          | ex c e2 => cases hl; exact fun σ5 Hs5 H5 cls s5 => q σ5 Hs5 H5 cls (g1.s.trans (s3.trans s5))
    · have e : i = ds.length := by omega
      subst e
      rw [List.drop_length] at hl
      cases hl
      exact .inl ⟨y2 (Nat.le_refl _), q σ2 Hs2 H2 (g1.s.trans ss) R2⟩

/-! ### while: n turns at most -/
def whileF (c : Ev → Option Bool) (F : Ev → Option Out) : Nat → Ev → Option Out
  | 0, _ => none
  | n + 1, ev => match c ev with
    | none => none
    | some false => some (.nx ev)
    | some true => match F ev with
      | some (.nx e2) => whileF c F n e2
      | some (.ct e2) => whileF c F n e2
      | some (.bk e2) => some (.nx e2)
      | o => o
theorem fs_while {X : Cx} {K : PySem.W.Frag} {mg : Str → Option Value} {W : WX} {c : Expr} {body : List Stmt} {pos : Pos} {fc : Ev → Option Bool} {F : Ev → Option Out} (n : Nat) (hp : PassesOwn (model X.prog X.w) X.A X.env X.xe)
    (hc : PT X c (tT K fc)) (hb : PSs X body (tS K mg W F)) : PS X (.While c body [] pos) (tS K mg W (whileF fc F n)) :=
  PS.by (ps_while hp hc hb) fun D σ H ⟨B, Hs, ev, o, R, hf, q⟩ => by
    refine ⟨fun m σ2 H2 => ∃ Hs2 ev2, Same Hs Hs2 ∧ Rl K B Hs2 H2 σ2 ev2 ∧ whileF fc F m ev2 = some o, ⟨n, Hs, ev, Same.refl _, R, hf⟩, ?_⟩
    rintro m σ2 H2 ⟨Hs2, ev2, ss, R2, hw⟩
    cases m with
    | zero => cases hw
    | succ m =>
      unfold whileF at hw
      cases h : fc ev2 with
      | none => rw [h] at hw; cases hw
      | some b =>
        rw [h] at hw
        refine ⟨B, Hs2, ev2, b, R2, h, fun Hs3 H3 g3 => ?_⟩
        cases b with
        | false =>
          cases hw
          exact q σ2 Hs3 H3 (ss.trans g3.s) (R2.to g3)
        | true =>
          dsimp only at hw
          rw [if_pos rfl]
          cases hF : F ev2 with
          | none => rw [hF] at hw; cases hw
          | some p =>
            rw [hF] at hw
            have s3 := ss.trans g3.s
            refine ⟨fun σ' H' => ∃ Hs4 ev4, Same Hs Hs4 ∧ Rl K B Hs4 H' σ' ev4 ∧ whileF fc F m ev4 = some o, fun σ' H' hN => ⟨m, Nat.lt_succ_self m, hN⟩, B, Hs3, ev2, p, R2.to g3, hF, ?_⟩
            cases p with
            | nx e2 => exact fun σ5 Hs5 H5 s5 R5 => ⟨Hs5, e2, s3.trans s5, R5, hw⟩
            | ct e2 => exact fun σ5 Hs5 H5 s5 R5 => ⟨Hs5, e2, s3.trans s5, R5, hw⟩
            | bk e2 => cases hw; exact fun σ5 Hs5 H5 s5 R5 => q σ5 Hs5 H5 (s3.trans s5) R5
            | rt t => cases hw; exact fun v Hs5 H5 s5 => q v Hs5 H5 (s3.trans s5)
            | rf t => cases hw; exact fun v Hs5 H5 s5 => q v Hs5 H5 (s3.trans s5)
            | ex c e2 => cases hw; exact fun σ5 Hs5 H5 cls s5 => q σ5 Hs5 H5 cls (s3.trans s5)

/-! ### comprehensions -/
def wipeE (ev : Ev) : List Nat → Ev
  | [] => ev
  | v :: vs => (wipeE ev vs).set v .un
theorem Rl.wipe {K : PySem.W.Frag} {B : Bs} {Hs H : Hp} {σ : L2.St} {ev : Ev} (R : Rl K B Hs H σ ev) : ∀ vs, Rl K B Hs H (L2.wipe σ vs) (wipeE ev vs)
  | [] => R
  | v :: vs => (R.wipe vs).un none v
def compF (b : T → Ev → Option Ev) (c : Ev → Option Bool) (f : Ev → Option T) (ev : Ev) : List T → Option (List T)
  | [] => some []
  | t :: ts => match b t ev with
    | none => none
    | some e1 => match c e1 with
      | none => none
      | some false => compF b c f ev ts
      | some true => match f e1 with
        | none => none
        | some y => match compF b c f ev ts with
          | none => none
          | some ys => some (y :: ys)
def fYes : Ev → Option Bool := fun _ => some true
def fComp (fi : Ev → Option (List T)) (b : T → Ev → Option Ev) (c : Ev → Option Bool) (f : Ev → Option T) (vs : List Nat) : Ev → Option T := fun ev => match fi ev with
  | none => none
  | some ts => match compF b c f (wipeE ev vs) ts with
    | none => none
    | some ys => if noLs ys && decide (ys.length ≤ sizeLine) then some (.lst ys) else none
theorem wipe_same {σ σ' : L2.St} {vs is : List Nat} (h1 : ∀ k, k ∉ is → σ'[k]? = (L2.wipe σ vs)[k]?) (h2 : ∀ k ∈ is, k ∈ vs) (hl : σ'.length = (L2.wipe σ vs).length) : L2.wipe σ' vs = L2.wipe σ vs := by
  apply List.ext_getElem?
  intro k
  have key : ∀ (τ : L2.St) (us : List Nat) (k : Nat), k ∈ us → (L2.wipe τ us)[k]? = if k < τ.length then some none else none := by
    intro τ us
    induction us with
    | nil => intro k hk; cases hk
    | cons v us ih =>
      intro k hk
      show ((L2.wipe τ us).set v none)[k]? = _
      by_cases hv : v = k
      · subst hv
        by_cases hlt : v < τ.length
        · rw [List.getElem?_set_self (by rw [L2.wipe_length]; exact hlt), if_pos hlt]
        · rw [if_neg hlt, List.getElem?_eq_none (by rw [List.length_set, L2.wipe_length]; omega)]
      · rw [List.getElem?_set_ne hv]
        rcases List.mem_cons.mp hk with e | hk
        · exact absurd e.symm hv
        · exact ih k hk
  rw [L2.wipe_length] at hl
  by_cases hk : k ∈ vs
  · rw [key _ _ _ hk, key _ _ _ hk, hl]
  · rw [L2.wipe_out hk, h1 k (fun z => hk (h2 k z)), L2.wipe_out hk]
theorem compN {K : PySem.W.Frag} {fi : Ev → Option (List T)} {g : TG} {b : T → Ev → Option Ev} {is vs : List Nat} {fc : Ev → Option Bool} {f : Ev → Option T} (hb : TgD K g b is) (hsub : ∀ k ∈ is, k ∈ vs) :
    ∀ σ H Q, tN K (fComp fi b fc f vs) σ H Q → tLc (tI K fi) g (tT K fc) (tF K f) vs σ H Q := fun σ H Q ⟨B, Hs, ev, t, R, hf, q⟩ => by
  unfold fComp at hf
  cases h1 : fi ev with
  | none => rw [h1] at hf; cases hf
  | some ds =>
    rw [h1] at hf
    dsimp only at hf
    cases h2 : compF b fc f (wipeE ev vs) ds with
    | none => rw [h2] at hf; cases hf
    | some ys =>
      rw [h2] at hf
      dsimp only at hf
      split at hf
      · rename_i hz
        rw [Bool.and_eq_true, decide_eq_true_eq] at hz
        cases hf
        refine ⟨B, Hs, ev, ds, R, h1, fun J Hs1 H1 g1 hy D hD => ?_⟩
        have hDs : Hs1 D = none := g1.ok.sub.free hD
        refine ⟨fun i m H2 => m = ds.length - i ∧ i ≤ ds.length ∧ ∃ Hs2 acc ws rest, Gr Hs1 H1 Hs2 H2 ∧ Hs2 D = none ∧ H2 D = some (.lst ws) ∧ Rps K Hs2 ws acc ∧ compF b fc f (wipeE ev vs) (ds.drop i) = some rest ∧ acc ++ rest = ys,
          ⟨ds.length, by simp, Nat.zero_le _, Hs1, [], [], ys, Gr.new0 g1.ok hD rfl, hDs, upd_same, .nil, h2, rfl⟩, ?_⟩
        rintro i m H2 ⟨rfl, hi, Hs2, acc, ws, rest, g2, hD2, eD, rD, hr, ha⟩
        obtain ⟨y1, y2, y3⟩ := hy i Hs2 H2 g2.s g2.ok
        have R2 : Rl K B Hs2 H2 σ ev := (R.to g1).to g2
        by_cases hlt : i < ds.length
        · refine .inr ⟨y1 hlt, fun H3 => ∃ Hs2 acc ws rest, Gr Hs1 H1 Hs2 H3 ∧ Hs2 D = none ∧ H3 D = some (.lst ws) ∧ Rps K Hs2 ws acc ∧ compF b fc f (wipeE ev vs) (ds.drop (i + 1)) = some rest ∧ acc ++ rest = ys, fun H3 hN => ⟨ds.length - (i + 1), by omega, rfl, hlt, hN⟩, fun x H3 yy => ?_⟩
          obtain ⟨Hs3, g3, r3⟩ := y3 x H3 yy _ (List.getElem?_eq_getElem hlt)
          rw [List.drop_eq_getElem_cons hlt] at hr
          unfold compF at hr
          cases hb1 : b ds[i] (wipeE ev vs) with
          | none => rw [hb1] at hr; cases hr
          | some e1 =>
            rw [hb1] at hr
            dsimp only at hr
            have R3 : Rl K B Hs3 H3 (L2.wipe σ vs) (wipeE ev vs) := (R2.to g3).wipe vs
            refine hb B Hs3 H3 _ _ x _ e1 _ R3 r3 hb1 fun σ4 R4 k4 l4 => ⟨wipe_same k4 hsub l4, ?_⟩
            have g13 := g2.trans g3
            have hD3 : Hs3 D = none := (g3.n _ _ eD).trans hD2
            have eD3 := g3.h _ _ eD
            cases hc : fc e1 with
            | none => rw [hc] at hr; cases hr
            | some bb =>
              rw [hc] at hr
              refine ⟨B, Hs3, e1, bb, R4, hc, fun Hs5 H5 g5 => ?_⟩
              have g15 := g13.trans g5
              have hD5 : Hs5 D = none := (g5.n _ _ eD3).trans hD3
              have eD5 := g5.h _ _ eD3
              cases bb with
              | false =>
                refine iteF ?_
                exact ⟨Hs5, acc, ws, rest, g15, hD5, eD5, rD.mono (g3.s.trans g5.s), hr, ha⟩
              | true =>
                refine iteT ?_
                dsimp only at hr
                cases hfe : f e1 with
                | none => rw [hfe] at hr; cases hr
                | some y =>
                  rw [hfe] at hr
                  dsimp only at hr
                  cases hrest : compF b fc f (wipeE ev vs) (ds.drop (i + 1)) with
                  | none => rw [hrest] at hr; cases hr
                  | some ys2 =>
                    rw [hrest] at hr
                    cases hr
                    refine ⟨B, Hs5, e1, y, R4.to g5, hfe, fun v Hs6 H6 g6 r6 => ⟨ws, g6.h _ _ eD5, ?_, Hs6, acc ++ [y], ws ++ [v], ys2, ?_, (g6.n _ _ eD5).trans hD5, upd_same, (rD.mono ((g3.s.trans g5.s).trans g6.s)).append (.cons r6 .nil), rfl, by rw [List.append_assoc]; exact ha⟩⟩
                    · have e1 : ys.length = acc.length + (ys2.length + 1) := by rw [← ha, List.length_append, List.length_cons]
                      rw [rD.length]
                      omega
                    · have g16 := g15.trans g6
                      have hD6 : Hs6 D = none := (g6.n _ _ eD5).trans hD5
                      refine ⟨g16.s, fun a o e => ?_, g16.n, ⟨fun a o e => ?_, fun a o e c => ?_⟩⟩
                      · rw [upd_ne (ne_of_none e hD)]; exact g16.h _ _ e
                      · rw [upd_ne (ne_of_none e hD6)]; exact g16.ok.sub _ _ e
                      · by_cases hx : a = D
                        · subst hx; rw [upd_same] at e; cases e; cases c
                        · rw [upd_ne hx] at e; exact g16.ok.cst _ _ e c
        · have e : i = ds.length := by omega
          subst e
          rw [List.drop_length] at hr
          cases hr
          rw [List.append_nil] at ha
          subst ha
          refine .inl ⟨y2 (Nat.le_refl _), q _ H2 (g1.h.trans g2.h) (.lst (Frs.lst eD (g1.h.free hD)) (rD.flat (fun a xs e => Frs.cst (g2.ok.sub _ _ e) rfl) hz.1))⟩
      · cases hf
section
variable {X : Cx} {K : PySem.W.Frag} {mg : Str → Option Value} {W : WX} {elt tg iter : Expr} {ifs : List Expr} {scope : Scope} {own : List (Str × Nat)} {pos : Pos} {fi : Ev → Option (List T)} {g : TG} {b : T → Ev → Option Ev} {is : List Nat} {fc : Ev → Option Bool} {f : Ev → Option T}
theorem ft_yes : PTs X [] (tT K fYes) := ⟨fun pins s σ H Q I hw => pts_nil.run pins s σ H Q I (by
  obtain ⟨B, Hs, ev, bb, R, hf, q⟩ := hw
  cases hf
  exact q Hs H (Gr.refl R.bd.ok))⟩
theorem ft_one {c : Expr} (h : PT X c (tT K fc)) : PTs X [c] (tT K fc) := pts_one h
theorem fn_comp (hc : X.calm = true) (hN : X.N.Nodup) (hb : TgD K g b is) (hsub : ∀ k ∈ is, k ∈ own.map (·.2)) (hi : PI X tg iter (tI K fi)) (ok : BlkOk X.N X.env.scope scope own)
    (hg : ∀ (s : Shared) (H : Hp) (C : Addr) (cl : List (Str × Addr)) (fp : List Addr), PG (X.blk s H scope (compEnvC scope cl C X.env) fp) tg g) (ht : ∀ (s : Shared) (H : Hp) (C : Addr) (cl : List (Str × Addr)) (fp : List Addr), PTs (X.blk s H scope (compEnvC scope cl C X.env) fp) ifs (tT K fc))
    (he : ∀ (s : Shared) (H : Hp) (C : Addr) (cl : List (Str × Addr)) (fp : List Addr), PE (X.blk s H scope (compEnvC scope cl C X.env) fp) elt (tF K f)) (hs : ∀ x, foldedSetIterable iter X.env x = pure x := by intro _; rfl) :
    PE X (.ListComp elt [⟨tg, iter, ifs, 0⟩] scope pos) (tN K (fComp fi b fc f (own.map (·.2)))) := PE.by (pe_lc hc hN hi ok hg ht he hs) (compN hb hsub)
/-- y = [..] -/
theorem fs_setComp (i : Nat) {y : Str} {py spos : Pos} (hc : X.calm = true) (hN : X.N.Nodup) (hb : TgD K g b is) (hsub : ∀ k ∈ is, k ∈ own.map (·.2)) (hi : PI X tg iter (tI K fi)) (ok : BlkOk X.N X.env.scope scope own)
    (hg : ∀ (s : Shared) (H : Hp) (C : Addr) (cl : List (Str × Addr)) (fp : List Addr), PG (X.blk s H scope (compEnvC scope cl C X.env) fp) tg g) (ht : ∀ (s : Shared) (H : Hp) (C : Addr) (cl : List (Str × Addr)) (fp : List Addr), PTs (X.blk s H scope (compEnvC scope cl C X.env) fp) ifs (tT K fc))
    (he : ∀ (s : Shared) (H : Hp) (C : Addr) (cl : List (Str × Addr)) (fp : List Addr), PE (X.blk s H scope (compEnvC scope cl C X.env) fp) elt (tF K f)) (hy : X.N[i]? = some y := by rfl) (hyl : X.env.scope.names.lookup y = some .local := by rfl)
    (hsw : swapsWith (.ListComp elt [⟨tg, iter, ifs, 0⟩] scope pos) (some (.Name y py)) spos.line X.env = pure true := by exact sw_true rfl rfl rfl (by decide +kernel)) (hs : ∀ x, foldedSetIterable iter X.env x = pure x := by intro _; rfl) :
    PS X (.Assign [.Name y py] (.ListComp elt [⟨tg, iter, ifs, 0⟩] scope pos) spos) (tS K mg W (fSet i (fComp fi b fc f (own.map (·.2))))) :=
  PS.by (ps_setLc hc hN hy hyl hsw hi ok hg ht he hs) fun D σ H h => by
    have h2 := asgD (K := K) (f := fComp fi b fc f (own.map (·.2))) i D σ H h
    obtain ⟨B, Hs, ev, t, R, hf, q⟩ := h2
    exact compN hb hsub σ H _ ⟨B, Hs, ev, t, R, hf, fun v H' s r => q v _ H' (Gr.nxt R.bd.ok s) (r.mono (Frs.nxt R.bd.ok s))⟩
theorem fs_setCompOw (i : Nat) {y : Str} {py spos : Pos} (hc : X.calm = true) (hN : X.N.Nodup) (hb : TgD K g b is) (hsub : ∀ k ∈ is, k ∈ own.map (·.2)) (hi : PI X tg iter (tI K fi)) (ok : BlkOk X.N X.env.scope scope own)
    (hg : ∀ (s : Shared) (H : Hp) (C : Addr) (cl : List (Str × Addr)) (fp : List Addr), PG (X.blk s H scope (compEnvC scope cl C X.env) fp) tg g) (ht : ∀ (s : Shared) (H : Hp) (C : Addr) (cl : List (Str × Addr)) (fp : List Addr), PTs (X.blk s H scope (compEnvC scope cl C X.env) fp) ifs (tT K fc))
    (he : ∀ (s : Shared) (H : Hp) (C : Addr) (cl : List (Str × Addr)) (fp : List Addr), PE (X.blk s H scope (compEnvC scope cl C X.env) fp) elt (tF K f)) (hy : X.N[i]? = some y := by rfl) (hyl : X.env.scope.names.lookup y = some .local := by rfl)
    (hsw : swapsWith (.ListComp elt [⟨tg, iter, ifs, 0⟩] scope pos) (some (.Name y py)) spos.line X.env = pure true := by exact sw_true rfl rfl rfl (by decide +kernel)) (hs : ∀ x, foldedSetIterable iter X.env x = pure x := by intro _; rfl) :
    PS X (.Assign [.Name y py] (.ListComp elt [⟨tg, iter, ifs, 0⟩] scope pos) spos) (tS K mg W (fSetOw i (fComp fi b fc f (own.map (·.2))))) :=
  PS.by (ps_setLc hc hN hy hyl hsw hi ok hg ht he hs) fun D σ H h => by
    have h2 : tAsg (tN K (fComp fi b fc f (own.map (·.2)))) (gName i) D σ H := asgN i D σ H h
    exact compN hb hsub σ H _ h2
end
end Fx

namespace Fx
open PySem PySem.Spec L2
open PyProof.Rows hiding St

/-! ### data as the library's comparison sees it -/
mutual
def toP : T → PyData
  | .non => .none
  | .bl b => .bool b
  | .int i => .int i
  | .str s => .str s
  | .tup ts => .tuple (toPs ts)
  | .lst ts => .list (toPs ts)
  | .scr ns => .list (ns.map .int)
def toPs : List T → List PyData
  | [] => []
  | t :: ts => toP t :: toPs ts
end
mutual
theorem Rp.dp {K : PySem.W.Frag} {H : Hp} : ∀ {t : T} {v : V}, Rp K H v t → Dp K H v (toP t)
  | _, _, .non => .non
  | _, _, .bl b => .bl b
  | _, _, .int i => .int i
  | _, _, .str s => .str s
  | _, _, .tup e r => .tup (SqT.of e) (Rps.dp r)
  | _, _, .lst e r => .lst (SqL.of e) (Rps.dp r)
  | _, _, .scr (ns := ns) h => .lst h (by
    have : ∀ ms : List Int, DpAll K H (ms.map V.int) (ms.map PyData.int) := fun ms => by
      induction ms with
      | nil => exact .nil
      | cons m ms ih => exact .cons (.int m) ih
    exact this ns)
theorem Rps.dp {K : PySem.W.Frag} {H : Hp} : ∀ {ts : List T} {vs : List V}, Rps K H vs ts → DpAll K H vs (toPs ts)
  | _, _, .nil => .nil
  | _, _, .cons h r => .cons (Rp.dp h) (Rps.dp r)
end

/-! ### operators -/
section
variable {X : Cx} {K : PySem.W.Frag}
theorem opd_or {r r' : R2} {g g' h : T → T → Option T} (a : OpD K r g) (b : OpD K r' g') (hh : ∀ d e z, h d e = some z → g d e = some z ∨ g' d e = some z) : OpD K (fun x y H Q => r x y H Q ∨ r' x y H Q) h :=
  fun Hs H x y d e z ok rx ry hz Q q => (hh d e z hz).elim (fun z' => .inl (a Hs H x y d e z ok rx ry z' Q q)) fun z' => .inr (b Hs H x y d e z ok rx ry z' Q q)
def gI (p : Int → Int → Option T) : T → T → Option T
  | .int i, .int j => p i j
  | _, _ => none
theorem gI_some {p : Int → Int → Option T} {d e z : T} (h : gI p d e = some z) : ∃ i j, d = .int i ∧ e = .int j ∧ p i j = some z := by
  unfold gI at h
  split at h
  · exact ⟨_, _, rfl, rfl, h⟩
  · cases h
abbrev gSub : T → T → Option T := gI fun i j => some (.int (i - j))
abbrev gMul : T → T → Option T := gI fun i j => if (-(2 ^ 64) < i ∧ i < 2 ^ 64) ∨ (-(2 ^ 64) < j ∧ j < 2 ^ 64) then some (.int (i * j)) else none
abbrev gDiv : T → T → Option T := gI fun i j => if 0 < j ∧ j < 1073741824 then some (.int (i / j)) else none
abbrev gMod : T → T → Option T := gI fun i j => if 0 < j then some (.int (i % j)) else none
abbrev gPow : T → T → Option T := gI fun i j => if 0 ≤ j ∧ j ≤ 1000000 ∧ i.natAbs < 2 ^ 64 then some (.int (i ^ j.toNat)) else none
abbrev gLt : T → T → Option T := gI fun i j => some (.bl (decide (i < j)))
abbrev gLe : T → T → Option T := gI fun i j => some (.bl (decide (i ≤ j)))
abbrev gGt : T → T → Option T := gI fun i j => some (.bl (decide (j < i)))
abbrev gGe : T → T → Option T := gI fun i j => some (.bl (decide (j ≤ i)))
theorem opd_I0 {g : Int → Int → V} {p : Int → Int → T} (h : ∀ Hs i j, Rp K Hs (g i j) (p i j)) : OpD K (rI0 g) (gI fun i j => some (p i j)) := fun Hs H x y d e z ok rx ry hz Q q => by
  obtain ⟨i, j, rfl, rfl, h2⟩ := gI_some hz
  cases h2
  cases rx; cases ry
  exact ⟨i, j, rfl, rfl, q _ Hs H (Gr.refl ok) (h Hs i j)⟩
theorem opd_I {C : Int → Int → Prop} {C' : Int → Int → Prop} [∀ i j, Decidable (C' i j)] {g : Int → Int → V} {p : Int → Int → T} (hc : ∀ i j, C' i j → C i j) (h : ∀ Hs i j, Rp K Hs (g i j) (p i j)) : OpD K (rI C g) (gI fun i j => if C' i j then some (p i j) else none) := fun Hs H x y d e z ok rx ry hz Q q => by
  obtain ⟨i, j, rfl, rfl, h2⟩ := gI_some hz
  split at h2
  · rename_i c
    cases h2
    cases rx; cases ry
    exact ⟨i, j, rfl, rfl, hc i j c, q _ Hs H (Gr.refl ok) (h Hs i j)⟩
  · cases h2
theorem od_sub : OpD K (rI0 fun i j => .int (i - j)) gSub := opd_I0 fun _ _ _ => .int _
theorem od_mul : OpD K (rI CMul fun i j => .int (i * j)) gMul := opd_I (C' := fun i j => (-(2 ^ 64) < i ∧ i < 2 ^ 64) ∨ (-(2 ^ 64) < j ∧ j < 2 ^ 64)) (fun _ _ c => c) fun _ _ _ => .int _
theorem od_div : OpD K (rI CDiv fun i j => .int (i / j)) gDiv := opd_I (C' := fun i j => 0 < j ∧ j < 1073741824) (fun _ _ c => c) fun _ _ _ => .int _
theorem od_mod : OpD K (rI (fun _ j => 0 < j) fun i j => .int (i % j)) gMod := opd_I (C' := fun i j => 0 < j) (fun _ _ c => c) fun _ _ _ => .int _
theorem od_pow : OpD K (rI CPow fun i j => .int (i ^ j.toNat)) gPow := opd_I (C' := fun i j => 0 ≤ j ∧ j ≤ 1000000 ∧ i.natAbs < 2 ^ 64) (fun _ _ c => c) fun _ _ _ => .int _
theorem od_lt : OpD K (rI0 fun i j => .bl (decide (i < j))) gLt := opd_I0 fun _ _ _ => .bl _
theorem od_le : OpD K (rI0 fun i j => .bl (decide (i ≤ j))) gLe := opd_I0 fun _ _ _ => .bl _
theorem od_gt : OpD K (rI0 fun i j => .bl (decide (j < i))) gGt := opd_I0 fun _ _ _ => .bl _
theorem od_ge : OpD K (rI0 fun i j => .bl (decide (j ≤ i))) gGe := opd_I0 fun _ _ _ => .bl _
/-- + of numbers, of texts -/
def gAdd : T → T → Option T
  | .int i, .int j => some (.int (i + j))
  | .str a, .str b => if a.length + b.length ≤ sizeLine then some (.str (a ++ b)) else none
  | .tup ts, .tup us => if !ts.isEmpty && !us.isEmpty && decide (ts.length + us.length ≤ sizeLine) then some (.tup (ts ++ us)) else none
  | _, _ => none
/-- + of lists: a new one -/
def gCat : T → T → Option T
  | .lst ts, .lst us => if noLs ts && noLs us && decide (ts.length + us.length ≤ sizeLine) then some (.lst (ts ++ us)) else none
  | _, _ => none
def rAddAll (K : PySem.W.Frag) : R2 := fun x y H Q => rI0 (fun i j => .int (i + j)) x y H Q ∨ ((∃ i j, x = .str i ∧ y = .str j ∧ i.length + j.length ≤ sizeLine ∧ Q (.str (i ++ j)) H) ∨ rCatT K x y H Q)
theorem op_addAll : OpR X (binaryOp .Add) (rAddAll X.K) := op_add.or (op_add_str.or op_catT)
theorem od_add : OpD K (rAddAll K) gAdd := fun Hs H x y d e z ok rx ry hz Q q => by
  unfold gAdd at hz
  split at hz
  · cases hz
    cases rx; cases ry
    exact .inl ⟨_, _, rfl, rfl, q _ Hs H (Gr.refl ok) (.int _)⟩
  · split at hz
    · rename_i c
      cases hz
      cases rx; cases ry
      exact .inr (.inl ⟨_, _, rfl, rfl, c, q _ Hs H (Gr.refl ok) (.str _)⟩)
    · cases hz
  · split at hz
    · rename_i ts us c
      rw [Bool.and_eq_true, Bool.and_eq_true, decide_eq_true_eq] at c
      cases hz
      cases rx with
      | tup e1 r1 =>
        cases ry with
        | tup e2 r2 =>
          rename_i a vs b ws
          have hv : vs ≠ [] := fun z => by
            have := r1.length
            rw [z] at this
            cases ts with
            | nil => exact absurd c.1.1 (by decide)
            | cons _ _ => cases this
          have hw : ws ≠ [] := fun z => by
            have := r2.length
            rw [z] at this
            cases us with
            | nil => exact absurd c.1.2 (by decide)
            | cons _ _ => cases this
          refine .inr (.inr ⟨a, b, vs, ws, rfl, rfl, SqT.of (ok.sub _ _ e1), SqT.of (ok.sub _ _ e2), hv, by rw [r1.length, r2.length]; exact c.2, fun z => absurd z hw, fun _ p hp => ?_⟩)
          have g := Gr.new ok hp (o := .tup (vs ++ ws))
          exact q _ _ _ g (.tup upd_same ((r1.mono g.s).append (r2.mono g.s)))
    · cases hz
  · cases hz
theorem on_cat : OpN K rCat gCat := fun Hs H x y d e z ok rx ry hz Q q => by
  unfold gCat at hz
  split at hz
  · split at hz
    · rename_i ts us c
      rw [Bool.and_eq_true, Bool.and_eq_true, decide_eq_true_eq] at c
      cases hz
      cases rx with
      | lst e1 r1 =>
        cases ry with
        | lst e2 r2 =>
          rename_i a vs b ws
          refine ⟨a, b, vs, ws, rfl, rfl, ok.sub _ _ e1, ok.sub _ _ e2, by rw [r1.length, r2.length]; exact c.2, fun p hp => ?_⟩
          refine q _ _ (same_new hp) (.lst (Frs.lst upd_same hp) ((r1.append r2).flat (fun a xs e => Frs.cst ?_ rfl) (by rw [noLs_append, c.1.1, c.1.2]; rfl)))
          rw [upd_ne (ne_of_none (ok.sub _ _ e) hp)]
          exact ok.sub _ _ e
    · cases hz
  · cases hz
/-- [x] * n, x no list -/
def gRep : T → T → Option T
  | .lst ts, .int k => if noLs ts && decide (-(2 ^ 63) ≤ k) && decide (k < 2 ^ 63) && decide (ts.length * k.toNat ≤ sizeLine) then some (.lst (List.replicate k.toNat ts).flatten) else none
  | _, _ => none
theorem Rps.repF {K : PySem.W.Frag} {H : Hp} {vs : List V} {ts : List T} (h : Rps K H vs ts) : ∀ n : Nat, Rps K H (List.replicate n vs).flatten (List.replicate n ts).flatten
  | 0 => .nil
  | n + 1 => by
    rw [List.replicate_succ, List.replicate_succ, List.flatten_cons, List.flatten_cons]
    exact h.append (Rps.repF h n)
theorem noLs_rep {ts : List T} (h : noLs ts = true) : ∀ n : Nat, noLs (List.replicate n ts).flatten = true
  | 0 => rfl
  | n + 1 => by rw [List.replicate_succ, List.flatten_cons, noLs_append, h, noLs_rep h n]; rfl
theorem on_rep : OpN K rRep gRep := fun Hs H x y d e z ok rx ry hz Q q => by
  unfold gRep at hz
  split at hz
  · split at hz
    · rename_i ts k c
      rw [Bool.and_eq_true, Bool.and_eq_true, Bool.and_eq_true, decide_eq_true_eq, decide_eq_true_eq, decide_eq_true_eq] at c
      cases hz
      cases ry
      cases rx with
      | lst e1 r1 =>
        rename_i a vs
        refine ⟨a, k, vs, rfl, rfl, ok.sub _ _ e1, c.1.1.2, c.1.2, by rw [r1.length]; exact c.2, fun p hp => ?_⟩
        refine q _ _ (same_new hp) (.lst (Frs.lst upd_same hp) ((r1.repF _).flat (fun a xs e => Frs.cst ?_ rfl) (noLs_rep c.1.1.1 _)))
        rw [upd_ne (ne_of_none (ok.sub _ _ e) hp)]
        exact ok.sub _ _ e
    · cases hz
  · cases hz

/-! ### == -/
def gEqB : T → T → Option Bool
  | .int i, .int j => some (decide (i = j))
  | .str i, .str j => some (decide (i = j))
  | .bl i, .bl j => some (decide (i = j))
  | t, u => if SeqAt.shaped (toP t) && SeqAt.shaped (toP u) then some (PyData.eqv (toP t) (toP u)) else none
def gEq (t u : T) : Option T := (gEqB t u).map .bl
def gNe (t u : T) : Option T := (gEqB t u).map fun b => .bl (!b)
def rEqAll (K : PySem.W.Frag) : R2 := fun x y H Q => rEq x y H Q ∨ rEqD K x y H Q
def rNeAll (K : PySem.W.Frag) : R2 := fun x y H Q => rNe x y H Q ∨ rNeD K x y H Q
theorem op_eqAll (hu : X.A.units + 64 < cLine) : OpR X (compareOp .Eq) (rEqAll X.K) := op_eq.or (op_eqD hu)
theorem op_neAll (hu : X.A.units + 64 < cLine) : OpR X (compareOp .NotEq) (rNeAll X.K) := op_ne.or (op_neD hu)
theorem od_eq : OpD K (rEqAll K) gEq := fun Hs H x y d e z ok rx ry hz Q q => by
  unfold gEq at hz
  cases hb : gEqB d e with
  | none => rw [hb] at hz; cases hz
  | some b =>
    rw [hb] at hz
    cases hz
    unfold gEqB at hb
    split at hb
    · cases hb; cases rx; cases ry
      refine .inl ⟨rfl, ?_⟩
      simp only [V.int.injEq]
      exact q _ Hs H (Gr.refl ok) (.bl _)
    · cases hb; cases rx; cases ry
      refine .inl ⟨rfl, ?_⟩
      simp only [V.str.injEq]
      exact q _ Hs H (Gr.refl ok) (.bl _)
    · cases hb; cases rx; cases ry
      refine .inl ⟨rfl, ?_⟩
      simp only [V.bl.injEq]
      exact q _ Hs H (Gr.refl ok) (.bl _)
    · split at hb
      · rename_i c
        rw [Bool.and_eq_true] at c
        cases hb
        exact .inr ⟨_, _, (rx.mono ok.sub).dp, (ry.mono ok.sub).dp, c.1, c.2, q _ Hs H (Gr.refl ok) (.bl _)⟩
      · cases hb
theorem od_ne : OpD K (rNeAll K) gNe := fun Hs H x y d e z ok rx ry hz Q q => by
  unfold gNe at hz
  cases hb : gEqB d e with
  | none => rw [hb] at hz; cases hz
  | some b =>
    rw [hb] at hz
    cases hz
    unfold gEqB at hb
    split at hb
    · cases hb; cases rx; cases ry
      refine .inl ⟨rfl, ?_⟩
      simp only [V.int.injEq]
      exact q _ Hs H (Gr.refl ok) (.bl _)
    · cases hb; cases rx; cases ry
      refine .inl ⟨rfl, ?_⟩
      simp only [V.str.injEq]
      exact q _ Hs H (Gr.refl ok) (.bl _)
    · cases hb; cases rx; cases ry
      refine .inl ⟨rfl, ?_⟩
      simp only [V.bl.injEq]
      exact q _ Hs H (Gr.refl ok) (.bl _)
    · split at hb
      · rename_i c
        rw [Bool.and_eq_true] at c
        cases hb
        exact .inr ⟨_, _, (rx.mono ok.sub).dp, (ry.mono ok.sub).dp, c.1, c.2, q _ Hs H (Gr.refl ok) (.bl _)⟩
      · cases hb
/-- text in text -/
def gIn : T → T → Option T
  | .str i, .str j => some (.bl (!(Builtin.Str.occurrences j i 0 j.length 1).isEmpty))
  | _, _ => none
def gNotIn : T → T → Option T
  | .str i, .str j => some (.bl (!(!(Builtin.Str.occurrences j i 0 j.length 1).isEmpty)))
  | _, _ => none
theorem od_in : OpD K (fun x y H Q => ∃ i j, x = .str i ∧ y = .str j ∧ Q (.bl (!(Builtin.Str.occurrences j i 0 j.length 1).isEmpty)) H) gIn := fun Hs H x y d e z ok rx ry hz Q q => by
  unfold gIn at hz
  split at hz
  · cases hz; cases rx; cases ry; exact ⟨_, _, rfl, rfl, q _ Hs H (Gr.refl ok) (.bl _)⟩
  · cases hz
theorem od_notIn : OpD K (fun x y H Q => ∃ i j, x = .str i ∧ y = .str j ∧ Q (.bl (!(!(Builtin.Str.occurrences j i 0 j.length 1).isEmpty))) H) gNotIn := fun Hs H x y d e z ok rx ry hz Q q => by
  unfold gNotIn at hz
  split at hz
  · cases hz; cases rx; cases ry; exact ⟨_, _, rfl, rfl, q _ Hs H (Gr.refl ok) (.bl _)⟩
  · cases hz
/-- one sign in a text -/
def gNotInS : T → T → Option T
  | .str i, .str j => match i.cps.toList with
    | [c] => some (.bl (!decide (c ∈ j.cps.toList)))
    | _ => none
  | _, _ => none
theorem od_notInS : OpD K (fun x y H Q => ∃ (c : Nat) (z : Str), x = .str ⟨#[c]⟩ ∧ y = .str z ∧ Q (.bl (!decide (c ∈ z.cps.toList))) H) gNotInS := fun Hs H x y d e z ok rx ry hz Q q => by
  unfold gNotInS at hz
  split at hz
  · split at hz
    · rename_i c hc
      cases hz; cases rx; cases ry
      exact ⟨c, _, congrArg V.str (TL.ext_tl hc), rfl, q _ Hs H (Gr.refl ok) (.bl _)⟩
    · cases hz
  · cases hz
/-- is True, is False -/
def gIsB : T → T → Option T
  | .bl i, .bl j => some (.bl (decide (i = j)))
  | _, _ => none
/-! ### subscripts -/
def gIx : T → T → Option T
  | .lst ts, .int i => atT ts i
  | .tup ts, .int i => atT ts i
  | .scr ns, .int i => (atI ns i).map .int
  | .str s, .int i => if s.length ≤ sizeLine then (atI s.cps.toList i).map fun c => .str ⟨#[c]⟩ else none
  | _, _ => none
theorem od_ix : OpD K (rIx K) gIx := fun Hs H x y d e z ok rx ry hz Q q => by
  unfold gIx at hz
  split at hz
  · cases ry
    cases rx with
    | lst e r =>
      obtain ⟨w, h1, h2⟩ := atI_of r hz
      exact .inl ⟨_, _, _, w, rfl, rfl, SqL.of (ok.sub _ _ e), h1, q _ Hs H (Gr.refl ok) h2⟩
  · cases ry
    cases rx with
    | tup e r =>
      obtain ⟨w, h1, h2⟩ := atI_of r hz
      exact .inr (.inl ⟨_, _, _, w, rfl, rfl, SqT.of (ok.sub _ _ e), h1, q _ Hs H (Gr.refl ok) h2⟩)
  · rename_i ns i
    cases ry
    cases rx with
    | scr e =>
      cases h : atI ns i with
      | none => rw [h] at hz; cases hz
      | some n =>
        rw [h] at hz
        cases hz
        refine .inl ⟨_, _, i, .int n, rfl, rfl, ok.sub.seq e, ?_, q _ Hs H (Gr.refl ok) (.int n)⟩
        unfold atI at h ⊢
        rw [List.length_map]
        cases h2 : ixN ns.length i with
        | none => rw [h2] at h; cases h
        | some j =>
          rw [h2] at h
          show (ns.map V.int)[j]? = _
          rw [List.getElem?_map, show ns[j]? = some n from h]
          rfl
  · split at hz
    · rename_i s i c
      cases ry; cases rx
      cases h : atI s.cps.toList i with
      | none => rw [h] at hz; cases hz
      | some n =>
        rw [h] at hz
        cases hz
        exact .inr (.inr ⟨s, i, n, rfl, rfl, c, h, q _ Hs H (Gr.refl ok) (.str _)⟩)
    · cases hz
  · cases hz
end
section
variable {X : Cx} {K : PySem.W.Frag} {a b e : Expr} {es : List Expr} {fa fb fc : Ev → Option T} {fs : Ev → Option (List T)} {pos p : Pos} {x : Str}
theorem fe_add (ha : PE X a (tF K fa)) (hb : PE X b (tF K fb)) (hK : X.K = K := by rfl) : PE X (.BinOp a .Add b pos) (tF K (f2 gAdd fa fb)) := by subst hK; exact fe_op op_addAll od_add ha hb
theorem fe_sub (ha : PE X a (tF K fa)) (hb : PE X b (tF K fb)) : PE X (.BinOp a .Sub b pos) (tF K (f2 gSub fa fb)) := fe_op op_sub od_sub ha hb
theorem fe_mul (ha : PE X a (tF K fa)) (hb : PE X b (tF K fb)) : PE X (.BinOp a .Mult b pos) (tF K (f2 gMul fa fb)) := fe_op op_mul od_mul ha hb
theorem fe_div (ha : PE X a (tF K fa)) (hb : PE X b (tF K fb)) : PE X (.BinOp a .FloorDiv b pos) (tF K (f2 gDiv fa fb)) := fe_op op_fdiv od_div ha hb
theorem fe_mod (ha : PE X a (tF K fa)) (hb : PE X b (tF K fb)) : PE X (.BinOp a .Mod b pos) (tF K (f2 gMod fa fb)) := fe_op op_mod od_mod ha hb
theorem fe_pow (ha : PE X a (tF K fa)) (hb : PE X b (tF K fb)) : PE X (.BinOp a .Pow b pos) (tF K (f2 gPow fa fb)) := fe_op op_pow od_pow ha hb
theorem fn_cat (ha : PE X a (tF K fa)) (hb : PE X b (tF K fb)) : PE X (.BinOp a .Add b pos) (tN K (f2 gCat fa fb)) := fn_op op_cat on_cat ha hb
theorem fn_rep (ha : PE X a (tF K fa)) (hb : PE X b (tF K fb)) : PE X (.BinOp a .Mult b pos) (tN K (f2 gRep fa fb)) := fn_op op_rep on_rep ha hb
def gNeg : T → Option T
  | .int i => some (.int (-i))
  | _ => none
theorem fe_neg (ha : PE X a (tF K fa)) : PE X (.UnaryOp .USub a pos) (tF K (f1 gNeg fa)) := PE.by (pe_un un_neg ha) fun σ H Q ⟨B, Hs, ev, t, R, hf, q⟩ => by
  obtain ⟨d, h, hf⟩ := bind_some hf
  refine ⟨B, Hs, ev, d, R, h, fun v Hs' H' g r => ?_⟩
  unfold gNeg at hf
  split at hf
  · cases hf; cases r; exact ⟨_, rfl, q _ Hs' H' g (.int _)⟩
  · cases hf
theorem fe_lt (ha : PE X a (tF K fa)) (hb : PE X b (tF K fb)) : PE X (.Compare a [.Lt] [b] pos) (tF K (f2 gLt fa fb)) := fe_cmp op_lt od_lt ha hb (nomark _)
theorem fe_le (ha : PE X a (tF K fa)) (hb : PE X b (tF K fb)) : PE X (.Compare a [.LtE] [b] pos) (tF K (f2 gLe fa fb)) := fe_cmp op_le od_le ha hb (nomark _)
theorem fe_gt (ha : PE X a (tF K fa)) (hb : PE X b (tF K fb)) : PE X (.Compare a [.Gt] [b] pos) (tF K (f2 gGt fa fb)) := fe_cmp op_gt od_gt ha hb (nomark _)
theorem fe_ge (ha : PE X a (tF K fa)) (hb : PE X b (tF K fb)) : PE X (.Compare a [.GtE] [b] pos) (tF K (f2 gGe fa fb)) := fe_cmp op_ge od_ge ha hb (nomark _)
theorem fe_eq (hu : X.A.units + 64 < cLine) (ha : PE X a (tF K fa)) (hb : PE X b (tF K fb)) (hK : X.K = K := by rfl) : PE X (.Compare a [.Eq] [b] pos) (tF K (f2 gEq fa fb)) := by subst hK; exact fe_cmp (op_eqAll hu) od_eq ha hb (nomark _)
theorem fe_ne (hu : X.A.units + 64 < cLine) (ha : PE X a (tF K fa)) (hb : PE X b (tF K fb)) (hK : X.K = K := by rfl) : PE X (.Compare a [.NotEq] [b] pos) (tF K (f2 gNe fa fb)) := by subst hK; exact fe_cmp (op_neAll hu) od_ne ha hb (nomark _)
theorem fe_in (ha : PE X a (tF K fa)) (hb : PE X b (tF K fb)) (hm : behindInMarks .In b = false := by rfl) : PE X (.Compare a [.In] [b] pos) (tF K (f2 gIn fa fb)) := fe_cmp op_in_str od_in ha hb hm
theorem fe_notIn (ha : PE X a (tF K fa)) (hb : PE X b (tF K fb)) (hm : behindInMarks .NotIn b = false := by rfl) : PE X (.Compare a [.NotIn] [b] pos) (tF K (f2 gNotIn fa fb)) := fe_cmp op_notin_str od_notIn ha hb hm
theorem fe_notInS (ha : PE X a (tF K fa)) (hb : PE X b (tF K fb)) (hm : behindInMarks .NotIn b = false := by rfl) : PE X (.Compare a [.NotIn] [b] pos) (tF K (f2 gNotInS fa fb)) := fe_cmp op_notIn_sign od_notInS ha hb hm
theorem ft_lt (ha : PE X a (tF K fa)) (hb : PE X b (tF K fb)) : PT X (.Compare a [.Lt] [b] pos) (tT K (fTest (f2 gLt fa fb))) := ft_cmp op_lt od_lt ha hb (nomark _)
theorem ft_le (ha : PE X a (tF K fa)) (hb : PE X b (tF K fb)) : PT X (.Compare a [.LtE] [b] pos) (tT K (fTest (f2 gLe fa fb))) := ft_cmp op_le od_le ha hb (nomark _)
theorem ft_gt (ha : PE X a (tF K fa)) (hb : PE X b (tF K fb)) : PT X (.Compare a [.Gt] [b] pos) (tT K (fTest (f2 gGt fa fb))) := ft_cmp op_gt od_gt ha hb (nomark _)
theorem ft_ge (ha : PE X a (tF K fa)) (hb : PE X b (tF K fb)) : PT X (.Compare a [.GtE] [b] pos) (tT K (fTest (f2 gGe fa fb))) := ft_cmp op_ge od_ge ha hb (nomark _)
theorem ft_eq (hu : X.A.units + 64 < cLine) (ha : PE X a (tF K fa)) (hb : PE X b (tF K fb)) (hK : X.K = K := by rfl) : PT X (.Compare a [.Eq] [b] pos) (tT K (fTest (f2 gEq fa fb))) := by subst hK; exact ft_cmp (op_eqAll hu) od_eq ha hb (nomark _)
theorem ft_ne (hu : X.A.units + 64 < cLine) (ha : PE X a (tF K fa)) (hb : PE X b (tF K fb)) (hK : X.K = K := by rfl) : PT X (.Compare a [.NotEq] [b] pos) (tT K (fTest (f2 gNe fa fb))) := by subst hK; exact ft_cmp (op_neAll hu) od_ne ha hb (nomark _)
theorem ft_in (ha : PE X a (tF K fa)) (hb : PE X b (tF K fb)) (hm : behindInMarks .In b = false := by rfl) : PT X (.Compare a [.In] [b] pos) (tT K (fTest (f2 gIn fa fb))) := ft_cmp op_in_str od_in ha hb hm
theorem ft_notIn (ha : PE X a (tF K fa)) (hb : PE X b (tF K fb)) (hm : behindInMarks .NotIn b = false := by rfl) : PT X (.Compare a [.NotIn] [b] pos) (tT K (fTest (f2 gNotIn fa fb))) := ft_cmp op_notin_str od_notIn ha hb hm
theorem ft_notInS (ha : PE X a (tF K fa)) (hb : PE X b (tF K fb)) (hm : behindInMarks .NotIn b = false := by rfl) : PT X (.Compare a [.NotIn] [b] pos) (tT K (fTest (f2 gNotInS fa fb))) := ft_cmp op_notIn_sign od_notInS ha hb hm
theorem fe_ix (ha : PE X a (tF K fa)) (hb : PE X b (tF K fb)) (hK : X.K = K := by rfl) (hs : PlainIx b := by exact fun _ _ => rfl) : PE X (.Subscript a b pos) (tF K (f2 gIx fa fb)) := by subst hK; exact PE.by (pe_ix ix_seq ha hb hs) (op2D od_ix)

/-! ### displays -/
def gTup (ts : List T) : Option T := if ts.length ≤ sizeLine then some (.tup ts) else none
def gLst (ts : List T) : Option T := if noLs ts && decide (ts.length ≤ sizeLine) then some (.lst ts) else none
theorem fe_tup {k : Nat} (h : PA X es (tA K fs)) : PE X (.Tuple es k pos) (tF K (fC gTup fs)) := PE.by (pe_tup h) fun σ H Q ⟨B, Hs, ev, t, R, hf, q⟩ => by
  obtain ⟨ts, h, hf⟩ := bind_some hf
  unfold gTup at hf
  split at hf
  · rename_i c
    cases hf
    refine ⟨B, Hs, ev, ts, R, h, fun vs Hs' H' g r => ⟨by rw [r.length]; exact c, fun p hp => ?_⟩⟩
    have g2 := Gr.new g.ok hp (o := .tup vs)
    exact q _ _ _ (g.trans g2) (.tup upd_same (r.mono g2.s))
  · cases hf
theorem fn_lst (h : PA X es (tA K fs)) : PE X (.List es pos) (tN K (fC gLst fs)) := PE.by (pe_lst h) fun σ H Q ⟨B, Hs, ev, t, R, hf, q⟩ => by
  obtain ⟨ts, h, hf⟩ := bind_some hf
  unfold gLst at hf
  split at hf
  · rename_i c
    rw [Bool.and_eq_true, decide_eq_true_eq] at c
    cases hf
    refine ⟨B, Hs, ev, ts, R, h, fun vs Hs' H' g r => ⟨by rw [r.length]; exact c.2, fun p hp => ?_⟩⟩
    refine q _ _ (g.h.trans (same_new hp)) (.lst (Frs.lst upd_same (g.h.free hp)) (r.flat (fun a xs e => Frs.cst ?_ rfl) c.1))
    rw [upd_ne (ne_of_none (g.ok.sub _ _ e) hp)]
    exact g.ok.sub _ _ e
  · cases hf
/-- (e, ..), the last a new list, the others no lists -/
def gTupN (ts : List T) (u : T) : Option T := if noLs ts && decide (ts.length + 1 ≤ sizeLine) then some (.tup (ts ++ [u])) else none

/-! ### slices -/
def tO (K : PySem.W.Frag) (f : Ev → Option (Option Int)) : TO := fun σ H Q => ∃ B Hs ev o, Rl K B Hs H σ ev ∧ f ev = some o ∧ ∀ Hs' H', Gr Hs H Hs' H' → Q o H'
def fNoP : Ev → Option (Option Int) := fun _ => some none
def fPart (f : Ev → Option T) : Ev → Option (Option Int) := fun ev => match f ev with
  | some (.int i) => some (some i)
  | _ => none
theorem PO.by {o : Option Expr} {t t' : TO} (h : PO X o t) (i : ∀ σ H Q, t' σ H Q → t σ H Q) : PO X o t' := ⟨fun pins s σ H Q I hw => h.run pins s σ H Q I (i σ H Q hw)⟩
theorem fo_none : PO X none (tO K fNoP) := PO.by po_none fun σ H Q ⟨B, Hs, ev, t, R, hf, q⟩ => by cases hf; exact q Hs H (Gr.refl R.bd.ok)
theorem fo_some (h : PE X e (tF K fa)) : PO X (some e) (tO K (fPart fa)) := PO.by (po_some h) fun σ H Q ⟨B, Hs, ev, t, R, hf, q⟩ => by
  unfold fPart at hf
  cases h : fa ev with
  | none => rw [h] at hf; cases hf
  | some d =>
    rw [h] at hf
    cases d with
    | int i => cases hf; exact ⟨B, Hs, ev, _, R, h, fun v Hs' H' g r => by cases r; exact ⟨i, rfl, q Hs' H' g⟩⟩
    | _ => cases hf
def cutT {α : Type} (xs : List α) (lo hi : Option Int) : List α := (xs.drop (HT.sIx xs.length 0 lo)).take (HT.sIx xs.length xs.length hi - HT.sIx xs.length 0 lo)
def fSl (g : T → Option Int → Option Int → Option T) (f : Ev → Option T) (fl fh : Ev → Option (Option Int)) : Ev → Option T := fun ev => match f ev, fl ev, fh ev with
  | some t, some lo, some hi => g t lo hi
  | _, _, _ => none
def gSlL : T → Option Int → Option Int → Option T
  | .lst ts, lo, hi => if noLs ts then some (.lst (cutT ts lo hi)) else none
  | .scr ns, lo, hi => some (.lst ((cutT ns lo hi).map .int))
  | _, _, _ => none
def gSl : T → Option Int → Option Int → Option T
  | .str s, lo, hi => if s.length ≤ sizeLine then some (.str (cutS s lo hi)) else none
  | .tup ts, lo, hi => if HT.sIx ts.length 0 lo = 0 ∧ HT.sIx ts.length ts.length hi = ts.length then none else some (.tup (cutT ts lo hi))
  | _, _, _ => none
theorem Rps.cut {H : Hp} {vs : List V} {ts : List T} (h : Rps K H vs ts) (lo hi : Option Int) : Rps K H (cutV vs lo hi) (cutT ts lo hi) := by
  unfold cutV cutT
  rw [h.length]
  exact (h.drop _).take _
theorem Rps.cutInts {H : Hp} (ns : List Int) (lo hi : Option Int) : Rps K H (cutV (ns.map V.int) lo hi) ((cutT ns lo hi).map .int) := by
  have e2 : cutV (ns.map V.int) lo hi = (cutT ns lo hi).map V.int := by
    unfold cutV cutT
    rw [List.length_map, List.map_take, List.map_drop]
  rw [e2]
  exact Rps.ofInts _
theorem noLs_sub {ts us : List T} (h : noLs ts = true) (s : ∀ t ∈ us, t ∈ ts) : noLs us = true := noLs_of fun t ht => noLs_mem h (s t ht)
theorem noLs_ints (ns : List Int) : noLs (ns.map .int) = true := noLs_of fun t ht => by
  obtain ⟨n, _, rfl⟩ := List.mem_map.mp ht
  rfl
theorem noLs_strs (ns : List Str) : noLs (ns.map .str) = true := noLs_of fun t ht => by
  obtain ⟨n, _, rfl⟩ := List.mem_map.mp ht
  rfl
theorem fn_sl {p2 : Pos} {lo hi : Option Expr} {fl fh : Ev → Option (Option Int)} (he : PE X e (tF K fa)) (hl : PO X lo (tO K fl)) (hh : PO X hi (tO K fh)) (hK : X.K = K := by rfl) : PE X (.Subscript e (.Slice lo hi none p2) pos) (tN K (fSl gSlL fa fl fh)) := by
  subst hK
  refine PE.by (pe_slice sl_list he hl hh) fun σ H Q ⟨B, Hs, ev, t, R, hf, q⟩ => ?_
  unfold fSl at hf
  split at hf
  · rename_i d lo hi h1 h2 h3
    refine ⟨B, Hs, ev, d, R, h1, fun v Hs1 H1 g1 r1 => ⟨B, Hs1, ev, lo, R.to g1, h2, fun Hs2 H2 g2 => ⟨B, Hs2, ev, hi, (R.to g1).to g2, h3, fun Hs3 H3 g3 => ?_⟩⟩⟩
    have g13 := (g1.trans g2).trans g3
    have r3 := r1.mono (g2.s.trans g3.s)
    unfold gSlL at hf
    split at hf
    · split at hf
      · rename_i hz
        cases hf
        cases r3 with
        | lst e r =>
          refine ⟨_, _, rfl, SqL.of (g3.ok.sub _ _ e), fun p hp => ?_⟩
          refine q _ _ (g13.h.trans (same_new hp)) (.lst (Frs.lst upd_same (g13.h.free hp)) ((r.cut lo hi).flat (fun a xs e => Frs.cst ?_ rfl) (noLs_sub hz fun t ht => List.mem_of_mem_drop (List.mem_of_mem_take ht))))
          rw [upd_ne (ne_of_none (g3.ok.sub _ _ e) hp)]
          exact g3.ok.sub _ _ e
      · cases hf
    · cases hf
      cases r3 with
      | scr e =>
        refine ⟨_, _, rfl, g3.ok.sub.seq e, fun p hp => ?_⟩
        refine q _ _ (g13.h.trans (same_new hp)) (.lst (Frs.lst upd_same (g13.h.free hp)) ?_)
        exact Rps.cutInts _ _ _
    · cases hf
  · cases hf
theorem fe_sl {p2 : Pos} {lo hi : Option Expr} {fl fh : Ev → Option (Option Int)} (he : PE X e (tF K fa)) (hl : PO X lo (tO K fl)) (hh : PO X hi (tO K fh)) (hK : X.K = K := by rfl) : PE X (.Subscript e (.Slice lo hi none p2) pos) (tF K (fSl gSl fa fl fh)) := by
  subst hK
  refine PE.by (pe_slice (sl_str.or sl_tup) he hl hh) fun σ H Q ⟨B, Hs, ev, t, R, hf, q⟩ => ?_
  unfold fSl at hf
  split at hf
  · rename_i d lo hi h1 h2 h3
    refine ⟨B, Hs, ev, d, R, h1, fun v Hs1 H1 g1 r1 => ⟨B, Hs1, ev, lo, R.to g1, h2, fun Hs2 H2 g2 => ⟨B, Hs2, ev, hi, (R.to g1).to g2, h3, fun Hs3 H3 g3 => ?_⟩⟩⟩
    have g13 := (g1.trans g2).trans g3
    have r3 := r1.mono (g2.s.trans g3.s)
    unfold gSl at hf
    split at hf
    · split at hf
      · rename_i hz
        cases hf; cases r3
        exact .inl ⟨_, rfl, hz, q _ _ _ g13 (.str _)⟩
      · cases hf
    · split at hf
      · cases hf
      · rename_i hz
        cases hf
        cases r3 with
        | tup e r =>
          rename_i aa vs
          refine .inr ⟨_, _, rfl, SqT.of (g3.ok.sub _ _ e), by rw [r.length]; exact hz, fun p hp => ?_⟩
          have g4 := Gr.new g3.ok hp (o := .tup (cutV vs lo hi))
          exact q _ _ _ (g13.trans g4) (.tup upd_same ((r.cut lo hi).mono g4.s))
    · cases hf
  · cases hf
end
end Fx

namespace Fx
open PySem PySem.Spec L2
open PyProof.Rows hiding St

def intsOf : List T → Option (List Int)
  | [] => some []
  | .int i :: ts => (intsOf ts).map fun ns => i :: ns
  | _ :: _ => none
def strsOf : List T → Option (List Str)
  | [] => some []
  | .str i :: ts => (strsOf ts).map fun ns => i :: ns
  | _ :: _ => none
theorem intsOf_some : ∀ {ts : List T} {ns : List Int}, intsOf ts = some ns → ts = ns.map .int
  | [], _, h => by cases h; rfl
  | .int i :: ts, ns, h => by
    unfold intsOf at h
    cases h2 : intsOf ts with
    | none => rw [h2] at h; cases h
    | some ms => rw [h2] at h; cases h; rw [intsOf_some h2]; rfl
  | .non :: _, _, h => by cases h
  | .bl _ :: _, _, h => by cases h
  | .str _ :: _, _, h => by cases h
  | .tup _ :: _, _, h => by cases h
  | .lst _ :: _, _, h => by cases h
  | .scr _ :: _, _, h => by cases h
theorem intsOf_map : ∀ ns : List Int, intsOf (ns.map .int) = some ns
  | [] => rfl
  | n :: ns => by
    show (intsOf (ns.map .int)).map _ = _
    rw [intsOf_map ns]; rfl
theorem strsOf_some : ∀ {ts : List T} {ns : List Str}, strsOf ts = some ns → ts = ns.map .str
  | [], _, h => by cases h; rfl
  | .str i :: ts, ns, h => by
    unfold strsOf at h
    cases h2 : strsOf ts with
    | none => rw [h2] at h; cases h
    | some ms => rw [h2] at h; cases h; rw [strsOf_some h2]; rfl
  | .non :: _, _, h => by cases h
  | .bl _ :: _, _, h => by cases h
  | .int _ :: _, _, h => by cases h
  | .tup _ :: _, _, h => by cases h
  | .lst _ :: _, _, h => by cases h
  | .scr _ :: _, _, h => by cases h
theorem strsOf_map : ∀ ns : List Str, strsOf (ns.map .str) = some ns
  | [] => rfl
  | n :: ns => by
    show (strsOf (ns.map .str)).map _ = _
    rw [strsOf_map ns]; rfl

/-! ### methods of texts -/
def fM (g : T → List T → Option T) (f : Ev → Option T) (fs : Ev → Option (List T)) : Ev → Option T := fun ev => (f ev).bind fun d => (fs ev).bind fun ds => g d ds
def MtD (K : PySem.W.Frag) (r : V → List V → Hp → VK → Prop) (g : T → List T → Option T) : Prop := ∀ (Hs H : Hp) (a : Str) (vs : List V) (ds : List T) (z : T), Ok Hs H → Rps K Hs vs ds → g (.str a) ds = some z → ∀ Q : VK, (∀ v Hs' H', Gr Hs H Hs' H' → Rp K Hs' v z → Q v H') → r (.str a) vs H Q
def MtN (K : PySem.W.Frag) (r : V → List V → Hp → VK → Prop) (g : T → List T → Option T) : Prop := ∀ (Hs H : Hp) (a : Str) (vs : List V) (ds : List T) (z : T), Ok Hs H → Rps K Hs vs ds → g (.str a) ds = some z → ∀ Q : VK, (∀ v H', Same H H' → Rp K (Frs H H') v z → Q v H') → r (.str a) vs H Q
def isStr : T → Bool
  | .str _ => true
  | _ => false
section
variable {X : Cx} {K : PySem.W.Frag} {o e : Expr} {es : List Expr} {f : Ev → Option T} {fs : Ev → Option (List T)} {name : Str} {apos cpos : Pos} {id : String} {r : V → List V → Hp → VK → Prop} {g : T → List T → Option T}
theorem fe_m (slot : Slot "str" name id) (hty : typeOf (.builtin id) = pure (.type "method_descriptor")) (hm : MtR X id r) (hd : MtD K r g) (hg : ∀ d ds z, g d ds = some z → isStr d = true) (ho : PE X o (tF K f)) (ha : PA X (e :: es) (tA K fs))
    (hbase : attributeBase o name X.env (eval o X.env) = eval o X.env := by rfl)
    (hfew : ((backTo cpos (starEach (e :: es) X.env)).all (fun x => !x.1) && (backToKw cpos (keywordEach [] X.env)).all (fun x => x.1.isSome)
      && decide ((e :: es).length + ([] : List Keyword).length + (if ([] : List Keyword).isEmpty then 0 else 1) < 30)) = true := by rfl)
    (hline : (apos.endLine == cpos.line) = true := by rfl) (hs : starEach (e :: es) X.env = (false, eval e X.env) :: starEach es X.env := by rfl) (hplain : (backTo cpos (starEach es X.env)).any (·.1) = false := by rfl) :
    PE X (.Call (.Attribute o name apos) (e :: es) [] cpos) (tF K (fM g f fs)) := PE.by (pe_bm F.plainAttrs_str slot hty hm ho ha hbase hfew hline hs hplain) fun σ H Q ⟨B, Hs, ev, t, R, hf, q⟩ => by
  obtain ⟨d, h1, hf⟩ := bind_some hf
  obtain ⟨ds, h2, hf⟩ := bind_some hf
  have hs := hg _ _ _ hf
  cases d with
  | str a => exact ⟨B, Hs, ev, _, R, h1, fun v Hs1 H1 g1 r1 => by
      cases r1
      exact ⟨rfl, B, Hs1, ev, ds, R.to g1, h2, fun vs Hs2 H2 g2 r2 => hd Hs2 H2 a vs ds t g2.ok r2 hf Q fun v Hs3 H3 g3 r3 => q v Hs3 H3 ((g1.trans g2).trans g3) r3⟩⟩
  | _ => cases hs
theorem fn_m (slot : Slot "str" name id) (hty : typeOf (.builtin id) = pure (.type "method_descriptor")) (hm : MtR X id r) (hd : MtN K r g) (hg : ∀ d ds z, g d ds = some z → isStr d = true) (ho : PE X o (tF K f)) (ha : PA X (e :: es) (tA K fs))
    (hbase : attributeBase o name X.env (eval o X.env) = eval o X.env := by rfl)
    (hfew : ((backTo cpos (starEach (e :: es) X.env)).all (fun x => !x.1) && (backToKw cpos (keywordEach [] X.env)).all (fun x => x.1.isSome)
      && decide ((e :: es).length + ([] : List Keyword).length + (if ([] : List Keyword).isEmpty then 0 else 1) < 30)) = true := by rfl)
    (hline : (apos.endLine == cpos.line) = true := by rfl) (hs : starEach (e :: es) X.env = (false, eval e X.env) :: starEach es X.env := by rfl) (hplain : (backTo cpos (starEach es X.env)).any (·.1) = false := by rfl) :
    PE X (.Call (.Attribute o name apos) (e :: es) [] cpos) (tN K (fM g f fs)) := PE.by (pe_bm F.plainAttrs_str slot hty hm ho ha hbase hfew hline hs hplain) fun σ H Q ⟨B, Hs, ev, t, R, hf, q⟩ => by
  obtain ⟨d, h1, hf⟩ := bind_some hf
  obtain ⟨ds, h2, hf⟩ := bind_some hf
  have hs := hg _ _ _ hf
  cases d with
  | str a => exact ⟨B, Hs, ev, _, R, h1, fun v Hs1 H1 g1 r1 => by
      cases r1
      exact ⟨rfl, B, Hs1, ev, ds, R.to g1, h2, fun vs Hs2 H2 g2 r2 => hd Hs2 H2 a vs ds t g2.ok r2 hf Q fun v H3 s3 r3 => q v H3 ((g1.h.trans g2.h).trans s3) (r3.mono (Frs.back (g1.h.trans g2.h)))⟩⟩
  | _ => cases hs
end
def gSplit : T → List T → Option T
  | .str a, [.str b] => if (b.length == 0) = false ∧ a.length + 2 ≤ sizeLine then some (.lst ((Txt.split a b).map .str)) else none
  | _, _ => none
def gJoin : T → List T → Option T
  | .str a, [.lst ts] => match strsOf ts with
    | some ys => if (ys.map (·.length)).sum + ys.length * a.length ≤ 16777216 then some (.str (Txt.join a ys)) else none
    | none => none
  | _, _ => none
def gRstrip : T → List T → Option T
  | .str a, [.str b] => if a.length ≤ sizeLine then some (.str (Txt.rstripChars a b)) else none
  | _, _ => none
def gEndswith : T → List T → Option T
  | .str a, [.str b] => some (.bl (Txt.endswith a b))
  | _, _ => none
def gCount : T → List T → Option T
  | .str a, [.str b] => some (.int (Txt.count a b))
  | _, _ => none
def gFind3 : T → List T → Option T
  | .str a, [.str b, .int i] => some (.int (Txt.find3 a b i))
  | _, _ => none
section
variable {X : Cx} {K : PySem.W.Frag} {o e e2 : Expr} {f : Ev → Option T} {fs : Ev → Option (List T)} {apos cpos : Pos}
theorem rps1 {H : Hp} {vs : List V} {t : T} (r : Rps K H vs [t]) : ∃ v, vs = [v] ∧ Rp K H v t := by
  cases r with
  | cons a r => cases r; exact ⟨_, rfl, a⟩
theorem rps2 {H : Hp} {vs : List V} {t u : T} (r : Rps K H vs [t, u]) : ∃ v w, vs = [v, w] ∧ Rp K H v t ∧ Rp K H w u := by
  cases r with
  | cons a r =>
    cases r with
    | cons b r => cases r; exact ⟨_, _, rfl, a, b⟩
theorem md_split : MtN K (fun x xs H Q => ∃ a b, x = .str a ∧ xs = [.str b] ∧ (b.length == 0) = false ∧ a.length + 2 ≤ sizeLine ∧ rNewStrs (Txt.split a b) H Q) gSplit := fun Hs H a vs ds z ok r hz Q q => by
  unfold gSplit at hz
  split at hz
  · rename_i h
    cases h
    split at hz
    · rename_i c
      cases hz
      obtain ⟨v, rfl, r1⟩ := rps1 r
      cases r1
      refine ⟨_, _, rfl, rfl, c.1, c.2, fun p hp => ?_⟩
      exact q _ _ (same_new hp) (.lst (Frs.lst upd_same hp) (Rps.ofStrs _))
    · cases hz
  · cases hz
theorem md_join : MtD K (fun x xs H Q => ∃ a p, ∃ ys : List Str, x = .str a ∧ xs = [.ref p] ∧ (SqL K H p (ys.map V.str) ∨ SqT K H p (ys.map V.str)) ∧ (ys.map (·.length)).sum + ys.length * a.length ≤ 16777216 ∧ Q (.str (Txt.join a ys)) H) gJoin := fun Hs H a vs ds z ok r hz Q q => by
  unfold gJoin at hz
  split at hz
  · rename_i h
    cases h
    split at hz
    · rename_i ys hy
      split at hz
      · rename_i c
        cases hz
        obtain ⟨v, rfl, r1⟩ := rps1 r
        cases r1 with
        | lst e r2 =>
          rw [strsOf_some hy] at r2
          have e2 := r2.strs
          subst e2
          exact ⟨_, _, ys, rfl, rfl, .inl (SqL.of (ok.sub _ _ e)), c, q _ Hs H (Gr.refl ok) (.str _)⟩
      · cases hz
    · cases hz
  · cases hz
theorem md_rstrip : MtD K (fun x xs H Q => ∃ a b, x = .str a ∧ xs = [.str b] ∧ a.length ≤ sizeLine ∧ Q (.str (Txt.rstripChars a b)) H) gRstrip := fun Hs H a vs ds z ok r hz Q q => by
  unfold gRstrip at hz
  split at hz
  · rename_i h
    cases h
    split at hz
    · rename_i c
      cases hz
      obtain ⟨v, rfl, r1⟩ := rps1 r
      cases r1
      exact ⟨_, _, rfl, rfl, c, q _ Hs H (Gr.refl ok) (.str _)⟩
    · cases hz
  · cases hz
theorem md_endswith : MtD K (fun x xs H Q => ∃ a b, x = .str a ∧ xs = [.str b] ∧ Q (.bl (Txt.endswith a b)) H) gEndswith := fun Hs H a vs ds z ok r hz Q q => by
  unfold gEndswith at hz
  split at hz
  · rename_i h
    cases h
    cases hz
    obtain ⟨v, rfl, r1⟩ := rps1 r
    cases r1
    exact ⟨_, _, rfl, rfl, q _ Hs H (Gr.refl ok) (.bl _)⟩
  · cases hz
theorem md_count : MtD K (fun x xs H Q => ∃ a b, x = .str a ∧ xs = [.str b] ∧ Q (.int (Txt.count a b)) H) gCount := fun Hs H a vs ds z ok r hz Q q => by
  unfold gCount at hz
  split at hz
  · rename_i h
    cases h
    cases hz
    obtain ⟨v, rfl, r1⟩ := rps1 r
    cases r1
    exact ⟨_, _, rfl, rfl, q _ Hs H (Gr.refl ok) (.int _)⟩
  · cases hz
theorem md_find3 : MtD K (fun x xs H Q => ∃ (a b : Str) (i : Int), x = .str a ∧ xs = [.str b, .int i] ∧ Q (.int (Txt.find3 a b i)) H) gFind3 := fun Hs H a vs ds z ok r hz Q q => by
  unfold gFind3 at hz
  split at hz
  · rename_i h
    cases h
    cases hz
    obtain ⟨v, w, rfl, r1, r2⟩ := rps2 r
    cases r1; cases r2
    exact ⟨_, _, _, rfl, rfl, q _ Hs H (Gr.refl ok) (.int _)⟩
  · cases hz
theorem g_split_str : ∀ d ds z, gSplit d ds = some z → isStr d = true := fun d ds z h => by unfold gSplit at h; split at h <;> first | rfl | cases h
theorem g_join_str : ∀ d ds z, gJoin d ds = some z → isStr d = true := fun d ds z h => by unfold gJoin at h; split at h <;> first | rfl | cases h
theorem g_rstrip_str : ∀ d ds z, gRstrip d ds = some z → isStr d = true := fun d ds z h => by unfold gRstrip at h; split at h <;> first | rfl | cases h
theorem g_endswith_str : ∀ d ds z, gEndswith d ds = some z → isStr d = true := fun d ds z h => by unfold gEndswith at h; split at h <;> first | rfl | cases h
theorem g_count_str : ∀ d ds z, gCount d ds = some z → isStr d = true := fun d ds z h => by unfold gCount at h; split at h <;> first | rfl | cases h
theorem g_find3_str : ∀ d ds z, gFind3 d ds = some z → isStr d = true := fun d ds z h => by unfold gFind3 at h; split at h <;> first | rfl | cases h
end

/-! ### built-ins by name -/
def gLen : List T → Option T
  | [.lst ts] => some (.int ts.length)
  | [.tup ts] => some (.int ts.length)
  | [.scr ns] => some (.int ns.length)
  | [.str s] => if s.length ≤ sizeLine then some (.int s.length) else none
  | _ => none
def gMax : List T → Option T
  | [.lst ts] => (intsOf ts).bind fun ns => ns.max?.map .int
  | [.int i, .int j] => some (.int (if j > i then j else i))
  | _ => none
def gMin : List T → Option T
  | [.lst ts] => (intsOf ts).bind fun ns => ns.min?.map .int
  | [.int i, .int j] => some (.int (if j < i then j else i))
  | _ => none
def gAbs : List T → Option T
  | [.int i] => some (.int (if i < 0 then -i else i))
  | _ => none
def gInt : List T → Option T
  | [.int i] => some (.int i)
  | [.bl b] => some (.int (if b then 1 else 0))
  | _ => none
def gStr : List T → Option T
  | [.int i] => if i.natAbs.log2 < 1920 then some (.str (toString i)) else none
  | _ => none
def gList : List T → Option T
  | [.lst ts] => if noLs ts then some (.lst ts) else none
  | [.tup ts] => if noLs ts then some (.lst ts) else none
  | _ => none
section
variable {X : Cx} {K : PySem.W.Frag}
theorem cd_len : CallD K (fun xs H Q => ∃ x n, xs = [x] ∧ LenV K x H n ∧ Q (.int n) H) gLen := fun Hs H vs ds z ok r hz Q q => by
  unfold gLen at hz
  split at hz
  · cases hz
    obtain ⟨v, rfl, r1⟩ := rps1 r
    cases r1 with
    | lst e r2 =>
      refine ⟨_, _, rfl, .inl ⟨_, SqL.of (ok.sub _ _ e), rfl⟩, ?_⟩
      rw [r2.length]
      exact q _ Hs H (Gr.refl ok) (.int _)
  · cases hz
    obtain ⟨v, rfl, r1⟩ := rps1 r
    cases r1 with
    | tup e r2 =>
      refine ⟨_, _, rfl, .inr ⟨_, SqT.of (ok.sub _ _ e), rfl⟩, ?_⟩
      rw [r2.length]
      exact q _ Hs H (Gr.refl ok) (.int _)
  · cases hz
    obtain ⟨v, rfl, r1⟩ := rps1 r
    cases r1 with
    | scr e =>
      refine ⟨_, _, rfl, .inl ⟨_, ok.sub.seq e, rfl⟩, ?_⟩
      rw [List.length_map]
      exact q _ Hs H (Gr.refl ok) (.int _)
  · split at hz
    · rename_i c
      cases hz
      obtain ⟨v, rfl, r1⟩ := rps1 r
      cases r1
      exact ⟨_, _, rfl, ⟨c, rfl⟩, q _ Hs H (Gr.refl ok) (.int _)⟩
    · cases hz
  · cases hz
theorem max_is {ns : List Int} {m n : Int} (h : ns.max? = some n) (h1 : m ∈ ns) (h2 : ∀ y, y ∈ ns → y ≤ m) : m = n := by
  have := (List.max?_eq_some_iff).mp h
  exact Int.le_antisymm (this.2 m h1) (h2 n this.1)
theorem min_is {ns : List Int} {m n : Int} (h : ns.min? = some n) (h1 : m ∈ ns) (h2 : ∀ y, y ∈ ns → m ≤ y) : m = n := by
  have := (List.min?_eq_some_iff).mp h
  exact Int.le_antisymm (h2 n this.1) (this.2 m h1)
theorem cd_max : CallD K (fun xs H Q => rMax K xs H Q ∨ ∃ i j, xs = [.int i, .int j] ∧ Q (.int (if j > i then j else i)) H) gMax := fun Hs H vs ds z ok r hz Q q => by
  unfold gMax at hz
  split at hz
  · obtain ⟨ns, h1, hz⟩ := bind_some hz
    cases hm : ns.max? with
    | none => rw [hm] at hz; cases hz
    | some m =>
      rw [hm] at hz
      cases hz
      obtain ⟨v, rfl, r1⟩ := rps1 r
      cases r1 with
      | lst e r2 =>
        rw [intsOf_some h1] at r2
        have e2 := r2.ints
        subst e2
        refine .inl ⟨_, ns, rfl, SqL.of (ok.sub _ _ e), ?_, fun m' k1 k2 => ?_⟩
        · cases ns with
          | nil => cases hm
          | cons _ _ => exact Nat.zero_lt_succ _
        · rw [max_is hm k1 k2]
          exact q _ Hs H (Gr.refl ok) (.int _)
  · cases hz
    obtain ⟨v, w, rfl, r1, r2⟩ := rps2 r
    cases r1; cases r2
    exact .inr ⟨_, _, rfl, q _ Hs H (Gr.refl ok) (.int _)⟩
  · cases hz
theorem cd_min : CallD K (fun xs H Q => rMin K xs H Q ∨ ∃ i j, xs = [.int i, .int j] ∧ Q (.int (if j < i then j else i)) H) gMin := fun Hs H vs ds z ok r hz Q q => by
  unfold gMin at hz
  split at hz
  · obtain ⟨ns, h1, hz⟩ := bind_some hz
    cases hm : ns.min? with
    | none => rw [hm] at hz; cases hz
    | some m =>
      rw [hm] at hz
      cases hz
      obtain ⟨v, rfl, r1⟩ := rps1 r
      cases r1 with
      | lst e r2 =>
        rw [intsOf_some h1] at r2
        have e2 := r2.ints
        subst e2
        refine .inl ⟨_, ns, rfl, SqL.of (ok.sub _ _ e), ?_, fun m' k1 k2 => ?_⟩
        · cases ns with
          | nil => cases hm
          | cons _ _ => exact Nat.zero_lt_succ _
        · rw [min_is hm k1 k2]
          exact q _ Hs H (Gr.refl ok) (.int _)
  · cases hz
    obtain ⟨v, w, rfl, r1, r2⟩ := rps2 r
    cases r1; cases r2
    exact .inr ⟨_, _, rfl, q _ Hs H (Gr.refl ok) (.int _)⟩
  · cases hz
theorem cd_abs : CallD K (fun xs H Q => ∃ i, xs = [.int i] ∧ Q (.int (if i < 0 then -i else i)) H) gAbs := fun Hs H vs ds z ok r hz Q q => by
  unfold gAbs at hz
  split at hz
  · cases hz
    obtain ⟨v, rfl, r1⟩ := rps1 r
    cases r1
    exact ⟨_, rfl, q _ Hs H (Gr.refl ok) (.int _)⟩
  · cases hz
theorem cd_int : CallD K (fun xs H Q => (∃ i, xs = [.int i] ∧ Q (.int i) H) ∨ ∃ k, xs = [.bl k] ∧ Q (.int (if k then 1 else 0)) H) gInt := fun Hs H vs ds z ok r hz Q q => by
  unfold gInt at hz
  split at hz
  · cases hz
    obtain ⟨v, rfl, r1⟩ := rps1 r
    cases r1
    exact .inl ⟨_, rfl, q _ Hs H (Gr.refl ok) (.int _)⟩
  · cases hz
    obtain ⟨v, rfl, r1⟩ := rps1 r
    cases r1
    exact .inr ⟨_, rfl, q _ Hs H (Gr.refl ok) (.int _)⟩
  · cases hz
theorem cd_str : CallD K (fun xs H Q => ∃ i, xs = [.int i] ∧ i.natAbs.log2 < 1920 ∧ Q (.str (toString i)) H) gStr := fun Hs H vs ds z ok r hz Q q => by
  unfold gStr at hz
  split at hz
  · split at hz
    · rename_i c
      cases hz
      obtain ⟨v, rfl, r1⟩ := rps1 r
      cases r1
      exact ⟨_, rfl, c, q _ Hs H (Gr.refl ok) (.str _)⟩
    · cases hz
  · cases hz
theorem cn_list : CallN K (fun xs H Q => ∃ p ys, xs = [.ref p] ∧ (SqL K H p ys ∨ SqT K H p ys) ∧ ∀ l, H l = none → Q (.ref l) (upd H l (.lst ys))) gList := fun Hs H vs ds z ok r hz Q q => by
  unfold gList at hz
  split at hz
  · split at hz
    · rename_i c
      cases hz
      obtain ⟨v, rfl, r1⟩ := rps1 r
      cases r1 with
      | lst e r2 =>
        refine ⟨_, _, rfl, .inl (SqL.of (ok.sub _ _ e)), fun l hl => q _ _ (same_new hl) (.lst (Frs.lst upd_same hl) (r2.flat (fun a xs e => Frs.cst ?_ rfl) c))⟩
        rw [upd_ne (ne_of_none (ok.sub _ _ e) hl)]
        exact ok.sub _ _ e
    · cases hz
  · split at hz
    · rename_i c
      cases hz
      obtain ⟨v, rfl, r1⟩ := rps1 r
      cases r1 with
      | tup e r2 =>
        refine ⟨_, _, rfl, .inr (SqT.of (ok.sub _ _ e)), fun l hl => q _ _ (same_new hl) (.lst (Frs.lst upd_same hl) (r2.flat (fun a xs e => Frs.cst ?_ rfl) c))⟩
        rw [upd_ne (ne_of_none (ok.sub _ _ e) hl)]
        exact ok.sub _ _ e
    · cases hz
  · cases hz
end
/-! ### isinstance(x, T), T a built-in type -/
def tyName : T → String
  | .non => "NoneType"
  | .bl _ => "bool"
  | .int _ => "int"
  | .str _ => "str"
  | .tup _ => "tuple"
  | .lst _ => "list"
  | .scr _ => "list"
def qInt : T → Bool
  | .int _ => true
  | .bl _ => true
  | _ => false
def qBool : T → Bool
  | .bl _ => true
  | _ => false
def qStr : T → Bool
  | .str _ => true
  | _ => false
def qTuple : T → Bool
  | .tup _ => true
  | _ => false
def qList : T → Bool
  | .lst _ => true
  | .scr _ => true
  | _ => false
theorem kit_int : ∀ t : T, kitB (tyName t) "int" = some (qInt t)
  | .non => (by decide +kernel : kitB "NoneType" "int" = some false)
  | .bl _ => (by decide +kernel : kitB "bool" "int" = some true)
  | .int _ => (by decide +kernel : kitB "int" "int" = some true)
  | .str _ => (by decide +kernel : kitB "str" "int" = some false)
  | .tup _ => (by decide +kernel : kitB "tuple" "int" = some false)
  | .lst _ => (by decide +kernel : kitB "list" "int" = some false)
  | .scr _ => (by decide +kernel : kitB "list" "int" = some false)
theorem kit_bool : ∀ t : T, kitB (tyName t) "bool" = some (qBool t)
  | .non => (by decide +kernel : kitB "NoneType" "bool" = some false)
  | .bl _ => (by decide +kernel : kitB "bool" "bool" = some true)
  | .int _ => (by decide +kernel : kitB "int" "bool" = some false)
  | .str _ => (by decide +kernel : kitB "str" "bool" = some false)
  | .tup _ => (by decide +kernel : kitB "tuple" "bool" = some false)
  | .lst _ => (by decide +kernel : kitB "list" "bool" = some false)
  | .scr _ => (by decide +kernel : kitB "list" "bool" = some false)
theorem kit_str : ∀ t : T, kitB (tyName t) "str" = some (qStr t)
  | .non => (by decide +kernel : kitB "NoneType" "str" = some false)
  | .bl _ => (by decide +kernel : kitB "bool" "str" = some false)
  | .int _ => (by decide +kernel : kitB "int" "str" = some false)
  | .str _ => (by decide +kernel : kitB "str" "str" = some true)
  | .tup _ => (by decide +kernel : kitB "tuple" "str" = some false)
  | .lst _ => (by decide +kernel : kitB "list" "str" = some false)
  | .scr _ => (by decide +kernel : kitB "list" "str" = some false)
theorem kit_tuple : ∀ t : T, kitB (tyName t) "tuple" = some (qTuple t)
  | .non => (by decide +kernel : kitB "NoneType" "tuple" = some false)
  | .bl _ => (by decide +kernel : kitB "bool" "tuple" = some false)
  | .int _ => (by decide +kernel : kitB "int" "tuple" = some false)
  | .str _ => (by decide +kernel : kitB "str" "tuple" = some false)
  | .tup _ => (by decide +kernel : kitB "tuple" "tuple" = some true)
  | .lst _ => (by decide +kernel : kitB "list" "tuple" = some false)
  | .scr _ => (by decide +kernel : kitB "list" "tuple" = some false)
theorem kit_list : ∀ t : T, kitB (tyName t) "list" = some (qList t)
  | .non => (by decide +kernel : kitB "NoneType" "list" = some false)
  | .bl _ => (by decide +kernel : kitB "bool" "list" = some false)
  | .int _ => (by decide +kernel : kitB "int" "list" = some false)
  | .str _ => (by decide +kernel : kitB "str" "list" = some false)
  | .tup _ => (by decide +kernel : kitB "tuple" "list" = some false)
  | .lst _ => (by decide +kernel : kitB "list" "list" = some true)
  | .scr _ => (by decide +kernel : kitB "list" "list" = some true)
def gIs (q : T → Bool) : T → Option T := fun t => some (.bl (q t))
theorem Rp.ty {K : PySem.W.Frag} {H : Hp} {v : V} {t : T} (r : Rp K H v t) : TyX K H v (.type (tyName t)) := by
  cases r with
  | non => exact .base .non
  | bl b => exact .base (.bl b)
  | int i => exact .base (.int i)
  | str s => exact .base (.str s)
  | tup e _ => exact .base (.tup e)
  | lst e _ => exact .base (.lst e)
  | scr e =>
    rcases e with (e | ⟨o, e⟩) | ⟨o, its, n, e, c, _⟩
    · exact .base (.lst e)
    · exact .base (.frz e)
    · exact .kList e c
theorem fe_isi {X : Cx} {K : PySem.W.Frag} {a : Expr} {f : Ev → Option T} {p p2 pos : Pos} {ty : Str} {tn : String} {qq : T → Bool} (hk : ∀ t, kitB (tyName t) tn = some (qq t)) (hv : bootBuiltins ty = some (.type tn)) (hm : X.mg "isinstance" = none) (hm2 : X.mg ty = none) (ha : PE X a (tF K f))
    (hg : Gl X "isinstance" := by rfl) (hg2 : Gl X ty := by rfl) (hn : ty ≠ "__name__" := by decide) (hd : (ty == ("__debug__" : Str)) = false := by decide) (hK : X.K = K := by rfl)
    (he : starEach [a, .Name ty p2] X.env = (false, eval a X.env) :: starEach [.Name ty p2] X.env := by rfl) (he2 : starEach [.Name ty p2] X.env = (false, eval (.Name ty p2) X.env) :: starEach [] X.env := by rfl) (hpl : (backTo pos (starEach [.Name ty p2] X.env)).any (·.1) = false := by rfl) :
    PE X (.Call (.Name "isinstance" p) [a, .Name ty p2] [] pos) (tF K (f1 (gIs qq) f)) := by
  subst hK
  refine PE.by (pe_callB call_isi hg hm (by decide +kernel) (pa_cons ha (pa_cons (pe_bltn (v := .ty tn) hg2 hm2 hv rfl hn hd) pa_nil he2) he) (by decide) (by decide) he hpl) fun σ H Q ⟨B, Hs, ev, t, R, hf, q⟩ => ?_
  obtain ⟨d, h, hf⟩ := bind_some hf
  cases hf
  exact ⟨B, Hs, ev, d, R, h, fun v Hs' H' g r => ⟨v, .ty tn, _, _, qq d, rfl, .ty tn, (r.mono g.ok.sub).ty, kit_ty (hk d), q _ Hs' H' g (.bl _)⟩⟩
end Fx

namespace Fx
open PySem PySem.Spec L2
open PyProof.Rows hiding St

/-! ### defs -/
inductive Res where
  | ok (t : T) | fr (t : T) | ex (c : Str)
/-- the promise: what it hands back for data ds is g ds (fr: its lists are new); where g tells nothing it is not asked -/
def SpR (K : PySem.W.Frag) (mg : Str → Option Value) (g : List T → Option Res) : Sp := fun vs H Q E => ∃ Hs ds r, Ok Hs H ∧ Rps K Hs vs ds ∧ g ds = some r ∧ match r with
  | .ok t => ∀ v Hs' H', Gr Hs H Hs' H' → Rp K Hs' v t → Q v H'
  | .fr t => ∀ v Hs' H', Gr Hs H Hs' H' → Rp K (Frs H H') v t → Q v H'
  | .ex c => ∀ Hs' H' cls, Gr Hs H Hs' H' → mg c = some cls → E cls none H'
/-- a body's outcome; n parameters, N names -/
def runB (N n : Nat) (F : Ev → Option Out) (ds : List T) : Option Res := if ds.length = n then (match F (ds.map .sh ++ List.replicate (N - n) .un) with
  | some (.rt t) => some (.ok t)
  | some (.rf t) => some (.fr t)
  | some (.nx _) => some (.ok .non)
  | some (.ex c _) => some (.ex c)
  | _ => none) else none
/-- of a body that lets no error out -/
def runP (N n : Nat) (F : Ev → Option Out) (ds : List T) : Option Res := match runB N n F ds with
  | some (.ex _) => none
  | r => r
/-- the value alone -/
def val : Option Res → Option T
  | some (.ok t) => some t
  | some (.fr t) => some t
  | _ => none
def fCall (g : List T → Option Res) (fs : Ev → Option (List T)) : Ev → Option T := fun ev => (fs ev).bind fun ds => val (g ds)
def fCallN (g : List T → Option Res) (fs : Ev → Option (List T)) : Ev → Option T := fun ev => (fs ev).bind fun ds => match g ds with
  | some (.fr t) => some t
  | _ => none
theorem rl_start {K : PySem.W.Frag} {Hs H : Hp} {N : List Str} {vs : List V} {ds : List T} {n : Nat} (ok : Ok Hs H) (r : Rps K Hs vs ds) (hn : ds.length = n) : Rl K ⟨Hs, H⟩ Hs H (L2.start N vs) (ds.map .sh ++ List.replicate (N.length - n) .un) := by
  have hl := r.length
  refine ⟨⟨Same.refl _, Same.refl _, fun _ _ _ => rfl, ok⟩, ?_, fun _ => none, ⟨fun _ _ e => (nomatch e), fun i s o e1 e2 => ?_⟩⟩
  · unfold L2.start
    rw [List.length_append, List.length_append, List.length_map, List.length_map, List.length_replicate, List.length_replicate, hl, hn]
  · by_cases hi : i < ds.length
    · rw [List.getElem?_append_left (by rw [List.length_map]; exact hi), List.getElem?_map, List.getElem?_eq_getElem hi] at e1
      unfold L2.start at e2
      rw [List.getElem?_append_left (by rw [List.length_map, hl]; exact hi), List.getElem?_map] at e2
      obtain ⟨v, h1, h2⟩ := r.get (List.getElem?_eq_getElem hi)
      rw [h1] at e2
      cases e1; cases e2
      exact ⟨v, rfl, h2⟩
    · rw [List.getElem?_append_right (by rw [List.length_map]; omega), List.getElem?_replicate] at e1
      split at e1
      · cases e1; trivial
      · cases e1
section
variable {P : Program} {w : World} {K : PySem.W.Frag} {mg : Str → Option Value} {base : Heap} {x qual : Str} {st : Stmt} {f : Addr} {fd : FuncData} {N ps : List Str} {k : Nat} {F : Ev → Option Out}
theorem SpR.len {n : Nat} {g : List T → Option Res} (hg : ∀ ds r, g ds = some r → ds.length = n) : ∀ vs H Q E, SpR K mg g vs H Q E → vs.length = n := fun vs H Q E ⟨Hs, ds, r, _, rp, h, _⟩ => by
  rw [rp.length]
  exact hg _ _ h
theorem runB_len {N n : Nat} {F : Ev → Option Out} : ∀ ds r, runB N n F ds = some r → ds.length = n := fun ds r h => by
  unfold runB at h
  split at h
  · assumption
  · cases h
theorem runP_len {N n : Nat} {F : Ev → Option Out} : ∀ ds r, runP N n F ds = some r → ds.length = n := fun ds r h => by
  unfold runP at h
  cases h2 : runB N n F ds with
  | none => rw [h2] at h; cases h
  | some q => exact runB_len _ _ h2
/-- a def whose body lets no error out -/
theorem fn_ok (D : Fun K x qual st f fd) (S : FnScope N ps (defScope st)) (n m : Nat) (hn : ps.length = n) (hm : N.length = m)
    (hbody : ∀ (cdv : Value) (A : Around) (outer : List Env) (s : Shared) (H : Hp) (E : XK), Room k (A.deeper (envOfC qual (defScope st) s.heap.objs.size f cdv)) →
      PSs (cxOf CX0 P w K mg base N qual (defScope st) f cdv A outer s H E).nox (defBody st) (tS K mg (fun _ _ _ _ => False) F)) :
    FnOk P w K mg base CX0 (k + 1) f fd ps (SpR K mg (runP m n F)) := by
  subst hn hm
  refine D.ok S (SpR.len runP_len) fun cdv A outer s H vs Q E hr hsp => ⟨_, hbody cdv A outer s H E hr, ?_⟩
  obtain ⟨Hs, ds, r, ok, rp, hg, hp⟩ := hsp
  have hl := runP_len _ _ hg
  unfold runP runB at hg
  rw [if_pos hl] at hg
  cases hF : F (ds.map .sh ++ List.replicate (N.length - ps.length) .un) with
  | none => rw [hF] at hg; cases hg
  | some o =>
    rw [hF] at hg
    refine ⟨⟨Hs, H⟩, Hs, _, o, rl_start ok rp hl, hF, ?_⟩
    cases o with
    | nx e => cases hg; exact fun σ' Hs' H' ss R => hp _ Hs' H' ⟨R.bd.s, R.bd.h, R.bd.n, R.bd.ok⟩ .non
    | rt t => cases hg; exact fun v Hs' H' ss b r => hp v Hs' H' ⟨b.s, b.h, b.n, b.ok⟩ r
    | rf t => cases hg; exact fun v Hs' H' ss b r => hp v Hs' H' ⟨b.s, b.h, b.n, b.ok⟩ r
    | _ => cases hg
/-- a def that may raise -/
theorem fn_okX (D : Fun K x qual st f fd) (S : FnScope N ps (defScope st)) (n m : Nat) (hn : ps.length = n) (hm : N.length = m)
    (hbody : ∀ (cdv : Value) (A : Around) (outer : List Env) (s : Shared) (H : Hp) (E : XK), Room k (A.deeper (envOfC qual (defScope st) s.heap.objs.size f cdv)) →
      PSs (cxOf (L2.CX P w) P w K mg base N qual (defScope st) f cdv A outer s H E) (defBody st) (tS K mg (fun cls d _ H => E cls d H) F)) :
    FnOk P w K mg base (L2.CX P w) (k + 1) f fd ps (SpR K mg (runB m n F)) := by
  subst hn hm
  refine D.okX S (SpR.len runB_len) fun cdv A outer s H vs Q E hr hsp => ⟨_, hbody cdv A outer s H E hr, ?_⟩
  obtain ⟨Hs, ds, r, ok, rp, hg, hp⟩ := hsp
  have hl := runB_len _ _ hg
  unfold runB at hg
  rw [if_pos hl] at hg
  cases hF : F (ds.map .sh ++ List.replicate (N.length - ps.length) .un) with
  | none => rw [hF] at hg; cases hg
  | some o =>
    rw [hF] at hg
    refine ⟨⟨Hs, H⟩, Hs, _, o, rl_start ok rp hl, hF, ?_⟩
    cases o with
    | nx e => cases hg; exact fun σ' Hs' H' ss R => hp _ Hs' H' ⟨R.bd.s, R.bd.h, R.bd.n, R.bd.ok⟩ .non
    | rt t => cases hg; exact fun v Hs' H' ss b r => hp v Hs' H' ⟨b.s, b.h, b.n, b.ok⟩ r
    | rf t => cases hg; exact fun v Hs' H' ss b r => hp v Hs' H' ⟨b.s, b.h, b.n, b.ok⟩ r
    | ex c e => cases hg; exact fun σ' Hs' H' cls ss R hc => hp Hs' H' cls ⟨R.bd.s, R.bd.h, R.bd.n, R.bd.ok⟩ hc
    | _ => cases hg
end

/-! ### calls -/
section
variable {X : Cx} {K : PySem.W.Frag} {mg : Str → Option Value} {CX : CXT} {k : Nat} {f : Addr} {fd : FuncData} {ps : List Str} {g : List T → Option Res} {x : Str} {p pos : Pos} {e : Expr} {es : List Expr} {fs : Ev → Option (List T)} {W : WX}
theorem fe_call (F : FnOk X.prog X.w X.K X.mg X.base CX k f fd ps (SpR K mg g)) (hr : Room k X.A) (hm : X.mg x = some (.ref f)) (hk : PySem.W.keepIn X.K (.ref f) = true) (hb : Binds X.K fd ps []) (hx : Passes CX X E0)
    (ha : PA X (e :: es) (tA K fs)) (hg : Gl X x := by rfl) (hdb : (x == ("__debug__" : Str)) = false := by decide) (he : starEach (e :: es) X.env = (false, eval e X.env) :: starEach es X.env := by rfl) (hpl : (backTo pos (starEach es X.env)).any (·.1) = false := by rfl) :
    PE X (.Call (.Name x p) (e :: es) [] pos) (tF K (fCall g fs)) := PE.by (pe_call F hr hg hm hk hb .nil hx ha hdb he hpl) fun σ H Q ⟨B, Hs, ev, t, R, hf, q⟩ => by
  obtain ⟨ds, h1, hf⟩ := bind_some hf
  refine ⟨B, Hs, ev, ds, R, h1, fun vs Hs1 H1 g1 r1 => ?_⟩
  show SpR K mg g (vs ++ []) H1 Q E0
  rw [List.append_nil]
  unfold val at hf
  split at hf
  · rename_i t' hg
    cases hf
    exact ⟨Hs1, ds, _, g1.ok, r1, hg, fun v Hs2 H2 g2 r2 => q v Hs2 H2 (g1.trans g2) r2⟩
  · rename_i t' hg
    cases hf
    refine ⟨Hs1, ds, _, g1.ok, r1, hg, fun v Hs2 H2 g2 r2 => ?_⟩
    have g3 := Gr.nxt g1.ok g2.h
    exact q v _ H2 (g1.trans g3) (r2.mono (Frs.nxt g1.ok g2.h))
  · cases hf
theorem fn_call (F : FnOk X.prog X.w X.K X.mg X.base CX k f fd ps (SpR K mg g)) (hr : Room k X.A) (hm : X.mg x = some (.ref f)) (hk : PySem.W.keepIn X.K (.ref f) = true) (hb : Binds X.K fd ps []) (hx : Passes CX X E0)
    (ha : PA X (e :: es) (tA K fs)) (hg : Gl X x := by rfl) (hdb : (x == ("__debug__" : Str)) = false := by decide) (he : starEach (e :: es) X.env = (false, eval e X.env) :: starEach es X.env := by rfl) (hpl : (backTo pos (starEach es X.env)).any (·.1) = false := by rfl) :
    PE X (.Call (.Name x p) (e :: es) [] pos) (tN K (fCallN g fs)) := PE.by (pe_call F hr hg hm hk hb .nil hx ha hdb he hpl) fun σ H Q ⟨B, Hs, ev, t, R, hf, q⟩ => by
  obtain ⟨ds, h1, hf⟩ := bind_some hf
  refine ⟨B, Hs, ev, ds, R, h1, fun vs Hs1 H1 g1 r1 => ?_⟩
  show SpR K mg g (vs ++ []) H1 Q E0
  rw [List.append_nil]
  split at hf
  · rename_i t' hg
    cases hf
    exact ⟨Hs1, ds, _, g1.ok, r1, hg, fun v Hs2 H2 g2 r2 => q v H2 (g1.h.trans g2.h) (r2.mono (Frs.back g1.h))⟩
  · cases hf
/-! .. of a def that may raise, as a statement of its own -/
def fCallSet (i : Nat) (g : List T → Option Res) (fs : Ev → Option (List T)) : Ev → Option Out := fun ev => (fs ev).bind fun ds => match g ds with
  | some (.ok t) => some (.nx (ev.set i (.sh t)))
  | some (.fr t) => some (.nx (ev.set i (.sh t)))
  | some (.ex c) => some (.ex c ev)
  | none => none
def fCallRet (g : List T → Option Res) (fs : Ev → Option (List T)) : Ev → Option Out := fun ev => (fs ev).bind fun ds => match g ds with
  | some (.ok t) => some (.rt t)
  | some (.fr t) => some (.rf t)
  | some (.ex c) => some (.ex c ev)
  | none => none
def fCallDrop (g : List T → Option Res) (fs : Ev → Option (List T)) : Ev → Option Out := fun ev => (fs ev).bind fun ds => match g ds with
  | some (.ok _) => some (.nx ev)
  | some (.fr _) => some (.nx ev)
  | some (.ex c) => some (.ex c ev)
  | none => none
theorem fs_callSet (i : Nat) {y : Str} {pos' spos : Pos} (F : FnOk X.prog X.w X.K X.mg X.base (L2.CX X.prog X.w) k f fd ps (SpR K mg g)) (tk : Takes X W) (hr : Room k X.A) (hm : X.mg x = some (.ref f)) (hk : PySem.W.keepIn X.K (.ref f) = true) (hb : Binds X.K fd ps []) (hN : X.N.Nodup)
    (ha : PA X (e :: es) (tA K fs)) (hg : Gl X x := by rfl) (hdb : (x == ("__debug__" : Str)) = false := by decide) (he : starEach (e :: es) X.env = (false, eval e X.env) :: starEach es X.env := by rfl) (hpl : (backTo pos (starEach es X.env)).any (·.1) = false := by rfl)
    (hi : X.N[i]? = some y := by rfl) (hx : Loc X.env.scope y := by first | exact Or.inl rfl | exact Or.inr rfl) (hs : swapsWith (.Call (.Name x p) (e :: es) [] pos) (some (.Name y pos')) spos.line X.env = pure false := by rfl)
    (hf : X.fn y = true ∨ X.env.scope.names.lookup y = some .local := by first | exact .inl rfl | exact .inr rfl) :
    PS X (.Assign [.Name y pos'] (.Call (.Name x p) (e :: es) [] pos) spos) (tS K mg W (fCallSet i g fs)) := PS.by (ps_set hN hi hx (pe_callS F hr hg hm hk hb (fun σ => passAt tk σ) ha hdb he hpl) hs hf) fun D σ H ⟨B, Hs, ev, o, R, hf, q⟩ => by
  obtain ⟨ds, h1, hf⟩ := bind_some hf
  refine ⟨B, Hs, ev, ds, R, h1, fun vs Hs1 H1 g1 r1 => ?_⟩
  split at hf
  · rename_i t' hg
    cases hf
    exact ⟨Hs1, ds, _, g1.ok, r1, hg, fun v Hs2 H2 g2 r2 => q _ Hs2 H2 (g1.s.trans g2.s) (((R.to g1).to g2).set r2 i)⟩
  · rename_i t' hg
    cases hf
    refine ⟨Hs1, ds, _, g1.ok, r1, hg, fun v Hs2 H2 g2 r2 => ?_⟩
    have g3 := Gr.nxt g1.ok g2.h
    exact q _ _ H2 (g1.s.trans g3.s) (((R.to g1).to g3).set (r2.mono (Frs.nxt g1.ok g2.h)) i)
  · rename_i c hg
    cases hf
    exact ⟨Hs1, ds, _, g1.ok, r1, hg, fun Hs2 H2 cls g2 hc => q σ Hs2 H2 cls (g1.s.trans g2.s) ((R.to g1).to g2) hc⟩
  · cases hf
theorem fs_callRet {spos : Pos} (F : FnOk X.prog X.w X.K X.mg X.base (L2.CX X.prog X.w) k f fd ps (SpR K mg g)) (tk : Takes X W) (hr : Room k X.A) (hm : X.mg x = some (.ref f)) (hk : PySem.W.keepIn X.K (.ref f) = true) (hb : Binds X.K fd ps [])
    (ha : PA X (e :: es) (tA K fs)) (hg : Gl X x := by rfl) (hdb : (x == ("__debug__" : Str)) = false := by decide) (he : starEach (e :: es) X.env = (false, eval e X.env) :: starEach es X.env := by rfl) (hpl : (backTo pos (starEach es X.env)).any (·.1) = false := by rfl) :
    PS X (.Return (some (.Call (.Name x p) (e :: es) [] pos)) spos) (tS K mg W (fCallRet g fs)) := PS.by (ps_ret (pe_callS F hr hg hm hk hb (fun σ => passAt tk σ) ha hdb he hpl)) fun D σ H ⟨B, Hs, ev, o, R, hf, q⟩ => by
  obtain ⟨ds, h1, hf⟩ := bind_some hf
  refine ⟨B, Hs, ev, ds, R, h1, fun vs Hs1 H1 g1 r1 => ?_⟩
  split at hf
  · rename_i t' hg
    cases hf
    exact ⟨Hs1, ds, _, g1.ok, r1, hg, fun v Hs2 H2 g2 r2 => q _ Hs2 H2 (g1.s.trans g2.s) ((R.bd.to g1).to g2) r2⟩
  · rename_i t' hg
    cases hf
    refine ⟨Hs1, ds, _, g1.ok, r1, hg, fun v Hs2 H2 g2 r2 => ?_⟩
    exact q _ Hs2 H2 (g1.s.trans g2.s) ((R.bd.to g1).to g2) (r2.mono (Frs.back (R.bd.h.trans g1.h)))
  · rename_i c hg
    cases hf
    exact ⟨Hs1, ds, _, g1.ok, r1, hg, fun Hs2 H2 cls g2 hc => q σ Hs2 H2 cls (g1.s.trans g2.s) ((R.to g1).to g2) hc⟩
  · cases hf
theorem fs_callDrop {spos : Pos} (F : FnOk X.prog X.w X.K X.mg X.base (L2.CX X.prog X.w) k f fd ps (SpR K mg g)) (tk : Takes X W) (hr : Room k X.A) (hm : X.mg x = some (.ref f)) (hk : PySem.W.keepIn X.K (.ref f) = true) (hb : Binds X.K fd ps [])
    (ha : PA X (e :: es) (tA K fs)) (hg : Gl X x := by rfl) (hdb : (x == ("__debug__" : Str)) = false := by decide) (he : starEach (e :: es) X.env = (false, eval e X.env) :: starEach es X.env := by rfl) (hpl : (backTo pos (starEach es X.env)).any (·.1) = false := by rfl)
    (hs : swapsWith (.Call (.Name x p) (e :: es) [] pos) none spos.line X.env = pure false := by rfl) :
    PS X (.Expr (.Call (.Name x p) (e :: es) [] pos) spos) (tS K mg W (fCallDrop g fs)) := PS.by (ps_expr (pe_callS F hr hg hm hk hb (fun σ => passAt tk σ) ha hdb he hpl) hs) fun D σ H ⟨B, Hs, ev, o, R, hf, q⟩ => by
  obtain ⟨ds, h1, hf⟩ := bind_some hf
  refine ⟨B, Hs, ev, ds, R, h1, fun vs Hs1 H1 g1 r1 => ?_⟩
  split at hf
  · rename_i t' hg
    cases hf
    exact ⟨Hs1, ds, _, g1.ok, r1, hg, fun v Hs2 H2 g2 r2 => q _ Hs2 H2 (g1.s.trans g2.s) ((R.to g1).to g2)⟩
  · rename_i t' hg
    cases hf
    exact ⟨Hs1, ds, _, g1.ok, r1, hg, fun v Hs2 H2 g2 r2 => q _ Hs2 H2 (g1.s.trans g2.s) ((R.to g1).to g2)⟩
  · rename_i c hg
    cases hf
    exact ⟨Hs1, ds, _, g1.ok, r1, hg, fun Hs2 H2 cls g2 hc => q σ Hs2 H2 cls (g1.s.trans g2.s) ((R.to g1).to g2) hc⟩
  · cases hf
/-- raise X('m') -/
theorem fs_raise {C : Addr} {m : Str} {j : Nat} {p2 spos : Pos} (hc : X.calm = true) (tk : Takes X W) (q : PySem.W.excIn X.K C [.type "ValueError", .type "Exception", .type "BaseException", .type "object"] "ValueError.__new__" = true) (gC : X.mg x = some (.ref C)) (hmg : X.mg = mg) (kC : PySem.W.keepIn X.K (.ref C) = true) (r : Raises X (.ref C)) (hg : Gl X x := by rfl)
    (hdb : (x == ("__debug__" : Str)) = false := by decide) : PS X (.Raise (some (.Call (.Name x p) [.Constant (.str m) j p2] [] pos)) none spos) (tS K mg W (fRaise x)) :=
  PS.by (ps_raise hc tk (pmk_own PySem.F.excBase_ValueError q gC kC r hg hdb)) fun D σ H ⟨B, Hs, ev, o, R, hf, q⟩ => by
    cases hf
    exact q σ Hs H (.ref C) (Same.refl _) R (by rw [← hmg]; exact gC)
end
end Fx

namespace Fx
open PySem PySem.Spec L2
open PyProof.Rows hiding St

/-! ### plain lemmas -/
theorem compF_some {α : Type} {b : T → Ev → Option Ev} {c : Ev → Option Bool} {f : Ev → Option T} {ev : Ev} (inj : α → T) (p : α → Bool) (g : α → T) : ∀ (xs : List α), (∀ x ∈ xs, ∃ e1, b (inj x) ev = some e1 ∧ c e1 = some (p x) ∧ (p x = true → f e1 = some (g x))) →
    compF b c f ev (xs.map inj) = some ((xs.filter p).map g)
  | [], _ => rfl
  | x :: xs, h => by
    obtain ⟨e1, h1, h2, h3⟩ := h x List.mem_cons_self
    have ih := compF_some inj p g xs fun y hy => h y (List.mem_cons_of_mem _ hy)
    rw [List.map_cons, List.filter_cons]
    unfold compF
    rw [h1]
    dsimp only
    rw [h2]
    cases hp : p x with
    | true =>
      dsimp only
      rw [h3 hp]
      dsimp only
      rw [ih]
      rfl
    | false =>
      dsimp only
      rw [ih]
      rfl
theorem compF_yes {α : Type} {b : T → Ev → Option Ev} {f : Ev → Option T} {ev : Ev} (inj : α → T) (g : α → T) (xs : List α) (h : ∀ x ∈ xs, ∃ e1, b (inj x) ev = some e1 ∧ f e1 = some (g x)) : compF b fYes f ev (xs.map inj) = some (xs.map g) := by
  rw [compF_some inj (fun _ => true) g xs fun x hx => by
    obtain ⟨e1, h1, h2⟩ := h x hx
    exact ⟨e1, h1, rfl, fun _ => h2⟩]
  rw [List.filter_eq_self.mpr fun _ _ => rfl]
/-- a loop that always goes on: an invariant over what is done -/
theorem loopF_inv {α : Type} {b : T → Ev → Option Ev} {F : Ev → Option Out} (inj : α → T) (I : List α → Ev → Prop) : ∀ (rest done : List α) (ev : Ev), I done ev →
    (∀ d x r e, done ++ rest = d ++ x :: r → I d e → ∃ e1 e2, b (inj x) e = some e1 ∧ (F e1 = some (.nx e2) ∨ F e1 = some (.ct e2)) ∧ I (d ++ [x]) e2) →
    ∃ e', loopF b F (rest.map inj) ev = some (.nx e') ∧ I (done ++ rest) e'
  | [], done, ev, h, _ => ⟨ev, rfl, by rw [List.append_nil]; exact h⟩
  | x :: rest, done, ev, h, hs => by
    obtain ⟨e1, e2, h1, h2, h3⟩ := hs done x rest ev rfl h
    obtain ⟨e', h4, h5⟩ := loopF_inv inj I rest (done ++ [x]) e2 h3 fun d y r e he => hs d y r e (by rw [← he, List.append_assoc]; rfl)
    refine ⟨e', ?_, by rw [List.append_assoc] at h5; exact h5⟩
    rw [List.map_cons]
    unfold loopF
    rw [h1]
    dsimp only
    rcases h2 with h2 | h2
    · rw [h2]; exact h4
    · rw [h2]; exact h4
/-- a loop that goes on or hands back -/
theorem loopF_ret {α : Type} {b : T → Ev → Option Ev} {F : Ev → Option Out} (inj : α → T) (I : List α → Ev → Prop) (Rt : α → Out → Prop) (hb : ∀ x o, Rt x o → (∃ t, o = .rt t) ∨ (∃ t, o = .rf t) ∨ ∃ c e, o = .ex c e) : ∀ (rest done : List α) (ev : Ev), I done ev →
    (∀ d x r e, done ++ rest = d ++ x :: r → I d e → ∃ e1, b (inj x) e = some e1 ∧ ((∃ e2, F e1 = some (.nx e2) ∧ I (d ++ [x]) e2) ∨ ∃ o, F e1 = some o ∧ Rt x o)) →
    (∃ e', loopF b F (rest.map inj) ev = some (.nx e') ∧ I (done ++ rest) e') ∨ ∃ x ∈ rest, ∃ o, loopF b F (rest.map inj) ev = some o ∧ Rt x o
  | [], done, ev, h, _ => .inl ⟨ev, rfl, by rw [List.append_nil]; exact h⟩
  | x :: rest, done, ev, h, hs => by
    obtain ⟨e1, h1, h2⟩ := hs done x rest ev rfl h
    rcases h2 with ⟨e2, h2, h3⟩ | ⟨o, h2, h3⟩
    · rcases loopF_ret inj I Rt hb rest (done ++ [x]) e2 h3 fun d y r e he => hs d y r e (by rw [← he, List.append_assoc]; rfl) with ⟨e', h4, h5⟩ | ⟨y, hy, o, h4, h5⟩
      · refine .inl ⟨e', ?_, by rw [List.append_assoc] at h5; exact h5⟩
        rw [List.map_cons]; unfold loopF; rw [h1]; dsimp only; rw [h2]; exact h4
      · refine .inr ⟨y, List.mem_cons_of_mem _ hy, o, ?_, h5⟩
        rw [List.map_cons]; unfold loopF; rw [h1]; dsimp only; rw [h2]; exact h4
    · refine .inr ⟨x, List.mem_cons_self, o, ?_, h3⟩
      rw [List.map_cons]; unfold loopF; rw [h1]; dsimp only; rw [h2]
      rcases hb x o h3 with ⟨t, rfl⟩ | ⟨t, rfl⟩ | ⟨c, e, rfl⟩ <;> rfl
theorem irange_map (lo : Int) (n : Nat) : irange lo n = (List.range n).map fun (i : Nat) => T.int (lo + (i : Nat)) := rfl
end Fx
namespace Fx
open PySem PySem.Spec L2
open PyProof.Rows hiding St
theorem fSeq_nx {F G : Ev → Option Out} {ev e : Ev} (h : F ev = some (.nx e)) : fSeq F G ev = G e := by unfold fSeq; rw [h]
theorem fSeq_rt {F G : Ev → Option Out} {ev : Ev} {t : T} (h : F ev = some (.rt t)) : fSeq F G ev = some (.rt t) := by unfold fSeq; rw [h]
theorem fSeq_rf {F G : Ev → Option Out} {ev : Ev} {t : T} (h : F ev = some (.rf t)) : fSeq F G ev = some (.rf t) := by unfold fSeq; rw [h]
theorem fSeq_ex {F G : Ev → Option Out} {ev e : Ev} {c : Str} (h : F ev = some (.ex c e)) : fSeq F G ev = some (.ex c e) := by unfold fSeq; rw [h]
theorem fSet_eq {i : Nat} {f : Ev → Option T} {ev : Ev} {t : T} (h : f ev = some t) : fSet i f ev = some (.nx (ev.set i (.sh t))) := by unfold fSet; rw [h]; rfl
theorem fRet_eq {f : Ev → Option T} {ev : Ev} {t : T} (h : f ev = some t) : fRet f ev = some (.rt t) := by unfold fRet; rw [h]; rfl
theorem fIf_t {c : Ev → Option Bool} {F G : Ev → Option Out} {ev : Ev} (h : c ev = some true) : fIf c F G ev = F ev := by unfold fIf; rw [h]
theorem fIf_f {c : Ev → Option Bool} {F G : Ev → Option Out} {ev : Ev} (h : c ev = some false) : fIf c F G ev = G ev := by unfold fIf; rw [h]
theorem fTest_eq {f : Ev → Option T} {ev : Ev} {b : Bool} (h : f ev = some (.bl b)) : fTest f ev = some b := by unfold fTest; rw [h]
theorem f2_eq {g : T → T → Option T} {fa fb : Ev → Option T} {ev : Ev} {d e : T} (h1 : fa ev = some d) (h2 : fb ev = some e) : f2 g fa fb ev = g d e := by unfold f2; rw [h1, h2]; rfl
theorem fC_eq {g : List T → Option T} {fs : Ev → Option (List T)} {ev : Ev} {ds : List T} (h : fs ev = some ds) : fC g fs ev = g ds := by unfold fC; rw [h]; rfl
theorem fM_eq {g : T → List T → Option T} {f : Ev → Option T} {fs : Ev → Option (List T)} {ev : Ev} {d : T} {ds : List T} (h1 : f ev = some d) (h : fs ev = some ds) : fM g f fs ev = g d ds := by unfold fM; rw [h1, h]; rfl
theorem fCons_eq {fa : Ev → Option T} {fr : Ev → Option (List T)} {ev : Ev} {d : T} {ds : List T} (h1 : fa ev = some d) (h2 : fr ev = some ds) : fCons fa fr ev = some (d :: ds) := by unfold fCons; rw [h1, h2]; rfl
theorem fCall_eq {g : List T → Option Res} {fs : Ev → Option (List T)} {ev : Ev} {ds : List T} {t : T} (h : fs ev = some ds) (h2 : val (g ds) = some t) : fCall g fs ev = some t := by unfold fCall; rw [h]; exact h2
theorem fCallN_eq {g : List T → Option Res} {fs : Ev → Option (List T)} {ev : Ev} {ds : List T} {t : T} (h : fs ev = some ds) (h2 : g ds = some (.fr t)) : fCallN g fs ev = some t := by unfold fCallN; rw [h]; show (match g ds with | some (.fr t) => some t | _ => none) = _; rw [h2]
theorem fComp_eq {fi : Ev → Option (List T)} {b : T → Ev → Option Ev} {c : Ev → Option Bool} {f : Ev → Option T} {vs : List Nat} {ev : Ev} {ds ys : List T} (h1 : fi ev = some ds) (h2 : compF b c f (wipeE ev vs) ds = some ys) (h3 : noLs ys = true) (h4 : ys.length ≤ sizeLine) :
    fComp fi b c f vs ev = some (.lst ys) := by
  unfold fComp
  rw [h1]; dsimp only
  rw [h2]; dsimp only
  rw [h3, Bool.true_and, if_pos (decide_eq_true h4)]
theorem fFor_eq {fi : Ev → Option (List T)} {b : T → Ev → Option Ev} {F : Ev → Option Out} {ev : Ev} {ds : List T} (h : fi ev = some ds) : fFor fi b F ev = loopF b F ds ev := by unfold fFor; rw [h]; rfl
theorem runP_rt {N n : Nat} {F : Ev → Option Out} {ds : List T} {t : T} (hl : ds.length = n) (h : F (ds.map .sh ++ List.replicate (N - n) .un) = some (.rt t)) : runP N n F ds = some (.ok t) := by unfold runP runB; rw [if_pos hl, h]
theorem runP_rf {N n : Nat} {F : Ev → Option Out} {ds : List T} {t : T} (hl : ds.length = n) (h : F (ds.map .sh ++ List.replicate (N - n) .un) = some (.rf t)) : runP N n F ds = some (.fr t) := by unfold runP runB; rw [if_pos hl, h]

/-! ### texts -/
def oneS (c : Nat) : Str := ⟨#[c]⟩
def ofL (l : List Nat) : Str := ⟨l.toArray⟩
theorem tl_ofL (l : List Nat) : TL.tl (ofL l) = l := rfl
theorem ofL_tl (s : Str) : ofL (TL.tl s) = s := TL.mk_tl s
theorem len_ofL (l : List Nat) : (ofL l).length = l.length := TL.len_tl _
theorem joinL_ones : ∀ l : List Nat, TL.joinL [] (l.map fun c => [c]) = l
  | [] => rfl
  | [c] => rfl
  | c :: d :: l => by
    show [c] ++ ([] ++ TL.joinL [] ((d :: l).map fun c => [c])) = _
    rw [joinL_ones (d :: l)]
    rfl
theorem join_signs (l : List Nat) : Txt.join (Str.ofString "") (l.map oneS) = ofL l := by
  apply TL.ext_tl
  rw [TL.join_eq, TL.tl_join, List.map_map]
  exact joinL_ones l
theorem strsOf_map2 {α : Type} (f : α → Str) : ∀ xs : List α, strsOf (xs.map fun x => .str (f x)) = some (xs.map f)
  | [] => rfl
  | x :: xs => by
    show (strsOf (xs.map fun x => .str (f x))).map _ = _
    rw [strsOf_map2 f xs]; rfl
theorem sum_ones : ∀ l : List Nat, ((l.map oneS).map (·.length)).sum = l.length
  | [] => rfl
  | c :: l => by rw [List.map_cons, List.map_cons, List.sum_cons, sum_ones l, List.length_cons]; show 1 + l.length = _; omega
theorem gJoin_signs (l : List Nat) (h : l.length ≤ 16777216) : gJoin (.str (Str.ofString "")) [.lst (l.map fun c => .str (oneS c))] = some (.str (ofL l)) := by
  unfold gJoin
  dsimp only
  rw [strsOf_map2 oneS l]
  dsimp only
  rw [join_signs, if_pos]
  rw [sum_ones]
  show l.length + _ * 0 ≤ _
  omega
/-- the 94 signs -/
def sgn : Str := Str.ofString " !\"#$&'()*+,-./0123456789:;<=>?@ABCDEFGHIJKLMNOPQRSTUVWXYZ[\\]^_`" ++ Str.ofString "abcdefghijklmnopqrstuvwxyz{|}~"
def sgnL : List Nat := TL.tl sgn
theorem sgn_len : sgn.length = 94 := by decide +kernel
theorem sgnL_len : sgnL.length = 94 := by decide +kernel
theorem sgnL_all : sgnL.all (fun c => decide (32 ≤ c) && decide (c ≤ 126) && decide (c ≠ 37)) = true := by decide +kernel
theorem gAdd_str {a b : Str} (h : a.length + b.length ≤ sizeLine) : gAdd (.str a) (.str b) = some (.str (a ++ b)) := if_pos h
theorem gAdd_sgn : gAdd (.str (Str.ofString " !\"#$&'()*+,-./0123456789:;<=>?@ABCDEFGHIJKLMNOPQRSTUVWXYZ[\\]^_`")) (.str (Str.ofString "abcdefghijklmnopqrstuvwxyz{|}~")) = some (.str sgn) := gAdd_str (by decide +kernel)
def sAt (i : Int) : Nat := sgnL.getD i.toNat 0
theorem gIx_sgn {i : Int} (h0 : 0 ≤ i) (h1 : i < 94) : gIx (.str sgn) (.int i) = some (.str (oneS (sAt i))) := by
  unfold gIx
  dsimp only
  rw [if_pos (by rw [sgn_len]; decide)]
  have hl : i.toNat < sgnL.length := by rw [sgnL_len]; omega
  have e : atI sgn.cps.toList i = some (sAt i) := by
    show atI sgnL i = _
    unfold atI ixN
    rw [sgnL_len, if_pos h0, if_pos (by omega)]
    show sgnL[i.toNat]? = _
    unfold sAt
    rw [List.getD_eq_getElem?_getD, List.getElem?_eq_getElem hl]
    rfl
  rw [e]
  rfl
theorem sAt_ok (i : Int) (h0 : 0 ≤ i) (h1 : i < 94) : 32 ≤ sAt i ∧ sAt i ≤ 126 ∧ sAt i ≠ 37 := by
  have hl : i.toNat < sgnL.length := by rw [sgnL_len]; omega
  have e : sAt i = sgnL[i.toNat] := by
    unfold sAt
    rw [List.getD_eq_getElem?_getD, List.getElem?_eq_getElem hl]
    rfl
  have := (List.all_eq_true.mp sgnL_all) _ (List.getElem_mem hl)
  rw [e]
  simpa [and_assoc] using this
/-- the signs of a drawn piece -/
def line (start : Int) (n : Nat) : List Nat := (List.range n).map fun (k : Nat) => sAt ((start + (0 + (k : Int)) * (1 + start / 94 % 93)) % 94)
theorem line_ok {start : Int} {n : Nat} : ∀ c ∈ line start n, 32 ≤ c ∧ c ≤ 126 ∧ c ≠ 37 := fun c hc => by
  obtain ⟨k, _, rfl⟩ := List.mem_map.mp hc
  exact sAt_ok _ (Int.emod_nonneg _ (by decide)) (Int.emod_lt_of_pos _ (by decide))
theorem line_len (start : Int) (n : Nat) : (line start n).length = n := by unfold line; rw [List.length_map, List.length_range]
theorem small_k {n : Nat} (h : n ≤ 100000) : n ≤ sizeLine := Nat.le_trans h (by decide)
end Fx
namespace Fx
open PySem PySem.Spec L2
theorem gMul_l {i j : Int} (h : -(2 ^ 64) < i ∧ i < 2 ^ 64) : gMul (.int i) (.int j) = some (.int (i * j)) := by
  simp only [gI]
  rw [if_pos (Or.inl h)]
theorem gMul_s {i j : Int} (h0 : 0 ≤ i) (h : i < 1000000) : gMul (.int i) (.int j) = some (.int (i * j)) := gMul_l ⟨by omega, by omega⟩
theorem fRng1_eq {fs : Ev → Option (List T)} {ev : Ev} {j : Int} (h : fs ev = some [.int j]) (h0 : -1000000 ≤ j) (h1 : j < 1000000) : fRng1 fs ev = some (irange 0 j.toNat) := by
  unfold fRng1
  rw [h]
  dsimp only
  rw [if_pos ⟨by omega, by omega⟩]
theorem fRng2_eq {fs : Ev → Option (List T)} {ev : Ev} {i j : Int} (h : fs ev = some [.int i, .int j]) (h0 : -1000000 ≤ i) (h1 : i < 1000000) (h2 : -1000000 ≤ j) (h3 : j < 1000000) : fRng2 fs ev = some (irange i (j - i).toNat) := by
  unfold fRng2
  rw [h]
  dsimp only
  rw [if_pos ⟨by omega, by omega, by omega, by omega⟩]
theorem mem_map_noL {α : Type} {f : α → T} {xs : List α} (h : ∀ x, noL (f x) = true) : noLs (xs.map f) = true := noLs_of fun t ht => by
  obtain ⟨c, _, rfl⟩ := List.mem_map.mp ht
  exact h c
end Fx
namespace Fx
open PySem PySem.Spec L2
def nl : Str := Str.ofString "\n"
/-- the lines of a text -/
def linesF (a : Str) : List Str := Txt.split a nl
theorem gSplit_nl {a : Str} (h : a.length + 2 ≤ sizeLine) : gSplit (.str a) [.str (Str.ofString "\n")] = some (.lst ((linesF a).map .str)) := if_pos ⟨by decide +kernel, h⟩
theorem nl_tl : TL.tl nl = [10] := by decide +kernel
theorem lines_join {ps : List Str} (hne : ps ≠ []) (h : ∀ p ∈ ps, 10 ∉ TL.tl p) : linesF (Txt.join nl ps) = ps := TL.split_join nl_tl (by decide +kernel) hne h
theorem lines_ne (a : Str) : linesF a ≠ [] := fun h => by
  have h2 : (linesF a).map TL.tl = _ := TL.split_spl a nl (by rw [nl_tl]; decide) (TL.kind_ok (by decide +kernel))
  rw [h, nl_tl] at h2
  have : ∀ (l acc : List Nat) (k : Nat), TL.spl [10] k acc l ≠ [] := by
    intro l
    induction l with
    | nil => intro acc k; rw [TL.spl_nil]; exact List.cons_ne_nil _ _
    | cons c r ih =>
      intro acc k
      cases k with
      | zero =>
        show (if TL.pre [10] (c :: r) = true then acc :: TL.spl [10] _ [] r else TL.spl [10] 0 (acc ++ [c]) r) ≠ []
        split
        · exact List.cons_ne_nil _ _
        · exact ih _ _
      | succ k => exact ih acc k
  exact this _ _ _ h2.symm
theorem join_len (ps : List Str) : (Txt.join nl ps).length ≤ (ps.map (·.length)).sum + ps.length := by
  rw [TL.join_eq, TL.len_tl, TL.tl_join, nl_tl]
  induction ps with
  | nil => exact Nat.zero_le _
  | cons p r ih =>
    cases r with
    | nil =>
      show (TL.tl p).length ≤ _
      rw [← TL.len_tl, List.map_cons, List.sum_cons]
      omega
    | cons q r =>
      show (TL.tl p ++ ([10] ++ TL.joinL [10] ((q :: r).map TL.tl))).length ≤ _
      rw [List.length_append, List.length_append, ← TL.len_tl]
      have h1 : ([10] : List Nat).length = 1 := rfl
      have h2 : ((p :: q :: r).map (·.length)).sum = p.length + ((q :: r).map (·.length)).sum := by rw [List.map_cons, List.sum_cons]
      have h3 : (p :: q :: r).length = (q :: r).length + 1 := rfl
      rw [h1, h2, h3]
      omega
theorem gJoin_strs (ps : List Str) (h : (ps.map (·.length)).sum + ps.length ≤ 16777216) : gJoin (.str (Str.ofString "\n")) [.lst (ps.map .str)] = some (.str (Txt.join nl ps)) := by
  unfold gJoin
  dsimp only
  rw [strsOf_map]
  dsimp only
  rw [if_pos]
  · rfl
  · have h1 : (Str.ofString "\n").length = 1 := by decide +kernel
    rw [h1]
    omega
/-- the greatest of some numbers that are not negative -/
def most (ns : List Int) : Int := ns.foldl (fun m n => if n > m then n else m) 0
theorem most_step (ns : List Int) (n : Int) : most (ns ++ [n]) = if n > most ns then n else most ns := by unfold most; rw [List.foldl_append]; rfl
theorem fold_le : ∀ (ns : List Int) (a : Int), a ≤ ns.foldl (fun m n => if n > m then n else m) a ∧ (∀ n ∈ ns, n ≤ ns.foldl (fun m n => if n > m then n else m) a) ∧ (ns.foldl (fun m n => if n > m then n else m) a = a ∨ ns.foldl (fun m n => if n > m then n else m) a ∈ ns)
  | [], a => ⟨Int.le_refl _, (fun _ h => nomatch h), Or.inl rfl⟩
  | n :: ns, a => by
    obtain ⟨h1, h2, h3⟩ := fold_le ns (if n > a then n else a)
    have ha : a ≤ (if n > a then n else a) ∧ n ≤ (if n > a then n else a) ∧ ((if n > a then n else a) = a ∨ (if n > a then n else a) = n) := by
      by_cases h : n > a
      · rw [if_pos h]; exact ⟨by omega, Int.le_refl _, .inr rfl⟩
      · rw [if_neg h]; exact ⟨Int.le_refl _, by omega, .inl rfl⟩
    rw [List.foldl_cons]
    refine ⟨by omega, fun m hm => ?_, ?_⟩
    · rcases List.mem_cons.mp hm with e | hm
      · rw [e]; omega
      · exact h2 m hm
    · rcases h3 with h3 | h3
      · rcases ha.2.2 with e | e
        · exact .inl (h3.trans e)
        · exact .inr (List.mem_cons.mpr (.inl (h3.trans e)))
      · exact .inr (List.mem_cons_of_mem _ h3)
theorem most_max {ns : List Int} (hne : ns ≠ []) (h0 : ∀ n ∈ ns, 0 ≤ n) : ns.max? = some (most ns) := by
  obtain ⟨h1, h2, h3⟩ := fold_le ns 0
  rw [List.max?_eq_some_iff]
  refine ⟨?_, h2⟩
  rcases h3 with h3 | h3
  · cases ns with
    | nil => exact absurd rfl hne
    | cons n ns =>
      have e : n = 0 := Int.le_antisymm (by have := h2 n List.mem_cons_self; rw [h3] at this; exact this) (h0 n List.mem_cons_self)
      refine List.mem_cons.mpr (.inl ?_)
      show most (n :: ns) = n
      rw [e]
      rw [e] at h3
      exact h3
  · exact h3
theorem zip_same {α : Type} (f : α → T) : ∀ xs : List α, List.zipWith (fun t u => T.tup [t, u]) (xs.map f) (xs.map f) = xs.map fun x => .tup [f x, f x]
  | [] => rfl
  | x :: xs => by rw [List.map_cons, List.zipWith_cons_cons, zip_same f xs, List.map_cons]
end Fx
namespace Fx
theorem fAndV_t {f g : Ev → Option T} {ev : Ev} (h : f ev = some (.bl true)) : fAndV f g ev = g ev := by unfold fAndV; rw [h]
theorem fAndV_f {f g : Ev → Option T} {ev : Ev} (h : f ev = some (.bl false)) : fAndV f g ev = some (.bl false) := by unfold fAndV; rw [h]
theorem fOrV_t {f g : Ev → Option T} {ev : Ev} (h : f ev = some (.bl true)) : fOrV f g ev = some (.bl true) := by unfold fOrV; rw [h]
theorem fOrV_f {f g : Ev → Option T} {ev : Ev} (h : f ev = some (.bl false)) : fOrV f g ev = g ev := by unfold fOrV; rw [h]
theorem fAnd_t {f g : Ev → Option Bool} {ev : Ev} (h : f ev = some true) : fAnd f g ev = g ev := by unfold fAnd; rw [h]
theorem fAnd_f {f g : Ev → Option Bool} {ev : Ev} (h : f ev = some false) : fAnd f g ev = some false := by unfold fAnd; rw [h]
theorem fOr_t {f g : Ev → Option Bool} {ev : Ev} (h : f ev = some true) : fOr f g ev = some true := by unfold fOr; rw [h]
theorem fOr_f {f g : Ev → Option Bool} {ev : Ev} (h : f ev = some false) : fOr f g ev = g ev := by unfold fOr; rw [h]
theorem fNot_eq {f : Ev → Option Bool} {ev : Ev} {b : Bool} (h : f ev = some b) : fNot f ev = some (!b) := by unfold fNot; rw [h]; rfl
theorem gEq_int_self (i : Int) : gEq (.int i) (.int i) = some (.bl true) := by
  show some (T.bl (decide (i = i))) = _
  rw [decide_eq_true rfl]
theorem gEq_str_self (i : PySem.Str) : gEq (.str i) (.str i) = some (.bl true) := by
  show some (T.bl (decide (i = i))) = _
  rw [decide_eq_true rfl]
theorem gNe_int_self (i : Int) : gNe (.int i) (.int i) = some (.bl false) := by
  show some (T.bl (!decide (i = i))) = _
  rw [decide_eq_true rfl]
  rfl
theorem gNe_str_self (i : PySem.Str) : gNe (.str i) (.str i) = some (.bl false) := by
  show some (T.bl (!decide (i = i))) = _
  rw [decide_eq_true rfl]
  rfl
end Fx

namespace K01
open PySem PySem.Spec L2 Fx
open PyProof.Rows hiding St
def topS (i : Nat) : Stmt := PySem.Challenge.pw_boxtable_k01_lines.main.body.getD i (.Pass ⟨0, 0, 0, 0⟩)
abbrev s_lines_of : Stmt := topS 2
abbrev s_longest : Stmt := topS 3
abbrev s_law_whole : Stmt := topS 5
abbrev s_law_at : Stmt := topS 6
abbrev s_law_piece : Stmt := topS 7
abbrev s_law : Stmt := topS 8
abbrev n_lines_of : List Str := ["text"]
theorem sc_lines_of : FnScope n_lines_of ["text"] (defScope s_lines_of) := ⟨rfl, rfl, rfl, by decide +kernel, rfl, by decide +kernel, by decide +kernel⟩
def body_lines_of : Ev → Option Out := (fRetF (fM gSplit (fVar 0) (fCons (fK (.str "\n")) fNil)))
def m_lines_of : List T → Option Res := runP 1 1 body_lines_of
abbrev n_longest : List Str := ["text", "line"]
theorem sc_longest : FnScope n_longest ["text"] (defScope s_longest) := ⟨rfl, rfl, rfl, by decide +kernel, rfl, by decide +kernel, by decide +kernel⟩
def body_longest : Ev → Option Out := (fRet (fC gMax (fCons (fComp (fItems (fCallN m_lines_of (fCons (fVar 0) fNil))) (b1 1) fYes (fC gLen (fCons (fVar 1) fNil)) [1]) fNil)))
def m_longest : List T → Option Res := runP 2 1 body_longest
abbrev n_law_whole : List Str := ["_law_found"]
theorem sc_law_whole : FnScope n_law_whole ["_law_found"] (defScope s_law_whole) := ⟨rfl, rfl, rfl, by decide +kernel, rfl, by decide +kernel, by decide +kernel⟩
def body_law_whole : Ev → Option Out := (fRet (fAndV (f1 (gIs qInt) (fVar 0)) (fNotV (f1 (gIs qBool) (fVar 0)))))
def m_law_whole : List T → Option Res := runP 1 1 body_law_whole
abbrev n_law_at : List Str := ["_law_script", "_law_k"]
theorem sc_law_at : FnScope n_law_at ["_law_script", "_law_k"] (defScope s_law_at) := ⟨rfl, rfl, rfl, by decide +kernel, rfl, by decide +kernel, by decide +kernel⟩
def body_law_at : Ev → Option Out := (fSeq (fIf (fTest (f2 gLt (fVar 1) (fC gLen (fCons (fVar 0) fNil))))
  (fRet (f2 gIx (fVar 0) (fVar 1)))
  fSkip)
  (fRet (fK (.int 0))))
def m_law_at : List T → Option Res := runP 2 2 body_law_at
abbrev n_law_piece : List Str := ["_law_number", "_law_some", "_law_size", "_law_start", "_law_k"]
theorem sc_law_piece : FnScope n_law_piece ["_law_number"] (defScope s_law_piece) := ⟨rfl, rfl, rfl, by decide +kernel, rfl, by decide +kernel, by decide +kernel⟩
def body_law_piece : Ev → Option Out := (fSeq (fSet 1 (fK (.str " !\"#$&'()*+,-./0123456789:;<=>?@ABCDEFGHIJKLMNOPQRSTUVWXYZ[\\]^_`")))
  (fSeq (fSet 1 (f2 gAdd (fVar 1) (fK (.str "abcdefghijklmnopqrstuvwxyz{|}~"))))
  (fSeq (fSet 2 (f2 gMod (f2 gDiv (fVar 0) (fK (.int 8))) (fK (.int 10))))
  (fSeq (fIf (fTest (f2 gEq (f2 gMod (fVar 0) (fK (.int 8))) (fK (.int 1))))
  (fSet 2 (f2 gMod (f2 gDiv (fVar 0) (fK (.int 8))) (fK (.int 200))))
  fSkip)
  (fSeq (fSet 3 (f2 gDiv (fVar 0) (fK (.int 1600))))
  (fRet (fM gJoin (fK (.str "")) (fCons (fComp (fRng1 (fCons (fVar 2) fNil)) (b1 4) fYes (f2 gIx (fVar 1) (f2 gMod (f2 gAdd (fVar 3) (f2 gMul (fVar 4) (f2 gAdd (fK (.int 1)) (f2 gMod (f2 gDiv (fVar 3) (fK (.int 94))) (fK (.int 93)))))) (fK (.int 94)))) [4]) fNil))))))))
def m_law_piece : List T → Option Res := runP 5 1 body_law_piece
abbrev n_law : List Str := ["_law_script", "_law_pieces", "_law_text", "_law_found", "_law_most", "_law_line", "_law_piece_here", "_law_size", "_law_k"]
theorem sc_law : FnScope n_law ["_law_script"] (defScope s_law) := ⟨rfl, rfl, rfl, by decide +kernel, rfl, by decide +kernel, by decide +kernel⟩
def body_law : Ev → Option Out := (fSeq (fSet 1 (fComp (fRng1 (fCons (f2 gAdd (fK (.int 1)) (f2 gMod (fCall m_law_at (fCons (fVar 0) (fCons (fK (.int 0)) fNil))) (fK (.int 6)))) fNil)) (b1 8) fYes (fCall m_law_piece (fCons (fCall m_law_at (fCons (fVar 0) (fCons (f2 gAdd (fK (.int 1)) (fVar 8)) fNil))) fNil)) [8]))
  (fSeq (fSet 2 (fM gJoin (fK (.str "\n")) (fCons (fVar 1) fNil)))
  (fSeq (fSet 3 (fCallN m_lines_of (fCons (fVar 2) fNil)))
  (fSeq (fIf (fOr (fNot (fTest (f1 (gIs qList) (fVar 3)))) (fTest (f2 gNe (fC gLen (fCons (fVar 3) fNil)) (fC gLen (fCons (fVar 1) fNil)))))
  (fRet (fK (.bl false)))
  fSkip)
  (fSeq (fSet 4 (fK (.int 0)))
  (fSeq (fFor (fZip (fCons (fVar 3) (fCons (fVar 1) fNil))) (b2 5 6)
  (fSeq (fIf (fOr (fNot (fTest (f1 (gIs qStr) (fVar 5)))) (fTest (f2 gNe (fVar 5) (fVar 6))))
  (fRet (fK (.bl false)))
  fSkip)
  (fSet 4 (fC gMax (fCons (fVar 4) (fCons (fC gLen (fCons (fVar 6) fNil)) fNil))))))
  (fSeq (fSet 7 (fCall m_longest (fCons (fVar 2) fNil)))
  (fRet (fAndV (fCall m_law_whole (fCons (fVar 7) fNil)) (fAndV (f2 gEq (fVar 7) (fVar 4)) (fAndV (fCall m_law_whole (fCons (fK (.int 200)) fNil)) (f2 gEq (fK (.int 200)) (fK (.int 200))))))))))))))
def m_law : List T → Option Res := runP 9 1 body_law
/-- where each def stands -/
structure Ad where
  a_lines_of : Addr
  d_lines_of : FuncData
  a_longest : Addr
  d_longest : FuncData
  a_law_whole : Addr
  d_law_whole : FuncData
  a_law_at : Addr
  d_law_at : FuncData
  a_law_piece : Addr
  d_law_piece : FuncData
  a_law : Addr
  d_law : FuncData
/-- what the top has left -/
structure Txt (K : PySem.W.Frag) (mg : Str → Option Value) (A : Ad) : Prop where
  n_len : mg "len" = none
  n_max : mg "max" = none
  n_int : mg "int" = none
  n_str : mg "str" = none
  n_list : mg "list" = none
  n_range : mg "range" = none
  n_zip : mg "zip" = none
  n_isinstance : mg "isinstance" = none
  n_bool : mg "bool" = none
  c_MOST : ∃ tk, mg "MOST" = some (.int 200 tk)
  g_lines_of : mg "lines_of" = some (.ref A.a_lines_of)
  F_lines_of : Fun K "lines_of" "lines_of" s_lines_of A.a_lines_of A.d_lines_of
  b_lines_of : Binds K A.d_lines_of ["text"] []
  g_longest : mg "longest" = some (.ref A.a_longest)
  F_longest : Fun K "longest" "longest" s_longest A.a_longest A.d_longest
  b_longest : Binds K A.d_longest ["text"] []
  g_law_whole : mg "_law_whole" = some (.ref A.a_law_whole)
  F_law_whole : Fun K "_law_whole" "_law_whole" s_law_whole A.a_law_whole A.d_law_whole
  b_law_whole : Binds K A.d_law_whole ["_law_found"] []
  g_law_at : mg "_law_at" = some (.ref A.a_law_at)
  F_law_at : Fun K "_law_at" "_law_at" s_law_at A.a_law_at A.d_law_at
  b_law_at : Binds K A.d_law_at ["_law_script", "_law_k"] []
  g_law_piece : mg "_law_piece" = some (.ref A.a_law_piece)
  F_law_piece : Fun K "_law_piece" "_law_piece" s_law_piece A.a_law_piece A.d_law_piece
  b_law_piece : Binds K A.d_law_piece ["_law_number"] []
  g_law : mg "law" = some (.ref A.a_law)
  F_law : Fun K "law" "law" s_law A.a_law A.d_law
  b_law : Binds K A.d_law ["_law_script"] []
section
variable {P : Program} {w : World} {K : PySem.W.Frag} {mg : Str → Option Value} {base : Heap} {Ad0 : Ad}
set_option maxHeartbeats 1000000 in
theorem ok_lines_of (Tx : Txt K mg Ad0) : FnOk P w K mg base CX0 1 Ad0.a_lines_of Ad0.d_lines_of ["text"] (SpR K mg m_lines_of) := by
  exact fn_ok Tx.F_lines_of sc_lines_of 1 1 rfl rfl fun cdv A outer s H E hr =>
  (fs_one (fs_retF (fn_m PySem.F.slot_str_split PySem.F.type_str_split mt_split md_split g_split_str (fe_var 0) (fa_cons fe_str fa_nil))))
set_option maxHeartbeats 1000000 in
theorem ok_longest (Tx : Txt K mg Ad0) : FnOk P w K mg base CX0 2 Ad0.a_longest Ad0.d_longest ["text"] (SpR K mg m_longest) := by
  exact fn_ok Tx.F_longest sc_longest 1 2 rfl rfl fun cdv A outer s H E hr =>
  (fs_one (fs_ret (fe_callB ((cr_max rfl).or (call_max2 rfl)) cd_max rfl Tx.n_max PyProof.Rows.boot_max (fa_cons (fe_of (fn_comp (own := [("line", 1)]) rfl sc_longest.nd (tg_1 1) (by decide) (fi_list (fe_of (fn_call (ok_lines_of Tx) (hr.mono (by decide)) Tx.g_lines_of Tx.F_lines_of.kp Tx.b_lines_of pass0 (fa_cons (fe_var 0) fa_nil)))) (blkOk_by (N := n_longest) (sc := defScope s_longest) (by decide +kernel)) (fun _ _ _ _ _ => (pg_name (i := 1) sc_longest.nd rfl (by first | exact Or.inl rfl | exact Or.inr rfl))) (fun _ _ _ _ _ => ft_yes) (fun _ _ _ _ _ => (fe_callB call_len cd_len rfl Tx.n_len PySem.boot_len (fa_cons (fe_var 1) fa_nil))))) fa_nil))))
set_option maxHeartbeats 1000000 in
theorem ok_law_whole (Tx : Txt K mg Ad0) : FnOk P w K mg base CX0 1 Ad0.a_law_whole Ad0.d_law_whole ["_law_found"] (SpR K mg m_law_whole) := by
  exact fn_ok Tx.F_law_whole sc_law_whole 1 1 rfl rfl fun cdv A outer s H E hr =>
  (fs_one (fs_ret (fe_and (fe_isi (ty := "int") kit_int PyProof.Rows.boot_int Tx.n_isinstance Tx.n_int (fe_var 0)) (fe_one (fe_not (fe_isi (ty := "bool") kit_bool PyProof.Rows.boot_bool Tx.n_isinstance Tx.n_bool (fe_var 0)))))))
set_option maxHeartbeats 1000000 in
theorem ok_law_at (Tx : Txt K mg Ad0) : FnOk P w K mg base CX0 1 Ad0.a_law_at Ad0.d_law_at ["_law_script", "_law_k"] (SpR K mg m_law_at) := by
  exact fn_ok Tx.F_law_at sc_law_at 2 2 rfl rfl fun cdv A outer s H E hr =>
  (fs_cons (fs_if (ft_lt (fe_var 1) (fe_callB call_len cd_len rfl Tx.n_len PySem.boot_len (fa_cons (fe_var 0) fa_nil)))
  (fs_one (fs_ret (fe_ix (fe_var 0) (fe_var 1))))
  fs_nil)
  (fs_one (fs_ret fe_int)))
set_option maxHeartbeats 1000000 in
theorem ok_law_piece (Tx : Txt K mg Ad0) : FnOk P w K mg base CX0 1 Ad0.a_law_piece Ad0.d_law_piece ["_law_number"] (SpR K mg m_law_piece) := by
  exact fn_ok Tx.F_law_piece sc_law_piece 1 5 rfl rfl fun cdv A outer s H E hr =>
  (fs_cons (fs_set 1 sc_law_piece.nd fe_str)
  (fs_cons (fs_set 1 sc_law_piece.nd (fe_add (fe_var 1) fe_str))
  (fs_cons (fs_set 2 sc_law_piece.nd (fe_mod (fe_div (fe_var 0) fe_int) fe_int))
  (fs_cons (fs_if (ft_eq hr.units (fe_mod (fe_var 0) fe_int) fe_int)
  (fs_one (fs_set 2 sc_law_piece.nd (fe_mod (fe_div (fe_var 0) fe_int) fe_int)))
  fs_nil)
  (fs_cons (fs_set 3 sc_law_piece.nd (fe_div (fe_var 0) fe_int))
  (fs_one (fs_ret (fe_m PySem.F.slot_str_join PySem.F.type_str_join mt_join md_join g_join_str fe_str (fa_cons (fe_of (fn_comp (own := [("_law_k", 4)]) rfl sc_law_piece.nd (tg_1 4) (by decide) (fi_range1 Tx.n_range (fa_cons (fe_var 2) fa_nil)) (blkOk_by (N := n_law_piece) (sc := defScope s_law_piece) (by decide +kernel)) (fun _ _ _ _ _ => (pg_name (i := 4) sc_law_piece.nd rfl (by first | exact Or.inl rfl | exact Or.inr rfl))) (fun _ _ _ _ _ => ft_yes) (fun _ _ _ _ _ => (fe_ix (fe_var 1) (fe_mod (fe_add (fe_var 3) (fe_mul (fe_var 4) (fe_add fe_int (fe_mod (fe_div (fe_var 3) fe_int) fe_int)))) fe_int))))) fa_nil)))))))))
set_option maxHeartbeats 1000000 in
theorem ok_law (Tx : Txt K mg Ad0) : FnOk P w K mg base CX0 3 Ad0.a_law Ad0.d_law ["_law_script"] (SpR K mg m_law) := by
  obtain ⟨_, e_MOST⟩ := Tx.c_MOST
  exact fn_ok Tx.F_law sc_law 1 9 rfl rfl fun cdv A outer s H E hr =>
  (fs_cons (fs_setComp 1 (own := [("_law_k", 8)]) rfl sc_law.nd (tg_1 8) (by decide) (fi_range1 Tx.n_range (fa_cons (fe_add fe_int (fe_mod (fe_call (ok_law_at Tx) (hr.mono (by decide)) Tx.g_law_at Tx.F_law_at.kp Tx.b_law_at pass0 (fa_cons (fe_var 0) (fa_cons fe_int fa_nil))) fe_int)) fa_nil)) (blkOk_by (N := n_law) (sc := defScope s_law) (by decide +kernel)) (fun _ _ _ _ _ => (pg_name (i := 8) sc_law.nd rfl (by first | exact Or.inl rfl | exact Or.inr rfl))) (fun _ _ _ _ _ => ft_yes) (fun _ _ _ _ _ => (fe_call (ok_law_piece Tx) (hr.mono (by decide)) Tx.g_law_piece Tx.F_law_piece.kp Tx.b_law_piece pass0 (fa_cons (fe_call (ok_law_at Tx) (hr.mono (by decide)) Tx.g_law_at Tx.F_law_at.kp Tx.b_law_at pass0 (fa_cons (fe_var 0) (fa_cons (fe_add fe_int (fe_var 8)) fa_nil))) fa_nil))))
  (fs_cons (fs_set 2 sc_law.nd (fe_m PySem.F.slot_str_join PySem.F.type_str_join mt_join md_join g_join_str fe_str (fa_cons (fe_var 1) fa_nil)))
  (fs_cons (fs_set 3 sc_law.nd (fe_of (fn_call (ok_lines_of Tx) (hr.mono (by decide)) Tx.g_lines_of Tx.F_lines_of.kp Tx.b_lines_of pass0 (fa_cons (fe_var 2) fa_nil))))
  (fs_cons (fs_if (PW.pt (fw_or (ft_not (ft_val (fe_isi (ty := "list") kit_list PyProof.Rows.boot_list Tx.n_isinstance Tx.n_list (fe_var 3)))) (fw_or1 (ft_ne hr.units (fe_callB call_len cd_len rfl Tx.n_len PySem.boot_len (fa_cons (fe_var 3) fa_nil)) (fe_callB call_len cd_len rfl Tx.n_len PySem.boot_len (fa_cons (fe_var 1) fa_nil))))))
  (fs_one (fs_ret fe_bl))
  fs_nil)
  (fs_cons (fs_set 4 sc_law.nd fe_int)
  (fs_cons (fs_for PassesOwn.never rfl (fi_zip Tx.n_zip (fa_cons (fe_var 3) (fa_cons (fe_var 1) fa_nil))) (pg_tup rfl (pgs_cons (pg_name (i := 5) sc_law.nd rfl (by first | exact Or.inl rfl | exact Or.inr rfl)) (pgs_cons (pg_name (i := 6) sc_law.nd rfl (by first | exact Or.inl rfl | exact Or.inr rfl)) pgs_nil))) (tg_2 5 6)
  (fs_cons (fs_if (PW.pt (fw_or (ft_not (ft_val (fe_isi (ty := "str") kit_str PyProof.Rows.boot_str Tx.n_isinstance Tx.n_str (fe_var 5)))) (fw_or1 (ft_ne hr.units (fe_var 5) (fe_var 6)))))
  (fs_one (fs_ret fe_bl))
  fs_nil)
  (fs_one (fs_set 4 sc_law.nd (fe_callB ((cr_max rfl).or (call_max2 rfl)) cd_max rfl Tx.n_max PyProof.Rows.boot_max (fa_cons (fe_var 4) (fa_cons (fe_callB call_len cd_len rfl Tx.n_len PySem.boot_len (fa_cons (fe_var 6) fa_nil)) fa_nil)))))))
  (fs_cons (fs_set 7 sc_law.nd (fe_call (ok_longest Tx) (hr.mono (by decide)) Tx.g_longest Tx.F_longest.kp Tx.b_longest pass0 (fa_cons (fe_var 2) fa_nil)))
  (fs_one (fs_ret (fe_and (fe_call (ok_law_whole Tx) (hr.mono (by decide)) Tx.g_law_whole Tx.F_law_whole.kp Tx.b_law_whole pass0 (fa_cons (fe_var 7) fa_nil)) (fe_and (fe_eq hr.units (fe_var 7) (fe_var 4)) (fe_and (fe_call (ok_law_whole Tx) (hr.mono (by decide)) Tx.g_law_whole Tx.F_law_whole.kp Tx.b_law_whole pass0 (fa_cons (fe_globI rfl e_MOST) fa_nil)) (fe_one (fe_eq hr.units (fe_globI rfl e_MOST) fe_int))))))))))))))
end
end K01

namespace K01
open PySem PySem.Spec L2 Fx
open PyProof.Rows hiding St
theorem at_eq (ns : List Int) (k : Nat) : m_law_at [.scr ns, .int k] = some (.ok (.int (ns.getD k 0))) := by
  unfold m_law_at runP runB body_law_at
  by_cases h : (k : Int) < ns.length
  · have h2 : k < ns.length := by omega
    simp [fSeq, fIf, fTest, f2, fC, fVar, fCons, fNil, gLen, gI, h, fRet, gIx, atI, ixN, h2]
  · have h2 : ¬ k < ns.length := by omega
    simp [fSeq, fIf, fTest, f2, fC, fVar, fCons, fNil, gLen, gI, h, fRet, gIx, atI, ixN, h2, fSkip, fK]
def size (n : Int) : Int := if n % 8 = 1 then n / 8 % 200 else n / 8 % 10
theorem size_ok (n : Int) : 0 ≤ size n ∧ size n < 200 := by
  unfold size
  split
  · have h1 := Int.emod_nonneg (n / 8) (show (200 : Int) ≠ 0 by decide)
    have h2 := Int.emod_lt_of_pos (n / 8) (show (0 : Int) < 200 by decide)
    exact ⟨h1, h2⟩
  · have h1 := Int.emod_nonneg (n / 8) (show (10 : Int) ≠ 0 by decide)
    have h2 := Int.emod_lt_of_pos (n / 8) (show (0 : Int) < 10 by decide)
    exact ⟨h1, by omega⟩
def piece (n : Int) : List Nat := line (n / 1600) (size n).toNat
theorem piece_len (n : Int) : (piece n).length < 200 := by
  have := size_ok n
  unfold piece
  rw [line_len]
  omega
theorem piece_eq (n : Int) : m_law_piece [.int n] = some (.ok (.str (ofL (piece n)))) := by
  refine runP_rt rfl ?_
  show body_law_piece [.sh (.int n), .un, .un, .un, .un] = _
  unfold body_law_piece
  refine (fSeq_nx rfl).trans ?_
  refine (fSeq_nx (fSet_eq ((f2_eq rfl rfl).trans gAdd_sgn))).trans ?_
  refine (fSeq_nx rfl).trans ?_
  have hif : fIf (fTest (f2 gEq (f2 gMod (fVar 0) (fK (.int 8))) (fK (.int 1)))) (fSet 2 (f2 gMod (f2 gDiv (fVar 0) (fK (.int 8))) (fK (.int 200)))) fSkip [.sh (.int n), .sh (.str sgn), .sh (.int (n / 8 % 10)), .un, .un] =
      some (.nx [.sh (.int n), .sh (.str sgn), .sh (.int (size n)), .un, .un]) := by
    unfold size
    by_cases h : n % 8 = 1
    · rw [if_pos h]
      refine (fIf_t (fTest_eq ?_)).trans rfl
      show some (T.bl (decide (n % 8 = 1))) = _
      rw [decide_eq_true h]
    · rw [if_neg h]
      refine (fIf_f (fTest_eq ?_)).trans rfl
      show some (T.bl (decide (n % 8 = 1))) = _
      rw [decide_eq_false h]
  refine (fSeq_nx hif).trans ?_
  refine (fSeq_nx rfl).trans ?_
  refine fRet_eq ?_
  have hs := size_ok n
  refine (fM_eq rfl (fCons_eq (fComp_eq (ds := irange 0 (size n).toNat) (ys := (piece n).map fun c => .str (oneS c)) ?_ ?_ ?_ ?_) rfl)).trans (gJoin_signs _ ?_)
  · exact fRng1_eq rfl (by omega) (by omega)
  · unfold piece line
    rw [irange_map, List.map_map]
    refine compF_yes (fun (i : Nat) => T.int (0 + (i : Nat))) _ _ fun k hk => ⟨_, rfl, ?_⟩
    refine (f2_eq rfl ?_).trans (gIx_sgn (Int.emod_nonneg _ (by decide)) (Int.emod_lt_of_pos _ (by decide)))
    have hk2 : k < (size n).toNat := List.mem_range.mp hk
    have hm : gMul (.int (0 + (k : Int))) (.int (1 + n / 1600 / 94 % 93)) = some (.int ((0 + (k : Int)) * (1 + n / 1600 / 94 % 93))) := gMul_s (by omega) (by omega)
    exact (f2_eq ((f2_eq rfl ((f2_eq rfl rfl).trans hm)).trans rfl) rfl).trans rfl
  · exact noLs_of fun t ht => by
      obtain ⟨c, _, rfl⟩ := List.mem_map.mp ht
      rfl
  · rw [List.length_map]
    exact small_k (by have := piece_len n; omega)
  · have := piece_len n
    omega
theorem lines_eq {a : Str} (h : a.length + 2 ≤ sizeLine) : m_lines_of [.str a] = some (.fr (.lst ((linesF a).map .str))) :=
  runP_rf rfl (by
    show fRetF (fM gSplit (fVar 0) (fCons (fK (.str "\n")) fNil)) [.sh (.str a)] = _
    unfold fRetF
    rw [(fM_eq rfl rfl).trans (gSplit_nl h)]
    rfl)
def lens (ps : List Str) : List Int := ps.map fun p => (p.length : Int)
theorem longest_eq {a : Str} (h : a.length + 2 ≤ sizeLine) (hl : ∀ p ∈ linesF a, p.length ≤ sizeLine) (hs : (linesF a).length ≤ sizeLine) : m_longest [.str a] = some (.ok (.int (most (lens (linesF a))))) := by
  refine runP_rt rfl ?_
  show body_longest [.sh (.str a), .un] = _
  unfold body_longest
  refine fRet_eq ?_
  refine (fC_eq (fCons_eq (fComp_eq (ds := (linesF a).map .str) (ys := (linesF a).map fun p => .int (p.length : Int)) ?_ ?_ (mem_map_noL fun _ => rfl) (by rw [List.length_map]; exact hs)) rfl)).trans ?_
  · unfold fItems
    rw [fCallN_eq rfl (lines_eq h)]
  · refine compF_yes T.str _ _ fun p hp => ⟨_, rfl, ?_⟩
    refine (fC_eq rfl).trans ?_
    exact if_pos (hl p hp)
  · show (intsOf ((linesF a).map fun p => T.int (p.length : Int))).bind _ = _
    rw [show ((linesF a).map fun p => T.int (p.length : Int)) = (lens (linesF a)).map T.int by unfold lens; rw [List.map_map]; rfl, intsOf_map]
    show (lens (linesF a)).max?.map T.int = _
    rw [most_max]
    · rfl
    · intro e
      exact lines_ne a (List.map_eq_nil_iff.mp e)
    · intro n hn
      obtain ⟨p, _, rfl⟩ := List.mem_map.mp hn
      omega
theorem whole_int (i : Int) : m_law_whole [.int i] = some (.ok (.bl true)) := rfl
def count (ns : List Int) : Nat := (1 + ns.getD 0 0 % 6).toNat
theorem count_ok (ns : List Int) : 1 ≤ count ns ∧ count ns ≤ 6 := by
  have h1 := Int.emod_nonneg (ns.getD 0 0) (show (6 : Int) ≠ 0 by decide)
  have h2 := Int.emod_lt_of_pos (ns.getD 0 0) (show (0 : Int) < 6 by decide)
  unfold count
  omega
def pieces (ns : List Int) : List Str := (List.range (count ns)).map fun k => ofL (piece (ns.getD (1 + k) 0))
theorem law_true (ns : List Int) (_ : ns.length ≤ 63) : m_law [.scr ns] = some (.ok (.bl true)) := by
  have hc := count_ok ns
  have hpl : (pieces ns).length = count ns := by unfold pieces; rw [List.length_map, List.length_range]
  have hp : ∀ p ∈ pieces ns, p.length < 200 ∧ 10 ∉ TL.tl p := fun p h => by
    obtain ⟨k, _, rfl⟩ := List.mem_map.mp h
    refine ⟨by rw [len_ofL]; exact piece_len _, fun h => ?_⟩
    have := line_ok _ h
    omega
  have hne : pieces ns ≠ [] := fun e => by rw [e] at hpl; simp at hpl; omega
  have hsum : ((pieces ns).map (·.length)).sum ≤ 200 * (pieces ns).length := by
    have : ∀ ps : List Str, (∀ p ∈ ps, p.length < 200) → (ps.map (·.length)).sum ≤ 200 * ps.length := by
      intro ps
      induction ps with
      | nil => intro _; exact Nat.le_refl _
      | cons p ps ih =>
        intro h
        have h1 := h p List.mem_cons_self
        have h2 := ih fun q hq => h q (List.mem_cons_of_mem _ hq)
        rw [List.map_cons, List.sum_cons, List.length_cons]
        omega
    exact this _ fun p h => (hp p h).1
  have hlines : linesF (Txt.join nl (pieces ns)) = pieces ns := lines_join hne fun p h => (hp p h).2
  have hlen := join_len (pieces ns)
  have htl : (Txt.join nl (pieces ns)).length + 2 ≤ sizeLine := Nat.le_trans (show _ ≤ 10000 by omega) (by decide)
  refine runP_rt rfl ?_
  show body_law [.sh (.scr ns), .un, .un, .un, .un, .un, .un, .un, .un] = _
  unfold body_law
  refine (fSeq_nx (fSet_eq (t := .lst ((pieces ns).map .str)) ?_)).trans ?_
  · refine fComp_eq (ds := irange 0 (count ns)) ?_ ?_ (mem_map_noL fun _ => rfl) (by rw [List.length_map, hpl]; exact small_k (by omega))
    · have h1 : fCall m_law_at (fCons (fVar 0) (fCons (fK (.int 0)) fNil)) [.sh (.scr ns), .un, .un, .un, .un, .un, .un, .un, .un] = some (.int (ns.getD 0 0)) := fCall_eq rfl (by rw [show (0 : Int) = ((0 : Nat) : Int) from rfl, at_eq]; rfl)
      refine (fRng1_eq (fCons_eq ((f2_eq rfl ((f2_eq h1 rfl).trans rfl)).trans rfl) rfl) ?_ ?_).trans rfl
      · have := Int.emod_nonneg (ns.getD 0 0) (show (6 : Int) ≠ 0 by decide)
        omega
      · have := Int.emod_lt_of_pos (ns.getD 0 0) (show (0 : Int) < 6 by decide)
        omega
    · unfold pieces
      rw [irange_map, List.map_map]
      refine compF_yes (fun (i : Nat) => T.int (0 + (i : Nat))) _ _ fun k hk => ⟨_, rfl, ?_⟩
      refine fCall_eq (fCons_eq (fCall_eq rfl (t := .int (ns.getD (1 + k) 0)) ?_) rfl) ?_
      · rw [show (1 + (0 + (k : Int)) : Int) = ((1 + k : Nat) : Int) by omega, at_eq]; rfl
      · rw [piece_eq]; rfl
  refine (fSeq_nx (fSet_eq ((fM_eq rfl rfl).trans (gJoin_strs _ (by omega))))).trans ?_
  refine (fSeq_nx (fSet_eq (fCallN_eq rfl (lines_eq htl)))).trans ?_
  rw [hlines]
  refine (fSeq_nx ((fIf_f ?_).trans rfl)).trans ?_
  · have h1 : fTest (f2 gNe (fC gLen (fCons (fVar 3) fNil)) (fC gLen (fCons (fVar 1) fNil))) [.sh (.scr ns), .sh (.lst ((pieces ns).map .str)), .sh (.str (Txt.join nl (pieces ns))), .sh (.lst ((pieces ns).map .str)), .un, .un, .un, .un, .un] = some false := by
      refine fTest_eq ((f2_eq rfl rfl).trans ?_)
      show some (T.bl (!decide (_ = _))) = _
      rw [decide_eq_true rfl]
      rfl
    exact h1
  refine (fSeq_nx rfl).trans ?_
  have hz : fZip (fCons (fVar 3) (fCons (fVar 1) fNil)) [.sh (.scr ns), .sh (.lst ((pieces ns).map .str)), .sh (.str (Txt.join nl (pieces ns))), .sh (.lst ((pieces ns).map .str)), .sh (.int 0), .un, .un, .un, .un] = some ((pieces ns).map fun p => .tup [.str p, .str p]) := by
    show some (List.zipWith (fun t u => T.tup [t, u]) ((pieces ns).map .str) ((pieces ns).map .str)) = _
    rw [zip_same]
  obtain ⟨e', hl, a, b, rfl⟩ := loopF_inv (b := b2 5 6) (F := fSeq (fIf (fOr (fNot (fTest (f1 (gIs qStr) (fVar 5)))) (fTest (f2 gNe (fVar 5) (fVar 6)))) (fRet (fK (.bl false))) fSkip) (fSet 4 (fC gMax (fCons (fVar 4) (fCons (fC gLen (fCons (fVar 6) fNil)) fNil)))))
    (fun p : Str => T.tup [.str p, .str p]) (fun d e => ∃ a b, e = [.sh (.scr ns), .sh (.lst ((pieces ns).map .str)), .sh (.str (Txt.join nl (pieces ns))), .sh (.lst ((pieces ns).map .str)), .sh (.int (most (lens d))), a, b, .un, .un])
    (pieces ns) [] _ ⟨.un, .un, rfl⟩ (fun d p r e hd hI => by
      obtain ⟨a, b, rfl⟩ := hI
      have hpm : p ∈ pieces ns := by rw [List.nil_append] at hd; rw [hd]; simp
      refine ⟨_, _, rfl, .inl ?_, .sh (.str p), .sh (.str p), rfl⟩
      refine (fSeq_nx ((fIf_f ?_).trans rfl)).trans ?_
      · have h1 : fTest (f2 gNe (fVar 5) (fVar 6)) [.sh (.scr ns), .sh (.lst ((pieces ns).map .str)), .sh (.str (Txt.join nl (pieces ns))), .sh (.lst ((pieces ns).map .str)), .sh (.int (most (lens d))), .sh (.str p), .sh (.str p), .un, .un] = some false := by
          refine fTest_eq ((f2_eq rfl rfl).trans ?_)
          show some (T.bl (!decide (_ = _))) = _
          rw [decide_eq_true rfl]
          rfl
        exact h1
      · refine (fSet_eq ((fC_eq (fCons_eq rfl (fCons_eq ((fC_eq rfl).trans (if_pos (Nat.le_trans (Nat.le_of_lt (hp p hpm).1) (by decide)))) rfl))).trans rfl)).trans ?_
        rw [show lens (d ++ [p]) = lens d ++ [(p.length : Int)] by unfold lens; rw [List.map_append]; rfl, most_step]
        rfl)
  rw [List.nil_append] at hl
  refine (fSeq_nx ((fFor_eq hz).trans hl)).trans ?_
  have hlong : m_longest [.str (Txt.join nl (pieces ns))] = some (.ok (.int (most (lens (pieces ns))))) := by
    have := longest_eq htl (by rw [hlines]; exact fun p h => Nat.le_trans (Nat.le_of_lt (hp p h).1) (by decide)) (by rw [hlines, hpl]; exact small_k (by omega))
    rw [hlines] at this
    exact this
  refine (fSeq_nx (fSet_eq (fCall_eq rfl (t := .int (most (lens (pieces ns)))) (by rw [hlong]; rfl)))).trans ?_
  exact fRet_eq ((fAndV_t rfl).trans ((fAndV_t ((f2_eq rfl rfl).trans (gEq_int_self _))).trans rfl))
end K01

namespace K01
open PySem PySem.Spec L2 Fx
open PyProof.Rows hiding St
def spLaw (K : PySem.W.Frag) : Sp := fun vs H Q _ => ∃ (a : Addr) (ns : List Int), vs = [.ref a] ∧ SqL K H a (ns.map V.int) ∧ ns.length ≤ 63 ∧ ∀ H', Q (.bl true) H'
theorem ok_the_law {P : Program} {w : World} {K : PySem.W.Frag} {mg : Str → Option Value} {base : Heap} {Ad0 : Ad} (Tx : Txt K mg Ad0) : FnOk P w K mg base CX0 3 Ad0.a_law Ad0.d_law ["_law_script"] (spLaw K) :=
  (ok_law Tx).imp fun vs H Q E ⟨a, ns, e, hS, hl, q⟩ => ⟨H, [.scr ns], _, Ok.refl H, by rw [e]; exact .cons (.scr hS) .nil, law_true ns hl, fun v Hs' H' g r => by cases r; exact q H'⟩
theorem all_mk {l : PySem.W.OpenLaw} {w : World} {K : PySem.W.Frag} {h : Heap} {mg : Str → Option Value} {fa : Addr} (X : K.In h) (G : h.Ns mainGlobals mg) (hfa : mg "law" = some (.ref fa))
    {f0 f1 f2 f3 f4 f5 : Addr} {od0 an0 od1 an1 od2 an2 od3 an3 od4 an4 od5 an5 : Option Addr} {sl0 sl1 sl2 sl3 sl4 sl5 : Array (Option Value)} {oc0 kV0 dc0 pm0 cd0 ct0 oc1 kV1 dc1 pm1 cd1 ct1 oc2 kV2 dc2 pm2 cd2 ct2 oc3 kV3 dc3 pm3 cd3 ct3 oc4 kV4 dc4 pm4 cd4 ct4 oc5 kV5 dc5 pm5 cd5 ct5 : Value}
    {tk_MOST : Tok}
    (a0 : PySem.W.nsIn K mainGlobals "lines_of" = some (some (.ref f0)))
    (l0 : K.lookup f0 = some ⟨oc0, od0, .func (PySem.W.fnOf "lines_of" "lines_of" (defArgs s_lines_of) (defBody s_lines_of) (defScope s_lines_of) .none kV0 dc0 pm0 an0 cd0 ct0), sl0⟩)
    (c0 : PySem.W.codeIn K cd0 "lines_of" = true)
    (k0 : PySem.W.keepIn K (.ref f0) = true)
    (a1 : PySem.W.nsIn K mainGlobals "longest" = some (some (.ref f1)))
    (l1 : K.lookup f1 = some ⟨oc1, od1, .func (PySem.W.fnOf "longest" "longest" (defArgs s_longest) (defBody s_longest) (defScope s_longest) .none kV1 dc1 pm1 an1 cd1 ct1), sl1⟩)
    (c1 : PySem.W.codeIn K cd1 "longest" = true)
    (k1 : PySem.W.keepIn K (.ref f1) = true)
    (a2 : PySem.W.nsIn K mainGlobals "_law_whole" = some (some (.ref f2)))
    (l2 : K.lookup f2 = some ⟨oc2, od2, .func (PySem.W.fnOf "_law_whole" "_law_whole" (defArgs s_law_whole) (defBody s_law_whole) (defScope s_law_whole) .none kV2 dc2 pm2 an2 cd2 ct2), sl2⟩)
    (c2 : PySem.W.codeIn K cd2 "_law_whole" = true)
    (k2 : PySem.W.keepIn K (.ref f2) = true)
    (a3 : PySem.W.nsIn K mainGlobals "_law_at" = some (some (.ref f3)))
    (l3 : K.lookup f3 = some ⟨oc3, od3, .func (PySem.W.fnOf "_law_at" "_law_at" (defArgs s_law_at) (defBody s_law_at) (defScope s_law_at) .none kV3 dc3 pm3 an3 cd3 ct3), sl3⟩)
    (c3 : PySem.W.codeIn K cd3 "_law_at" = true)
    (k3 : PySem.W.keepIn K (.ref f3) = true)
    (a4 : PySem.W.nsIn K mainGlobals "_law_piece" = some (some (.ref f4)))
    (l4 : K.lookup f4 = some ⟨oc4, od4, .func (PySem.W.fnOf "_law_piece" "_law_piece" (defArgs s_law_piece) (defBody s_law_piece) (defScope s_law_piece) .none kV4 dc4 pm4 an4 cd4 ct4), sl4⟩)
    (c4 : PySem.W.codeIn K cd4 "_law_piece" = true)
    (k4 : PySem.W.keepIn K (.ref f4) = true)
    (a5 : PySem.W.nsIn K mainGlobals "law" = some (some (.ref f5)))
    (l5 : K.lookup f5 = some ⟨oc5, od5, .func (PySem.W.fnOf "law" "law" (defArgs s_law) (defBody s_law) (defScope s_law) .none kV5 dc5 pm5 an5 cd5 ct5), sl5⟩)
    (c5 : PySem.W.codeIn K cd5 "law" = true)
    (k5 : PySem.W.keepIn K (.ref f5) = true)
    (z_len : PySem.W.nsIn K mainGlobals "len" = some none)
    (z_max : PySem.W.nsIn K mainGlobals "max" = some none)
    (z_int : PySem.W.nsIn K mainGlobals "int" = some none)
    (z_str : PySem.W.nsIn K mainGlobals "str" = some none)
    (z_list : PySem.W.nsIn K mainGlobals "list" = some none)
    (z_range : PySem.W.nsIn K mainGlobals "range" = some none)
    (z_zip : PySem.W.nsIn K mainGlobals "zip" = some none)
    (z_isinstance : PySem.W.nsIn K mainGlobals "isinstance" = some none)
    (z_bool : PySem.W.nsIn K mainGlobals "bool" = some none)
    (v_MOST : PySem.W.nsIn K mainGlobals "MOST" = some (some (.int 200 tk_MOST)))
    : ∃ fd : FuncData, (∀ (s : Shared) (v : Value), BindsTo s fd ⟨[v], []⟩ [("_law_script", v)]) ∧ ∀ base : Heap, K.In base → base.Ns mainGlobals mg → FnOk l.prog w K mg base CX0 3 fa fd ["_law_script"] (spLaw K) := by
  have e := hfa.symm.trans (PySem.W.mg_of X G a5)
  cases e
  have F0 := fun_mk (st := s_lines_of) l0 c0 k0
  have b0 := F0.binds (ps := ["text"]) fun _ _ _ _ _ _ us hl => match us, hl with | [_], _ => rfl
  have F1 := fun_mk (st := s_longest) l1 c1 k1
  have b1 := F1.binds (ps := ["text"]) fun _ _ _ _ _ _ us hl => match us, hl with | [_], _ => rfl
  have F2 := fun_mk (st := s_law_whole) l2 c2 k2
  have b2 := F2.binds (ps := ["_law_found"]) fun _ _ _ _ _ _ us hl => match us, hl with | [_], _ => rfl
  have F3 := fun_mk (st := s_law_at) l3 c3 k3
  have b3 := F3.binds (ps := ["_law_script", "_law_k"]) fun _ _ _ _ _ _ us hl => match us, hl with | [_, _], _ => rfl
  have F4 := fun_mk (st := s_law_piece) l4 c4 k4
  have b4 := F4.binds (ps := ["_law_number"]) fun _ _ _ _ _ _ us hl => match us, hl with | [_], _ => rfl
  have F5 := fun_mk (st := s_law) l5 c5 k5
  have b5 := F5.binds (ps := ["_law_script"]) fun _ _ _ _ _ _ us hl => match us, hl with | [_], _ => rfl
  have Tx : Txt K mg ⟨f0, _, f1, _, f2, _, f3, _, f4, _, fa, _⟩ := {
    n_len := PySem.W.mg_none_of X G z_len,
    n_max := PySem.W.mg_none_of X G z_max,
    n_int := PySem.W.mg_none_of X G z_int,
    n_str := PySem.W.mg_none_of X G z_str,
    n_list := PySem.W.mg_none_of X G z_list,
    n_range := PySem.W.mg_none_of X G z_range,
    n_zip := PySem.W.mg_none_of X G z_zip,
    n_isinstance := PySem.W.mg_none_of X G z_isinstance,
    n_bool := PySem.W.mg_none_of X G z_bool,
    c_MOST := ⟨_, PySem.W.mg_of X G v_MOST⟩,
    g_lines_of := PySem.W.mg_of X G a0,
    F_lines_of := F0,
    b_lines_of := b0,
    g_longest := PySem.W.mg_of X G a1,
    F_longest := F1,
    b_longest := b1,
    g_law_whole := PySem.W.mg_of X G a2,
    F_law_whole := F2,
    b_law_whole := b2,
    g_law_at := PySem.W.mg_of X G a3,
    F_law_at := F3,
    b_law_at := b3,
    g_law_piece := PySem.W.mg_of X G a4,
    F_law_piece := F4,
    b_law_piece := b4,
    g_law := PySem.W.mg_of X G a5,
    F_law := F5,
    b_law := b5 }
  exact ⟨PySem.W.fnOf "law" "law" (defArgs s_law) (defBody s_law) (defScope s_law) .none kV5 dc5 pm5 an5 cd5 ct5, fun s v => .of_eq rfl, fun base _ _ => ok_the_law Tx⟩
end K01
open PySem PySem.W PyProof.Rows
set_option maxRecDepth 100000 in
set_option maxHeartbeats 0 in
theorem PySem.Challenge.cw_boxtable_k01_lines_holds : PySem.Challenge.rw_boxtable_k01_lines.Holds := by
  w_on; o_law; k_head; (case hw => w_witness2)
  k_fill
  refine L2.walk_of (l := PySem.Challenge.rw_boxtable_k01_lines) (n := 63) (k := 3) (x := "_law_script") (CX := fun _ => L2.CX0) (sp := fun w => K01.spLaw _) rfl (by decide) rfl ⟨rfl, by decide, by decide⟩ (fun w h Y => PySem.W.kIn_of Y) ?F (fun _ _ a ns hl _ hS => ⟨a, ns, rfl, hS, hl, fun _ => rfl⟩) (fun _ _ _ _ _ h => h)
  case F =>
    intro w mg fa h KX G hmg
    refine' K01.all_mk KX G hmg ?a0 ?l0 ?c0 ?k0 ?a1 ?l1 ?c1 ?k1 ?a2 ?l2 ?c2 ?k2 ?a3 ?l3 ?c3 ?k3 ?a4 ?l4 ?c4 ?k4 ?a5 ?l5 ?c5 ?k5 ?z_len ?z_max ?z_int ?z_str ?z_list ?z_range ?z_zip ?z_isinstance ?z_bool ?v_MOST
    (case a0 => k_is); (case l0 => k_is); (case c0 => k_is); (case k0 => k_is); (case a1 => k_is); (case l1 => k_is); (case c1 => k_is); (case k1 => k_is); (case a2 => k_is); (case l2 => k_is); (case c2 => k_is); (case k2 => k_is); (case a3 => k_is); (case l3 => k_is); (case c3 => k_is); (case k3 => k_is); (case a4 => k_is); (case l4 => k_is); (case c4 => k_is); (case k4 => k_is); (case a5 => k_is); (case l5 => k_is); (case c5 => k_is); (case k5 => k_is); (case z_len => k_is); (case z_max => k_is); (case z_int => k_is); (case z_str => k_is); (case z_list => k_is); (case z_range => k_is); (case z_zip => k_is); (case z_isinstance => k_is); (case z_bool => k_is); (case v_MOST => k_is)

