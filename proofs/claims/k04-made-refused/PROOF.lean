import PyProof.Rows.All
import Wide.All
import OpenK.AllK
import Wide.FinOn
import HandS.ForMost
import HandS.Exc
import HandS.TryOnly
import HandS.ExcOwn
import HandS.WordsExc
import HandS.StrMore
import HandS.IsInst
import HandS.Style
import HandS.TupAny
import HandS.SortKw
import KE.SortKeyHeap
import KE.SortUse
import HandS.Flt
import HandS.ExcIs
import HandS.Lambda
import HandS.SetFor
import HandS.SortInts
import HandS.Strs
import HandS.TupLen
import PySem.Challenge.RW_boxtable_k04_made_refused
set_option Elab.async false
set_option linter.all false
set_option maxRecDepth 100000
/-! A layer of plain functions over the hand layer: what a piece of Python computes, as a Lean function over plain data. -/
namespace Fx
open PySem PySem.Spec L2
open PyProof.Rows hiding St

/-- plain data: tuples and lists by what they hold; scr: the script -/
inductive T where
  | non | bl (b : Bool) | int (i : Int) | str (s : Str) | tup (ts : List T) | lst (ts : List T) | scr (ns : List Int)

/-! ### what a value is, in a heap -/
mutual
inductive Rp (K : PySem.W.Frag) (H : Hp) : V → T → Prop
  | non : Rp K H .non .non
  | bl (b : Bool) : Rp K H (.bl b) (.bl b)
  | int (i : Int) : Rp K H (.int i) (.int i)
  | str (s : Str) : Rp K H (.str s) (.str s)
  | tup {a : Addr} {vs : List V} {ts : List T} : H a = some (.tup vs) → Rps K H vs ts → Rp K H (.ref a) (.tup ts)
  | lst {a : Addr} {vs : List V} {ts : List T} : H a = some (.lst vs) → Rps K H vs ts → Rp K H (.ref a) (.lst ts)
  | scr {a : Addr} {ns : List Int} : SqL K H a (ns.map V.int) → Rp K H (.ref a) (.scr ns)
inductive Rps (K : PySem.W.Frag) (H : Hp) : List V → List T → Prop
  | nil : Rps K H [] []
  | cons {v : V} {vs : List V} {t : T} {ts : List T} : Rp K H v t → Rps K H vs ts → Rps K H (v :: vs) (t :: ts)
end

section
variable {K : PySem.W.Frag} {H H' : Hp} {v : V} {vs : List V} {t : T} {ts : List T}
mutual
theorem Rp.mono (e : Same H H') : ∀ {t : T} {v : V}, Rp K H v t → Rp K H' v t
  | _, _, .non => .non
  | _, _, .bl b => .bl b
  | _, _, .int i => .int i
  | _, _, .str s => .str s
  | _, _, .tup h r => .tup (e _ _ h) (Rps.mono e r)
  | _, _, .lst h r => .lst (e _ _ h) (Rps.mono e r)
  | _, _, .scr h => .scr (e.seq h)
theorem Rps.mono (e : Same H H') : ∀ {ts : List T} {vs : List V}, Rps K H vs ts → Rps K H' vs ts
  | _, _, .nil => .nil
  | _, _, .cons h r => .cons (Rp.mono e h) (Rps.mono e r)
end
theorem Rps.length : ∀ {ts : List T} {vs : List V}, Rps K H vs ts → vs.length = ts.length
  | _, _, .nil => rfl
  | _, _, .cons _ r => by rw [List.length_cons, List.length_cons, r.length]
theorem Rps.get : ∀ {ts : List T} {vs : List V} {i : Nat} {t : T}, Rps K H vs ts → ts[i]? = some t → ∃ v, vs[i]? = some v ∧ Rp K H v t
  | _, _, _, _, .nil, h => by simp at h
  | _, _, 0, _, .cons h _, e => by
    have e' := Option.some.inj e
    subst e'
    exact ⟨_, rfl, h⟩
  | _, _, i + 1, _, .cons _ r, e => by
    obtain ⟨v, h1, h2⟩ := r.get (i := i) (by simpa using e)
    exact ⟨v, by simpa using h1, h2⟩
theorem Rps.getV : ∀ {ts : List T} {vs : List V} {i : Nat} {v : V}, Rps K H vs ts → vs[i]? = some v → ∃ t, ts[i]? = some t ∧ Rp K H v t
  | _, _, _, _, .nil, h => by simp at h
  | _, _, 0, _, .cons h _, e => by
    have e' := Option.some.inj e
    subst e'
    exact ⟨_, rfl, h⟩
  | _, _, i + 1, _, .cons _ r, e => by
    obtain ⟨v, h1, h2⟩ := r.getV (i := i) (by simpa using e)
    exact ⟨v, by simpa using h1, h2⟩
theorem Rps.append : ∀ {ts us : List T} {vs ws : List V}, Rps K H vs ts → Rps K H ws us → Rps K H (vs ++ ws) (ts ++ us)
  | _, _, _, _, .nil, h => h
  | _, _, _, _, .cons a r, h => .cons a (Rps.append r h)
theorem Rps.take : ∀ {ts : List T} {vs : List V} (n : Nat), Rps K H vs ts → Rps K H (vs.take n) (ts.take n)
  | _, _, 0, _ => .nil
  | _, _, _ + 1, .nil => .nil
  | _, _, n + 1, .cons a r => .cons a (Rps.take n r)
theorem Rps.drop : ∀ {ts : List T} {vs : List V} (n : Nat), Rps K H vs ts → Rps K H (vs.drop n) (ts.drop n)
  | _, _, 0, h => h
  | _, _, _ + 1, .nil => .nil
  | _, _, n + 1, .cons _ r => Rps.drop n r
theorem Rps.set : ∀ {ts : List T} {vs : List V} (i : Nat) {v : V} {t : T}, Rps K H vs ts → Rp K H v t → Rps K H (vs.set i v) (ts.set i t)
  | _, _, _, _, _, .nil, _ => .nil
  | _, _, 0, _, _, .cons _ r, h => .cons h r
  | _, _, i + 1, _, _, .cons a r, h => .cons a (Rps.set i r h)
theorem Rps.dropLast {ts : List T} {vs : List V} (h : Rps K H vs ts) : Rps K H vs.dropLast ts.dropLast := by
  rw [List.dropLast_eq_take, List.dropLast_eq_take, h.length]
  exact h.take _
theorem Rps.reverse {ts : List T} {vs : List V} (h : Rps K H vs ts) : Rps K H vs.reverse ts.reverse := by
  induction ts generalizing vs with
  | nil => cases h; exact .nil
  | cons t ts ih =>
    cases h with
    | cons a r =>
      rw [List.reverse_cons, List.reverse_cons]
      exact (ih r).append (.cons a .nil)
theorem Rps.rep {t : T} {v : V} (h : Rp K H v t) : ∀ n : Nat, Rps K H (List.replicate n v) (List.replicate n t)
  | 0 => .nil
  | n + 1 => .cons h (Rps.rep h n)
theorem Rps.ints : ∀ {ns : List Int} {vs : List V}, Rps K H vs (ns.map T.int) → vs = ns.map V.int
  | [], _, .nil => rfl
  | n :: ns, _, .cons (.int _) r => by rw [List.map_cons, Rps.ints r]
theorem Rps.ofInts : ∀ (ns : List Int), Rps K H (ns.map V.int) (ns.map T.int)
  | [] => .nil
  | n :: ns => .cons (.int n) (Rps.ofInts ns)
theorem Rps.strs : ∀ {ns : List Str} {vs : List V}, Rps K H vs (ns.map T.str) → vs = ns.map V.str
  | [], _, .nil => rfl
  | n :: ns, _, .cons (.str _) r => by rw [List.map_cons, Rps.strs r]
theorem Rps.ofStrs : ∀ (ns : List Str), Rps K H (ns.map V.str) (ns.map T.str)
  | [] => .nil
  | n :: ns => .cons (.str n) (Rps.ofStrs ns)
end

/-! ### heaps: what stays -/
def Cst : HO → Bool
  | .tup _ => true
  | .frz _ _ => true
  | _ => false
/-- Hs: the part of H that nobody changes; all tuples are in it -/
structure Ok (Hs H : Hp) : Prop where
  sub : Same Hs H
  cst : ∀ a o, H a = some o → Cst o = true → Hs a = some o
structure Gr (Hs H Hs' H' : Hp) : Prop where
  s : Same Hs Hs'
  h : Same H H'
  n : ∀ a o, H a = some o → Hs' a = Hs a
  ok : Ok Hs' H'
section
variable {Hs H Hs1 H1 Hs2 H2 : Hp} {p : Addr} {o : HO}
theorem Ok.refl (H : Hp) : Ok H H := ⟨Same.refl H, fun _ _ h _ => h⟩
theorem Gr.refl (k : Ok Hs H) : Gr Hs H Hs H := ⟨Same.refl _, Same.refl _, fun _ _ _ => rfl, k⟩
theorem Gr.trans (a : Gr Hs H Hs1 H1) (b : Gr Hs1 H1 Hs2 H2) : Gr Hs H Hs2 H2 :=
  ⟨a.s.trans b.s, a.h.trans b.h, fun x o e => (b.n x o (a.h x o e)).trans (a.n x o e), b.ok⟩
theorem same_new (h : H p = none) : Same H (upd H p o) := fun b x e => by
  rw [upd_ne (ne_of_none e h)]
  exact e
/-- a new object, of no more change -/
theorem Gr.new (k : Ok Hs H) (h : H p = none) : Gr Hs H (upd Hs p o) (upd H p o) := by
  have hs : Hs p = none := k.sub.free h
  refine ⟨same_new hs, same_new h, fun a x e => upd_ne (ne_of_none e h), ⟨fun a x e => ?_, fun a x e c => ?_⟩⟩
  · by_cases ha : a = p
    · subst ha; rw [upd_same] at e ⊢; exact e
    · rw [upd_ne ha] at e ⊢; exact k.sub _ _ e
  · by_cases ha : a = p
    · subst ha; rw [upd_same] at e ⊢; exact e
    · rw [upd_ne ha] at e ⊢; exact k.cst _ _ e c
/-- a new object that may still change -/
theorem Gr.new0 (k : Ok Hs H) (h : H p = none) (c : Cst o = false) : Gr Hs H Hs (upd H p o) := by
  refine ⟨Same.refl _, same_new h, fun _ _ _ => rfl, ⟨fun a x e => same_new h _ _ (k.sub _ _ e), fun a x e cx => ?_⟩⟩
  by_cases ha : a = p
  · subst ha; rw [upd_same] at e; cases e; rw [c] at cx; cases cx
  · rw [upd_ne ha] at e; exact k.cst _ _ e cx
end

/-- lists that are new behind H, and what never changes -/
def Frs (H H' : Hp) : Hp := fun a => match H' a with
  | some (.lst xs) => if (H a).isSome then none else some (.lst xs)
  | some o => if Cst o then some o else none
  | none => none
/-- the stable part behind a step that made new things and changed nothing -/
def Nxt (Hs H H' : Hp) : Hp := fun a => if (H a).isSome then Hs a else H' a
section
variable {Hs H H' H1 H2 : Hp}
theorem Frs.sub : Same (Frs H H') H' := fun a o e => by
  unfold Frs at e
  cases q : H' a with
  | none => rw [q] at e; cases e
  | some x =>
    rw [q] at e
    cases x with
    | lst xs =>
      dsimp only at e
      split at e
      · cases e
      · exact e
    | _ => dsimp only at e; split at e <;> first | exact e | cases e
theorem Gr.nxt (k : Ok Hs H) (h : Same H H') : Gr Hs H (Nxt Hs H H') H' := by
  refine ⟨fun a o e => ?_, h, fun a o e => ?_, ⟨fun a o e => ?_, fun a o e c => ?_⟩⟩
  · unfold Nxt; rw [k.sub a o e]; exact e
  · unfold Nxt; rw [e]; rfl
  · unfold Nxt at e
    cases q : H a with
    | none => rw [q] at e; exact e
    | some x => rw [q] at e; exact h _ _ (k.sub _ _ e)
  · unfold Nxt
    cases q : H a with
    | none => exact e
    | some x =>
      have e2 := h _ _ q
      rw [e] at e2
      cases e2
      exact k.cst _ _ q c
theorem Frs.nxt (k : Ok Hs H) (h : Same H H') : Same (Frs H H') (Nxt Hs H H') := fun a o e => by
  have e1 := Frs.sub a o e
  unfold Nxt
  cases q : H a with
  | none => exact e1
  | some x =>
    have e2 := h _ _ q
    rw [e1] at e2
    cases e2
    have c : Cst o = true := by
      unfold Frs at e
      rw [e1] at e
      cases o with
      | lst xs =>
        dsimp only at e
        rw [q] at e
        cases e
      | _ => dsimp only at e; split at e <;> first | assumption | cases e
    exact k.cst _ _ q c
theorem Frs.cst {a : Addr} {o : HO} (h : H' a = some o) (c : Cst o = true) : Frs H H' a = some o := by
  unfold Frs
  rw [h]
  cases o with
  | lst xs => cases c
  | _ => dsimp only; rw [c]; rfl
theorem Frs.lst {a : Addr} {xs : List V} (h : H' a = some (.lst xs)) (n : H a = none) : Frs H H' a = some (.lst xs) := by
  unfold Frs
  rw [h, n]
  rfl
/-- seen from an earlier heap -/
theorem Frs.back (h : Same H H1) : Same (Frs H1 H2) (Frs H H2) := fun a o e => by
  have e1 := Frs.sub a o e
  cases o with
  | lst xs =>
    refine Frs.lst e1 (h.free ?_)
    unfold Frs at e
    rw [e1] at e
    cases q : H1 a with
    | none => rfl
    | some x => rw [q] at e; cases e
  | tup xs => exact Frs.cst e1 rfl
  | frz x u => exact Frs.cst e1 rfl
  | _ => unfold Frs at e; rw [e1] at e; cases e
theorem Frs.fwd (h : Same H1 H2) : Same (Frs H H1) (Frs H H2) := fun a o e => by
  have e1 := Frs.sub a o e
  cases o with
  | lst xs =>
    refine Frs.lst (h _ _ e1) ?_
    unfold Frs at e
    rw [e1] at e
    cases q : H a with
    | none => rfl
    | some x => rw [q] at e; cases e
  | tup xs => exact Frs.cst (h _ _ e1) rfl
  | frz x u => exact Frs.cst (h _ _ e1) rfl
  | _ => unfold Frs at e; rw [e1] at e; cases e
end

/-! ### no list within -/
mutual
def noL : T → Bool
  | .lst _ => false
  | .scr _ => false
  | .tup ts => noLs ts
  | _ => true
def noLs : List T → Bool
  | [] => true
  | t :: ts => noL t && noLs ts
end
mutual
theorem Rp.flat {K : PySem.W.Frag} {H H' : Hp} (h : ∀ a xs, H a = some (.tup xs) → H' a = some (.tup xs)) : ∀ {t : T} {v : V}, Rp K H v t → noL t = true → Rp K H' v t
  | _, _, .non, _ => .non
  | _, _, .bl b, _ => .bl b
  | _, _, .int i, _ => .int i
  | _, _, .str s, _ => .str s
  | _, _, .tup e r, n => .tup (h _ _ e) (Rps.flat h r n)
  | _, _, .lst _ _, n => by cases n
  | _, _, .scr _, n => by cases n
theorem Rps.flat {K : PySem.W.Frag} {H H' : Hp} (h : ∀ a xs, H a = some (.tup xs) → H' a = some (.tup xs)) : ∀ {ts : List T} {vs : List V}, Rps K H vs ts → noLs ts = true → Rps K H' vs ts
  | _, _, .nil, _ => .nil
  | _, _, .cons a r, n => by
    have n' : (noL _ && noLs _) = true := n
    rw [Bool.and_eq_true] at n'
    exact .cons (Rp.flat h a n'.1) (Rps.flat h r n'.2)
end
theorem noLs_append : ∀ {ts us : List T}, noLs (ts ++ us) = (noLs ts && noLs us)
  | [], us => by simp [noLs]
  | t :: ts, us => by
    show (noL t && noLs (ts ++ us)) = ((noL t && noLs ts) && noLs us)
    rw [noLs_append, Bool.and_assoc]
theorem noLs_of : ∀ {ts : List T}, (∀ t ∈ ts, noL t = true) → noLs ts = true
  | [], _ => rfl
  | t :: ts, h => by
    show (noL t && noLs ts) = true
    rw [h t List.mem_cons_self, noLs_of fun u hu => h u (List.mem_cons_of_mem _ hu)]
    rfl
theorem noLs_mem : ∀ {ts : List T} {t : T}, noLs ts = true → t ∈ ts → noL t = true
  | u :: ts, t, h, m => by
    have h' : (noL u && noLs ts) = true := h
    rw [Bool.and_eq_true] at h'
    rcases List.mem_cons.mp m with e | m
    · rw [e]; exact h'.1
    · exact noLs_mem h'.2 m
end Fx

namespace Fx
open PySem PySem.Spec L2
open PyProof.Rows hiding St

/-! ### slots: unknown; a value that stays; a list that this slot alone holds; a list of such lists; a tuple whose last part is such a list; the exception that is held -/
inductive Sl where
  | un | sh (t : T) | ow (ts : List T) | ob (tss : List (List T)) | ot (us ts : List T) | exc (a : Addr) | op (tss : List (List T)) | dk (ks : List (List Int))
abbrev Ev := List Sl
inductive Rows (K : PySem.W.Frag) (Hs H : Hp) (lab : Addr → Option Nat) (i : Nat) : List Addr → List (List T) → Prop
  | nil : Rows K Hs H lab i [] []
  | cons {r : Addr} {rs : List Addr} {vs : List V} {ts : List T} {tss : List (List T)} : lab r = some i → H r = some (.lst vs) → Rps K Hs vs ts → Rows K Hs H lab i rs tss → Rows K Hs H lab i (r :: rs) (ts :: tss)
def SlOk (K : PySem.W.Frag) (fx : Addr) (Hs H : Hp) (lab : Addr → Option Nat) (i : Nat) (o : Option V) : Sl → Prop
  | .un => True
  | .sh t => ∃ v, o = some v ∧ Rp K Hs v t
  | .ow ts => ∃ a vs, o = some (.ref a) ∧ lab a = some i ∧ H a = some (.lst vs) ∧ Rps K Hs vs ts
  | .ob tss => ∃ a rs, o = some (.ref a) ∧ lab a = some i ∧ H a = some (.lst (rs.map V.ref)) ∧ (a :: rs).Nodup ∧ Rows K Hs H lab i rs tss
  | .ot us ts => ∃ p a ws vs, o = some (.ref p) ∧ Hs p = some (.tup (ws ++ [.ref a])) ∧ Rps K Hs ws us ∧ lab a = some i ∧ H a = some (.lst vs) ∧ Rps K Hs vs ts
  | .exc a => o = some (.ref a)
  | .op tss => ∃ rs, o = some (.ref fx) ∧ lab fx = some i ∧ H fx = some (.lst (rs.map V.ref)) ∧ (fx :: rs).Nodup ∧ Rows K Hs H lab i rs tss
  | .dk ks => ∃ a kvs, o = some (.ref a) ∧ lab a = some i ∧ H a = some (.dT kvs) ∧ kvs.map (·.1) = ks.map (List.map Sum.inl)
/-- the base: the stable part and the kept part at the start -/
structure Bs where
  hs : Hp
  b : Hp
  fx : Addr := 0
structure Bd (B : Bs) (Hs H : Hp) : Prop where
  s : Same B.hs Hs
  h : Same B.b H
  n : ∀ a o, B.b a = some o → Hs a = B.hs a
  ok : Ok Hs H
structure Rl (K : PySem.W.Frag) (B : Bs) (Hs H : Hp) (σ : St) (ev : Ev) : Prop where
  bd : Bd B Hs H
  len : ev.length = σ.length
  lab : ∃ lab : Addr → Option Nat, (∀ a i, lab a = some i → B.b a = none ∧ Hs a = none ∧ ∃ o, H a = some o) ∧ ∀ i s o, ev[i]? = some s → σ[i]? = some o → SlOk K B.fx Hs H lab i o s

section
variable {K : PySem.W.Frag} {B : Bs} {Hs H Hs' H' Hs1 H1 : Hp} {σ : St} {ev : Ev} {lab lab' : Addr → Option Nat} {i : Nat} {o : Option V} {s : Sl}
theorem Bd.to (b : Bd B Hs H) (g : Gr Hs H Hs' H') : Bd B Hs' H' :=
  ⟨b.s.trans g.s, b.h.trans g.h, fun a o e => (g.n a o (b.h a o e)).trans (b.n a o e), g.ok⟩
theorem Rows.imp (hs : Same Hs Hs') (h : ∀ a o, lab a = some i → H a = some o → lab' a = some i ∧ H' a = some o) : ∀ {rs : List Addr} {tss : List (List T)}, Rows K Hs H lab i rs tss → Rows K Hs' H' lab' i rs tss
  | _, _, .nil => .nil
  | _, _, .cons l e r t => .cons (h _ _ l e).1 (h _ _ l e).2 (r.mono hs) (Rows.imp hs h t)
theorem SlOk.imp {fx : Addr} (hs : Same Hs Hs') (h : ∀ a o, lab a = some i → H a = some o → lab' a = some i ∧ H' a = some o) (x : SlOk K fx Hs H lab i o s) : SlOk K fx Hs' H' lab' i o s := by
  cases s with
  | un => trivial
  | sh t => obtain ⟨v, e, r⟩ := x; exact ⟨v, e, r.mono hs⟩
  | ow ts => obtain ⟨a, vs, e, l, q, r⟩ := x; exact ⟨a, vs, e, (h _ _ l q).1, (h _ _ l q).2, r.mono hs⟩
  | ob tss => obtain ⟨a, rs, e, l, q, nd, r⟩ := x; exact ⟨a, rs, e, (h _ _ l q).1, (h _ _ l q).2, nd, r.imp hs h⟩
  | ot us ts => obtain ⟨p, a, ws, vs, e, hp, ru, l, q, r⟩ := x; exact ⟨p, a, ws, vs, e, hs _ _ hp, ru.mono hs, (h _ _ l q).1, (h _ _ l q).2, r.mono hs⟩
  | exc a => exact x
  | op tss => obtain ⟨rs, e, l, q, nd, r⟩ := x; exact ⟨rs, e, (h _ _ l q).1, (h _ _ l q).2, nd, r.imp hs h⟩
  | dk ks => obtain ⟨a, kvs, e, l, q, r⟩ := x; exact ⟨a, kvs, e, (h _ _ l q).1, (h _ _ l q).2, r⟩
theorem Rl.to (R : Rl K B Hs H σ ev) (g : Gr Hs H Hs' H') : Rl K B Hs' H' σ ev := by
  obtain ⟨lab, l1, l2⟩ := R.lab
  refine ⟨R.bd.to g, R.len, lab, fun a i e => ?_, fun i s o e1 e2 => (l2 i s o e1 e2).imp g.s fun a x e q => ⟨e, g.h _ _ q⟩⟩
  obtain ⟨b, z, x, q⟩ := l1 a i e
  exact ⟨b, (g.n a x q).trans z, x, g.h _ _ q⟩
/-- one slot is given a new meaning; the others' things stand -/
theorem Rl.put (R : Rl K B Hs H σ ev) (bd : Bd B Hs' H') (ss : Same Hs Hs') (v : Option V) (new : Addr → Bool) (hn : ∀ a, new a = true → B.b a = none ∧ Hs' a = none ∧ ∃ x, H' a = some x)
    (fr : ∀ lab : Addr → Option Nat, (∀ a j, lab a = some j → B.b a = none ∧ Hs a = none ∧ ∃ o, H a = some o) → (∀ i s o, ev[i]? = some s → σ[i]? = some o → SlOk K B.fx Hs H lab i o s) →
      ∀ a j, lab a = some j → j ≠ i → new a = false ∧ Hs' a = none ∧ ∀ x, H a = some x → H' a = some x)
    (hs : SlOk K B.fx Hs' H' (fun a => if new a then some i else none) i v s) : Rl K B Hs' H' (σ.set i v) (ev.set i s) := by
  obtain ⟨lab, l1, l2⟩ := R.lab
  have f := fr lab l1 l2
  refine ⟨bd, by rw [List.length_set, List.length_set]; exact R.len, fun a => if new a then some i else if lab a = some i then none else lab a, fun a j e => ?_, fun j s' o e1 e2 => ?_⟩
  · dsimp only at e
    cases na : new a with
    | true =>
      rw [na] at e
      exact hn a na
    | false =>
      rw [na] at e
      simp only [Bool.false_eq_true, if_false] at e
      by_cases hl : lab a = some i
      · rw [if_pos hl] at e; cases e
      · rw [if_neg hl] at e
        have hj : j ≠ i := fun z => hl (z ▸ e)
        obtain ⟨b, z, x, q⟩ := l1 a j e
        obtain ⟨_, f2, f3⟩ := f a j e hj
        exact ⟨b, f2, x, f3 x q⟩
  · by_cases hj : j = i
    · subst hj
      have h1 : j < ev.length := by
        have := (List.getElem?_eq_some_iff.mp e1).1
        rw [List.length_set] at this
        exact this
      rw [List.getElem?_set_self h1] at e1
      rw [List.getElem?_set_self (by rw [← R.len]; exact h1)] at e2
      cases e1; cases e2
      refine hs.imp (Same.refl _) fun a x l q => ⟨?_, q⟩
      have na : new a = true := by
        cases z : new a with
        | true => rfl
        | false => rw [z] at l; cases l
      simp only [na, if_true]
    · rw [List.getElem?_set_ne (Ne.symm hj)] at e1 e2
      refine (l2 j s' o e1 e2).imp ss fun a x l q => ?_
      obtain ⟨f1, f2, f3⟩ := f a j l hj
      refine ⟨?_, f3 x q⟩
      have : lab a ≠ some i := fun z => hj (by rw [l] at z; exact Option.some.inj z)
      simp only [f1, Bool.false_eq_true, if_false, this]
      exact l
theorem Rl.set (R : Rl K B Hs H σ ev) {v : V} {t : T} (h : Rp K Hs v t) (i : Nat) : Rl K B Hs H (σ.set i (some v)) (ev.set i (.sh t)) :=
  R.put R.bd (Same.refl _) (some v) (fun _ => false) (fun _ z => by cases z) (fun lab l1 _ a j e _ => ⟨rfl, (l1 a j e).2.1, fun _ q => q⟩) ⟨v, rfl, h⟩
theorem Rl.un (R : Rl K B Hs H σ ev) (v : Option V) (i : Nat) : Rl K B Hs H (σ.set i v) (ev.set i .un) :=
  R.put R.bd (Same.refl _) v (fun _ => false) (fun _ z => by cases z) (fun lab l1 _ a j e _ => ⟨rfl, (l1 a j e).2.1, fun _ q => q⟩) trivial
/-- a new list, held by slot i alone -/
theorem Rl.setOw (R : Rl K B Hs H σ ev) {a : Addr} {vs : List V} {ts : List T} (ss : Same H H') (ha : H a = none) (hv : H' a = some (.lst vs)) (h : Rps K Hs vs ts) (ok : Ok Hs H') (i : Nat) :
    Rl K B Hs H' (σ.set i (some (.ref a))) (ev.set i (.ow ts)) := by
  have hsa : Hs a = none := R.bd.ok.sub.free ha
  have hba : B.b a = none := R.bd.h.free ha
  refine R.put ⟨R.bd.s, R.bd.h.trans ss, R.bd.n, ok⟩ (Same.refl _) (some (.ref a)) (fun x => decide (x = a)) (fun x z => ?_) (fun lab l1 _ x j e _ => ?_) ⟨a, vs, rfl, by simp, hv, h⟩
  · have z : x = a := of_decide_eq_true z
    subst z
    exact ⟨hba, hsa, _, hv⟩
  · obtain ⟨b, z, y, q⟩ := l1 x j e
    refine ⟨decide_eq_false fun e => ?_, z, fun y q => ss _ _ q⟩
    rw [e, ha] at q; cases q
/-- a slot's own list is rewritten -/
theorem Rl.mutOw (R : Rl K B Hs H σ ev) {ts us : List T} (he : ev[i]? = some (.ow ts)) : ∃ a vs, σ[i]? = some (some (.ref a)) ∧ H a = some (.lst vs) ∧ Rps K Hs vs ts ∧
    ∀ ws, Rps K Hs ws us → Rl K B Hs (upd H a (.lst ws)) σ (ev.set i (.ow us)) := by
  obtain ⟨lab, l1, l2⟩ := R.lab
  have hi : i < σ.length := by rw [← R.len]; exact (List.getElem?_eq_some_iff.mp he).1
  obtain ⟨a, vs, eo, la, ha, r⟩ := l2 i _ _ he (List.getElem?_eq_getElem hi)
  have e2 : σ[i]? = some (some (.ref a)) := by rw [List.getElem?_eq_getElem hi, eo]
  obtain ⟨hb, hz, _⟩ := l1 a i la
  refine ⟨a, vs, e2, ha, r, fun ws hw => ?_⟩
  have es : σ.set i (some (.ref a)) = σ := by
    apply List.ext_getElem?
    intro j
    by_cases hj : j = i
    · subst hj; rw [List.getElem?_set_self hi, e2]
    · rw [List.getElem?_set_ne (Ne.symm hj)]
  have key : Rl K B Hs (upd H a (.lst ws)) (σ.set i (some (.ref a))) (ev.set i (.ow us)) := by
    have bd : Bd B Hs (upd H a (.lst ws)) := by
      refine ⟨R.bd.s, fun x o e => ?_, R.bd.n, ⟨fun x o e => ?_, fun x o e c => ?_⟩⟩
      · rw [upd_ne (ne_of_none e hb)]; exact R.bd.h _ _ e
      · rw [upd_ne (ne_of_none e hz)]; exact R.bd.ok.sub _ _ e
      · by_cases hx : x = a
        · subst hx; rw [upd_same] at e; cases e; cases c
        · rw [upd_ne hx] at e; exact R.bd.ok.cst _ _ e c
    refine ⟨bd, by rw [List.length_set, List.length_set]; exact R.len, lab, fun x j e => ?_, fun j s' o e1 e2' => ?_⟩
    · obtain ⟨b, z, y, q⟩ := l1 x j e
      refine ⟨b, z, ?_⟩
      by_cases hx : x = a
      · subst hx; exact ⟨_, upd_same⟩
      · exact ⟨y, by rw [upd_ne hx]; exact q⟩
    · by_cases hj : j = i
      · subst hj
        rw [List.getElem?_set_self (by rw [R.len]; exact hi)] at e1
        rw [List.getElem?_set_self hi] at e2'
        cases e1; cases e2'
        exact ⟨a, ws, rfl, la, upd_same, hw⟩
      · rw [List.getElem?_set_ne (Ne.symm hj)] at e1 e2'
        refine (l2 j s' o e1 e2').imp (Same.refl _) fun x y l q => ⟨l, ?_⟩
        have hx : x ≠ a := fun z => hj (by rw [z, la] at l; exact (Option.some.inj l).symm)
        rw [upd_ne hx]; exact q
  rw [es] at key
  exact key
/-- a slot's own list is given free: it changes no more -/
theorem Rl.frz (R : Rl K B Hs H σ ev) {ts : List T} (he : ev[i]? = some (.ow ts)) : ∃ Hs', Same Hs Hs' ∧ Rl K B Hs' H σ (ev.set i (.sh (.lst ts))) := by
  obtain ⟨lab, l1, l2⟩ := R.lab
  have hi : i < σ.length := by rw [← R.len]; exact (List.getElem?_eq_some_iff.mp he).1
  obtain ⟨a, vs, eo, la, ha, r⟩ := l2 i _ _ he (List.getElem?_eq_getElem hi)
  have e2 : σ[i]? = some (some (.ref a)) := by rw [List.getElem?_eq_getElem hi, eo]
  obtain ⟨hb, hz, _⟩ := l1 a i la
  have ss : Same Hs (upd Hs a (.lst vs)) := same_new hz
  refine ⟨upd Hs a (.lst vs), ss, ?_⟩
  have es : σ.set i (some (.ref a)) = σ := by
    apply List.ext_getElem?
    intro j
    by_cases hj : j = i
    · subst hj; rw [List.getElem?_set_self hi, e2]
    · rw [List.getElem?_set_ne (Ne.symm hj)]
  have bd : Bd B (upd Hs a (.lst vs)) H := by
    refine ⟨R.bd.s.trans ss, R.bd.h, fun x o e => ?_, ⟨fun x o e => ?_, fun x o e c => ss _ _ (R.bd.ok.cst _ _ e c)⟩⟩
    · rw [upd_ne (ne_of_none e hb)]; exact R.bd.n _ _ e
    · by_cases hx : x = a
      · subst hx; rw [upd_same] at e; cases e; exact ha
      · rw [upd_ne hx] at e; exact R.bd.ok.sub _ _ e
  have key : Rl K B (upd Hs a (.lst vs)) H (σ.set i (some (.ref a))) (ev.set i (.sh (.lst ts))) := by
    refine ⟨bd, by rw [List.length_set, List.length_set]; exact R.len, fun x => if x = a then none else lab x, fun x j e => ?_, fun j s' o e1 e2' => ?_⟩
    · dsimp only at e
      by_cases hx : x = a
      · rw [if_pos hx] at e; cases e
      · rw [if_neg hx] at e
        obtain ⟨b, z, y, q⟩ := l1 x j e
        exact ⟨b, by rw [upd_ne hx]; exact z, y, q⟩
    · by_cases hj : j = i
      · subst hj
        rw [List.getElem?_set_self (by rw [R.len]; exact hi)] at e1
        rw [List.getElem?_set_self hi] at e2'
        cases e1; cases e2'
        exact ⟨.ref a, rfl, .lst upd_same (r.mono ss)⟩
      · rw [List.getElem?_set_ne (Ne.symm hj)] at e1 e2'
        refine (l2 j s' o e1 e2').imp ss fun x y l q => ⟨?_, q⟩
        have hx : x ≠ a := fun z => hj (by rw [z, la] at l; exact (Option.some.inj l).symm)
        simp only [hx, if_false]
        exact l
  rw [es] at key
  exact key
end

/-! ### readings by plain functions -/
/-- an expression -/
def tF (K : PySem.W.Frag) (f : Ev → Option T) : TE := fun σ H Q => ∃ B Hs ev t, Rl K B Hs H σ ev ∧ f ev = some t ∧ ∀ v Hs' H', Gr Hs H Hs' H' → Rp K Hs' v t → Q v H'
/-- an expression whose value's lists are new -/
def tN (K : PySem.W.Frag) (f : Ev → Option T) : TE := fun σ H Q => ∃ B Hs ev t, Rl K B Hs H σ ev ∧ f ev = some t ∧ ∀ v H', Same H H' → Rp K (Frs H H') v t → Q v H'
/-- a test -/
def tT (K : PySem.W.Frag) (f : Ev → Option Bool) : TT := fun σ H Q => ∃ B Hs ev b, Rl K B Hs H σ ev ∧ f ev = some b ∧ ∀ Hs' H', Gr Hs H Hs' H' → Q b H'
/-- arguments -/
def tA (K : PySem.W.Frag) (f : Ev → Option (List T)) : TA := fun σ H Q => ∃ B Hs ev ts, Rl K B Hs H σ ev ∧ f ev = some ts ∧ ∀ vs Hs' H', Gr Hs H Hs' H' → Rps K Hs' vs ts → Q vs H'

section
variable {X : Cx} {e : Expr} {t t' : TE}
theorem PE.by (h : PE X e t) (i : ∀ σ H Q, t' σ H Q → t σ H Q) : PE X e t' := ⟨fun pins s σ H Q I hw => h.run pins s σ H Q I (i σ H Q hw)⟩
theorem PT.by {t t' : TT} (h : PT X e t) (i : ∀ σ H Q, t' σ H Q → t σ H Q) : PT X e t' := ⟨fun pins s σ H Q I hw => h.run pins s σ H Q I (i σ H Q hw)⟩
theorem PW.by {t t' : TT} (h : PW X e t) (i : ∀ σ H Q, t' σ H Q → t σ H Q) : PW X e t' := ⟨fun wh pins s σ H Q I hw => h.run wh pins s σ H Q I (i σ H Q hw)⟩
theorem PA.by {es : List Expr} {t t' : TA} (h : PA X es t) (i : ∀ σ H Q, t' σ H Q → t σ H Q) : PA X es t' := ⟨fun pos pins s σ H Q I hw => h.run pos pins s σ H Q I (i σ H Q hw)⟩
end

/-- what a binary operation on values does, as a function on data -/
def OpD (K : PySem.W.Frag) (r : R2) (g : T → T → Option T) : Prop := ∀ (Hs H : Hp) (x y : V) (d e z : T), Ok Hs H → Rp K Hs x d → Rp K Hs y e → g d e = some z → ∀ Q : VK, (∀ v Hs' H', Gr Hs H Hs' H' → Rp K Hs' v z → Q v H') → r x y H Q
def OpN (K : PySem.W.Frag) (r : R2) (g : T → T → Option T) : Prop := ∀ (Hs H : Hp) (x y : V) (d e z : T), Ok Hs H → Rp K Hs x d → Rp K Hs y e → g d e = some z → ∀ Q : VK, (∀ v H', Same H H' → Rp K (Frs H H') v z → Q v H') → r x y H Q
def CallD (K : PySem.W.Frag) (r : List V → Hp → VK → Prop) (g : List T → Option T) : Prop := ∀ (Hs H : Hp) (vs : List V) (ds : List T) (z : T), Ok Hs H → Rps K Hs vs ds → g ds = some z → ∀ Q : VK, (∀ v Hs' H', Gr Hs H Hs' H' → Rp K Hs' v z → Q v H') → r vs H Q
def CallN (K : PySem.W.Frag) (r : List V → Hp → VK → Prop) (g : List T → Option T) : Prop := ∀ (Hs H : Hp) (vs : List V) (ds : List T) (z : T), Ok Hs H → Rps K Hs vs ds → g ds = some z → ∀ Q : VK, (∀ v H', Same H H' → Rp K (Frs H H') v z → Q v H') → r vs H Q
def f2 (g : T → T → Option T) (fa fb : Ev → Option T) : Ev → Option T := fun ev => (fa ev).bind fun d => (fb ev).bind fun e => g d e
def f1 (g : T → Option T) (fa : Ev → Option T) : Ev → Option T := fun ev => (fa ev).bind g
def fC (g : List T → Option T) (fa : Ev → Option (List T)) : Ev → Option T := fun ev => (fa ev).bind g
def fVar (i : Nat) : Ev → Option T := fun ev => match ev[i]? with
  | some (.sh t) => some t
  | _ => none
def fK (t : T) : Ev → Option T := fun _ => some t
def fNil : Ev → Option (List T) := fun _ => some []
def fCons (fa : Ev → Option T) (fr : Ev → Option (List T)) : Ev → Option (List T) := fun ev => (fa ev).bind fun d => (fr ev).bind fun ds => some (d :: ds)
theorem bind_some {α β : Type} {o : Option α} {g : α → Option β} {z : β} (h : o.bind g = some z) : ∃ d, o = some d ∧ g d = some z := by
  cases o with
  | none => cases h
  | some d => exact ⟨d, rfl, h⟩

section
variable {K : PySem.W.Frag} {X : Cx} {a b e : Expr} {es : List Expr} {fa fb : Ev → Option T} {fs : Ev → Option (List T)} {pos p : Pos} {x : Str} {r : R2} {g : T → T → Option T}
theorem fe_of (h : PE X e (tN K fa)) : PE X e (tF K fa) := PE.by h fun σ H Q ⟨B, Hs, ev, t, R, hf, q⟩ => ⟨B, Hs, ev, t, R, hf, fun v H' s r => q v _ H' (Gr.nxt R.bd.ok s) (r.mono (Frs.nxt R.bd.ok s))⟩
theorem fe_var (i : Nat) (hN : X.N[i]? = some x := by rfl) (hv : Vis X.env.scope x := by first | exact Or.inl rfl | exact Or.inr (Or.inl rfl) | exact Or.inr (Or.inr rfl)) (hd : (x == ("__debug__" : Str)) = false := by decide)
    (hcd : (x == ("__classdict__" : Str)) = false := by decide) : PE X (.Name x pos) (tF K (fVar i)) := PE.by (pe_var (i := i) hN hv hd hcd) fun σ H Q ⟨B, Hs, ev, t, R, hf, q⟩ => by
  unfold fVar at hf
  cases hs : ev[i]? with
  | none => rw [hs] at hf; cases hf
  | some s =>
    rw [hs] at hf
    cases s with
    | sh u =>
      cases hf
      obtain ⟨lab, _, l2⟩ := R.lab
      have hi : i < σ.length := by rw [← R.len]; exact (List.getElem?_eq_some_iff.mp hs).1
      obtain ⟨v, e, rp⟩ := l2 i _ _ hs (List.getElem?_eq_getElem hi)
      exact ⟨v, by rw [List.getElem?_eq_getElem hi, e], q v Hs H (Gr.refl R.bd.ok) rp⟩
    | _ => cases hf
theorem fe_int {i : Int} {j : Nat} : PE X (.Constant (.int i) j pos) (tF K (fK (.int i))) := PE.by pe_int fun σ H Q ⟨B, Hs, ev, t, R, hf, q⟩ => by cases hf; exact q _ Hs H (Gr.refl R.bd.ok) (.int i)
theorem fe_bl {i : Bool} {j : Nat} : PE X (.Constant (.bool i) j pos) (tF K (fK (.bl i))) := PE.by pe_bl fun σ H Q ⟨B, Hs, ev, t, R, hf, q⟩ => by cases hf; exact q _ Hs H (Gr.refl R.bd.ok) (.bl i)
theorem fe_non {j : Nat} : PE X (.Constant .none j pos) (tF K (fK .non)) := PE.by pe_non fun σ H Q ⟨B, Hs, ev, t, R, hf, q⟩ => by cases hf; exact q _ Hs H (Gr.refl R.bd.ok) .non
theorem fe_str {i : Str} {j : Nat} : PE X (.Constant (.str i) j pos) (tF K (fK (.str i))) := PE.by pe_str fun σ H Q ⟨B, Hs, ev, t, R, hf, q⟩ => by cases hf; exact q _ Hs H (Gr.refl R.bd.ok) (.str i)
/-- a module's constant -/
theorem fe_globI {i : Int} {tk : Tok} (hg : Gl X x) (hm : X.mg x = some (.int i tk)) (hd : (x == ("__debug__" : Str)) = false := by decide) : PE X (.Name x pos) (tF K (fK (.int i))) :=
  PE.by (pe_glob (v := .int i) hg hm ⟨_, rfl⟩ hd) fun σ H Q ⟨B, Hs, ev, t, R, hf, q⟩ => by cases hf; exact q _ Hs H (Gr.refl R.bd.ok) (.int i)
theorem fe_globS {i : Str} {tk : Tok} (hg : Gl X x) (hm : X.mg x = some (.str i tk)) (hd : (x == ("__debug__" : Str)) = false := by decide) : PE X (.Name x pos) (tF K (fK (.str i))) :=
  PE.by (pe_glob (v := .str i) hg hm ⟨_, rfl⟩ hd) fun σ H Q ⟨B, Hs, ev, t, R, hf, q⟩ => by cases hf; exact q _ Hs H (Gr.refl R.bd.ok) (.str i)
theorem op2D (ho : OpD K r g) : ∀ σ H Q, tF K (f2 g fa fb) σ H Q → tOp r (tF K fa) (tF K fb) σ H Q := fun σ H Q ⟨B, Hs, ev, t, R, hf, q⟩ => by
  obtain ⟨d, h1, hf⟩ := bind_some hf
  obtain ⟨e, h2, hf⟩ := bind_some hf
  exact ⟨B, Hs, ev, d, R, h1, fun x Hs1 H1 g1 r1 => ⟨B, Hs1, ev, e, R.to g1, h2, fun y Hs2 H2 g2 r2 => ho Hs2 H2 x y d e t g2.ok (r1.mono g2.s) r2 hf Q fun v Hs3 H3 g3 r3 => q v Hs3 H3 ((g1.trans g2).trans g3) r3⟩⟩
theorem op2N (ho : OpN K r g) : ∀ σ H Q, tN K (f2 g fa fb) σ H Q → tOp r (tF K fa) (tF K fb) σ H Q := fun σ H Q ⟨B, Hs, ev, t, R, hf, q⟩ => by
  obtain ⟨d, h1, hf⟩ := bind_some hf
  obtain ⟨e, h2, hf⟩ := bind_some hf
  exact ⟨B, Hs, ev, d, R, h1, fun x Hs1 H1 g1 r1 => ⟨B, Hs1, ev, e, R.to g1, h2, fun y Hs2 H2 g2 r2 => ho Hs2 H2 x y d e t g2.ok (r1.mono g2.s) r2 hf Q fun v H3 s3 r3 =>
    q v H3 ((g1.h.trans g2.h).trans s3) (r3.mono (Frs.back (g1.h.trans g2.h)))⟩⟩
theorem fe_op {op : Operator} (ho : OpR X (binaryOp op) r) (hr : OpD K r g) (ha : PE X a (tF K fa)) (hb : PE X b (tF K fb)) : PE X (.BinOp a op b pos) (tF K (f2 g fa fb)) := PE.by (pe_op ho ha hb) (op2D hr)
theorem fn_op {op : Operator} (ho : OpR X (binaryOp op) r) (hr : OpN K r g) (ha : PE X a (tF K fa)) (hb : PE X b (tF K fb)) : PE X (.BinOp a op b pos) (tN K (f2 g fa fb)) := PE.by (pe_op ho ha hb) (op2N hr)
theorem fe_cmp {op : CmpOp} (ho : OpR X (compareOp op) r) (hr : OpD K r g) (ha : PE X a (tF K fa)) (hb : PE X b (tF K fb)) (hm : behindInMarks op b = false) : PE X (.Compare a [op] [b] pos) (tF K (f2 g fa fb)) := PE.by (pe_cmpR ho ha hb hm) (op2D hr)
/-- the test of a value that is True or False -/
def fTest (f : Ev → Option T) : Ev → Option Bool := fun ev => match f ev with
  | some (.bl b) => some b
  | _ => none
theorem testF {f : Ev → Option T} : ∀ σ H Q, tT K (fTest f) σ H Q → tF K f σ H fun x H1 => ∃ c, x = .bl c ∧ Q c H1 := fun σ H Q ⟨B, Hs, ev, b, R, hf, q⟩ => by
  unfold fTest at hf
  cases h : f ev with
  | none => rw [h] at hf; cases hf
  | some t =>
    rw [h] at hf
    cases t with
    | bl c => cases hf; exact ⟨B, Hs, ev, _, R, h, fun v Hs' H' g r => by cases r; exact ⟨_, rfl, q Hs' H' g⟩⟩
    | _ => cases hf
theorem ft_cmp {op : CmpOp} (ho : OpR X (compareOp op) r) (hr : OpD K r g) (ha : PE X a (tF K fa)) (hb : PE X b (tF K fb)) (hm : behindInMarks op b = false) : PT X (.Compare a [op] [b] pos) (tT K (fTest (f2 g fa fb))) :=
  PT.by (pt_cmpR ho ha hb hm) fun σ H Q h => op2D hr _ _ _ (testF _ _ _ h)
theorem ft_val {f : Ev → Option T} (h : PE X e (tF K f)) (he : ∀ whole, isTrue e X.env whole = (do let v ← whole; standAt e.pos; holding [v] (truthy v)) := by intro _; rfl) : PT X e (tT K (fTest f)) := PT.by (pt_val h he) testF
def fAnd (f g : Ev → Option Bool) : Ev → Option Bool := fun ev => match f ev with
  | some true => g ev
  | some false => some false
  | none => none
def fOr (f g : Ev → Option Bool) : Ev → Option Bool := fun ev => match f ev with
  | some true => some true
  | some false => g ev
  | none => none
def fNot (f : Ev → Option Bool) : Ev → Option Bool := fun ev => (f ev).map fun b => !b
theorem ft_not {f : Ev → Option Bool} (h : PT X a (tT K f)) : PT X (.UnaryOp .Not a pos) (tT K (fNot f)) := PT.by (pt_not h) fun σ H Q ⟨B, Hs, ev, b, R, hf, q⟩ => by
  unfold fNot at hf
  cases hb : f ev with
  | none => rw [hb] at hf; cases hf
  | some c => rw [hb] at hf; cases hf; exact ⟨B, Hs, ev, c, R, hb, fun Hs' H' g => q Hs' H' g⟩
theorem fw_and1 {f : Ev → Option Bool} (h : PT X a (tT K f)) : PW X (.BoolOp .And [a] pos) (tT K f) := pw_and1 h
theorem fw_or1 {f : Ev → Option Bool} (h : PT X a (tT K f)) : PW X (.BoolOp .Or [a] pos) (tT K f) := pw_or1 h
theorem fw_and {f g : Ev → Option Bool} {rest : List Expr} (ha : PT X a (tT K f)) (hb : PW X (.BoolOp .And (b :: rest) pos) (tT K g)) : PW X (.BoolOp .And (a :: b :: rest) pos) (tT K (fAnd f g)) := PW.by (pw_and ha hb) fun σ H Q ⟨B, Hs, ev, c, R, hf, q⟩ => by
  unfold fAnd at hf
  cases h : f ev with
  | none => rw [h] at hf; cases hf
  | some d =>
    rw [h] at hf
    refine ⟨B, Hs, ev, d, R, h, fun Hs' H' gr => ?_⟩
    cases d with
    | true => exact ⟨B, Hs', ev, c, R.to gr, hf, fun Hs2 H2 g2 => q Hs2 H2 (gr.trans g2)⟩
    | false => cases hf; exact q Hs' H' gr
theorem fw_or {f g : Ev → Option Bool} {rest : List Expr} (ha : PT X a (tT K f)) (hb : PW X (.BoolOp .Or (b :: rest) pos) (tT K g)) : PW X (.BoolOp .Or (a :: b :: rest) pos) (tT K (fOr f g)) := PW.by (pw_or ha hb) fun σ H Q ⟨B, Hs, ev, c, R, hf, q⟩ => by
  unfold fOr at hf
  cases h : f ev with
  | none => rw [h] at hf; cases hf
  | some d =>
    rw [h] at hf
    refine ⟨B, Hs, ev, d, R, h, fun Hs' H' gr => ?_⟩
    cases d with
    | false => exact ⟨B, Hs', ev, c, R.to gr, hf, fun Hs2 H2 g2 => q Hs2 H2 (gr.trans g2)⟩
    | true => cases hf; exact q Hs' H' gr
/-- .. as values -/
def fAndV (f g : Ev → Option T) : Ev → Option T := fun ev => match f ev with
  | some (.bl true) => g ev
  | some (.bl false) => some (.bl false)
  | _ => none
def fOrV (f g : Ev → Option T) : Ev → Option T := fun ev => match f ev with
  | some (.bl true) => some (.bl true)
  | some (.bl false) => g ev
  | _ => none
def fNotV (f : Ev → Option T) : Ev → Option T := fun ev => match f ev with
  | some (.bl b) => some (.bl (!b))
  | _ => none
theorem fe_one {op : BoolOp} {f : Ev → Option T} (h : PE X a (tF K f)) : PE X (.BoolOp op [a] pos) (tF K f) := pe_one h
theorem fe_and {f g : Ev → Option T} {rest : List Expr} (ha : PE X a (tF K f)) (hb : PE X (.BoolOp .And (b :: rest) pos) (tF K g)) : PE X (.BoolOp .And (a :: b :: rest) pos) (tF K (fAndV f g)) := PE.by (pe_and ha hb) fun σ H Q ⟨B, Hs, ev, c, R, hf, q⟩ => by
  unfold fAndV at hf
  cases h : f ev with
  | none => rw [h] at hf; cases hf
  | some d =>
    rw [h] at hf
    cases d with
    | bl d =>
      refine ⟨B, Hs, ev, _, R, h, fun v Hs' H' gr rp => ?_⟩
      cases rp
      refine ⟨d, rfl, ?_⟩
      cases d with
      | true => exact ⟨B, Hs', ev, c, R.to gr, hf, fun w Hs2 H2 g2 r2 => q w Hs2 H2 (gr.trans g2) r2⟩
      | false => cases hf; exact q _ Hs' H' gr (.bl false)
    | _ => cases hf
theorem fe_or {f g : Ev → Option T} {rest : List Expr} (ha : PE X a (tF K f)) (hb : PE X (.BoolOp .Or (b :: rest) pos) (tF K g)) : PE X (.BoolOp .Or (a :: b :: rest) pos) (tF K (fOrV f g)) := PE.by (pe_or ha hb) fun σ H Q ⟨B, Hs, ev, c, R, hf, q⟩ => by
  unfold fOrV at hf
  cases h : f ev with
  | none => rw [h] at hf; cases hf
  | some d =>
    rw [h] at hf
    cases d with
    | bl d =>
      refine ⟨B, Hs, ev, _, R, h, fun v Hs' H' gr rp => ?_⟩
      cases rp
      refine ⟨d, rfl, ?_⟩
      cases d with
      | false => exact ⟨B, Hs', ev, c, R.to gr, hf, fun w Hs2 H2 g2 r2 => q w Hs2 H2 (gr.trans g2) r2⟩
      | true => cases hf; exact q _ Hs' H' gr (.bl true)
    | _ => cases hf
theorem fe_not {f : Ev → Option T} (ha : PE X a (tF K f)) : PE X (.UnaryOp .Not a pos) (tF K (fNotV f)) := PE.by (pe_not ha) fun σ H Q ⟨B, Hs, ev, c, R, hf, q⟩ => by
  unfold fNotV at hf
  cases h : f ev with
  | none => rw [h] at hf; cases hf
  | some d =>
    rw [h] at hf
    cases d with
    | bl d =>
      refine ⟨B, Hs, ev, _, R, h, fun v Hs' H' gr rp => ?_⟩
      cases rp
      cases hf
      exact ⟨d, rfl, q _ Hs' H' gr (.bl _)⟩
    | _ => cases hf
/-- a < b <= c -/
def fChain (g g' : T → T → Option T) (fa fb fc : Ev → Option T) : Ev → Option T := fun ev => (fa ev).bind fun d => (fb ev).bind fun e => match g d e with
  | some (.bl true) => (fc ev).bind fun c => g' e c
  | some (.bl false) => some (.bl false)
  | _ => none
theorem fa_nil : PA X [] (tA K fNil) := PA.by pa_nil fun σ H Q ⟨B, Hs, ev, c, R, hf, q⟩ => by cases hf; exact q [] Hs H (Gr.refl R.bd.ok) .nil
theorem fa_cons (ha : PE X e (tF K fa)) (hr : PA X es (tA K fs)) (hs : starEach (e :: es) X.env = (false, eval e X.env) :: starEach es X.env := by rfl) : PA X (e :: es) (tA K (fCons fa fs)) := PA.by (pa_cons ha hr hs) fun σ H Q ⟨B, Hs, ev, c, R, hf, q⟩ => by
  obtain ⟨d, h1, hf⟩ := bind_some hf
  obtain ⟨ds, h2, hf⟩ := bind_some hf
  cases hf
  exact ⟨B, Hs, ev, d, R, h1, fun x Hs1 H1 g1 r1 => ⟨B, Hs1, ev, ds, R.to g1, h2, fun xs Hs2 H2 g2 r2 => q _ Hs2 H2 (g1.trans g2) (.cons (r1.mono g2.s) r2)⟩⟩
theorem callD {r : List V → Hp → VK → Prop} {g : List T → Option T} (hr : CallD K r g) : ∀ σ H Q, tF K (fC g fs) σ H Q → tCB r (tA K fs) σ H Q := fun σ H Q ⟨B, Hs, ev, c, R, hf, q⟩ => by
  obtain ⟨ds, h1, hf⟩ := bind_some hf
  exact ⟨B, Hs, ev, ds, R, h1, fun vs Hs1 H1 g1 r1 => hr Hs1 H1 vs ds c g1.ok r1 hf Q fun v Hs2 H2 g2 r2 => q v Hs2 H2 (g1.trans g2) r2⟩
theorem callN {r : List V → Hp → VK → Prop} {g : List T → Option T} (hr : CallN K r g) : ∀ σ H Q, tN K (fC g fs) σ H Q → tCB r (tA K fs) σ H Q := fun σ H Q ⟨B, Hs, ev, c, R, hf, q⟩ => by
  obtain ⟨ds, h1, hf⟩ := bind_some hf
  exact ⟨B, Hs, ev, ds, R, h1, fun vs Hs1 H1 g1 r1 => hr Hs1 H1 vs ds c g1.ok r1 hf Q fun v H2 s2 r2 => q v H2 (g1.h.trans s2) (r2.mono (Frs.back g1.h))⟩
section
variable {r : List V → Hp → VK → Prop} {g : List T → Option T} {id Ty : String}
theorem fe_callB (hc : CallR X (.builtin id) r) (hr : CallD K r g) (hg : Gl X x) (hm : X.mg x = none) (hv : bootBuiltins x = some (.builtin id)) (ha : PA X (e :: es) (tA K fs)) (hn : x ≠ "__name__" := by decide) (hdb : (x == ("__debug__" : Str)) = false := by decide)
    (he : starEach (e :: es) X.env = (false, eval e X.env) :: starEach es X.env := by rfl) (hpl : (backTo pos (starEach es X.env)).any (·.1) = false := by rfl) : PE X (.Call (.Name x p) (e :: es) [] pos) (tF K (fC g fs)) :=
  PE.by (pe_callB hc hg hm hv ha hn hdb he hpl) (callD hr)
theorem fn_callB (hc : CallR X (.builtin id) r) (hr : CallN K r g) (hg : Gl X x) (hm : X.mg x = none) (hv : bootBuiltins x = some (.builtin id)) (ha : PA X (e :: es) (tA K fs)) (hn : x ≠ "__name__" := by decide) (hdb : (x == ("__debug__" : Str)) = false := by decide)
    (he : starEach (e :: es) X.env = (false, eval e X.env) :: starEach es X.env := by rfl) (hpl : (backTo pos (starEach es X.env)).any (·.1) = false := by rfl) : PE X (.Call (.Name x p) (e :: es) [] pos) (tN K (fC g fs)) :=
  PE.by (pe_callB hc hg hm hv ha hn hdb he hpl) (callN hr)
theorem fe_callTy (hc : CallR X (.type Ty) r) (hr : CallD K r g) (hg : Gl X x) (hm : X.mg x = none) (hv : bootBuiltins x = some (.type Ty)) (ha : PA X (e :: es) (tA K fs)) (hn : x ≠ "__name__" := by decide) (hdb : (x == ("__debug__" : Str)) = false := by decide)
    (he : starEach (e :: es) X.env = (false, eval e X.env) :: starEach es X.env := by rfl) (hpl : (backTo pos (starEach es X.env)).any (·.1) = false := by rfl) : PE X (.Call (.Name x p) (e :: es) [] pos) (tF K (fC g fs)) :=
  PE.by (pe_callTy hc hg hm hv ha hn hdb he hpl) (callD hr)
theorem fn_callTy (hc : CallR X (.type Ty) r) (hr : CallN K r g) (hg : Gl X x) (hm : X.mg x = none) (hv : bootBuiltins x = some (.type Ty)) (ha : PA X (e :: es) (tA K fs)) (hn : x ≠ "__name__" := by decide) (hdb : (x == ("__debug__" : Str)) = false := by decide)
    (he : starEach (e :: es) X.env = (false, eval e X.env) :: starEach es X.env := by rfl) (hpl : (backTo pos (starEach es X.env)).any (·.1) = false := by rfl) : PE X (.Call (.Name x p) (e :: es) [] pos) (tN K (fC g fs)) :=
  PE.by (pe_callTy hc hg hm hv ha hn hdb he hpl) (callN hr)
end
end
end Fx

namespace Fx
open PySem PySem.Spec L2
open PyProof.Rows hiding St

/-! ### statements -/
inductive Out where
  | nx (e : Ev) | rt (t : T) | rf (t : T) | bk (e : Ev) | ct (e : Ev) | ex (c : Str) (e : Ev)
def Post (K : PySem.W.Frag) (mg : Str → Option Value) (W : WX) (B : Bs) (Hs : Hp) (D : Ends) : Out → Prop
  | .nx e => ∀ σ' Hs' H', Same Hs Hs' → Rl K B Hs' H' σ' e → D.nx σ' H'
  | .bk e => ∀ σ' Hs' H', Same Hs Hs' → Rl K B Hs' H' σ' e → D.bk σ' H'
  | .ct e => ∀ σ' Hs' H', Same Hs Hs' → Rl K B Hs' H' σ' e → D.ct σ' H'
  | .rt t => ∀ v Hs' H', Same Hs Hs' → Bd B Hs' H' → Rp K Hs' v t → D.rt v H'
  | .rf t => ∀ v Hs' H', Same Hs Hs' → Bd B Hs' H' → Rp K (Frs B.b H') v t → D.rt v H'
  | .ex c e => ∀ σ' Hs' H' cls, Same Hs Hs' → Rl K B Hs' H' σ' e → mg c = some cls → W cls none σ' H'
def tS (K : PySem.W.Frag) (mg : Str → Option Value) (W : WX) (F : Ev → Option Out) : TS := fun D σ H => ∃ B Hs ev o, Rl K B Hs H σ ev ∧ F ev = some o ∧ Post K mg W B Hs D o
section
variable {K : PySem.W.Frag} {mg : Str → Option Value} {W : WX} {B : Bs} {Hs Hs' H : Hp} {D D' : Ends} {o : Out}
theorem Post.to (h : Post K mg W B Hs D o) (s : Same Hs Hs') : Post K mg W B Hs' D o := by
  cases o with
  | nx e => exact fun σ' Hs2 H' s2 => h σ' Hs2 H' (s.trans s2)
  | bk e => exact fun σ' Hs2 H' s2 => h σ' Hs2 H' (s.trans s2)
  | ct e => exact fun σ' Hs2 H' s2 => h σ' Hs2 H' (s.trans s2)
  | rt t => exact fun v Hs2 H' s2 => h v Hs2 H' (s.trans s2)
  | rf t => exact fun v Hs2 H' s2 => h v Hs2 H' (s.trans s2)
  | ex c e => exact fun σ' Hs2 H' cls s2 => h σ' Hs2 H' cls (s.trans s2)
end
def fSeq (F G : Ev → Option Out) : Ev → Option Out := fun ev => match F ev with
  | some (.nx e) => G e
  | o => o
def fSkip : Ev → Option Out := fun ev => some (.nx ev)
def fIf (c : Ev → Option Bool) (F G : Ev → Option Out) : Ev → Option Out := fun ev => match c ev with
  | some true => F ev
  | some false => G ev
  | none => none
def fSet (i : Nat) (f : Ev → Option T) : Ev → Option Out := fun ev => (f ev).map fun t => .nx (ev.set i (.sh t))
def fSetOw (i : Nat) (f : Ev → Option T) : Ev → Option Out := fun ev => match f ev with
  | some (.lst ts) => if noLs ts then some (.nx (ev.set i (.ow ts))) else none
  | _ => none
def fRet (f : Ev → Option T) : Ev → Option Out := fun ev => (f ev).map .rt
def fRetF (f : Ev → Option T) : Ev → Option Out := fun ev => (f ev).map .rf
def fRaise (c : Str) : Ev → Option Out := fun ev => some (.ex c ev)
/-- the slot's list is given free ahead -/
def fFrz (i : Nat) (F : Ev → Option Out) : Ev → Option Out := fun ev => match ev[i]? with
  | some (.ow ts) => F (ev.set i (.sh (.lst ts)))
  | _ => none
def But (a : Addr) (H : Hp) : Hp := fun b => if b = a then none else H b
theorem Gr.but {Hs H H' : Hp} {a : Addr} {vs : List V} (k : Ok Hs H) (h : Same H H') (n : H a = none) (e : H' a = some (.lst vs)) : Gr Hs H (But a (Nxt Hs H H')) H' := by
  have g := Gr.nxt k h
  refine ⟨fun b o q => ?_, h, fun b o q => ?_, ⟨fun b o q => ?_, fun b o q c => ?_⟩⟩
  · unfold But; rw [if_neg (ne_of_none (k.sub _ _ q) n)]; exact g.s _ _ q
  · unfold But; rw [if_neg (ne_of_none q n)]; exact g.n _ _ q
  · unfold But at q
    by_cases hb : b = a
    · rw [if_pos hb] at q; cases q
    · rw [if_neg hb] at q; exact g.ok.sub _ _ q
  · unfold But
    rw [if_neg (fun z => by rw [z, e] at q; cases q; cases c)]
    exact g.ok.cst _ _ q c

section
variable {X : Cx} {K : PySem.W.Frag} {mg : Str → Option Value} {W : WX} {st : Stmt} {rest : List Stmt} {e : Expr} {F G : Ev → Option Out} {f : Ev → Option T} {c : Expr} {fc : Ev → Option Bool} {pos : Pos} {x : Str}
theorem PS.by {t t' : TS} (h : PS X st t) (i : ∀ D σ H, t' D σ H → t D σ H) : PS X st t' := ⟨fun pins s σ H D I hw => h.run pins s σ H D I (i D σ H hw)⟩
theorem PSs.by {t t' : TS} (h : PSs X rest t) (i : ∀ D σ H, t' D σ H → t D σ H) : PSs X rest t' := ⟨fun pins s σ H D I hw => h.run pins s σ H D I (i D σ H hw)⟩
theorem fs_nil : PSs X [] (tS K mg W fSkip) := PSs.by pss_nil fun D σ H ⟨B, Hs, ev, o, R, hf, q⟩ => by
  cases hf
  exact q σ Hs H (Same.refl _) R
theorem fs_cons (h1 : PS X st (tS K mg W F)) (h2 : PSs X rest (tS K mg W G)) : PSs X (st :: rest) (tS K mg W (fSeq F G)) := PSs.by (pss_cons h1 h2) fun D σ H ⟨B, Hs, ev, o, R, hf, q⟩ => by
  unfold fSeq at hf
  cases h : F ev with
  | none => rw [h] at hf; cases hf
  | some p =>
    rw [h] at hf
    refine ⟨B, Hs, ev, p, R, h, ?_⟩
    cases p with
    | nx e' => exact fun σ' Hs' H' ss R' => ⟨B, Hs', e', o, R', hf, q.to ss⟩
    | _ => cases hf; exact q
theorem fs_one (h1 : PS X st (tS K mg W F)) : PSs X [st] (tS K mg W F) := pss_one h1
theorem fs_pass : PS X (.Pass pos) (tS K mg W fSkip) := PS.by ps_pass fun D σ H ⟨B, Hs, ev, o, R, hf, q⟩ => by
  cases hf
  exact q σ Hs H (Same.refl _) R
theorem fs_if {a b : List Stmt} (hc : PT X c (tT K fc)) (ha : PSs X a (tS K mg W F)) (hb : PSs X b (tS K mg W G)) : PS X (.If c a b pos) (tS K mg W (fIf fc F G)) := PS.by (ps_if hc ha hb) fun D σ H ⟨B, Hs, ev, o, R, hf, q⟩ => by
  unfold fIf at hf
  cases h : fc ev with
  | none => rw [h] at hf; cases hf
  | some b =>
    rw [h] at hf
    refine ⟨B, Hs, ev, b, R, h, fun Hs' H' g => ?_⟩
    cases b with
    | true => exact ⟨B, Hs', ev, o, R.to g, hf, q.to g.s⟩
    | false => exact ⟨B, Hs', ev, o, R.to g, hf, q.to g.s⟩
theorem asgD (i : Nat) : ∀ D σ H, tS K mg W (fSet i f) D σ H → tAsg (tF K f) (gName i) D σ H := fun D σ H ⟨B, Hs, ev, o, R, hf, q⟩ => by
  unfold fSet at hf
  cases h : f ev with
  | none => rw [h] at hf; cases hf
  | some t =>
    rw [h] at hf
    cases hf
    exact ⟨B, Hs, ev, t, R, h, fun v Hs' H' g r => q _ Hs' H' g.s ((R.to g).set r i)⟩
theorem asgN (i : Nat) : ∀ D σ H, tS K mg W (fSetOw i f) D σ H → tAsg (tN K f) (gName i) D σ H := fun D σ H ⟨B, Hs, ev, o, R, hf, q⟩ => by
  unfold fSetOw at hf
  cases h : f ev with
  | none => rw [h] at hf; cases hf
  | some t =>
    rw [h] at hf
    cases t with
    | lst ts =>
      dsimp only at hf
      split at hf
      · rename_i hz
        cases hf
        refine ⟨B, Hs, ev, _, R, h, fun v H' s r => ?_⟩
        cases r with
        | lst e r =>
          rename_i a vs
          have e1 := Frs.sub _ _ e
          have n1 : H a = none := by
            unfold Frs at e
            rw [e1] at e
            cases z : H a with
            | none => rfl
            | some y => rw [z] at e; cases e
          have g := Gr.but R.bd.ok s n1 e1
          refine q _ _ H' g.s (R.put (R.bd.to g) g.s (some (.ref a)) (fun y => decide (y = a)) (fun y z => ?_) (fun lab l1 _ y j l _ => ?_) ⟨a, vs, rfl, by simp, e1, ?_⟩)
          · have z := of_decide_eq_true z
            subst z
            exact ⟨R.bd.h.free n1, by unfold But; rw [if_pos rfl], _, e1⟩
          · obtain ⟨_, z, y', q'⟩ := l1 y j l
            have hy : y ≠ a := fun e => by rw [e, n1] at q'; cases q'
            refine ⟨decide_eq_false hy, (g.n _ _ q').trans z, fun _ q => s _ _ q⟩
          · refine r.flat (fun b xs q => ?_) hz
            refine g.ok.cst _ _ (Frs.sub _ _ q) rfl
      · cases hf
    | _ => cases hf
theorem fs_set (i : Nat) {pos' : Pos} (hN : X.N.Nodup) (he : PE X e (tF K f)) (hi : X.N[i]? = some x := by rfl) (hx : Loc X.env.scope x := by first | exact Or.inl rfl | exact Or.inr rfl) (hs : swapsWith e (some (.Name x pos')) pos.line X.env = pure false := by rfl)
    (hf : X.fn x = true ∨ X.env.scope.names.lookup x = some .local := by first | exact .inl rfl | exact .inr rfl) : PS X (.Assign [.Name x pos'] e pos) (tS K mg W (fSet i f)) := PS.by (ps_set hN hi hx he hs hf) (asgD i)
theorem fs_setOw (i : Nat) {pos' : Pos} (hN : X.N.Nodup) (he : PE X e (tN K f)) (hi : X.N[i]? = some x := by rfl) (hx : Loc X.env.scope x := by first | exact Or.inl rfl | exact Or.inr rfl) (hs : swapsWith e (some (.Name x pos')) pos.line X.env = pure false := by rfl)
    (hf : X.fn x = true ∨ X.env.scope.names.lookup x = some .local := by first | exact .inl rfl | exact .inr rfl) : PS X (.Assign [.Name x pos'] e pos) (tS K mg W (fSetOw i f)) := PS.by (ps_set hN hi hx he hs hf) (asgN i)
theorem fs_ret (he : PE X e (tF K f)) : PS X (.Return (some e) pos) (tS K mg W (fRet f)) := PS.by (ps_ret he) fun D σ H ⟨B, Hs, ev, o, R, hf, q⟩ => by
  unfold fRet at hf
  cases h : f ev with
  | none => rw [h] at hf; cases hf
  | some t =>
    rw [h] at hf
    cases hf
    exact ⟨B, Hs, ev, t, R, h, fun v Hs' H' g r => q v Hs' H' g.s (R.bd.to g) r⟩
theorem fs_retF (he : PE X e (tN K f)) : PS X (.Return (some e) pos) (tS K mg W (fRetF f)) := PS.by (ps_ret he) fun D σ H ⟨B, Hs, ev, o, R, hf, q⟩ => by
  unfold fRetF at hf
  cases h : f ev with
  | none => rw [h] at hf; cases hf
  | some t =>
    rw [h] at hf
    cases hf
    refine ⟨B, Hs, ev, t, R, h, fun v H' s r => ?_⟩
    have g := Gr.nxt R.bd.ok s
    exact q v _ H' g.s (R.bd.to g) (r.mono (Frs.back R.bd.h))
theorem fs_break : PS X (.Break pos) (tS K mg W fun ev => some (.bk ev)) := PS.by ps_break fun D σ H ⟨B, Hs, ev, o, R, hf, q⟩ => by
  cases hf
  exact q σ Hs H (Same.refl _) R
theorem fs_continue : PS X (.Continue pos) (tS K mg W fun ev => some (.ct ev)) := PS.by ps_continue fun D σ H ⟨B, Hs, ev, o, R, hf, q⟩ => by
  cases hf
  exact q σ Hs H (Same.refl _) R
theorem fs_frz (i : Nat) (h : PS X st (tS K mg W F)) : PS X st (tS K mg W (fFrz i F)) := PS.by h fun D σ H ⟨B, Hs, ev, o, R, hf, q⟩ => by
  unfold fFrz at hf
  cases h : ev[i]? with
  | none => rw [h] at hf; cases hf
  | some s =>
    rw [h] at hf
    cases s with
    | ow ts =>
      obtain ⟨Hs', ss, R'⟩ := R.frz h
      exact ⟨B, Hs', _, o, R', hf, q.to ss⟩
    | _ => cases hf
/-- an expression whose value is dropped -/
def fDrop (f : Ev → Option T) : Ev → Option Out := fun ev => (f ev).map fun _ => .nx ev
theorem fs_expr (he : PE X e (tF K f)) (hs : swapsWith e none pos.line X.env = pure false := by rfl) : PS X (.Expr e pos) (tS K mg W (fDrop f)) := PS.by (ps_expr he hs) fun D σ H ⟨B, Hs, ev, o, R, hf, q⟩ => by
  unfold fDrop at hf
  cases h : f ev with
  | none => rw [h] at hf; cases hf
  | some t =>
    rw [h] at hf
    cases hf
    exact ⟨B, Hs, ev, t, R, h, fun v Hs' H' g r => q _ Hs' H' g.s (R.to g)⟩
/-! ### a slot's own list: append, pop, an item stored -/
def fApp (i : Nat) (f : Ev → Option T) : Ev → Option Out := fun ev => match ev[i]?, f ev with
  | some (.ow ts), some t => if noL t && decide (ts.length < sizeLine) then some (.nx (ev.set i (.ow (ts ++ [t])))) else none
  | _, _ => none
theorem Rl.at_ow {K : PySem.W.Frag} {B : Bs} {Hs H : Hp} {σ : St} {ev : Ev} {i : Nat} {ts : List T} (R : Rl K B Hs H σ ev) (he : ev[i]? = some (.ow ts)) : ∃ a vs, σ[i]? = some (some (.ref a)) ∧ H a = some (.lst vs) ∧ Rps K Hs vs ts := by
  obtain ⟨a, vs, h1, h2, h3, _⟩ := R.mutOw (us := []) he
  exact ⟨a, vs, h1, h2, h3⟩
theorem fs_app (i : Nat) {e : Expr} {p apos cpos : Pos} (hN : X.N[i]? = some x := by rfl) (he : PE X e (tF K f)) (hv : Vis X.env.scope x := by first | exact Or.inl rfl | exact Or.inr (Or.inl rfl) | exact Or.inr (Or.inr rfl)) (hd : (x == ("__debug__" : Str)) = false := by decide)
    (hcd : (x == ("__classdict__" : Str)) = false := by decide)
    (hbase : attributeBase (.Name x p) "append" X.env (eval (.Name x p) X.env) = eval (.Name x p) X.env := by rfl)
    (hfew : ((backTo cpos (starEach [e] X.env)).all (fun x => !x.1) && (backToKw cpos (keywordEach [] X.env)).all (fun x => x.1.isSome)
      && decide ([e].length + ([] : List Keyword).length + (if ([] : List Keyword).isEmpty then 0 else 1) < 30)) = true := by rfl)
    (hline : (apos.endLine == cpos.line) = true := by rfl) (hs : starEach [e] X.env = (false, eval e X.env) :: starEach [] X.env := by rfl) (hplain : (backTo cpos (starEach [] X.env)).any (·.1) = false := by rfl)
    (hsw : swapsWith (.Call (.Attribute (.Name x p) "append" apos) [e] [] cpos) none pos.line X.env = pure false := by rfl) :
    PS X (.Expr (.Call (.Attribute (.Name x p) "append" apos) [e] [] cpos) pos) (tS K mg W (fApp i f)) :=
  PS.by (ps_expr (pe_bm PySem.F.plainAttrs_list PySem.F.slot_list_append PySem.F.type_list_append mt_append (pe_var (i := i) hN hv hd hcd) (pa_cons he pa_nil hs) hbase hfew hline hs hplain) hsw) fun D σ H ⟨B, Hs, ev, o, R, hf, q⟩ => by
    unfold fApp at hf
    cases h : ev[i]? with
    | none => rw [h] at hf; cases hf
    | some s =>
      rw [h] at hf
      cases s with
      | ow ts =>
        cases h2 : f ev with
        | none => rw [h2] at hf; cases hf
        | some t =>
          rw [h2] at hf
          dsimp only at hf
          split at hf
          · rename_i hz
            rw [Bool.and_eq_true, decide_eq_true_eq] at hz
            cases hf
            obtain ⟨a, vs, e1, e2, e3⟩ := R.at_ow h
            refine ⟨.ref a, e1, .inl ⟨rfl, _, SqL.of e2⟩, B, Hs, ev, t, R, h2, fun v Hs' H' g r => ?_⟩
            have R' := R.to g
            obtain ⟨a', vs', e1', e2', e3', m⟩ := R'.mutOw (us := ts ++ [t]) h
            rw [e1] at e1'
            cases e1'
            refine ⟨a, vs', v, rfl, rfl, e2', by rw [e3'.length]; exact hz.2, ?_⟩
            exact q _ Hs' _ g.s (m _ (e3'.append (.cons r .nil)))
          · cases hf
      | _ => cases hf
def fPop (i : Nat) : Ev → Option Out := fun ev => match ev[i]? with
  | some (.ow ts) => if ts.isEmpty then none else some (.nx (ev.set i (.ow ts.dropLast)))
  | _ => none
theorem fs_pop (i : Nat) {p apos cpos : Pos} (hN : X.N[i]? = some x := by rfl) (hv : Vis X.env.scope x := by first | exact Or.inl rfl | exact Or.inr (Or.inl rfl) | exact Or.inr (Or.inr rfl)) (hd : (x == ("__debug__" : Str)) = false := by decide)
    (hcd : (x == ("__classdict__" : Str)) = false := by decide)
    (hbase : attributeBase (.Name x p) "pop" X.env (eval (.Name x p) X.env) = eval (.Name x p) X.env := by rfl)
    (hline : (apos.endLine == cpos.line) = true := by rfl)
    (hsw : swapsWith (.Call (.Attribute (.Name x p) "pop" apos) [] [] cpos) none pos.line X.env = pure false := by rfl) :
    PS X (.Expr (.Call (.Attribute (.Name x p) "pop" apos) [] [] cpos) pos) (tS K mg W (fPop i)) :=
  PS.by (ps_expr (pe_bm0 PySem.F.plainAttrs_list PySem.F.slot_list_pop PySem.F.type_list_pop mt_pop (pe_var (i := i) hN hv hd hcd) hbase hline) hsw) fun D σ H ⟨B, Hs, ev, o, R, hf, q⟩ => by
    unfold fPop at hf
    cases h : ev[i]? with
    | none => rw [h] at hf; cases hf
    | some s =>
      rw [h] at hf
      cases s with
      | ow ts =>
        dsimp only at hf
        cases hz : ts.isEmpty with
        | true => rw [hz] at hf; cases hf
        | false =>
          rw [hz] at hf
          cases hf
          obtain ⟨a, vs, e1, e2, e3, m⟩ := R.mutOw (us := ts.dropLast) h
          have hl : 0 < vs.length := by
            rw [e3.length]
            cases ts with
            | nil => cases hz
            | cons _ _ => exact Nat.zero_lt_succ _
          refine ⟨.ref a, e1, .inl ⟨rfl, _, SqL.of e2⟩, a, vs, vs[vs.length - 1], rfl, rfl, e2, List.getElem?_eq_getElem (by omega), ?_⟩
          exact q _ Hs _ (Same.refl _) (m _ e3.dropLast)
      | _ => cases hf
end

/-! ### a list that may be read now: a slot's own, or one that stays -/
def tL (K : PySem.W.Frag) (f : Ev → Option (List T)) : TE := fun σ H Q => ∃ B Hs ev ts, Rl K B Hs H σ ev ∧ f ev = some ts ∧ ∀ a vs Hs' H', Gr Hs H Hs' H' → H' a = some (.lst vs) → Rps K Hs' vs ts → Q (.ref a) H'
def fOw (i : Nat) : Ev → Option (List T) := fun ev => match ev[i]? with
  | some (.ow ts) => some ts
  | _ => none
def fLst (f : Ev → Option T) : Ev → Option (List T) := fun ev => match f ev with
  | some (.lst ts) => some ts
  | _ => none
def atT (ts : List T) (i : Int) : Option T := (ixN ts.length i).bind fun j => ts[j]?
theorem atI_of {K : PySem.W.Frag} {H : Hp} {vs : List V} {ts : List T} {i : Int} {t : T} (r : Rps K H vs ts) (h : atT ts i = some t) : ∃ v, atI vs i = some v ∧ Rp K H v t := by
  unfold atT at h
  unfold atI
  rw [r.length]
  cases e : ixN ts.length i with
  | none => rw [e] at h; cases h
  | some j =>
    rw [e] at h
    exact r.get h
def fIxL (fl : Ev → Option (List T)) (fi : Ev → Option T) : Ev → Option T := fun ev => match fl ev, fi ev with
  | some ts, some (.int i) => atT ts i
  | _, _ => none
def fLenL (fl : Ev → Option (List T)) : Ev → Option T := fun ev => (fl ev).map fun ts => .int ts.length
section
variable {X : Cx} {K : PySem.W.Frag} {e b : Expr} {f fi : Ev → Option T} {fl : Ev → Option (List T)} {pos p : Pos} {x : Str}
theorem fl_of (h : PE X e (tF K f)) : PE X e (tL K (fLst f)) := PE.by h fun σ H Q ⟨B, Hs, ev, ts, R, hf, q⟩ => by
  unfold fLst at hf
  cases h : f ev with
  | none => rw [h] at hf; cases hf
  | some t =>
    rw [h] at hf
    cases t with
    | lst us =>
      cases hf
      refine ⟨B, Hs, ev, _, R, h, fun v Hs' H' g r => ?_⟩
      cases r with
      | lst e r => exact q _ _ Hs' H' g (g.ok.sub _ _ e) r
    | _ => cases hf
theorem fl_ow (i : Nat) (hN : X.N[i]? = some x := by rfl) (hv : Vis X.env.scope x := by first | exact Or.inl rfl | exact Or.inr (Or.inl rfl) | exact Or.inr (Or.inr rfl)) (hd : (x == ("__debug__" : Str)) = false := by decide)
    (hcd : (x == ("__classdict__" : Str)) = false := by decide) : PE X (.Name x pos) (tL K (fOw i)) := PE.by (pe_var (i := i) hN hv hd hcd) fun σ H Q ⟨B, Hs, ev, ts, R, hf, q⟩ => by
  unfold fOw at hf
  cases hs : ev[i]? with
  | none => rw [hs] at hf; cases hf
  | some s =>
    rw [hs] at hf
    cases s with
    | ow us =>
      cases hf
      obtain ⟨a, vs, e1, e2, e3⟩ := R.at_ow hs
      exact ⟨.ref a, e1, q a vs Hs H (Gr.refl R.bd.ok) e2 e3⟩
    | _ => cases hf
theorem fe_ixL (ha : PE X e (tL K fl)) (hb : PE X b (tF K fi)) (hK : X.K = K := by rfl) (hs : PlainIx b := by exact fun _ _ => rfl) : PE X (.Subscript e b pos) (tF K (fIxL fl fi)) := by
  subst hK
  refine PE.by (pe_ix ix_list ha hb hs) fun σ H Q ⟨B, Hs, ev, t, R, hf, q⟩ => ?_
  unfold fIxL at hf
  cases h : fl ev with
  | none => rw [h] at hf; cases hf
  | some ts =>
    cases h2 : fi ev with
    | none => rw [h, h2] at hf; cases hf
    | some d =>
      rw [h, h2] at hf
      cases d with
      | int i =>
        refine ⟨B, Hs, ev, ts, R, h, fun a vs Hs' H' g ea r => ⟨B, Hs', ev, _, R.to g, h2, fun v Hs2 H2 g2 r2 => ?_⟩⟩
        cases r2
        obtain ⟨w, e1, e2⟩ := atI_of (r.mono g2.s) hf
        exact ⟨a, vs, i, w, rfl, rfl, SqL.of (g2.h _ _ ea), e1, q w Hs2 H2 (g.trans g2) e2⟩
      | _ => cases hf
theorem fe_lenL (hm : X.mg "len" = none) (ha : PE X e (tL K fl)) (hg : Gl X "len" := by rfl) (hK : X.K = K := by rfl)
    (he : starEach [e] X.env = (false, eval e X.env) :: starEach [] X.env := by rfl) (hpl : (backTo pos (starEach [] X.env)).any (·.1) = false := by rfl) : PE X (.Call (.Name "len" p) [e] [] pos) (tF K (fLenL fl)) := by
  subst hK
  refine PE.by (pe_callB call_len_seq hg hm PySem.boot_len (pa_cons ha pa_nil he) (by decide) (by decide) he hpl) fun σ H Q ⟨B, Hs, ev, t, R, hf, q⟩ => ?_
  unfold fLenL at hf
  cases h : fl ev with
  | none => rw [h] at hf; cases hf
  | some ts =>
    rw [h] at hf
    cases hf
    refine ⟨B, Hs, ev, ts, R, h, fun a vs Hs' H' g ea r => ⟨a, vs, rfl, .inl (SqL.of ea), ?_⟩⟩
    rw [r.length]
    exact q _ Hs' H' g (.int _)
end
end Fx

namespace Fx
open PySem PySem.Spec L2
open PyProof.Rows hiding St

/-! ### what a loop walks -/
def Yl (K : PySem.W.Frag) (J : It) (ds : List T) (Hs0 : Hp) : Prop := ∀ (i : Nat) (Hs H : Hp), Same Hs0 Hs → Ok Hs H →
  (i < ds.length → J.go i H) ∧ (i = ds.length → J.stop i H) ∧ ∀ x H', J.yld i H x H' → ∀ t, ds[i]? = some t → ∃ Hs', Gr Hs H Hs' H' ∧ Rp K Hs' x t
def tI (K : PySem.W.Frag) (f : Ev → Option (List T)) : TI := fun σ H R => ∃ B Hs ev ds, Rl K B Hs H σ ev ∧ f ev = some ds ∧ ∀ J Hs' H', Gr Hs H Hs' H' → Yl K J ds Hs' → R J H'
def fItems (f : Ev → Option T) : Ev → Option (List T) := fun ev => match f ev with
  | some (.lst ts) => some ts
  | some (.scr ns) => some (ns.map .int)
  | _ => none
def fTup (f : Ev → Option T) : Ev → Option (List T) := fun ev => match f ev with
  | some (.tup ts) => some ts
  | _ => none
def fSigns (f : Ev → Option T) : Ev → Option (List T) := fun ev => match f ev with
  | some (.str s) => some (s.cps.toList.map fun c => .str ⟨#[c]⟩)
  | _ => none
def irange (lo : Int) (n : Nat) : List T := (List.range n).map fun (i : Nat) => .int (lo + (i : Nat))
def irangeC (lo c : Int) (n : Nat) : List T := (List.range n).map fun (i : Nat) => .int (lo + (i : Nat) * c)
def fRng1 (fs : Ev → Option (List T)) : Ev → Option (List T) := fun ev => match fs ev with
  | some [.int j] => if -(2 ^ 62) ≤ j ∧ j < 2 ^ 62 then some (irange 0 j.toNat) else none
  | _ => none
def fRng2 (fs : Ev → Option (List T)) : Ev → Option (List T) := fun ev => match fs ev with
  | some [.int i, .int j] => if -(2 ^ 62) ≤ i ∧ i < 2 ^ 62 ∧ -(2 ^ 62) ≤ j ∧ j < 2 ^ 62 then some (irange i (j - i).toNat) else none
  | _ => none
instance (i j c : Int) (n : Nat) : Decidable (RgC i j c n) := by unfold RgC; infer_instance
def fRng3 (fs : Ev → Option (List T)) : Ev → Option (List T) := fun ev => match fs ev with
  | some [.int i, .int j, .int c] => if RgC i j c (Builtin.Range.rangeSize i j c).toNat then some (irangeC i c (Builtin.Range.rangeSize i j c).toNat) else none
  | _ => none
def fEnum (fs : Ev → Option (List T)) : Ev → Option (List T) := fun ev => match fs ev with
  | some [.lst ts] => some (ts.mapIdx fun i t => .tup [.int (i : Nat), t])
  | _ => none
def fZip (fs : Ev → Option (List T)) : Ev → Option (List T) := fun ev => match fs ev with
  | some [.lst ts, .lst us] => some (List.zipWith (fun t u => .tup [t, u]) ts us)
  | _ => none
section
variable {X : Cx} {K : PySem.W.Frag} {tg e e2 e3 iter : Expr} {f : Ev → Option T} {fs : Ev → Option (List T)} {p pos tpos : Pos} {elts : List Expr} {kk : Nat}
theorem PI.by {t t' : TI} (h : PI X tg iter t) (i : ∀ σ H R, t' σ H R → t σ H R) : PI X tg iter t' := ⟨fun pins s σ H R I hw => h.run pins s σ H R I (i σ H R hw)⟩
theorem yl_list {a : Addr} {vs : List V} {ts : List T} {Hs0 : Hp} (h : SqL K Hs0 a vs) (inj : ∀ H, Same Hs0 H → ∀ ys, SqL K H a ys → SqL K H a vs → True) (r : Rps K Hs0 vs ts) : Yl K (Itl K a) ts Hs0 := fun i Hs H ss ok => by
  have q : SqL K H a vs := Same.seq ok.sub (Same.seq ss h)
  refine ⟨fun hi => ?_, fun hi => ⟨vs, q, by rw [r.length]; exact Nat.le_of_eq hi.symm⟩, fun x H' y t ht => ?_⟩
  · obtain ⟨v, h1, _⟩ := r.get (List.getElem?_eq_getElem hi)
    exact ⟨vs, v, q, h1⟩
  · obtain ⟨rfl, y⟩ := y
    obtain ⟨v, h1, h2⟩ := r.get ht
    have e := y vs q
    rw [h1] at e
    cases e
    exact ⟨Hs, Gr.refl ok, h2.mono ss⟩
theorem fi_list (h : PE X e (tF K f)) (hK : X.K = K := by rfl) : PI X tg e (tI K (fItems f)) := by
  subst hK
  refine PI.by (pi_list h) fun σ H R ⟨B, Hs, ev, ds, Rr, hf, q⟩ => ?_
  unfold fItems at hf
  cases h : f ev with
  | none => rw [h] at hf; cases hf
  | some t =>
    rw [h] at hf
    cases t with
    | lst us =>
      cases hf
      refine ⟨B, Hs, ev, _, Rr, h, fun v Hs' H' g r => ?_⟩
      cases r with
      | lst e r => exact ⟨_, rfl, ⟨_, SqL.of (g.ok.sub _ _ e)⟩, q _ Hs' H' g (yl_list (SqL.of e) (fun _ _ _ _ _ => trivial) r)⟩
    | scr ns =>
      cases hf
      refine ⟨B, Hs, ev, _, Rr, h, fun v Hs' H' g r => ?_⟩
      cases r with
      | scr e => exact ⟨_, rfl, ⟨_, Same.seq g.ok.sub e⟩, q _ Hs' H' g (yl_list e (fun _ _ _ _ _ => trivial) (Rps.ofInts ns))⟩
    | _ => cases hf
theorem fi_tup (h : PE X e (tF K f)) (hK : X.K = K := by rfl) : PI X tg e (tI K (fTup f)) := by
  subst hK
  refine PI.by (pi_tup h) fun σ H R ⟨B, Hs, ev, ds, Rr, hf, q⟩ => ?_
  unfold fTup at hf
  cases h : f ev with
  | none => rw [h] at hf; cases hf
  | some t =>
    rw [h] at hf
    cases t with
    | tup us =>
      cases hf
      refine ⟨B, Hs, ev, _, Rr, h, fun v Hs' H' g r => ?_⟩
      cases r with
      | tup e r =>
        rename_i a vs
        refine ⟨_, rfl, ⟨_, SqT.of (g.ok.sub _ _ e)⟩, q _ Hs' H' g fun i Hs2 H2 ss ok => ?_⟩
        have z : SqT X.K H2 a vs := SqT.of (ok.sub _ _ (ss _ _ e))
        refine ⟨fun hi => ?_, fun hi => ⟨vs, z, by rw [r.length]; exact Nat.le_of_eq hi.symm⟩, fun x H' y t ht => ?_⟩
        · obtain ⟨v, h1, _⟩ := r.get (List.getElem?_eq_getElem hi)
          exact ⟨vs, v, z, h1⟩
        · obtain ⟨rfl, y⟩ := y
          obtain ⟨v, h1, h2⟩ := r.get ht
          have e := y vs z
          rw [h1] at e
          cases e
          exact ⟨Hs2, Gr.refl ok, h2.mono ss⟩
    | _ => cases hf
theorem fi_str (h : PE X e (tF K f)) : PI X tg e (tI K (fSigns f)) := PI.by (pi_str h) fun σ H R ⟨B, Hs, ev, ds, Rr, hf, q⟩ => by
  unfold fSigns at hf
  cases h : f ev with
  | none => rw [h] at hf; cases hf
  | some t =>
    rw [h] at hf
    cases t with
    | str s =>
      cases hf
      refine ⟨B, Hs, ev, _, Rr, h, fun v Hs' H' g r => ?_⟩
      cases r
      refine ⟨s, rfl, q _ Hs' H' g fun i Hs2 H2 ss ok => ⟨fun hi => ?_, fun hi => ?_, fun x H' y t ht => ?_⟩⟩
      · rw [List.length_map, Array.length_toList] at hi; exact hi
      · rw [List.length_map, Array.length_toList] at hi; exact Nat.le_of_eq hi.symm
      · obtain ⟨rfl, c, hc, rfl⟩ := y
        rw [List.getElem?_map, Array.getElem?_toList, hc] at ht
        cases ht
        exact ⟨Hs2, Gr.refl ok, .str _⟩
    | _ => cases hf
theorem yl_range {lo : Int} {n : Nat} {Hs0 : Hp} : Yl K (Itr lo n) (irange lo n) Hs0 := fun i Hs H ss ok => by
  have hl : (irange lo n).length = n := by unfold irange; rw [List.length_map, List.length_range]
  refine ⟨fun hi => by rw [hl] at hi; exact hi, fun hi => by rw [hl] at hi; exact Nat.le_of_eq hi.symm, fun x H' y t ht => ?_⟩
  obtain ⟨rfl, rfl⟩ := y
  have hi : i < n := by rw [← hl]; exact (List.getElem?_eq_some_iff.mp ht).1
  unfold irange at ht
  rw [List.getElem?_map, List.getElem?_range hi] at ht
  cases ht
  exact ⟨Hs, Gr.refl ok, .int _⟩
theorem yl_rangeC {lo c : Int} {n : Nat} {Hs0 : Hp} : Yl K (Itc lo c n) (irangeC lo c n) Hs0 := fun i Hs H ss ok => by
  have hl : (irangeC lo c n).length = n := by unfold irangeC; rw [List.length_map, List.length_range]
  refine ⟨fun hi => by rw [hl] at hi; exact hi, fun hi => by rw [hl] at hi; exact Nat.le_of_eq hi.symm, fun x H' y t ht => ?_⟩
  obtain ⟨rfl, rfl⟩ := y
  have hi : i < n := by rw [← hl]; exact (List.getElem?_eq_some_iff.mp ht).1
  unfold irangeC at ht
  rw [List.getElem?_map, List.getElem?_range hi] at ht
  cases ht
  exact ⟨Hs, Gr.refl ok, .int _⟩
theorem fi_range1 (hm : X.mg "range" = none) (ha : PA X [e] (tA K fs)) (hg : Gl X "range" := by rfl) (hs : starEach [e] X.env = [(false, eval e X.env)] := by rfl) : PI X tg (.Call (.Name "range" p) [e] [] pos) (tI K (fRng1 fs)) :=
  PI.by (pi_range1 hg hm ha hs) fun σ H R ⟨B, Hs, ev, ds, Rr, hf, q⟩ => by
    unfold fRng1 at hf
    split at hf
    · rename_i j h
      split at hf
      · rename_i hz
        cases hf
        refine ⟨B, Hs, ev, _, Rr, h, fun vs Hs' H' g r => ?_⟩
        cases r with
        | cons a r => cases r; cases a; exact ⟨j, rfl, hz.1, hz.2, q _ Hs' H' g yl_range⟩
      · cases hf
    · cases hf
theorem fi_range2 (hm : X.mg "range" = none) (ha : PA X [e, e2] (tA K fs)) (hg : Gl X "range" := by rfl) (hs : starEach [e, e2] X.env = [(false, eval e X.env), (false, eval e2 X.env)] := by rfl) (hs2 : starEach [e2] X.env = [(false, eval e2 X.env)] := by rfl) :
    PI X tg (.Call (.Name "range" p) [e, e2] [] pos) (tI K (fRng2 fs)) :=
  PI.by (pi_range2 hg hm ha hs hs2) fun σ H R ⟨B, Hs, ev, ds, Rr, hf, q⟩ => by
    unfold fRng2 at hf
    split at hf
    · rename_i i j h
      split at hf
      · rename_i hz
        cases hf
        refine ⟨B, Hs, ev, _, Rr, h, fun vs Hs' H' g r => ?_⟩
        cases r with
        | cons a r =>
          cases r with
          | cons b r => cases r; cases a; cases b; exact ⟨i, j, rfl, hz, q _ Hs' H' g yl_range⟩
      · cases hf
    · cases hf
theorem fi_enum (hm : X.mg "enumerate" = none) (ha : PA X [e] (tA K fs)) (hg : Gl X "enumerate" := by rfl) (hs : starEach [e] X.env = [(false, eval e X.env)] := by rfl) (hK : X.K = K := by rfl) :
    PI X (.Tuple elts kk tpos) (.Call (.Name "enumerate" p) [e] [] pos) (tI K (fEnum fs)) := by
  subst hK
  refine PI.by (pi_enum hg hm ha hs) fun σ H R ⟨B, Hs, ev, ds, Rr, hf, q⟩ => ?_
  unfold fEnum at hf
  split at hf
  · rename_i ts h
    cases hf
    refine ⟨B, Hs, ev, _, Rr, h, fun vs Hs' H' g r => ?_⟩
    cases r with
    | cons a r =>
      cases r
      cases a with
      | lst e r =>
        rename_i a vs
        refine ⟨a, vs, rfl, SqL.of (g.ok.sub _ _ e), q _ Hs' H' g fun i Hs2 H2 ss ok => ?_⟩
        have z : SqL X.K H2 a vs := SqL.of (ok.sub _ _ (ss _ _ e))
        have hl : (ts.mapIdx fun i t => T.tup [.int (i : Nat), t]).length = ts.length := List.length_mapIdx
        refine ⟨fun hi => ?_, fun hi => ⟨vs, z, by rw [r.length, ← hl]; exact Nat.le_of_eq hi.symm⟩, fun x H' y t ht => ?_⟩
        · rw [hl] at hi
          obtain ⟨v, h1, _⟩ := r.get (List.getElem?_eq_getElem hi)
          exact ⟨vs, v, z, h1⟩
        · obtain ⟨Tt, w, rfl, hT, rfl, y⟩ := y
          rw [List.getElem?_mapIdx] at ht
          cases hi : ts[i]? with
          | none => rw [hi] at ht; cases ht
          | some u =>
            rw [hi] at ht
            cases ht
            obtain ⟨v, h1, h2⟩ := r.get hi
            have e := y vs z
            rw [h1] at e
            cases e
            have g2 := Gr.new ok hT (o := .tup [.int (i : Nat), w])
            exact ⟨_, g2, .tup upd_same (.cons (.int _) (.cons ((h2.mono ss).mono g2.s) .nil))⟩
  · cases hf
theorem fi_zip (hm : X.mg "zip" = none) (ha : PA X [e, e2] (tA K fs)) (hg : Gl X "zip" := by rfl) (hK : X.K = K := by rfl)
    (hs : starEach [e, e2] X.env = (false, eval e X.env) :: starEach [e2] X.env := by rfl) (hpl : (backTo pos (starEach [e2] X.env)).any (·.1) = false := by rfl) :
    PI X (.Tuple elts kk tpos) (.Call (.Name "zip" p) [e, e2] [] pos) (tI K (fZip fs)) := by
  subst hK
  refine PI.by (pi_zip hg hm ha hs hpl) fun σ H R ⟨B, Hs, ev, ds, Rr, hf, q⟩ => ?_
  unfold fZip at hf
  split at hf
  · rename_i ts us h
    cases hf
    refine ⟨B, Hs, ev, _, Rr, h, fun vs Hs' H' g r => ?_⟩
    cases r with
    | cons a r =>
      cases r with
      | cons b r0 =>
        cases r0
        cases a with
        | lst ea ra =>
          cases b with
          | lst eb rb =>
            rename_i a vs b ws
            refine ⟨a, b, vs, ws, rfl, SqL.of (g.ok.sub _ _ ea), SqL.of (g.ok.sub _ _ eb), q _ Hs' H' g fun i Hs2 H2 ss ok => ?_⟩
            have za : SqL X.K H2 a vs := SqL.of (ok.sub _ _ (ss _ _ ea))
            have zb : SqL X.K H2 b ws := SqL.of (ok.sub _ _ (ss _ _ eb))
            refine ⟨fun hi => ?_, fun hi => ⟨vs, ws, za, zb, ?_⟩, fun x H' y t ht => ?_⟩
            · rw [List.length_zipWith] at hi
              obtain ⟨v, h1, _⟩ := ra.get (List.getElem?_eq_getElem (show i < ts.length by omega))
              obtain ⟨w, h2, _⟩ := rb.get (List.getElem?_eq_getElem (show i < us.length by omega))
              exact ⟨vs, ws, v, w, za, zb, h1, h2⟩
            · rw [List.length_zipWith] at hi
              rw [ra.length, rb.length]
              omega
            · obtain ⟨Tt, v, w, rfl, hT, rfl, y1, y2⟩ := y
              rw [List.getElem?_zipWith] at ht
              cases hi : ts[i]? with
              | none => rw [hi] at ht; cases ht
              | some t1 =>
                cases hj : us[i]? with
                | none => rw [hi, hj] at ht; cases ht
                | some t2 =>
                  rw [hi, hj] at ht
                  cases ht
                  obtain ⟨v', h1, h2⟩ := ra.get hi
                  obtain ⟨w', h3, h4⟩ := rb.get hj
                  have e1 := y1 vs za
                  have e2 := y2 ws zb
                  rw [h1] at e1
                  rw [h3] at e2
                  cases e1
                  cases e2
                  have g2 := Gr.new ok hT (o := .tup [v, w])
                  exact ⟨_, g2, .tup upd_same (.cons ((h2.mono ss).mono g2.s) (.cons ((h4.mono ss).mono g2.s) .nil))⟩
  · cases hf
end

/-! ### targets: a name; a pair of names -/
def b1 (i : Nat) : T → Ev → Option Ev := fun t ev => some (ev.set i (.sh t))
def b2 (i j : Nat) : T → Ev → Option Ev := fun t ev => match t with
  | .tup [t1, t2] => some ((ev.set i (.sh t1)).set j (.sh t2))
  | _ => none
/-- what a target's rule must say: where it stands among the slots -/
def TgD (K : PySem.W.Frag) (g : TG) (b : T → Ev → Option Ev) (is : List Nat) : Prop := ∀ B Hs H σ ev v t ev' (Q : L2.St → Hp → Prop), Rl K B Hs H σ ev → Rp K Hs v t → b t ev = some ev' →
  (∀ σ', Rl K B Hs H σ' ev' → (∀ k, k ∉ is → σ'[k]? = σ[k]?) → σ'.length = σ.length → Q σ' H) → g v σ H Q
theorem tg_1 {K : PySem.W.Frag} (i : Nat) : TgD K (gName i) (b1 i) [i] := fun B Hs H σ ev v t ev' Q R r hb q => by
  cases hb
  refine q _ (R.set r i) (fun k hk => List.getElem?_set_ne (fun e => hk (by simp [e]))) (List.length_set)
theorem tg_2 {K : PySem.W.Frag} (i j : Nat) : TgD K (gTup K 2 (gCons (gName i) (gCons (gName j) gNil))) (b2 i j) [i, j] := fun B Hs H σ ev v t ev' Q R r hb q => by
  unfold b2 at hb
  split at hb
  · cases hb
    cases r with
    | tup e r =>
      cases r with
      | cons r1 r =>
        cases r with
        | cons r2 r =>
          cases r
          refine ⟨_, _, rfl, SqT.of (R.bd.ok.sub _ _ e), rfl, _, _, rfl, _, _, rfl, rfl, ?_⟩
          refine q _ ((R.set r1 i).set r2 j) (fun k hk => ?_) (by rw [List.length_set, List.length_set])
          rw [List.getElem?_set_ne (fun e => hk (by simp [e])), List.getElem?_set_ne (fun e => hk (by simp [e]))]
  · cases hb

/-! ### for -/
def loopF (b : T → Ev → Option Ev) (F : Ev → Option Out) : List T → Ev → Option Out
  | [], ev => some (.nx ev)
  | t :: ts, ev => match b t ev with
    | none => none
    | some e1 => match F e1 with
      | some (.nx e2) => loopF b F ts e2
      | some (.ct e2) => loopF b F ts e2
      | some (.bk e2) => some (.nx e2)
      | o => o
def fFor (fi : Ev → Option (List T)) (b : T → Ev → Option Ev) (F : Ev → Option Out) : Ev → Option Out := fun ev => (fi ev).bind fun ts => loopF b F ts ev
theorem fs_for {X : Cx} {K : PySem.W.Frag} {mg : Str → Option Value} {W : WX} {tg iter : Expr} {body : List Stmt} {pos : Pos} {fi : Ev → Option (List T)} {g : TG} {b : T → Ev → Option Ev} {is : List Nat} {F : Ev → Option Out} (hp : PassesOwn (model X.prog X.w) X.A X.env X.xe) (hc : X.calm = true)
    (hi : PI X tg iter (tI K fi)) (hg : PG X tg g) (hb : TgD K g b is) (hbody : PSs X body (tS K mg W F)) (hs : ∀ x, foldedSetIterable iter X.env x = pure x := by intro _; rfl) : PS X (.For tg iter body [] pos) (tS K mg W (fFor fi b F)) :=
  PS.by (ps_for hp hc hi hg hbody hs) fun D σ H ⟨B, Hs, ev, o, R, hf, q⟩ => by
    obtain ⟨ds, h1, hf⟩ := bind_some hf
    refine ⟨B, Hs, ev, ds, R, h1, fun J Hs1 H1 g1 hy => ⟨fun i m σ H => m = ds.length - i ∧ i ≤ ds.length ∧ ∃ Hs2 ev2, Same Hs1 Hs2 ∧ Rl K B Hs2 H σ ev2 ∧ loopF b F (ds.drop i) ev2 = some o, ⟨ds.length, by simp, Nat.zero_le _, Hs1, ev, Same.refl _, R.to g1, hf⟩, ?_⟩⟩
    rintro i m σ2 H2 ⟨rfl, hi, Hs2, ev2, ss, R2, hl⟩
    obtain ⟨y1, y2, y3⟩ := hy i Hs2 H2 ss R2.bd.ok
    by_cases hlt : i < ds.length
    · refine .inr ⟨y1 hlt, fun σ' H' => ∃ Hs3 ev3, Same Hs1 Hs3 ∧ Rl K B Hs3 H' σ' ev3 ∧ loopF b F (ds.drop (i + 1)) ev3 = some o, fun σ' H' hN => ⟨ds.length - (i + 1), by omega, rfl, hlt, hN⟩, fun x H' yy => ?_⟩
      obtain ⟨Hs3, g3, r3⟩ := y3 x H' yy _ (List.getElem?_eq_getElem hlt)
      rw [List.drop_eq_getElem_cons hlt] at hl
      unfold loopF at hl
      cases hb1 : b ds[i] ev2 with
      | none => rw [hb1] at hl; cases hl
      | some e1 =>
        rw [hb1] at hl
        refine hb B Hs3 H' σ2 ev2 x _ e1 _ (R2.to g3) r3 hb1 fun σ4 R4 _ _ => ?_
        dsimp only at hl
        cases hF : F e1 with
        | none => rw [hF] at hl; cases hl
        | some p =>
          rw [hF] at hl
          have s3 : Same Hs1 Hs3 := ss.trans g3.s
          refine ⟨B, Hs3, e1, p, R4, hF, ?_⟩
          cases p with
          | nx e2 => exact fun σ5 Hs5 H5 s5 R5 => ⟨Hs5, e2, s3.trans s5, R5, hl⟩
          | ct e2 => exact fun σ5 Hs5 H5 s5 R5 => ⟨Hs5, e2, s3.trans s5, R5, hl⟩
          | bk e2 => cases hl; exact fun σ5 Hs5 H5 s5 R5 => q σ5 Hs5 H5 (g1.s.trans (s3.trans s5)) R5
          | rt t => cases hl; exact fun v Hs5 H5 s5 => q v Hs5 H5 (g1.s.trans (s3.trans s5))
          | rf t => cases hl; exact fun v Hs5 H5 s5 => q v Hs5 H5 (g1.s.trans (s3.trans s5))
          | ex c e2 => cases hl; exact fun σ5 Hs5 H5 cls s5 => q σ5 Hs5 H5 cls (g1.s.trans (s3.trans s5))
    · have e : i = ds.length := by omega
      subst e
      rw [List.drop_length] at hl
      cases hl
      exact .inl ⟨y2 rfl, q σ2 Hs2 H2 (g1.s.trans ss) R2⟩

/-! ### while: n turns at most -/
def whileF (c : Ev → Option Bool) (F : Ev → Option Out) : Nat → Ev → Option Out
  | 0, _ => none
  | n + 1, ev => match c ev with
    | none => none
    | some false => some (.nx ev)
    | some true => match F ev with
      | some (.nx e2) => whileF c F n e2
      | some (.ct e2) => whileF c F n e2
      | some (.bk e2) => some (.nx e2)
      | o => o
theorem fs_while {X : Cx} {K : PySem.W.Frag} {mg : Str → Option Value} {W : WX} {c : Expr} {body : List Stmt} {pos : Pos} {fc : Ev → Option Bool} {F : Ev → Option Out} (n : Nat) (hp : PassesOwn (model X.prog X.w) X.A X.env X.xe)
    (hc : PT X c (tT K fc)) (hb : PSs X body (tS K mg W F)) : PS X (.While c body [] pos) (tS K mg W (whileF fc F n)) :=
  PS.by (ps_while hp hc hb) fun D σ H ⟨B, Hs, ev, o, R, hf, q⟩ => by
    refine ⟨fun m σ2 H2 => ∃ Hs2 ev2, Same Hs Hs2 ∧ Rl K B Hs2 H2 σ2 ev2 ∧ whileF fc F m ev2 = some o, ⟨n, Hs, ev, Same.refl _, R, hf⟩, ?_⟩
    rintro m σ2 H2 ⟨Hs2, ev2, ss, R2, hw⟩
    cases m with
    | zero => cases hw
    | succ m =>
      unfold whileF at hw
      cases h : fc ev2 with
      | none => rw [h] at hw; cases hw
      | some b =>
        rw [h] at hw
        refine ⟨B, Hs2, ev2, b, R2, h, fun Hs3 H3 g3 => ?_⟩
        cases b with
        | false =>
          cases hw
          exact q σ2 Hs3 H3 (ss.trans g3.s) (R2.to g3)
        | true =>
          dsimp only at hw
          rw [if_pos rfl]
          cases hF : F ev2 with
          | none => rw [hF] at hw; cases hw
          | some p =>
            rw [hF] at hw
            have s3 := ss.trans g3.s
            refine ⟨fun σ' H' => ∃ Hs4 ev4, Same Hs Hs4 ∧ Rl K B Hs4 H' σ' ev4 ∧ whileF fc F m ev4 = some o, fun σ' H' hN => ⟨m, Nat.lt_succ_self m, hN⟩, B, Hs3, ev2, p, R2.to g3, hF, ?_⟩
            cases p with
            | nx e2 => exact fun σ5 Hs5 H5 s5 R5 => ⟨Hs5, e2, s3.trans s5, R5, hw⟩
            | ct e2 => exact fun σ5 Hs5 H5 s5 R5 => ⟨Hs5, e2, s3.trans s5, R5, hw⟩
            | bk e2 => cases hw; exact fun σ5 Hs5 H5 s5 R5 => q σ5 Hs5 H5 (s3.trans s5) R5
            | rt t => cases hw; exact fun v Hs5 H5 s5 => q v Hs5 H5 (s3.trans s5)
            | rf t => cases hw; exact fun v Hs5 H5 s5 => q v Hs5 H5 (s3.trans s5)
            | ex c e2 => cases hw; exact fun σ5 Hs5 H5 cls s5 => q σ5 Hs5 H5 cls (s3.trans s5)

/-! ### comprehensions -/
def wipeE (ev : Ev) : List Nat → Ev
  | [] => ev
  | v :: vs => (wipeE ev vs).set v .un
theorem Rl.wipe {K : PySem.W.Frag} {B : Bs} {Hs H : Hp} {σ : L2.St} {ev : Ev} (R : Rl K B Hs H σ ev) : ∀ vs, Rl K B Hs H (L2.wipe σ vs) (wipeE ev vs)
  | [] => R
  | v :: vs => (R.wipe vs).un none v
def compF (b : T → Ev → Option Ev) (c : Ev → Option Bool) (f : Ev → Option T) (ev : Ev) : List T → Option (List T)
  | [] => some []
  | t :: ts => match b t ev with
    | none => none
    | some e1 => match c e1 with
      | none => none
      | some false => compF b c f ev ts
      | some true => match f e1 with
        | none => none
        | some y => match compF b c f ev ts with
          | none => none
          | some ys => some (y :: ys)
def fYes : Ev → Option Bool := fun _ => some true
def fComp (fi : Ev → Option (List T)) (b : T → Ev → Option Ev) (c : Ev → Option Bool) (f : Ev → Option T) (vs : List Nat) : Ev → Option T := fun ev => match fi ev with
  | none => none
  | some ts => match compF b c f (wipeE ev vs) ts with
    | none => none
    | some ys => if noLs ys && decide (ys.length ≤ sizeLine) then some (.lst ys) else none
theorem wipe_same {σ σ' : L2.St} {vs is : List Nat} (h1 : ∀ k, k ∉ is → σ'[k]? = (L2.wipe σ vs)[k]?) (h2 : ∀ k ∈ is, k ∈ vs) (hl : σ'.length = (L2.wipe σ vs).length) : L2.wipe σ' vs = L2.wipe σ vs := by
  apply List.ext_getElem?
  intro k
  have key : ∀ (τ : L2.St) (us : List Nat) (k : Nat), k ∈ us → (L2.wipe τ us)[k]? = if k < τ.length then some none else none := by
    intro τ us
    induction us with
    | nil => intro k hk; cases hk
    | cons v us ih =>
      intro k hk
      show ((L2.wipe τ us).set v none)[k]? = _
      by_cases hv : v = k
      · subst hv
        by_cases hlt : v < τ.length
        · rw [List.getElem?_set_self (by rw [L2.wipe_length]; exact hlt), if_pos hlt]
        · rw [if_neg hlt, List.getElem?_eq_none (by rw [List.length_set, L2.wipe_length]; omega)]
      · rw [List.getElem?_set_ne hv]
        rcases List.mem_cons.mp hk with e | hk
        · exact absurd e.symm hv
        · exact ih k hk
  rw [L2.wipe_length] at hl
  by_cases hk : k ∈ vs
  · rw [key _ _ _ hk, key _ _ _ hk, hl]
  · rw [L2.wipe_out hk, h1 k (fun z => hk (h2 k z)), L2.wipe_out hk]
theorem compN {K : PySem.W.Frag} {fi : Ev → Option (List T)} {g : TG} {b : T → Ev → Option Ev} {is vs : List Nat} {fc : Ev → Option Bool} {f : Ev → Option T} (hb : TgD K g b is) (hsub : ∀ k ∈ is, k ∈ vs) :
    ∀ σ H Q, tN K (fComp fi b fc f vs) σ H Q → tLc (tI K fi) g (tT K fc) (tF K f) vs σ H Q := fun σ H Q ⟨B, Hs, ev, t, R, hf, q⟩ => by
  unfold fComp at hf
  cases h1 : fi ev with
  | none => rw [h1] at hf; cases hf
  | some ds =>
    rw [h1] at hf
    dsimp only at hf
    cases h2 : compF b fc f (wipeE ev vs) ds with
    | none => rw [h2] at hf; cases hf
    | some ys =>
      rw [h2] at hf
      dsimp only at hf
      split at hf
      · rename_i hz
        rw [Bool.and_eq_true, decide_eq_true_eq] at hz
        cases hf
        refine ⟨B, Hs, ev, ds, R, h1, fun J Hs1 H1 g1 hy D hD => ?_⟩
        have hDs : Hs1 D = none := g1.ok.sub.free hD
        refine ⟨fun i m H2 => m = ds.length - i ∧ i ≤ ds.length ∧ ∃ Hs2 acc ws rest, Gr Hs1 H1 Hs2 H2 ∧ Hs2 D = none ∧ H2 D = some (.lst ws) ∧ Rps K Hs2 ws acc ∧ compF b fc f (wipeE ev vs) (ds.drop i) = some rest ∧ acc ++ rest = ys,
          ⟨ds.length, by simp, Nat.zero_le _, Hs1, [], [], ys, Gr.new0 g1.ok hD rfl, hDs, upd_same, .nil, h2, rfl⟩, ?_⟩
        rintro i m H2 ⟨rfl, hi, Hs2, acc, ws, rest, g2, hD2, eD, rD, hr, ha⟩
        obtain ⟨y1, y2, y3⟩ := hy i Hs2 H2 g2.s g2.ok
        have R2 : Rl K B Hs2 H2 σ ev := (R.to g1).to g2
        by_cases hlt : i < ds.length
        · refine .inr ⟨y1 hlt, fun H3 => ∃ Hs2 acc ws rest, Gr Hs1 H1 Hs2 H3 ∧ Hs2 D = none ∧ H3 D = some (.lst ws) ∧ Rps K Hs2 ws acc ∧ compF b fc f (wipeE ev vs) (ds.drop (i + 1)) = some rest ∧ acc ++ rest = ys, fun H3 hN => ⟨ds.length - (i + 1), by omega, rfl, hlt, hN⟩, fun x H3 yy => ?_⟩
          obtain ⟨Hs3, g3, r3⟩ := y3 x H3 yy _ (List.getElem?_eq_getElem hlt)
          rw [List.drop_eq_getElem_cons hlt] at hr
          unfold compF at hr
          cases hb1 : b ds[i] (wipeE ev vs) with
          | none => rw [hb1] at hr; cases hr
          | some e1 =>
            rw [hb1] at hr
            dsimp only at hr
            have R3 : Rl K B Hs3 H3 (L2.wipe σ vs) (wipeE ev vs) := (R2.to g3).wipe vs
            refine hb B Hs3 H3 _ _ x _ e1 _ R3 r3 hb1 fun σ4 R4 k4 l4 => ⟨wipe_same k4 hsub l4, ?_⟩
            have g13 := g2.trans g3
            have hD3 : Hs3 D = none := (g3.n _ _ eD).trans hD2
            have eD3 := g3.h _ _ eD
            cases hc : fc e1 with
            | none => rw [hc] at hr; cases hr
            | some bb =>
              rw [hc] at hr
              refine ⟨B, Hs3, e1, bb, R4, hc, fun Hs5 H5 g5 => ?_⟩
              have g15 := g13.trans g5
              have hD5 : Hs5 D = none := (g5.n _ _ eD3).trans hD3
              have eD5 := g5.h _ _ eD3
              cases bb with
              | false =>
                refine iteF ?_
                exact ⟨Hs5, acc, ws, rest, g15, hD5, eD5, rD.mono (g3.s.trans g5.s), hr, ha⟩
              | true =>
                refine iteT ?_
                dsimp only at hr
                cases hfe : f e1 with
                | none => rw [hfe] at hr; cases hr
                | some y =>
                  rw [hfe] at hr
                  dsimp only at hr
                  cases hrest : compF b fc f (wipeE ev vs) (ds.drop (i + 1)) with
                  | none => rw [hrest] at hr; cases hr
                  | some ys2 =>
                    rw [hrest] at hr
                    cases hr
                    refine ⟨B, Hs5, e1, y, R4.to g5, hfe, fun v Hs6 H6 g6 r6 => ⟨ws, g6.h _ _ eD5, ?_, Hs6, acc ++ [y], ws ++ [v], ys2, ?_, (g6.n _ _ eD5).trans hD5, upd_same, (rD.mono ((g3.s.trans g5.s).trans g6.s)).append (.cons r6 .nil), rfl, by rw [List.append_assoc]; exact ha⟩⟩
                    · have e1 : ys.length = acc.length + (ys2.length + 1) := by rw [← ha, List.length_append, List.length_cons]
                      rw [rD.length]
                      omega
                    · have g16 := g15.trans g6
                      have hD6 : Hs6 D = none := (g6.n _ _ eD5).trans hD5
                      refine ⟨g16.s, fun a o e => ?_, g16.n, ⟨fun a o e => ?_, fun a o e c => ?_⟩⟩
                      · rw [upd_ne (ne_of_none e hD)]; exact g16.h _ _ e
                      · rw [upd_ne (ne_of_none e hD6)]; exact g16.ok.sub _ _ e
                      · by_cases hx : a = D
                        · subst hx; rw [upd_same] at e; cases e; cases c
                        · rw [upd_ne hx] at e; exact g16.ok.cst _ _ e c
        · have e : i = ds.length := by omega
          subst e
          rw [List.drop_length] at hr
          cases hr
          rw [List.append_nil] at ha
          subst ha
          refine .inl ⟨y2 rfl, q _ H2 (g1.h.trans g2.h) (.lst (Frs.lst eD (g1.h.free hD)) (rD.flat (fun a xs e => Frs.cst (g2.ok.sub _ _ e) rfl) hz.1))⟩
      · cases hf
section
variable {X : Cx} {K : PySem.W.Frag} {mg : Str → Option Value} {W : WX} {elt tg iter : Expr} {ifs : List Expr} {scope : Scope} {own : List (Str × Nat)} {pos : Pos} {fi : Ev → Option (List T)} {g : TG} {b : T → Ev → Option Ev} {is : List Nat} {fc : Ev → Option Bool} {f : Ev → Option T}
theorem ft_yes : PTs X [] (tT K fYes) := ⟨fun pins s σ H Q I hw => pts_nil.run pins s σ H Q I (by
  obtain ⟨B, Hs, ev, bb, R, hf, q⟩ := hw
  cases hf
  exact q Hs H (Gr.refl R.bd.ok))⟩
theorem ft_one {c : Expr} (h : PT X c (tT K fc)) : PTs X [c] (tT K fc) := pts_one h
theorem fn_comp (hc : X.calm = true) (hN : X.N.Nodup) (hb : TgD K g b is) (hsub : ∀ k ∈ is, k ∈ own.map (·.2)) (hi : PI X tg iter (tI K fi)) (ok : BlkOk X.N X.env.scope scope own)
    (hg : ∀ (s : Shared) (H : Hp) (C : Addr) (cl : List (Str × Addr)) (fp : List Addr), PG (X.blk s H scope (compEnvC scope cl C X.env) fp) tg g) (ht : ∀ (s : Shared) (H : Hp) (C : Addr) (cl : List (Str × Addr)) (fp : List Addr), PTs (X.blk s H scope (compEnvC scope cl C X.env) fp) ifs (tT K fc))
    (he : ∀ (s : Shared) (H : Hp) (C : Addr) (cl : List (Str × Addr)) (fp : List Addr), PE (X.blk s H scope (compEnvC scope cl C X.env) fp) elt (tF K f)) (hs : ∀ x, foldedSetIterable iter X.env x = pure x := by intro _; rfl) :
    PE X (.ListComp elt [⟨tg, iter, ifs, 0⟩] scope pos) (tN K (fComp fi b fc f (own.map (·.2)))) := PE.by (pe_lc hc hN hi ok hg ht he hs) (compN hb hsub)
/-- y = [..] -/
theorem fs_setComp (i : Nat) {y : Str} {py spos : Pos} (hc : X.calm = true) (hN : X.N.Nodup) (hb : TgD K g b is) (hsub : ∀ k ∈ is, k ∈ own.map (·.2)) (hi : PI X tg iter (tI K fi)) (ok : BlkOk X.N X.env.scope scope own)
    (hg : ∀ (s : Shared) (H : Hp) (C : Addr) (cl : List (Str × Addr)) (fp : List Addr), PG (X.blk s H scope (compEnvC scope cl C X.env) fp) tg g) (ht : ∀ (s : Shared) (H : Hp) (C : Addr) (cl : List (Str × Addr)) (fp : List Addr), PTs (X.blk s H scope (compEnvC scope cl C X.env) fp) ifs (tT K fc))
    (he : ∀ (s : Shared) (H : Hp) (C : Addr) (cl : List (Str × Addr)) (fp : List Addr), PE (X.blk s H scope (compEnvC scope cl C X.env) fp) elt (tF K f)) (hy : X.N[i]? = some y := by rfl) (hyl : X.env.scope.names.lookup y = some .local := by rfl)
    (hsw : swapsWith (.ListComp elt [⟨tg, iter, ifs, 0⟩] scope pos) (some (.Name y py)) spos.line X.env = pure true := by exact sw_true rfl rfl rfl (by decide +kernel)) (hs : ∀ x, foldedSetIterable iter X.env x = pure x := by intro _; rfl) :
    PS X (.Assign [.Name y py] (.ListComp elt [⟨tg, iter, ifs, 0⟩] scope pos) spos) (tS K mg W (fSet i (fComp fi b fc f (own.map (·.2))))) :=
  PS.by (ps_setLc hc hN hy hyl hsw hi ok hg ht he hs) fun D σ H h => by
    have h2 := asgD (K := K) (f := fComp fi b fc f (own.map (·.2))) i D σ H h
    obtain ⟨B, Hs, ev, t, R, hf, q⟩ := h2
    exact compN hb hsub σ H _ ⟨B, Hs, ev, t, R, hf, fun v H' s r => q v _ H' (Gr.nxt R.bd.ok s) (r.mono (Frs.nxt R.bd.ok s))⟩
theorem fs_setCompOw (i : Nat) {y : Str} {py spos : Pos} (hc : X.calm = true) (hN : X.N.Nodup) (hb : TgD K g b is) (hsub : ∀ k ∈ is, k ∈ own.map (·.2)) (hi : PI X tg iter (tI K fi)) (ok : BlkOk X.N X.env.scope scope own)
    (hg : ∀ (s : Shared) (H : Hp) (C : Addr) (cl : List (Str × Addr)) (fp : List Addr), PG (X.blk s H scope (compEnvC scope cl C X.env) fp) tg g) (ht : ∀ (s : Shared) (H : Hp) (C : Addr) (cl : List (Str × Addr)) (fp : List Addr), PTs (X.blk s H scope (compEnvC scope cl C X.env) fp) ifs (tT K fc))
    (he : ∀ (s : Shared) (H : Hp) (C : Addr) (cl : List (Str × Addr)) (fp : List Addr), PE (X.blk s H scope (compEnvC scope cl C X.env) fp) elt (tF K f)) (hy : X.N[i]? = some y := by rfl) (hyl : X.env.scope.names.lookup y = some .local := by rfl)
    (hsw : swapsWith (.ListComp elt [⟨tg, iter, ifs, 0⟩] scope pos) (some (.Name y py)) spos.line X.env = pure true := by exact sw_true rfl rfl rfl (by decide +kernel)) (hs : ∀ x, foldedSetIterable iter X.env x = pure x := by intro _; rfl) :
    PS X (.Assign [.Name y py] (.ListComp elt [⟨tg, iter, ifs, 0⟩] scope pos) spos) (tS K mg W (fSetOw i (fComp fi b fc f (own.map (·.2))))) :=
  PS.by (ps_setLc hc hN hy hyl hsw hi ok hg ht he hs) fun D σ H h => by
    have h2 : tAsg (tN K (fComp fi b fc f (own.map (·.2)))) (gName i) D σ H := asgN i D σ H h
    exact compN hb hsub σ H _ h2
end
end Fx

namespace Fx
open PySem PySem.Spec L2
open PyProof.Rows hiding St

/-! ### data as the library's comparison sees it -/
mutual
def toP : T → PyData
  | .non => .none
  | .bl b => .bool b
  | .int i => .int i
  | .str s => .str s
  | .tup ts => .tuple (toPs ts)
  | .lst ts => .list (toPs ts)
  | .scr ns => .list (ns.map .int)
def toPs : List T → List PyData
  | [] => []
  | t :: ts => toP t :: toPs ts
end
mutual
theorem Rp.dp {K : PySem.W.Frag} {H : Hp} : ∀ {t : T} {v : V}, Rp K H v t → Dp K H v (toP t)
  | _, _, .non => .non
  | _, _, .bl b => .bl b
  | _, _, .int i => .int i
  | _, _, .str s => .str s
  | _, _, .tup e r => .tup (SqT.of e) (Rps.dp r)
  | _, _, .lst e r => .lst (SqL.of e) (Rps.dp r)
  | _, _, .scr (ns := ns) h => .lst h (by
    have : ∀ ms : List Int, DpAll K H (ms.map V.int) (ms.map PyData.int) := fun ms => by
      induction ms with
      | nil => exact .nil
      | cons m ms ih => exact .cons (.int m) ih
    exact this ns)
theorem Rps.dp {K : PySem.W.Frag} {H : Hp} : ∀ {ts : List T} {vs : List V}, Rps K H vs ts → DpAll K H vs (toPs ts)
  | _, _, .nil => .nil
  | _, _, .cons h r => .cons (Rp.dp h) (Rps.dp r)
end

/-! ### operators -/
section
variable {X : Cx} {K : PySem.W.Frag}
theorem opd_or {r r' : R2} {g g' h : T → T → Option T} (a : OpD K r g) (b : OpD K r' g') (hh : ∀ d e z, h d e = some z → g d e = some z ∨ g' d e = some z) : OpD K (fun x y H Q => r x y H Q ∨ r' x y H Q) h :=
  fun Hs H x y d e z ok rx ry hz Q q => (hh d e z hz).elim (fun z' => .inl (a Hs H x y d e z ok rx ry z' Q q)) fun z' => .inr (b Hs H x y d e z ok rx ry z' Q q)
def gI (p : Int → Int → Option T) : T → T → Option T
  | .int i, .int j => p i j
  | _, _ => none
theorem gI_some {p : Int → Int → Option T} {d e z : T} (h : gI p d e = some z) : ∃ i j, d = .int i ∧ e = .int j ∧ p i j = some z := by
  unfold gI at h
  split at h
  · exact ⟨_, _, rfl, rfl, h⟩
  · cases h
abbrev gSub : T → T → Option T := gI fun i j => some (.int (i - j))
abbrev gMul : T → T → Option T := gI fun i j => if (-(2 ^ 64) < i ∧ i < 2 ^ 64) ∨ (-(2 ^ 64) < j ∧ j < 2 ^ 64) then some (.int (i * j)) else none
abbrev gDiv : T → T → Option T := gI fun i j => if 0 < j ∧ j < 1073741824 then some (.int (i / j)) else none
abbrev gMod : T → T → Option T := gI fun i j => if 0 < j then some (.int (i % j)) else none
abbrev gPow : T → T → Option T := gI fun i j => if 0 ≤ j ∧ j ≤ 1000000 ∧ i.natAbs < 2 ^ 64 then some (.int (i ^ j.toNat)) else none
abbrev gLt : T → T → Option T := gI fun i j => some (.bl (decide (i < j)))
abbrev gLe : T → T → Option T := gI fun i j => some (.bl (decide (i ≤ j)))
abbrev gGt : T → T → Option T := gI fun i j => some (.bl (decide (j < i)))
abbrev gGe : T → T → Option T := gI fun i j => some (.bl (decide (j ≤ i)))
theorem opd_I0 {g : Int → Int → V} {p : Int → Int → T} (h : ∀ Hs i j, Rp K Hs (g i j) (p i j)) : OpD K (rI0 g) (gI fun i j => some (p i j)) := fun Hs H x y d e z ok rx ry hz Q q => by
  obtain ⟨i, j, rfl, rfl, h2⟩ := gI_some hz
  cases h2
  cases rx; cases ry
  exact ⟨i, j, rfl, rfl, q _ Hs H (Gr.refl ok) (h Hs i j)⟩
theorem opd_I {C : Int → Int → Prop} {C' : Int → Int → Prop} [∀ i j, Decidable (C' i j)] {g : Int → Int → V} {p : Int → Int → T} (hc : ∀ i j, C' i j → C i j) (h : ∀ Hs i j, Rp K Hs (g i j) (p i j)) : OpD K (rI C g) (gI fun i j => if C' i j then some (p i j) else none) := fun Hs H x y d e z ok rx ry hz Q q => by
  obtain ⟨i, j, rfl, rfl, h2⟩ := gI_some hz
  split at h2
  · rename_i c
    cases h2
    cases rx; cases ry
    exact ⟨i, j, rfl, rfl, hc i j c, q _ Hs H (Gr.refl ok) (h Hs i j)⟩
  · cases h2
theorem od_sub : OpD K (rI0 fun i j => .int (i - j)) gSub := opd_I0 fun _ _ _ => .int _
theorem od_mul : OpD K (rI CMul fun i j => .int (i * j)) gMul := opd_I (C' := fun i j => (-(2 ^ 64) < i ∧ i < 2 ^ 64) ∨ (-(2 ^ 64) < j ∧ j < 2 ^ 64)) (fun _ _ c => c) fun _ _ _ => .int _
theorem od_div : OpD K (rI CDiv fun i j => .int (i / j)) gDiv := opd_I (C' := fun i j => 0 < j ∧ j < 1073741824) (fun _ _ c => c) fun _ _ _ => .int _
theorem od_mod : OpD K (rI (fun _ j => 0 < j) fun i j => .int (i % j)) gMod := opd_I (C' := fun i j => 0 < j) (fun _ _ c => c) fun _ _ _ => .int _
theorem od_pow : OpD K (rI CPow fun i j => .int (i ^ j.toNat)) gPow := opd_I (C' := fun i j => 0 ≤ j ∧ j ≤ 1000000 ∧ i.natAbs < 2 ^ 64) (fun _ _ c => c) fun _ _ _ => .int _
theorem od_lt : OpD K (rI0 fun i j => .bl (decide (i < j))) gLt := opd_I0 fun _ _ _ => .bl _
theorem od_le : OpD K (rI0 fun i j => .bl (decide (i ≤ j))) gLe := opd_I0 fun _ _ _ => .bl _
theorem od_gt : OpD K (rI0 fun i j => .bl (decide (j < i))) gGt := opd_I0 fun _ _ _ => .bl _
theorem od_ge : OpD K (rI0 fun i j => .bl (decide (j ≤ i))) gGe := opd_I0 fun _ _ _ => .bl _
/-- + of numbers, of texts -/
def gAdd : T → T → Option T
  | .int i, .int j => some (.int (i + j))
  | .str a, .str b => if a.length + b.length ≤ sizeLine then some (.str (a ++ b)) else none
  | .tup ts, .tup us => if ts.length + us.length ≤ sizeLine then some (.tup (ts ++ us)) else none
  | _, _ => none
/-- + of lists: a new one -/
def gCat : T → T → Option T
  | .lst ts, .lst us => if noLs ts && noLs us && decide (ts.length + us.length ≤ sizeLine) then some (.lst (ts ++ us)) else none
  | _, _ => none
def rAddAll (K : PySem.W.Frag) : R2 := fun x y H Q => rI0 (fun i j => .int (i + j)) x y H Q ∨ ((∃ i j, x = .str i ∧ y = .str j ∧ i.length + j.length ≤ sizeLine ∧ Q (.str (i ++ j)) H) ∨ rCatA K x y H Q)
theorem op_addAll : OpR X (binaryOp .Add) (rAddAll X.K) := op_add.or (op_add_str.or op_catA)
theorem od_add : OpD K (rAddAll K) gAdd := fun Hs H x y d e z ok rx ry hz Q q => by
  unfold gAdd at hz
  split at hz
  · cases hz
    cases rx; cases ry
    exact .inl ⟨_, _, rfl, rfl, q _ Hs H (Gr.refl ok) (.int _)⟩
  · split at hz
    · rename_i c
      cases hz
      cases rx; cases ry
      exact .inr (.inl ⟨_, _, rfl, rfl, c, q _ Hs H (Gr.refl ok) (.str _)⟩)
    · cases hz
  · split at hz
    · rename_i ts us c
      cases hz
      cases rx with
      | tup e1 r1 =>
        cases ry with
        | tup e2 r2 =>
          rename_i a vs b ws
          refine .inr (.inr ⟨a, b, vs, ws, rfl, rfl, SqT.of (ok.sub _ _ e1), SqT.of (ok.sub _ _ e2), by rw [r1.length, r2.length]; exact c, fun z => ?_, fun _ z => ?_, fun _ _ p hp => ?_⟩)
          · subst z
            cases r1
            exact q _ _ _ (Gr.refl ok) (.tup e2 r2)
          · subst z
            cases r2
            rw [List.append_nil] at q
            exact q _ _ _ (Gr.refl ok) (.tup e1 r1)
          · have g := Gr.new ok hp (o := .tup (vs ++ ws))
            exact q _ _ _ g (.tup upd_same ((r1.mono g.s).append (r2.mono g.s)))
    · cases hz
  · cases hz
theorem on_cat : OpN K rCat gCat := fun Hs H x y d e z ok rx ry hz Q q => by
  unfold gCat at hz
  split at hz
  · split at hz
    · rename_i ts us c
      rw [Bool.and_eq_true, Bool.and_eq_true, decide_eq_true_eq] at c
      cases hz
      cases rx with
      | lst e1 r1 =>
        cases ry with
        | lst e2 r2 =>
          rename_i a vs b ws
          refine ⟨a, b, vs, ws, rfl, rfl, ok.sub _ _ e1, ok.sub _ _ e2, by rw [r1.length, r2.length]; exact c.2, fun p hp => ?_⟩
          refine q _ _ (same_new hp) (.lst (Frs.lst upd_same hp) ((r1.append r2).flat (fun a xs e => Frs.cst ?_ rfl) (by rw [noLs_append, c.1.1, c.1.2]; rfl)))
          rw [upd_ne (ne_of_none (ok.sub _ _ e) hp)]
          exact ok.sub _ _ e
    · cases hz
  · cases hz
/-- [x] * n, x no list -/
def gRep : T → T → Option T
  | .lst ts, .int k => if noLs ts && decide (-(2 ^ 63) ≤ k) && decide (k < 2 ^ 63) && decide (ts.length * k.toNat ≤ sizeLine) then some (.lst (List.replicate k.toNat ts).flatten) else none
  | _, _ => none
theorem Rps.repF {K : PySem.W.Frag} {H : Hp} {vs : List V} {ts : List T} (h : Rps K H vs ts) : ∀ n : Nat, Rps K H (List.replicate n vs).flatten (List.replicate n ts).flatten
  | 0 => .nil
  | n + 1 => by
    rw [List.replicate_succ, List.replicate_succ, List.flatten_cons, List.flatten_cons]
    exact h.append (Rps.repF h n)
theorem noLs_rep {ts : List T} (h : noLs ts = true) : ∀ n : Nat, noLs (List.replicate n ts).flatten = true
  | 0 => rfl
  | n + 1 => by rw [List.replicate_succ, List.flatten_cons, noLs_append, h, noLs_rep h n]; rfl
theorem on_rep : OpN K rRep gRep := fun Hs H x y d e z ok rx ry hz Q q => by
  unfold gRep at hz
  split at hz
  · split at hz
    · rename_i ts k c
      rw [Bool.and_eq_true, Bool.and_eq_true, Bool.and_eq_true, decide_eq_true_eq, decide_eq_true_eq, decide_eq_true_eq] at c
      cases hz
      cases ry
      cases rx with
      | lst e1 r1 =>
        rename_i a vs
        refine ⟨a, k, vs, rfl, rfl, ok.sub _ _ e1, c.1.1.2, c.1.2, by rw [r1.length]; exact c.2, fun p hp => ?_⟩
        refine q _ _ (same_new hp) (.lst (Frs.lst upd_same hp) ((r1.repF _).flat (fun a xs e => Frs.cst ?_ rfl) (noLs_rep c.1.1.1 _)))
        rw [upd_ne (ne_of_none (ok.sub _ _ e) hp)]
        exact ok.sub _ _ e
    · cases hz
  · cases hz

/-! ### == -/
def gEqB : T → T → Option Bool
  | .int i, .int j => some (decide (i = j))
  | .str i, .str j => some (decide (i = j))
  | .bl i, .bl j => some (decide (i = j))
  | t, u => if SeqAt.shaped (toP t) && SeqAt.shaped (toP u) then some (PyData.eqv (toP t) (toP u)) else none
def gEq (t u : T) : Option T := (gEqB t u).map .bl
def gNe (t u : T) : Option T := (gEqB t u).map fun b => .bl (!b)
def rEqAll (K : PySem.W.Frag) : R2 := fun x y H Q => rEq x y H Q ∨ rEqD K x y H Q
def rNeAll (K : PySem.W.Frag) : R2 := fun x y H Q => rNe x y H Q ∨ rNeD K x y H Q
theorem op_eqAll (hu : X.A.units + 64 < cLine) : OpR X (compareOp .Eq) (rEqAll X.K) := op_eq.or (op_eqD hu)
theorem op_neAll (hu : X.A.units + 64 < cLine) : OpR X (compareOp .NotEq) (rNeAll X.K) := op_ne.or (op_neD hu)
theorem od_eq : OpD K (rEqAll K) gEq := fun Hs H x y d e z ok rx ry hz Q q => by
  unfold gEq at hz
  cases hb : gEqB d e with
  | none => rw [hb] at hz; cases hz
  | some b =>
    rw [hb] at hz
    cases hz
    unfold gEqB at hb
    split at hb
    · cases hb; cases rx; cases ry
      refine .inl ⟨rfl, ?_⟩
      simp only [V.int.injEq]
      exact q _ Hs H (Gr.refl ok) (.bl _)
    · cases hb; cases rx; cases ry
      refine .inl ⟨rfl, ?_⟩
      simp only [V.str.injEq]
      exact q _ Hs H (Gr.refl ok) (.bl _)
    · cases hb; cases rx; cases ry
      refine .inl ⟨rfl, ?_⟩
      simp only [V.bl.injEq]
      exact q _ Hs H (Gr.refl ok) (.bl _)
    · split at hb
      · rename_i c
        rw [Bool.and_eq_true] at c
        cases hb
        exact .inr ⟨_, _, (rx.mono ok.sub).dp, (ry.mono ok.sub).dp, c.1, c.2, q _ Hs H (Gr.refl ok) (.bl _)⟩
      · cases hb
theorem od_ne : OpD K (rNeAll K) gNe := fun Hs H x y d e z ok rx ry hz Q q => by
  unfold gNe at hz
  cases hb : gEqB d e with
  | none => rw [hb] at hz; cases hz
  | some b =>
    rw [hb] at hz
    cases hz
    unfold gEqB at hb
    split at hb
    · cases hb; cases rx; cases ry
      refine .inl ⟨rfl, ?_⟩
      simp only [V.int.injEq]
      exact q _ Hs H (Gr.refl ok) (.bl _)
    · cases hb; cases rx; cases ry
      refine .inl ⟨rfl, ?_⟩
      simp only [V.str.injEq]
      exact q _ Hs H (Gr.refl ok) (.bl _)
    · cases hb; cases rx; cases ry
      refine .inl ⟨rfl, ?_⟩
      simp only [V.bl.injEq]
      exact q _ Hs H (Gr.refl ok) (.bl _)
    · split at hb
      · rename_i c
        rw [Bool.and_eq_true] at c
        cases hb
        exact .inr ⟨_, _, (rx.mono ok.sub).dp, (ry.mono ok.sub).dp, c.1, c.2, q _ Hs H (Gr.refl ok) (.bl _)⟩
      · cases hb
/-- text in text -/
def gIn : T → T → Option T
  | .str i, .str j => some (.bl (!(Builtin.Str.occurrences j i 0 j.length 1).isEmpty))
  | _, _ => none
def gNotIn : T → T → Option T
  | .str i, .str j => some (.bl (!(!(Builtin.Str.occurrences j i 0 j.length 1).isEmpty)))
  | _, _ => none
theorem od_in : OpD K (fun x y H Q => ∃ i j, x = .str i ∧ y = .str j ∧ Q (.bl (!(Builtin.Str.occurrences j i 0 j.length 1).isEmpty)) H) gIn := fun Hs H x y d e z ok rx ry hz Q q => by
  unfold gIn at hz
  split at hz
  · cases hz; cases rx; cases ry; exact ⟨_, _, rfl, rfl, q _ Hs H (Gr.refl ok) (.bl _)⟩
  · cases hz
theorem od_notIn : OpD K (fun x y H Q => ∃ i j, x = .str i ∧ y = .str j ∧ Q (.bl (!(!(Builtin.Str.occurrences j i 0 j.length 1).isEmpty))) H) gNotIn := fun Hs H x y d e z ok rx ry hz Q q => by
  unfold gNotIn at hz
  split at hz
  · cases hz; cases rx; cases ry; exact ⟨_, _, rfl, rfl, q _ Hs H (Gr.refl ok) (.bl _)⟩
  · cases hz
/-- one sign in a text -/
def gNotInS : T → T → Option T
  | .str i, .str j => match i.cps.toList with
    | [c] => some (.bl (!decide (c ∈ j.cps.toList)))
    | _ => none
  | _, _ => none
theorem od_notInS : OpD K (fun x y H Q => ∃ (c : Nat) (z : Str), x = .str ⟨#[c]⟩ ∧ y = .str z ∧ Q (.bl (!decide (c ∈ z.cps.toList))) H) gNotInS := fun Hs H x y d e z ok rx ry hz Q q => by
  unfold gNotInS at hz
  split at hz
  · split at hz
    · rename_i c hc
      cases hz; cases rx; cases ry
      exact ⟨c, _, congrArg V.str (TL.ext_tl hc), rfl, q _ Hs H (Gr.refl ok) (.bl _)⟩
    · cases hz
  · cases hz
/-- is True, is False -/
def gIsB : T → T → Option T
  | .bl i, .bl j => some (.bl (decide (i = j)))
  | _, _ => none
/-! ### subscripts -/
def gIx : T → T → Option T
  | .lst ts, .int i => atT ts i
  | .tup ts, .int i => atT ts i
  | .scr ns, .int i => (atI ns i).map .int
  | .str s, .int i => if s.length ≤ sizeLine then (atI s.cps.toList i).map fun c => .str ⟨#[c]⟩ else none
  | _, _ => none
theorem od_ix : OpD K (rIx K) gIx := fun Hs H x y d e z ok rx ry hz Q q => by
  unfold gIx at hz
  split at hz
  · cases ry
    cases rx with
    | lst e r =>
      obtain ⟨w, h1, h2⟩ := atI_of r hz
      exact .inl ⟨_, _, _, w, rfl, rfl, SqL.of (ok.sub _ _ e), h1, q _ Hs H (Gr.refl ok) h2⟩
  · cases ry
    cases rx with
    | tup e r =>
      obtain ⟨w, h1, h2⟩ := atI_of r hz
      exact .inr (.inl ⟨_, _, _, w, rfl, rfl, SqT.of (ok.sub _ _ e), h1, q _ Hs H (Gr.refl ok) h2⟩)
  · rename_i ns i
    cases ry
    cases rx with
    | scr e =>
      cases h : atI ns i with
      | none => rw [h] at hz; cases hz
      | some n =>
        rw [h] at hz
        cases hz
        refine .inl ⟨_, _, i, .int n, rfl, rfl, ok.sub.seq e, ?_, q _ Hs H (Gr.refl ok) (.int n)⟩
        unfold atI at h ⊢
        rw [List.length_map]
        cases h2 : ixN ns.length i with
        | none => rw [h2] at h; cases h
        | some j =>
          rw [h2] at h
          show (ns.map V.int)[j]? = _
          rw [List.getElem?_map, show ns[j]? = some n from h]
          rfl
  · split at hz
    · rename_i s i c
      cases ry; cases rx
      cases h : atI s.cps.toList i with
      | none => rw [h] at hz; cases hz
      | some n =>
        rw [h] at hz
        cases hz
        exact .inr (.inr ⟨s, i, n, rfl, rfl, c, h, q _ Hs H (Gr.refl ok) (.str _)⟩)
    · cases hz
  · cases hz
end
section
variable {X : Cx} {K : PySem.W.Frag} {a b e : Expr} {es : List Expr} {fa fb fc : Ev → Option T} {fs : Ev → Option (List T)} {pos p : Pos} {x : Str}
theorem fe_add (ha : PE X a (tF K fa)) (hb : PE X b (tF K fb)) (hK : X.K = K := by rfl) : PE X (.BinOp a .Add b pos) (tF K (f2 gAdd fa fb)) := by subst hK; exact fe_op op_addAll od_add ha hb
theorem fe_sub (ha : PE X a (tF K fa)) (hb : PE X b (tF K fb)) : PE X (.BinOp a .Sub b pos) (tF K (f2 gSub fa fb)) := fe_op op_sub od_sub ha hb
theorem fe_mul (ha : PE X a (tF K fa)) (hb : PE X b (tF K fb)) : PE X (.BinOp a .Mult b pos) (tF K (f2 gMul fa fb)) := fe_op op_mul od_mul ha hb
theorem fe_div (ha : PE X a (tF K fa)) (hb : PE X b (tF K fb)) : PE X (.BinOp a .FloorDiv b pos) (tF K (f2 gDiv fa fb)) := fe_op op_fdiv od_div ha hb
theorem fe_mod (ha : PE X a (tF K fa)) (hb : PE X b (tF K fb)) : PE X (.BinOp a .Mod b pos) (tF K (f2 gMod fa fb)) := fe_op op_mod od_mod ha hb
theorem fe_pow (ha : PE X a (tF K fa)) (hb : PE X b (tF K fb)) : PE X (.BinOp a .Pow b pos) (tF K (f2 gPow fa fb)) := fe_op op_pow od_pow ha hb
theorem fn_cat (ha : PE X a (tF K fa)) (hb : PE X b (tF K fb)) : PE X (.BinOp a .Add b pos) (tN K (f2 gCat fa fb)) := fn_op op_cat on_cat ha hb
theorem fn_rep (ha : PE X a (tF K fa)) (hb : PE X b (tF K fb)) : PE X (.BinOp a .Mult b pos) (tN K (f2 gRep fa fb)) := fn_op op_rep on_rep ha hb
def gNeg : T → Option T
  | .int i => some (.int (-i))
  | _ => none
theorem fe_neg (ha : PE X a (tF K fa)) : PE X (.UnaryOp .USub a pos) (tF K (f1 gNeg fa)) := PE.by (pe_un un_neg ha) fun σ H Q ⟨B, Hs, ev, t, R, hf, q⟩ => by
  obtain ⟨d, h, hf⟩ := bind_some hf
  refine ⟨B, Hs, ev, d, R, h, fun v Hs' H' g r => ?_⟩
  unfold gNeg at hf
  split at hf
  · cases hf; cases r; exact ⟨_, rfl, q _ Hs' H' g (.int _)⟩
  · cases hf
theorem fe_lt (ha : PE X a (tF K fa)) (hb : PE X b (tF K fb)) : PE X (.Compare a [.Lt] [b] pos) (tF K (f2 gLt fa fb)) := fe_cmp op_lt od_lt ha hb (nomark _)
theorem fe_le (ha : PE X a (tF K fa)) (hb : PE X b (tF K fb)) : PE X (.Compare a [.LtE] [b] pos) (tF K (f2 gLe fa fb)) := fe_cmp op_le od_le ha hb (nomark _)
theorem fe_gt (ha : PE X a (tF K fa)) (hb : PE X b (tF K fb)) : PE X (.Compare a [.Gt] [b] pos) (tF K (f2 gGt fa fb)) := fe_cmp op_gt od_gt ha hb (nomark _)
theorem fe_ge (ha : PE X a (tF K fa)) (hb : PE X b (tF K fb)) : PE X (.Compare a [.GtE] [b] pos) (tF K (f2 gGe fa fb)) := fe_cmp op_ge od_ge ha hb (nomark _)
theorem fe_eq (hu : X.A.units + 64 < cLine) (ha : PE X a (tF K fa)) (hb : PE X b (tF K fb)) (hK : X.K = K := by rfl) : PE X (.Compare a [.Eq] [b] pos) (tF K (f2 gEq fa fb)) := by subst hK; exact fe_cmp (op_eqAll hu) od_eq ha hb (nomark _)
theorem fe_ne (hu : X.A.units + 64 < cLine) (ha : PE X a (tF K fa)) (hb : PE X b (tF K fb)) (hK : X.K = K := by rfl) : PE X (.Compare a [.NotEq] [b] pos) (tF K (f2 gNe fa fb)) := by subst hK; exact fe_cmp (op_neAll hu) od_ne ha hb (nomark _)
theorem fe_in (ha : PE X a (tF K fa)) (hb : PE X b (tF K fb)) (hm : behindInMarks .In b = false := by rfl) : PE X (.Compare a [.In] [b] pos) (tF K (f2 gIn fa fb)) := fe_cmp op_in_str od_in ha hb hm
theorem fe_notIn (ha : PE X a (tF K fa)) (hb : PE X b (tF K fb)) (hm : behindInMarks .NotIn b = false := by rfl) : PE X (.Compare a [.NotIn] [b] pos) (tF K (f2 gNotIn fa fb)) := fe_cmp op_notin_str od_notIn ha hb hm
theorem fe_notInS (ha : PE X a (tF K fa)) (hb : PE X b (tF K fb)) (hm : behindInMarks .NotIn b = false := by rfl) : PE X (.Compare a [.NotIn] [b] pos) (tF K (f2 gNotInS fa fb)) := fe_cmp op_notIn_sign od_notInS ha hb hm
theorem ft_lt (ha : PE X a (tF K fa)) (hb : PE X b (tF K fb)) : PT X (.Compare a [.Lt] [b] pos) (tT K (fTest (f2 gLt fa fb))) := ft_cmp op_lt od_lt ha hb (nomark _)
theorem ft_le (ha : PE X a (tF K fa)) (hb : PE X b (tF K fb)) : PT X (.Compare a [.LtE] [b] pos) (tT K (fTest (f2 gLe fa fb))) := ft_cmp op_le od_le ha hb (nomark _)
theorem ft_gt (ha : PE X a (tF K fa)) (hb : PE X b (tF K fb)) : PT X (.Compare a [.Gt] [b] pos) (tT K (fTest (f2 gGt fa fb))) := ft_cmp op_gt od_gt ha hb (nomark _)
theorem ft_ge (ha : PE X a (tF K fa)) (hb : PE X b (tF K fb)) : PT X (.Compare a [.GtE] [b] pos) (tT K (fTest (f2 gGe fa fb))) := ft_cmp op_ge od_ge ha hb (nomark _)
theorem ft_eq (hu : X.A.units + 64 < cLine) (ha : PE X a (tF K fa)) (hb : PE X b (tF K fb)) (hK : X.K = K := by rfl) : PT X (.Compare a [.Eq] [b] pos) (tT K (fTest (f2 gEq fa fb))) := by subst hK; exact ft_cmp (op_eqAll hu) od_eq ha hb (nomark _)
theorem ft_ne (hu : X.A.units + 64 < cLine) (ha : PE X a (tF K fa)) (hb : PE X b (tF K fb)) (hK : X.K = K := by rfl) : PT X (.Compare a [.NotEq] [b] pos) (tT K (fTest (f2 gNe fa fb))) := by subst hK; exact ft_cmp (op_neAll hu) od_ne ha hb (nomark _)
theorem ft_in (ha : PE X a (tF K fa)) (hb : PE X b (tF K fb)) (hm : behindInMarks .In b = false := by rfl) : PT X (.Compare a [.In] [b] pos) (tT K (fTest (f2 gIn fa fb))) := ft_cmp op_in_str od_in ha hb hm
theorem ft_notIn (ha : PE X a (tF K fa)) (hb : PE X b (tF K fb)) (hm : behindInMarks .NotIn b = false := by rfl) : PT X (.Compare a [.NotIn] [b] pos) (tT K (fTest (f2 gNotIn fa fb))) := ft_cmp op_notin_str od_notIn ha hb hm
theorem ft_notInS (ha : PE X a (tF K fa)) (hb : PE X b (tF K fb)) (hm : behindInMarks .NotIn b = false := by rfl) : PT X (.Compare a [.NotIn] [b] pos) (tT K (fTest (f2 gNotInS fa fb))) := ft_cmp op_notIn_sign od_notInS ha hb hm
theorem fe_ix (ha : PE X a (tF K fa)) (hb : PE X b (tF K fb)) (hK : X.K = K := by rfl) (hs : PlainIx b := by exact fun _ _ => rfl) : PE X (.Subscript a b pos) (tF K (f2 gIx fa fb)) := by subst hK; exact PE.by (pe_ix ix_seq ha hb hs) (op2D od_ix)

/-! ### displays -/
def gTup (ts : List T) : Option T := if ts.length ≤ sizeLine then some (.tup ts) else none
def gLst (ts : List T) : Option T := if noLs ts && decide (ts.length ≤ sizeLine) then some (.lst ts) else none
theorem fe_tup {k : Nat} (h : PA X es (tA K fs)) : PE X (.Tuple es k pos) (tF K (fC gTup fs)) := PE.by (pe_tup h) fun σ H Q ⟨B, Hs, ev, t, R, hf, q⟩ => by
  obtain ⟨ts, h, hf⟩ := bind_some hf
  unfold gTup at hf
  split at hf
  · rename_i c
    cases hf
    refine ⟨B, Hs, ev, ts, R, h, fun vs Hs' H' g r => ⟨by rw [r.length]; exact c, fun p hp => ?_⟩⟩
    have g2 := Gr.new g.ok hp (o := .tup vs)
    exact q _ _ _ (g.trans g2) (.tup upd_same (r.mono g2.s))
  · cases hf
theorem fn_lst (h : PA X es (tA K fs)) : PE X (.List es pos) (tN K (fC gLst fs)) := PE.by (pe_lst h) fun σ H Q ⟨B, Hs, ev, t, R, hf, q⟩ => by
  obtain ⟨ts, h, hf⟩ := bind_some hf
  unfold gLst at hf
  split at hf
  · rename_i c
    rw [Bool.and_eq_true, decide_eq_true_eq] at c
    cases hf
    refine ⟨B, Hs, ev, ts, R, h, fun vs Hs' H' g r => ⟨by rw [r.length]; exact c.2, fun p hp => ?_⟩⟩
    refine q _ _ (g.h.trans (same_new hp)) (.lst (Frs.lst upd_same (g.h.free hp)) (r.flat (fun a xs e => Frs.cst ?_ rfl) c.1))
    rw [upd_ne (ne_of_none (g.ok.sub _ _ e) hp)]
    exact g.ok.sub _ _ e
  · cases hf
/-- (e, ..), the last a new list, the others no lists -/
def gTupN (ts : List T) (u : T) : Option T := if noLs ts && decide (ts.length + 1 ≤ sizeLine) then some (.tup (ts ++ [u])) else none

/-! ### slices -/
def tO (K : PySem.W.Frag) (f : Ev → Option (Option Int)) : TO := fun σ H Q => ∃ B Hs ev o, Rl K B Hs H σ ev ∧ f ev = some o ∧ ∀ Hs' H', Gr Hs H Hs' H' → Q o H'
def fNoP : Ev → Option (Option Int) := fun _ => some none
def fPart (f : Ev → Option T) : Ev → Option (Option Int) := fun ev => match f ev with
  | some (.int i) => some (some i)
  | _ => none
theorem PO.by {o : Option Expr} {t t' : TO} (h : PO X o t) (i : ∀ σ H Q, t' σ H Q → t σ H Q) : PO X o t' := ⟨fun pins s σ H Q I hw => h.run pins s σ H Q I (i σ H Q hw)⟩
theorem fo_none : PO X none (tO K fNoP) := PO.by po_none fun σ H Q ⟨B, Hs, ev, t, R, hf, q⟩ => by cases hf; exact q Hs H (Gr.refl R.bd.ok)
theorem fo_some (h : PE X e (tF K fa)) : PO X (some e) (tO K (fPart fa)) := PO.by (po_some h) fun σ H Q ⟨B, Hs, ev, t, R, hf, q⟩ => by
  unfold fPart at hf
  cases h : fa ev with
  | none => rw [h] at hf; cases hf
  | some d =>
    rw [h] at hf
    cases d with
    | int i => cases hf; exact ⟨B, Hs, ev, _, R, h, fun v Hs' H' g r => by cases r; exact ⟨i, rfl, q Hs' H' g⟩⟩
    | _ => cases hf
def cutT {α : Type} (xs : List α) (lo hi : Option Int) : List α := (xs.drop (HT.sIx xs.length 0 lo)).take (HT.sIx xs.length xs.length hi - HT.sIx xs.length 0 lo)
def fSl (g : T → Option Int → Option Int → Option T) (f : Ev → Option T) (fl fh : Ev → Option (Option Int)) : Ev → Option T := fun ev => match f ev, fl ev, fh ev with
  | some t, some lo, some hi => g t lo hi
  | _, _, _ => none
def gSlL : T → Option Int → Option Int → Option T
  | .lst ts, lo, hi => if noLs ts then some (.lst (cutT ts lo hi)) else none
  | .scr ns, lo, hi => some (.lst ((cutT ns lo hi).map .int))
  | _, _, _ => none
def gSl : T → Option Int → Option Int → Option T
  | .str s, lo, hi => if s.length ≤ sizeLine then some (.str (cutS s lo hi)) else none
  | .tup ts, lo, hi => some (.tup (cutT ts lo hi))
  | _, _, _ => none
theorem Rps.cut {H : Hp} {vs : List V} {ts : List T} (h : Rps K H vs ts) (lo hi : Option Int) : Rps K H (cutV vs lo hi) (cutT ts lo hi) := by
  unfold cutV cutT
  rw [h.length]
  exact (h.drop _).take _
theorem Rps.cutInts {H : Hp} (ns : List Int) (lo hi : Option Int) : Rps K H (cutV (ns.map V.int) lo hi) ((cutT ns lo hi).map .int) := by
  have e2 : cutV (ns.map V.int) lo hi = (cutT ns lo hi).map V.int := by
    unfold cutV cutT
    rw [List.length_map, List.map_take, List.map_drop]
  rw [e2]
  exact Rps.ofInts _
theorem noLs_sub {ts us : List T} (h : noLs ts = true) (s : ∀ t ∈ us, t ∈ ts) : noLs us = true := noLs_of fun t ht => noLs_mem h (s t ht)
theorem noLs_ints (ns : List Int) : noLs (ns.map .int) = true := noLs_of fun t ht => by
  obtain ⟨n, _, rfl⟩ := List.mem_map.mp ht
  rfl
theorem noLs_strs (ns : List Str) : noLs (ns.map .str) = true := noLs_of fun t ht => by
  obtain ⟨n, _, rfl⟩ := List.mem_map.mp ht
  rfl
theorem fn_sl {p2 : Pos} {lo hi : Option Expr} {fl fh : Ev → Option (Option Int)} (he : PE X e (tF K fa)) (hl : PO X lo (tO K fl)) (hh : PO X hi (tO K fh)) (hK : X.K = K := by rfl) : PE X (.Subscript e (.Slice lo hi none p2) pos) (tN K (fSl gSlL fa fl fh)) := by
  subst hK
  refine PE.by (pe_slice sl_list he hl hh) fun σ H Q ⟨B, Hs, ev, t, R, hf, q⟩ => ?_
  unfold fSl at hf
  split at hf
  · rename_i d lo hi h1 h2 h3
    refine ⟨B, Hs, ev, d, R, h1, fun v Hs1 H1 g1 r1 => ⟨B, Hs1, ev, lo, R.to g1, h2, fun Hs2 H2 g2 => ⟨B, Hs2, ev, hi, (R.to g1).to g2, h3, fun Hs3 H3 g3 => ?_⟩⟩⟩
    have g13 := (g1.trans g2).trans g3
    have r3 := r1.mono (g2.s.trans g3.s)
    unfold gSlL at hf
    split at hf
    · split at hf
      · rename_i hz
        cases hf
        cases r3 with
        | lst e r =>
          refine ⟨_, _, rfl, SqL.of (g3.ok.sub _ _ e), fun p hp => ?_⟩
          refine q _ _ (g13.h.trans (same_new hp)) (.lst (Frs.lst upd_same (g13.h.free hp)) ((r.cut lo hi).flat (fun a xs e => Frs.cst ?_ rfl) (noLs_sub hz fun t ht => List.mem_of_mem_drop (List.mem_of_mem_take ht))))
          rw [upd_ne (ne_of_none (g3.ok.sub _ _ e) hp)]
          exact g3.ok.sub _ _ e
      · cases hf
    · cases hf
      cases r3 with
      | scr e =>
        refine ⟨_, _, rfl, g3.ok.sub.seq e, fun p hp => ?_⟩
        refine q _ _ (g13.h.trans (same_new hp)) (.lst (Frs.lst upd_same (g13.h.free hp)) ?_)
        exact Rps.cutInts _ _ _
    · cases hf
  · cases hf
theorem fe_sl {p2 : Pos} {lo hi : Option Expr} {fl fh : Ev → Option (Option Int)} (he : PE X e (tF K fa)) (hl : PO X lo (tO K fl)) (hh : PO X hi (tO K fh)) (hK : X.K = K := by rfl) : PE X (.Subscript e (.Slice lo hi none p2) pos) (tF K (fSl gSl fa fl fh)) := by
  subst hK
  refine PE.by (pe_slice (sl_str.or sl_tupA) he hl hh) fun σ H Q ⟨B, Hs, ev, t, R, hf, q⟩ => ?_
  unfold fSl at hf
  split at hf
  · rename_i d lo hi h1 h2 h3
    refine ⟨B, Hs, ev, d, R, h1, fun v Hs1 H1 g1 r1 => ⟨B, Hs1, ev, lo, R.to g1, h2, fun Hs2 H2 g2 => ⟨B, Hs2, ev, hi, (R.to g1).to g2, h3, fun Hs3 H3 g3 => ?_⟩⟩⟩
    have g13 := (g1.trans g2).trans g3
    have r3 := r1.mono (g2.s.trans g3.s)
    unfold gSl at hf
    split at hf
    · split at hf
      · rename_i hz
        cases hf; cases r3
        exact .inl ⟨_, rfl, hz, q _ _ _ g13 (.str _)⟩
      · cases hf
    · cases hf
      cases r3 with
      | tup e r =>
        rename_i ts aa vs
        refine .inr ⟨_, _, rfl, SqT.of (g3.ok.sub _ _ e), fun hw => ?_, fun _ p hp => ?_⟩
        · refine q _ _ _ g13 ?_
          have he : cutT ts lo hi = ts := by
            unfold cutT
            rw [r.length] at hw
            rw [hw.1, hw.2, List.drop_zero, Nat.sub_zero, List.take_length]
          rw [he]
          exact .tup e r
        · have g4 := Gr.new g3.ok hp (o := .tup (cutV vs lo hi))
          exact q _ _ _ (g13.trans g4) (.tup upd_same ((r.cut lo hi).mono g4.s))
    · cases hf
  · cases hf
end
end Fx

namespace Fx
open PySem PySem.Spec L2
open PyProof.Rows hiding St

def intsOf : List T → Option (List Int)
  | [] => some []
  | .int i :: ts => (intsOf ts).map fun ns => i :: ns
  | _ :: _ => none
def strsOf : List T → Option (List Str)
  | [] => some []
  | .str i :: ts => (strsOf ts).map fun ns => i :: ns
  | _ :: _ => none
theorem intsOf_some : ∀ {ts : List T} {ns : List Int}, intsOf ts = some ns → ts = ns.map .int
  | [], _, h => by cases h; rfl
  | .int i :: ts, ns, h => by
    unfold intsOf at h
    cases h2 : intsOf ts with
    | none => rw [h2] at h; cases h
    | some ms => rw [h2] at h; cases h; rw [intsOf_some h2]; rfl
  | .non :: _, _, h => by cases h
  | .bl _ :: _, _, h => by cases h
  | .str _ :: _, _, h => by cases h
  | .tup _ :: _, _, h => by cases h
  | .lst _ :: _, _, h => by cases h
  | .scr _ :: _, _, h => by cases h
theorem intsOf_map : ∀ ns : List Int, intsOf (ns.map .int) = some ns
  | [] => rfl
  | n :: ns => by
    show (intsOf (ns.map .int)).map _ = _
    rw [intsOf_map ns]; rfl
theorem strsOf_some : ∀ {ts : List T} {ns : List Str}, strsOf ts = some ns → ts = ns.map .str
  | [], _, h => by cases h; rfl
  | .str i :: ts, ns, h => by
    unfold strsOf at h
    cases h2 : strsOf ts with
    | none => rw [h2] at h; cases h
    | some ms => rw [h2] at h; cases h; rw [strsOf_some h2]; rfl
  | .non :: _, _, h => by cases h
  | .bl _ :: _, _, h => by cases h
  | .int _ :: _, _, h => by cases h
  | .tup _ :: _, _, h => by cases h
  | .lst _ :: _, _, h => by cases h
  | .scr _ :: _, _, h => by cases h
theorem strsOf_map : ∀ ns : List Str, strsOf (ns.map .str) = some ns
  | [] => rfl
  | n :: ns => by
    show (strsOf (ns.map .str)).map _ = _
    rw [strsOf_map ns]; rfl

/-! ### methods of texts -/
def fM (g : T → List T → Option T) (f : Ev → Option T) (fs : Ev → Option (List T)) : Ev → Option T := fun ev => (f ev).bind fun d => (fs ev).bind fun ds => g d ds
def MtD (K : PySem.W.Frag) (r : V → List V → Hp → VK → Prop) (g : T → List T → Option T) : Prop := ∀ (Hs H : Hp) (a : Str) (vs : List V) (ds : List T) (z : T), Ok Hs H → Rps K Hs vs ds → g (.str a) ds = some z → ∀ Q : VK, (∀ v Hs' H', Gr Hs H Hs' H' → Rp K Hs' v z → Q v H') → r (.str a) vs H Q
def MtN (K : PySem.W.Frag) (r : V → List V → Hp → VK → Prop) (g : T → List T → Option T) : Prop := ∀ (Hs H : Hp) (a : Str) (vs : List V) (ds : List T) (z : T), Ok Hs H → Rps K Hs vs ds → g (.str a) ds = some z → ∀ Q : VK, (∀ v H', Same H H' → Rp K (Frs H H') v z → Q v H') → r (.str a) vs H Q
def isStr : T → Bool
  | .str _ => true
  | _ => false
section
variable {X : Cx} {K : PySem.W.Frag} {o e : Expr} {es : List Expr} {f : Ev → Option T} {fs : Ev → Option (List T)} {name : Str} {apos cpos : Pos} {id : String} {r : V → List V → Hp → VK → Prop} {g : T → List T → Option T}
theorem fe_m (slot : Slot "str" name id) (hty : typeOf (.builtin id) = pure (.type "method_descriptor")) (hm : MtR X id r) (hd : MtD K r g) (hg : ∀ d ds z, g d ds = some z → isStr d = true) (ho : PE X o (tF K f)) (ha : PA X (e :: es) (tA K fs))
    (hbase : attributeBase o name X.env (eval o X.env) = eval o X.env := by rfl)
    (hfew : ((backTo cpos (starEach (e :: es) X.env)).all (fun x => !x.1) && (backToKw cpos (keywordEach [] X.env)).all (fun x => x.1.isSome)
      && decide ((e :: es).length + ([] : List Keyword).length + (if ([] : List Keyword).isEmpty then 0 else 1) < 30)) = true := by rfl)
    (hline : (apos.endLine == cpos.line) = true := by rfl) (hs : starEach (e :: es) X.env = (false, eval e X.env) :: starEach es X.env := by rfl) (hplain : (backTo cpos (starEach es X.env)).any (·.1) = false := by rfl) :
    PE X (.Call (.Attribute o name apos) (e :: es) [] cpos) (tF K (fM g f fs)) := PE.by (pe_bm F.plainAttrs_str slot hty hm ho ha hbase hfew hline hs hplain) fun σ H Q ⟨B, Hs, ev, t, R, hf, q⟩ => by
  obtain ⟨d, h1, hf⟩ := bind_some hf
  obtain ⟨ds, h2, hf⟩ := bind_some hf
  have hs := hg _ _ _ hf
  cases d with
  | str a => exact ⟨B, Hs, ev, _, R, h1, fun v Hs1 H1 g1 r1 => by
      cases r1
      exact ⟨rfl, B, Hs1, ev, ds, R.to g1, h2, fun vs Hs2 H2 g2 r2 => hd Hs2 H2 a vs ds t g2.ok r2 hf Q fun v Hs3 H3 g3 r3 => q v Hs3 H3 ((g1.trans g2).trans g3) r3⟩⟩
  | _ => cases hs
theorem fn_m (slot : Slot "str" name id) (hty : typeOf (.builtin id) = pure (.type "method_descriptor")) (hm : MtR X id r) (hd : MtN K r g) (hg : ∀ d ds z, g d ds = some z → isStr d = true) (ho : PE X o (tF K f)) (ha : PA X (e :: es) (tA K fs))
    (hbase : attributeBase o name X.env (eval o X.env) = eval o X.env := by rfl)
    (hfew : ((backTo cpos (starEach (e :: es) X.env)).all (fun x => !x.1) && (backToKw cpos (keywordEach [] X.env)).all (fun x => x.1.isSome)
      && decide ((e :: es).length + ([] : List Keyword).length + (if ([] : List Keyword).isEmpty then 0 else 1) < 30)) = true := by rfl)
    (hline : (apos.endLine == cpos.line) = true := by rfl) (hs : starEach (e :: es) X.env = (false, eval e X.env) :: starEach es X.env := by rfl) (hplain : (backTo cpos (starEach es X.env)).any (·.1) = false := by rfl) :
    PE X (.Call (.Attribute o name apos) (e :: es) [] cpos) (tN K (fM g f fs)) := PE.by (pe_bm F.plainAttrs_str slot hty hm ho ha hbase hfew hline hs hplain) fun σ H Q ⟨B, Hs, ev, t, R, hf, q⟩ => by
  obtain ⟨d, h1, hf⟩ := bind_some hf
  obtain ⟨ds, h2, hf⟩ := bind_some hf
  have hs := hg _ _ _ hf
  cases d with
  | str a => exact ⟨B, Hs, ev, _, R, h1, fun v Hs1 H1 g1 r1 => by
      cases r1
      exact ⟨rfl, B, Hs1, ev, ds, R.to g1, h2, fun vs Hs2 H2 g2 r2 => hd Hs2 H2 a vs ds t g2.ok r2 hf Q fun v H3 s3 r3 => q v H3 ((g1.h.trans g2.h).trans s3) (r3.mono (Frs.back (g1.h.trans g2.h)))⟩⟩
  | _ => cases hs
end
def gSplit : T → List T → Option T
  | .str a, [.str b] => if (b.length == 0) = false ∧ a.length + 2 ≤ sizeLine then some (.lst ((Txt.split a b).map .str)) else none
  | _, _ => none
def gJoin : T → List T → Option T
  | .str a, [.lst ts] => match strsOf ts with
    | some ys => if (ys.map (·.length)).sum + ys.length * a.length ≤ 16777216 then some (.str (Txt.join a ys)) else none
    | none => none
  | _, _ => none
def gRstrip : T → List T → Option T
  | .str a, [.str b] => if a.length ≤ sizeLine then some (.str (Txt.rstripChars a b)) else none
  | _, _ => none
def gEndswith : T → List T → Option T
  | .str a, [.str b] => some (.bl (Txt.endswith a b))
  | _, _ => none
def gCount : T → List T → Option T
  | .str a, [.str b] => some (.int (Txt.count a b))
  | _, _ => none
def gFind3 : T → List T → Option T
  | .str a, [.str b, .int i] => some (.int (Txt.find3 a b i))
  | _, _ => none
section
variable {X : Cx} {K : PySem.W.Frag} {o e e2 : Expr} {f : Ev → Option T} {fs : Ev → Option (List T)} {apos cpos : Pos}
theorem rps1 {H : Hp} {vs : List V} {t : T} (r : Rps K H vs [t]) : ∃ v, vs = [v] ∧ Rp K H v t := by
  cases r with
  | cons a r => cases r; exact ⟨_, rfl, a⟩
theorem rps2 {H : Hp} {vs : List V} {t u : T} (r : Rps K H vs [t, u]) : ∃ v w, vs = [v, w] ∧ Rp K H v t ∧ Rp K H w u := by
  cases r with
  | cons a r =>
    cases r with
    | cons b r => cases r; exact ⟨_, _, rfl, a, b⟩
theorem md_split : MtN K (fun x xs H Q => ∃ a b, x = .str a ∧ xs = [.str b] ∧ (b.length == 0) = false ∧ a.length + 2 ≤ sizeLine ∧ rNewStrs (Txt.split a b) H Q) gSplit := fun Hs H a vs ds z ok r hz Q q => by
  unfold gSplit at hz
  split at hz
  · rename_i h
    cases h
    split at hz
    · rename_i c
      cases hz
      obtain ⟨v, rfl, r1⟩ := rps1 r
      cases r1
      refine ⟨_, _, rfl, rfl, c.1, c.2, fun p hp => ?_⟩
      exact q _ _ (same_new hp) (.lst (Frs.lst upd_same hp) (Rps.ofStrs _))
    · cases hz
  · cases hz
theorem md_join : MtD K (fun x xs H Q => ∃ a p, ∃ ys : List Str, x = .str a ∧ xs = [.ref p] ∧ (SqL K H p (ys.map V.str) ∨ SqT K H p (ys.map V.str)) ∧ (ys.map (·.length)).sum + ys.length * a.length ≤ 16777216 ∧ Q (.str (Txt.join a ys)) H) gJoin := fun Hs H a vs ds z ok r hz Q q => by
  unfold gJoin at hz
  split at hz
  · rename_i h
    cases h
    split at hz
    · rename_i ys hy
      split at hz
      · rename_i c
        cases hz
        obtain ⟨v, rfl, r1⟩ := rps1 r
        cases r1 with
        | lst e r2 =>
          rw [strsOf_some hy] at r2
          have e2 := r2.strs
          subst e2
          exact ⟨_, _, ys, rfl, rfl, .inl (SqL.of (ok.sub _ _ e)), c, q _ Hs H (Gr.refl ok) (.str _)⟩
      · cases hz
    · cases hz
  · cases hz
theorem md_rstrip : MtD K (fun x xs H Q => ∃ a b, x = .str a ∧ xs = [.str b] ∧ a.length ≤ sizeLine ∧ Q (.str (Txt.rstripChars a b)) H) gRstrip := fun Hs H a vs ds z ok r hz Q q => by
  unfold gRstrip at hz
  split at hz
  · rename_i h
    cases h
    split at hz
    · rename_i c
      cases hz
      obtain ⟨v, rfl, r1⟩ := rps1 r
      cases r1
      exact ⟨_, _, rfl, rfl, c, q _ Hs H (Gr.refl ok) (.str _)⟩
    · cases hz
  · cases hz
theorem md_endswith : MtD K (fun x xs H Q => ∃ a b, x = .str a ∧ xs = [.str b] ∧ Q (.bl (Txt.endswith a b)) H) gEndswith := fun Hs H a vs ds z ok r hz Q q => by
  unfold gEndswith at hz
  split at hz
  · rename_i h
    cases h
    cases hz
    obtain ⟨v, rfl, r1⟩ := rps1 r
    cases r1
    exact ⟨_, _, rfl, rfl, q _ Hs H (Gr.refl ok) (.bl _)⟩
  · cases hz
theorem md_count : MtD K (fun x xs H Q => ∃ a b, x = .str a ∧ xs = [.str b] ∧ Q (.int (Txt.count a b)) H) gCount := fun Hs H a vs ds z ok r hz Q q => by
  unfold gCount at hz
  split at hz
  · rename_i h
    cases h
    cases hz
    obtain ⟨v, rfl, r1⟩ := rps1 r
    cases r1
    exact ⟨_, _, rfl, rfl, q _ Hs H (Gr.refl ok) (.int _)⟩
  · cases hz
theorem md_find3 : MtD K (fun x xs H Q => ∃ (a b : Str) (i : Int), x = .str a ∧ xs = [.str b, .int i] ∧ Q (.int (Txt.find3 a b i)) H) gFind3 := fun Hs H a vs ds z ok r hz Q q => by
  unfold gFind3 at hz
  split at hz
  · rename_i h
    cases h
    cases hz
    obtain ⟨v, w, rfl, r1, r2⟩ := rps2 r
    cases r1; cases r2
    exact ⟨_, _, _, rfl, rfl, q _ Hs H (Gr.refl ok) (.int _)⟩
  · cases hz
theorem g_split_str : ∀ d ds z, gSplit d ds = some z → isStr d = true := fun d ds z h => by unfold gSplit at h; split at h <;> first | rfl | cases h
theorem g_join_str : ∀ d ds z, gJoin d ds = some z → isStr d = true := fun d ds z h => by unfold gJoin at h; split at h <;> first | rfl | cases h
theorem g_rstrip_str : ∀ d ds z, gRstrip d ds = some z → isStr d = true := fun d ds z h => by unfold gRstrip at h; split at h <;> first | rfl | cases h
theorem g_endswith_str : ∀ d ds z, gEndswith d ds = some z → isStr d = true := fun d ds z h => by unfold gEndswith at h; split at h <;> first | rfl | cases h
theorem g_count_str : ∀ d ds z, gCount d ds = some z → isStr d = true := fun d ds z h => by unfold gCount at h; split at h <;> first | rfl | cases h
theorem g_find3_str : ∀ d ds z, gFind3 d ds = some z → isStr d = true := fun d ds z h => by unfold gFind3 at h; split at h <;> first | rfl | cases h
end

/-! ### built-ins by name -/
def gLen : List T → Option T
  | [.lst ts] => some (.int ts.length)
  | [.tup ts] => some (.int ts.length)
  | [.scr ns] => some (.int ns.length)
  | [.str s] => if s.length ≤ sizeLine then some (.int s.length) else none
  | _ => none
def gMax : List T → Option T
  | [.lst ts] => (intsOf ts).bind fun ns => ns.max?.map .int
  | [.int i, .int j] => some (.int (if j > i then j else i))
  | _ => none
def gMin : List T → Option T
  | [.lst ts] => (intsOf ts).bind fun ns => ns.min?.map .int
  | [.int i, .int j] => some (.int (if j < i then j else i))
  | _ => none
def gAbs : List T → Option T
  | [.int i] => some (.int (if i < 0 then -i else i))
  | _ => none
def gInt : List T → Option T
  | [.int i] => some (.int i)
  | [.bl b] => some (.int (if b then 1 else 0))
  | _ => none
def gStr : List T → Option T
  | [.int i] => if i.natAbs.log2 < 1920 then some (.str (toString i)) else none
  | _ => none
def gList : List T → Option T
  | [.lst ts] => if noLs ts then some (.lst ts) else none
  | [.tup ts] => if noLs ts then some (.lst ts) else none
  | _ => none
section
variable {X : Cx} {K : PySem.W.Frag}
theorem cd_len : CallD K (fun xs H Q => ∃ x n, xs = [x] ∧ LenV K x H n ∧ Q (.int n) H) gLen := fun Hs H vs ds z ok r hz Q q => by
  unfold gLen at hz
  split at hz
  · cases hz
    obtain ⟨v, rfl, r1⟩ := rps1 r
    cases r1 with
    | lst e r2 =>
      refine ⟨_, _, rfl, .inl ⟨_, SqL.of (ok.sub _ _ e), rfl⟩, ?_⟩
      rw [r2.length]
      exact q _ Hs H (Gr.refl ok) (.int _)
  · cases hz
    obtain ⟨v, rfl, r1⟩ := rps1 r
    cases r1 with
    | tup e r2 =>
      refine ⟨_, _, rfl, .inr ⟨_, SqT.of (ok.sub _ _ e), rfl⟩, ?_⟩
      rw [r2.length]
      exact q _ Hs H (Gr.refl ok) (.int _)
  · cases hz
    obtain ⟨v, rfl, r1⟩ := rps1 r
    cases r1 with
    | scr e =>
      refine ⟨_, _, rfl, .inl ⟨_, ok.sub.seq e, rfl⟩, ?_⟩
      rw [List.length_map]
      exact q _ Hs H (Gr.refl ok) (.int _)
  · split at hz
    · rename_i c
      cases hz
      obtain ⟨v, rfl, r1⟩ := rps1 r
      cases r1
      exact ⟨_, _, rfl, ⟨c, rfl⟩, q _ Hs H (Gr.refl ok) (.int _)⟩
    · cases hz
  · cases hz
theorem max_is {ns : List Int} {m n : Int} (h : ns.max? = some n) (h1 : m ∈ ns) (h2 : ∀ y, y ∈ ns → y ≤ m) : m = n := by
  have := (List.max?_eq_some_iff).mp h
  exact Int.le_antisymm (this.2 m h1) (h2 n this.1)
theorem min_is {ns : List Int} {m n : Int} (h : ns.min? = some n) (h1 : m ∈ ns) (h2 : ∀ y, y ∈ ns → m ≤ y) : m = n := by
  have := (List.min?_eq_some_iff).mp h
  exact Int.le_antisymm (h2 n this.1) (this.2 m h1)
theorem cd_max : CallD K (fun xs H Q => rMax K xs H Q ∨ ∃ i j, xs = [.int i, .int j] ∧ Q (.int (if j > i then j else i)) H) gMax := fun Hs H vs ds z ok r hz Q q => by
  unfold gMax at hz
  split at hz
  · obtain ⟨ns, h1, hz⟩ := bind_some hz
    cases hm : ns.max? with
    | none => rw [hm] at hz; cases hz
    | some m =>
      rw [hm] at hz
      cases hz
      obtain ⟨v, rfl, r1⟩ := rps1 r
      cases r1 with
      | lst e r2 =>
        rw [intsOf_some h1] at r2
        have e2 := r2.ints
        subst e2
        refine .inl ⟨_, ns, rfl, SqL.of (ok.sub _ _ e), ?_, fun m' k1 k2 => ?_⟩
        · cases ns with
          | nil => cases hm
          | cons _ _ => exact Nat.zero_lt_succ _
        · rw [max_is hm k1 k2]
          exact q _ Hs H (Gr.refl ok) (.int _)
  · cases hz
    obtain ⟨v, w, rfl, r1, r2⟩ := rps2 r
    cases r1; cases r2
    exact .inr ⟨_, _, rfl, q _ Hs H (Gr.refl ok) (.int _)⟩
  · cases hz
theorem cd_min : CallD K (fun xs H Q => rMin K xs H Q ∨ ∃ i j, xs = [.int i, .int j] ∧ Q (.int (if j < i then j else i)) H) gMin := fun Hs H vs ds z ok r hz Q q => by
  unfold gMin at hz
  split at hz
  · obtain ⟨ns, h1, hz⟩ := bind_some hz
    cases hm : ns.min? with
    | none => rw [hm] at hz; cases hz
    | some m =>
      rw [hm] at hz
      cases hz
      obtain ⟨v, rfl, r1⟩ := rps1 r
      cases r1 with
      | lst e r2 =>
        rw [intsOf_some h1] at r2
        have e2 := r2.ints
        subst e2
        refine .inl ⟨_, ns, rfl, SqL.of (ok.sub _ _ e), ?_, fun m' k1 k2 => ?_⟩
        · cases ns with
          | nil => cases hm
          | cons _ _ => exact Nat.zero_lt_succ _
        · rw [min_is hm k1 k2]
          exact q _ Hs H (Gr.refl ok) (.int _)
  · cases hz
    obtain ⟨v, w, rfl, r1, r2⟩ := rps2 r
    cases r1; cases r2
    exact .inr ⟨_, _, rfl, q _ Hs H (Gr.refl ok) (.int _)⟩
  · cases hz
theorem cd_abs : CallD K (fun xs H Q => ∃ i, xs = [.int i] ∧ Q (.int (if i < 0 then -i else i)) H) gAbs := fun Hs H vs ds z ok r hz Q q => by
  unfold gAbs at hz
  split at hz
  · cases hz
    obtain ⟨v, rfl, r1⟩ := rps1 r
    cases r1
    exact ⟨_, rfl, q _ Hs H (Gr.refl ok) (.int _)⟩
  · cases hz
theorem cd_int : CallD K (fun xs H Q => (∃ i, xs = [.int i] ∧ Q (.int i) H) ∨ ∃ k, xs = [.bl k] ∧ Q (.int (if k then 1 else 0)) H) gInt := fun Hs H vs ds z ok r hz Q q => by
  unfold gInt at hz
  split at hz
  · cases hz
    obtain ⟨v, rfl, r1⟩ := rps1 r
    cases r1
    exact .inl ⟨_, rfl, q _ Hs H (Gr.refl ok) (.int _)⟩
  · cases hz
    obtain ⟨v, rfl, r1⟩ := rps1 r
    cases r1
    exact .inr ⟨_, rfl, q _ Hs H (Gr.refl ok) (.int _)⟩
  · cases hz
theorem cd_str : CallD K (fun xs H Q => ∃ i, xs = [.int i] ∧ i.natAbs.log2 < 1920 ∧ Q (.str (toString i)) H) gStr := fun Hs H vs ds z ok r hz Q q => by
  unfold gStr at hz
  split at hz
  · split at hz
    · rename_i c
      cases hz
      obtain ⟨v, rfl, r1⟩ := rps1 r
      cases r1
      exact ⟨_, rfl, c, q _ Hs H (Gr.refl ok) (.str _)⟩
    · cases hz
  · cases hz
theorem cn_list : CallN K (fun xs H Q => ∃ p ys, xs = [.ref p] ∧ (SqL K H p ys ∨ SqT K H p ys) ∧ ∀ l, H l = none → Q (.ref l) (upd H l (.lst ys))) gList := fun Hs H vs ds z ok r hz Q q => by
  unfold gList at hz
  split at hz
  · split at hz
    · rename_i c
      cases hz
      obtain ⟨v, rfl, r1⟩ := rps1 r
      cases r1 with
      | lst e r2 =>
        refine ⟨_, _, rfl, .inl (SqL.of (ok.sub _ _ e)), fun l hl => q _ _ (same_new hl) (.lst (Frs.lst upd_same hl) (r2.flat (fun a xs e => Frs.cst ?_ rfl) c))⟩
        rw [upd_ne (ne_of_none (ok.sub _ _ e) hl)]
        exact ok.sub _ _ e
    · cases hz
  · split at hz
    · rename_i c
      cases hz
      obtain ⟨v, rfl, r1⟩ := rps1 r
      cases r1 with
      | tup e r2 =>
        refine ⟨_, _, rfl, .inr (SqT.of (ok.sub _ _ e)), fun l hl => q _ _ (same_new hl) (.lst (Frs.lst upd_same hl) (r2.flat (fun a xs e => Frs.cst ?_ rfl) c))⟩
        rw [upd_ne (ne_of_none (ok.sub _ _ e) hl)]
        exact ok.sub _ _ e
    · cases hz
  · cases hz
end
/-! ### isinstance(x, T), T a built-in type -/
def tyName : T → String
  | .non => "NoneType"
  | .bl _ => "bool"
  | .int _ => "int"
  | .str _ => "str"
  | .tup _ => "tuple"
  | .lst _ => "list"
  | .scr _ => "list"
def qInt : T → Bool
  | .int _ => true
  | .bl _ => true
  | _ => false
def qBool : T → Bool
  | .bl _ => true
  | _ => false
def qStr : T → Bool
  | .str _ => true
  | _ => false
def qTuple : T → Bool
  | .tup _ => true
  | _ => false
def qList : T → Bool
  | .lst _ => true
  | .scr _ => true
  | _ => false
theorem kit_int : ∀ t : T, kitB (tyName t) "int" = some (qInt t)
  | .non => (by decide +kernel : kitB "NoneType" "int" = some false)
  | .bl _ => (by decide +kernel : kitB "bool" "int" = some true)
  | .int _ => (by decide +kernel : kitB "int" "int" = some true)
  | .str _ => (by decide +kernel : kitB "str" "int" = some false)
  | .tup _ => (by decide +kernel : kitB "tuple" "int" = some false)
  | .lst _ => (by decide +kernel : kitB "list" "int" = some false)
  | .scr _ => (by decide +kernel : kitB "list" "int" = some false)
theorem kit_bool : ∀ t : T, kitB (tyName t) "bool" = some (qBool t)
  | .non => (by decide +kernel : kitB "NoneType" "bool" = some false)
  | .bl _ => (by decide +kernel : kitB "bool" "bool" = some true)
  | .int _ => (by decide +kernel : kitB "int" "bool" = some false)
  | .str _ => (by decide +kernel : kitB "str" "bool" = some false)
  | .tup _ => (by decide +kernel : kitB "tuple" "bool" = some false)
  | .lst _ => (by decide +kernel : kitB "list" "bool" = some false)
  | .scr _ => (by decide +kernel : kitB "list" "bool" = some false)
theorem kit_str : ∀ t : T, kitB (tyName t) "str" = some (qStr t)
  | .non => (by decide +kernel : kitB "NoneType" "str" = some false)
  | .bl _ => (by decide +kernel : kitB "bool" "str" = some false)
  | .int _ => (by decide +kernel : kitB "int" "str" = some false)
  | .str _ => (by decide +kernel : kitB "str" "str" = some true)
  | .tup _ => (by decide +kernel : kitB "tuple" "str" = some false)
  | .lst _ => (by decide +kernel : kitB "list" "str" = some false)
  | .scr _ => (by decide +kernel : kitB "list" "str" = some false)
theorem kit_tuple : ∀ t : T, kitB (tyName t) "tuple" = some (qTuple t)
  | .non => (by decide +kernel : kitB "NoneType" "tuple" = some false)
  | .bl _ => (by decide +kernel : kitB "bool" "tuple" = some false)
  | .int _ => (by decide +kernel : kitB "int" "tuple" = some false)
  | .str _ => (by decide +kernel : kitB "str" "tuple" = some false)
  | .tup _ => (by decide +kernel : kitB "tuple" "tuple" = some true)
  | .lst _ => (by decide +kernel : kitB "list" "tuple" = some false)
  | .scr _ => (by decide +kernel : kitB "list" "tuple" = some false)
theorem kit_list : ∀ t : T, kitB (tyName t) "list" = some (qList t)
  | .non => (by decide +kernel : kitB "NoneType" "list" = some false)
  | .bl _ => (by decide +kernel : kitB "bool" "list" = some false)
  | .int _ => (by decide +kernel : kitB "int" "list" = some false)
  | .str _ => (by decide +kernel : kitB "str" "list" = some false)
  | .tup _ => (by decide +kernel : kitB "tuple" "list" = some false)
  | .lst _ => (by decide +kernel : kitB "list" "list" = some true)
  | .scr _ => (by decide +kernel : kitB "list" "list" = some true)
def gIs (q : T → Bool) : T → Option T := fun t => some (.bl (q t))
theorem Rp.ty {K : PySem.W.Frag} {H : Hp} {v : V} {t : T} (r : Rp K H v t) : TyX K H v (.type (tyName t)) := by
  cases r with
  | non => exact .base .non
  | bl b => exact .base (.bl b)
  | int i => exact .base (.int i)
  | str s => exact .base (.str s)
  | tup e _ => exact .base (.tup e)
  | lst e _ => exact .base (.lst e)
  | scr e =>
    rcases e with (e | ⟨o, e⟩) | ⟨o, its, n, e, c, _⟩
    · exact .base (.lst e)
    · exact .base (.frz e)
    · exact .kList e c
theorem fe_isi {X : Cx} {K : PySem.W.Frag} {a : Expr} {f : Ev → Option T} {p p2 pos : Pos} {ty : Str} {tn : String} {qq : T → Bool} (hk : ∀ t, kitB (tyName t) tn = some (qq t)) (hv : bootBuiltins ty = some (.type tn)) (hm : X.mg "isinstance" = none) (hm2 : X.mg ty = none) (ha : PE X a (tF K f))
    (hg : Gl X "isinstance" := by rfl) (hg2 : Gl X ty := by rfl) (hn : ty ≠ "__name__" := by decide) (hd : (ty == ("__debug__" : Str)) = false := by decide) (hK : X.K = K := by rfl)
    (he : starEach [a, .Name ty p2] X.env = (false, eval a X.env) :: starEach [.Name ty p2] X.env := by rfl) (he2 : starEach [.Name ty p2] X.env = (false, eval (.Name ty p2) X.env) :: starEach [] X.env := by rfl) (hpl : (backTo pos (starEach [.Name ty p2] X.env)).any (·.1) = false := by rfl) :
    PE X (.Call (.Name "isinstance" p) [a, .Name ty p2] [] pos) (tF K (f1 (gIs qq) f)) := by
  subst hK
  refine PE.by (pe_callB call_isi hg hm (by decide +kernel) (pa_cons ha (pa_cons (pe_bltn (v := .ty tn) hg2 hm2 hv rfl hn hd) pa_nil he2) he) (by decide) (by decide) he hpl) fun σ H Q ⟨B, Hs, ev, t, R, hf, q⟩ => ?_
  obtain ⟨d, h, hf⟩ := bind_some hf
  cases hf
  exact ⟨B, Hs, ev, d, R, h, fun v Hs' H' g r => ⟨v, .ty tn, _, _, qq d, rfl, .ty tn, (r.mono g.ok.sub).ty, kit_ty (hk d), q _ Hs' H' g (.bl _)⟩⟩
end Fx

namespace Fx
open PySem PySem.Spec L2
open PyProof.Rows hiding St

/-! ### defs -/
inductive Res where
  | ok (t : T) | fr (t : T) | ex (c : Str)
/-- the promise: what it hands back for data ds is g ds (fr: its lists are new); where g tells nothing it is not asked -/
def SpR (K : PySem.W.Frag) (mg : Str → Option Value) (g : List T → Option Res) : Sp := fun vs H Q E => ∃ Hs ds r, Ok Hs H ∧ Rps K Hs vs ds ∧ g ds = some r ∧ match r with
  | .ok t => ∀ v Hs' H', Gr Hs H Hs' H' → Rp K Hs' v t → Q v H'
  | .fr t => ∀ v Hs' H', Gr Hs H Hs' H' → Rp K (Frs H H') v t → Q v H'
  | .ex c => ∀ Hs' H' cls, Gr Hs H Hs' H' → mg c = some cls → E cls none H'
/-- a body's outcome; n parameters, N names -/
def runB (N n : Nat) (F : Ev → Option Out) (ds : List T) : Option Res := if ds.length = n then (match F (ds.map .sh ++ List.replicate (N - n) .un) with
  | some (.rt t) => some (.ok t)
  | some (.rf t) => some (.fr t)
  | some (.nx _) => some (.ok .non)
  | some (.ex c _) => some (.ex c)
  | _ => none) else none
/-- of a body that lets no error out -/
def runP (N n : Nat) (F : Ev → Option Out) (ds : List T) : Option Res := match runB N n F ds with
  | some (.ex _) => none
  | r => r
/-- the value alone -/
def val : Option Res → Option T
  | some (.ok t) => some t
  | some (.fr t) => some t
  | _ => none
def fCall (g : List T → Option Res) (fs : Ev → Option (List T)) : Ev → Option T := fun ev => (fs ev).bind fun ds => val (g ds)
def fCallN (g : List T → Option Res) (fs : Ev → Option (List T)) : Ev → Option T := fun ev => (fs ev).bind fun ds => match g ds with
  | some (.fr t) => some t
  | _ => none
theorem rl_start {K : PySem.W.Frag} {Hs H : Hp} {N : List Str} {vs : List V} {ds : List T} {n : Nat} (ok : Ok Hs H) (r : Rps K Hs vs ds) (hn : ds.length = n) : Rl K ⟨Hs, H, 0⟩ Hs H (L2.start N vs) (ds.map .sh ++ List.replicate (N.length - n) .un) := by
  have hl := r.length
  refine ⟨⟨Same.refl _, Same.refl _, fun _ _ _ => rfl, ok⟩, ?_, fun _ => none, ⟨fun _ _ e => (nomatch e), fun i s o e1 e2 => ?_⟩⟩
  · unfold L2.start
    rw [List.length_append, List.length_append, List.length_map, List.length_map, List.length_replicate, List.length_replicate, hl, hn]
  · by_cases hi : i < ds.length
    · rw [List.getElem?_append_left (by rw [List.length_map]; exact hi), List.getElem?_map, List.getElem?_eq_getElem hi] at e1
      unfold L2.start at e2
      rw [List.getElem?_append_left (by rw [List.length_map, hl]; exact hi), List.getElem?_map] at e2
      obtain ⟨v, h1, h2⟩ := r.get (List.getElem?_eq_getElem hi)
      rw [h1] at e2
      cases e1; cases e2
      exact ⟨v, rfl, h2⟩
    · rw [List.getElem?_append_right (by rw [List.length_map]; omega), List.getElem?_replicate] at e1
      split at e1
      · cases e1; trivial
      · cases e1
section
variable {P : Program} {w : World} {K : PySem.W.Frag} {mg : Str → Option Value} {base : Heap} {x qual : Str} {st : Stmt} {f : Addr} {fd : FuncData} {N ps : List Str} {k : Nat} {F : Ev → Option Out}
theorem SpR.len {n : Nat} {g : List T → Option Res} (hg : ∀ ds r, g ds = some r → ds.length = n) : ∀ vs H Q E, SpR K mg g vs H Q E → vs.length = n := fun vs H Q E ⟨Hs, ds, r, _, rp, h, _⟩ => by
  rw [rp.length]
  exact hg _ _ h
theorem runB_len {N n : Nat} {F : Ev → Option Out} : ∀ ds r, runB N n F ds = some r → ds.length = n := fun ds r h => by
  unfold runB at h
  split at h
  · assumption
  · cases h
theorem runP_len {N n : Nat} {F : Ev → Option Out} : ∀ ds r, runP N n F ds = some r → ds.length = n := fun ds r h => by
  unfold runP at h
  cases h2 : runB N n F ds with
  | none => rw [h2] at h; cases h
  | some q => exact runB_len _ _ h2
/-- a def whose body lets no error out -/
theorem fn_ok (D : Fun K x qual st f fd) (S : FnScope N ps (defScope st)) (n m : Nat) (hn : ps.length = n) (hm : N.length = m)
    (hbody : ∀ (cdv : Value) (A : Around) (outer : List Env) (s : Shared) (H : Hp) (E : XK), Room k (A.deeper (envOfC qual (defScope st) s.heap.objs.size f cdv)) →
      PSs (cxOf CX0 P w K mg base N qual (defScope st) f cdv A outer s H E).nox (defBody st) (tS K mg (fun _ _ _ _ => False) F)) :
    FnOk P w K mg base CX0 (k + 1) f fd ps (SpR K mg (runP m n F)) := by
  subst hn hm
  refine D.ok S (SpR.len runP_len) fun cdv A outer s H vs Q E hr hsp => ⟨_, hbody cdv A outer s H E hr, ?_⟩
  obtain ⟨Hs, ds, r, ok, rp, hg, hp⟩ := hsp
  have hl := runP_len _ _ hg
  unfold runP runB at hg
  rw [if_pos hl] at hg
  cases hF : F (ds.map .sh ++ List.replicate (N.length - ps.length) .un) with
  | none => rw [hF] at hg; cases hg
  | some o =>
    rw [hF] at hg
    refine ⟨⟨Hs, H, 0⟩, Hs, _, o, rl_start ok rp hl, hF, ?_⟩
    cases o with
    | nx e => cases hg; exact fun σ' Hs' H' ss R => hp _ Hs' H' ⟨R.bd.s, R.bd.h, R.bd.n, R.bd.ok⟩ .non
    | rt t => cases hg; exact fun v Hs' H' ss b r => hp v Hs' H' ⟨b.s, b.h, b.n, b.ok⟩ r
    | rf t => cases hg; exact fun v Hs' H' ss b r => hp v Hs' H' ⟨b.s, b.h, b.n, b.ok⟩ r
    | _ => cases hg
/-- a def that may raise -/
theorem fn_okX (D : Fun K x qual st f fd) (S : FnScope N ps (defScope st)) (n m : Nat) (hn : ps.length = n) (hm : N.length = m)
    (hbody : ∀ (cdv : Value) (A : Around) (outer : List Env) (s : Shared) (H : Hp) (E : XK), Room k (A.deeper (envOfC qual (defScope st) s.heap.objs.size f cdv)) →
      PSs (cxOf (L2.CX P w) P w K mg base N qual (defScope st) f cdv A outer s H E) (defBody st) (tS K mg (fun cls d _ H => E cls d H) F)) :
    FnOk P w K mg base (L2.CX P w) (k + 1) f fd ps (SpR K mg (runB m n F)) := by
  subst hn hm
  refine D.okX S (SpR.len runB_len) fun cdv A outer s H vs Q E hr hsp => ⟨_, hbody cdv A outer s H E hr, ?_⟩
  obtain ⟨Hs, ds, r, ok, rp, hg, hp⟩ := hsp
  have hl := runB_len _ _ hg
  unfold runB at hg
  rw [if_pos hl] at hg
  cases hF : F (ds.map .sh ++ List.replicate (N.length - ps.length) .un) with
  | none => rw [hF] at hg; cases hg
  | some o =>
    rw [hF] at hg
    refine ⟨⟨Hs, H, 0⟩, Hs, _, o, rl_start ok rp hl, hF, ?_⟩
    cases o with
    | nx e => cases hg; exact fun σ' Hs' H' ss R => hp _ Hs' H' ⟨R.bd.s, R.bd.h, R.bd.n, R.bd.ok⟩ .non
    | rt t => cases hg; exact fun v Hs' H' ss b r => hp v Hs' H' ⟨b.s, b.h, b.n, b.ok⟩ r
    | rf t => cases hg; exact fun v Hs' H' ss b r => hp v Hs' H' ⟨b.s, b.h, b.n, b.ok⟩ r
    | ex c e => cases hg; exact fun σ' Hs' H' cls ss R hc => hp Hs' H' cls ⟨R.bd.s, R.bd.h, R.bd.n, R.bd.ok⟩ hc
    | _ => cases hg
end

/-! ### calls -/
section
variable {X : Cx} {K : PySem.W.Frag} {mg : Str → Option Value} {CX : CXT} {k : Nat} {f : Addr} {fd : FuncData} {ps : List Str} {g : List T → Option Res} {x : Str} {p pos : Pos} {e : Expr} {es : List Expr} {fs : Ev → Option (List T)} {W : WX}
theorem fe_call (F : FnOk X.prog X.w X.K X.mg X.base CX k f fd ps (SpR K mg g)) (hr : Room k X.A) (hm : X.mg x = some (.ref f)) (hk : PySem.W.keepIn X.K (.ref f) = true) (hb : Binds X.K fd ps []) (hx : Passes CX X E0)
    (ha : PA X (e :: es) (tA K fs)) (hg : Gl X x := by rfl) (hdb : (x == ("__debug__" : Str)) = false := by decide) (he : starEach (e :: es) X.env = (false, eval e X.env) :: starEach es X.env := by rfl) (hpl : (backTo pos (starEach es X.env)).any (·.1) = false := by rfl) :
    PE X (.Call (.Name x p) (e :: es) [] pos) (tF K (fCall g fs)) := PE.by (pe_call F hr hg hm hk hb .nil hx ha hdb he hpl) fun σ H Q ⟨B, Hs, ev, t, R, hf, q⟩ => by
  obtain ⟨ds, h1, hf⟩ := bind_some hf
  refine ⟨B, Hs, ev, ds, R, h1, fun vs Hs1 H1 g1 r1 => ?_⟩
  show SpR K mg g (vs ++ []) H1 Q E0
  rw [List.append_nil]
  unfold val at hf
  split at hf
  · rename_i t' hg
    cases hf
    exact ⟨Hs1, ds, _, g1.ok, r1, hg, fun v Hs2 H2 g2 r2 => q v Hs2 H2 (g1.trans g2) r2⟩
  · rename_i t' hg
    cases hf
    refine ⟨Hs1, ds, _, g1.ok, r1, hg, fun v Hs2 H2 g2 r2 => ?_⟩
    have g3 := Gr.nxt g1.ok g2.h
    exact q v _ H2 (g1.trans g3) (r2.mono (Frs.nxt g1.ok g2.h))
  · cases hf
theorem fn_call (F : FnOk X.prog X.w X.K X.mg X.base CX k f fd ps (SpR K mg g)) (hr : Room k X.A) (hm : X.mg x = some (.ref f)) (hk : PySem.W.keepIn X.K (.ref f) = true) (hb : Binds X.K fd ps []) (hx : Passes CX X E0)
    (ha : PA X (e :: es) (tA K fs)) (hg : Gl X x := by rfl) (hdb : (x == ("__debug__" : Str)) = false := by decide) (he : starEach (e :: es) X.env = (false, eval e X.env) :: starEach es X.env := by rfl) (hpl : (backTo pos (starEach es X.env)).any (·.1) = false := by rfl) :
    PE X (.Call (.Name x p) (e :: es) [] pos) (tN K (fCallN g fs)) := PE.by (pe_call F hr hg hm hk hb .nil hx ha hdb he hpl) fun σ H Q ⟨B, Hs, ev, t, R, hf, q⟩ => by
  obtain ⟨ds, h1, hf⟩ := bind_some hf
  refine ⟨B, Hs, ev, ds, R, h1, fun vs Hs1 H1 g1 r1 => ?_⟩
  show SpR K mg g (vs ++ []) H1 Q E0
  rw [List.append_nil]
  split at hf
  · rename_i t' hg
    cases hf
    exact ⟨Hs1, ds, _, g1.ok, r1, hg, fun v Hs2 H2 g2 r2 => q v H2 (g1.h.trans g2.h) (r2.mono (Frs.back g1.h))⟩
  · cases hf
/-! .. of a def that may raise, as a statement of its own -/
def fCallSet (i : Nat) (g : List T → Option Res) (fs : Ev → Option (List T)) : Ev → Option Out := fun ev => (fs ev).bind fun ds => match g ds with
  | some (.ok t) => some (.nx (ev.set i (.sh t)))
  | some (.fr t) => some (.nx (ev.set i (.sh t)))
  | some (.ex c) => some (.ex c ev)
  | none => none
def fCallRet (g : List T → Option Res) (fs : Ev → Option (List T)) : Ev → Option Out := fun ev => (fs ev).bind fun ds => match g ds with
  | some (.ok t) => some (.rt t)
  | some (.fr t) => some (.rf t)
  | some (.ex c) => some (.ex c ev)
  | none => none
def fCallDrop (g : List T → Option Res) (fs : Ev → Option (List T)) : Ev → Option Out := fun ev => (fs ev).bind fun ds => match g ds with
  | some (.ok _) => some (.nx ev)
  | some (.fr _) => some (.nx ev)
  | some (.ex c) => some (.ex c ev)
  | none => none
theorem fs_callSet (i : Nat) {y : Str} {pos' spos : Pos} (F : FnOk X.prog X.w X.K X.mg X.base (L2.CX X.prog X.w) k f fd ps (SpR K mg g)) (tk : Takes X W) (hr : Room k X.A) (hm : X.mg x = some (.ref f)) (hk : PySem.W.keepIn X.K (.ref f) = true) (hb : Binds X.K fd ps []) (hN : X.N.Nodup)
    (ha : PA X (e :: es) (tA K fs)) (hg : Gl X x := by rfl) (hdb : (x == ("__debug__" : Str)) = false := by decide) (he : starEach (e :: es) X.env = (false, eval e X.env) :: starEach es X.env := by rfl) (hpl : (backTo pos (starEach es X.env)).any (·.1) = false := by rfl)
    (hi : X.N[i]? = some y := by rfl) (hx : Loc X.env.scope y := by first | exact Or.inl rfl | exact Or.inr rfl) (hs : swapsWith (.Call (.Name x p) (e :: es) [] pos) (some (.Name y pos')) spos.line X.env = pure false := by rfl)
    (hf : X.fn y = true ∨ X.env.scope.names.lookup y = some .local := by first | exact .inl rfl | exact .inr rfl) :
    PS X (.Assign [.Name y pos'] (.Call (.Name x p) (e :: es) [] pos) spos) (tS K mg W (fCallSet i g fs)) := PS.by (ps_set hN hi hx (pe_callS F hr hg hm hk hb (fun σ => passAt tk σ) ha hdb he hpl) hs hf) fun D σ H ⟨B, Hs, ev, o, R, hf, q⟩ => by
  obtain ⟨ds, h1, hf⟩ := bind_some hf
  refine ⟨B, Hs, ev, ds, R, h1, fun vs Hs1 H1 g1 r1 => ?_⟩
  split at hf
  · rename_i t' hg
    cases hf
    exact ⟨Hs1, ds, _, g1.ok, r1, hg, fun v Hs2 H2 g2 r2 => q _ Hs2 H2 (g1.s.trans g2.s) (((R.to g1).to g2).set r2 i)⟩
  · rename_i t' hg
    cases hf
    refine ⟨Hs1, ds, _, g1.ok, r1, hg, fun v Hs2 H2 g2 r2 => ?_⟩
    have g3 := Gr.nxt g1.ok g2.h
    exact q _ _ H2 (g1.s.trans g3.s) (((R.to g1).to g3).set (r2.mono (Frs.nxt g1.ok g2.h)) i)
  · rename_i c hg
    cases hf
    exact ⟨Hs1, ds, _, g1.ok, r1, hg, fun Hs2 H2 cls g2 hc => q σ Hs2 H2 cls (g1.s.trans g2.s) ((R.to g1).to g2) hc⟩
  · cases hf
theorem fs_callRet {spos : Pos} (F : FnOk X.prog X.w X.K X.mg X.base (L2.CX X.prog X.w) k f fd ps (SpR K mg g)) (tk : Takes X W) (hr : Room k X.A) (hm : X.mg x = some (.ref f)) (hk : PySem.W.keepIn X.K (.ref f) = true) (hb : Binds X.K fd ps [])
    (ha : PA X (e :: es) (tA K fs)) (hg : Gl X x := by rfl) (hdb : (x == ("__debug__" : Str)) = false := by decide) (he : starEach (e :: es) X.env = (false, eval e X.env) :: starEach es X.env := by rfl) (hpl : (backTo pos (starEach es X.env)).any (·.1) = false := by rfl) :
    PS X (.Return (some (.Call (.Name x p) (e :: es) [] pos)) spos) (tS K mg W (fCallRet g fs)) := PS.by (ps_ret (pe_callS F hr hg hm hk hb (fun σ => passAt tk σ) ha hdb he hpl)) fun D σ H ⟨B, Hs, ev, o, R, hf, q⟩ => by
  obtain ⟨ds, h1, hf⟩ := bind_some hf
  refine ⟨B, Hs, ev, ds, R, h1, fun vs Hs1 H1 g1 r1 => ?_⟩
  split at hf
  · rename_i t' hg
    cases hf
    exact ⟨Hs1, ds, _, g1.ok, r1, hg, fun v Hs2 H2 g2 r2 => q _ Hs2 H2 (g1.s.trans g2.s) ((R.bd.to g1).to g2) r2⟩
  · rename_i t' hg
    cases hf
    refine ⟨Hs1, ds, _, g1.ok, r1, hg, fun v Hs2 H2 g2 r2 => ?_⟩
    exact q _ Hs2 H2 (g1.s.trans g2.s) ((R.bd.to g1).to g2) (r2.mono (Frs.back (R.bd.h.trans g1.h)))
  · rename_i c hg
    cases hf
    exact ⟨Hs1, ds, _, g1.ok, r1, hg, fun Hs2 H2 cls g2 hc => q σ Hs2 H2 cls (g1.s.trans g2.s) ((R.to g1).to g2) hc⟩
  · cases hf
theorem fs_callDrop {spos : Pos} (F : FnOk X.prog X.w X.K X.mg X.base (L2.CX X.prog X.w) k f fd ps (SpR K mg g)) (tk : Takes X W) (hr : Room k X.A) (hm : X.mg x = some (.ref f)) (hk : PySem.W.keepIn X.K (.ref f) = true) (hb : Binds X.K fd ps [])
    (ha : PA X (e :: es) (tA K fs)) (hg : Gl X x := by rfl) (hdb : (x == ("__debug__" : Str)) = false := by decide) (he : starEach (e :: es) X.env = (false, eval e X.env) :: starEach es X.env := by rfl) (hpl : (backTo pos (starEach es X.env)).any (·.1) = false := by rfl)
    (hs : swapsWith (.Call (.Name x p) (e :: es) [] pos) none spos.line X.env = pure false := by rfl) :
    PS X (.Expr (.Call (.Name x p) (e :: es) [] pos) spos) (tS K mg W (fCallDrop g fs)) := PS.by (ps_expr (pe_callS F hr hg hm hk hb (fun σ => passAt tk σ) ha hdb he hpl) hs) fun D σ H ⟨B, Hs, ev, o, R, hf, q⟩ => by
  obtain ⟨ds, h1, hf⟩ := bind_some hf
  refine ⟨B, Hs, ev, ds, R, h1, fun vs Hs1 H1 g1 r1 => ?_⟩
  split at hf
  · rename_i t' hg
    cases hf
    exact ⟨Hs1, ds, _, g1.ok, r1, hg, fun v Hs2 H2 g2 r2 => q _ Hs2 H2 (g1.s.trans g2.s) ((R.to g1).to g2)⟩
  · rename_i t' hg
    cases hf
    exact ⟨Hs1, ds, _, g1.ok, r1, hg, fun v Hs2 H2 g2 r2 => q _ Hs2 H2 (g1.s.trans g2.s) ((R.to g1).to g2)⟩
  · rename_i c hg
    cases hf
    exact ⟨Hs1, ds, _, g1.ok, r1, hg, fun Hs2 H2 cls g2 hc => q σ Hs2 H2 cls (g1.s.trans g2.s) ((R.to g1).to g2) hc⟩
  · cases hf
/-- raise X('m') -/
theorem fs_raise {C : Addr} {m : Str} {j : Nat} {p2 spos : Pos} (hc : X.calm = true) (tk : Takes X W) (q : PySem.W.excIn X.K C [.type "ValueError", .type "Exception", .type "BaseException", .type "object"] "ValueError.__new__" = true) (gC : X.mg x = some (.ref C)) (hmg : X.mg = mg) (kC : PySem.W.keepIn X.K (.ref C) = true) (r : Raises X (.ref C)) (hg : Gl X x := by rfl)
    (hdb : (x == ("__debug__" : Str)) = false := by decide) : PS X (.Raise (some (.Call (.Name x p) [.Constant (.str m) j p2] [] pos)) none spos) (tS K mg W (fRaise x)) :=
  PS.by (ps_raise hc tk (pmk_own PySem.F.excBase_ValueError q gC kC r hg hdb)) fun D σ H ⟨B, Hs, ev, o, R, hf, q⟩ => by
    cases hf
    exact q σ Hs H (.ref C) (Same.refl _) R (by rw [← hmg]; exact gC)
end
end Fx

namespace Fx
open PySem PySem.Spec L2
open PyProof.Rows hiding St

/-! ### plain lemmas -/
theorem compF_some {α : Type} {b : T → Ev → Option Ev} {c : Ev → Option Bool} {f : Ev → Option T} {ev : Ev} (inj : α → T) (p : α → Bool) (g : α → T) : ∀ (xs : List α), (∀ x ∈ xs, ∃ e1, b (inj x) ev = some e1 ∧ c e1 = some (p x) ∧ (p x = true → f e1 = some (g x))) →
    compF b c f ev (xs.map inj) = some ((xs.filter p).map g)
  | [], _ => rfl
  | x :: xs, h => by
    obtain ⟨e1, h1, h2, h3⟩ := h x List.mem_cons_self
    have ih := compF_some inj p g xs fun y hy => h y (List.mem_cons_of_mem _ hy)
    rw [List.map_cons, List.filter_cons]
    unfold compF
    rw [h1]
    dsimp only
    rw [h2]
    cases hp : p x with
    | true =>
      dsimp only
      rw [h3 hp]
      dsimp only
      rw [ih]
      rfl
    | false =>
      dsimp only
      rw [ih]
      rfl
theorem compF_yes {α : Type} {b : T → Ev → Option Ev} {f : Ev → Option T} {ev : Ev} (inj : α → T) (g : α → T) (xs : List α) (h : ∀ x ∈ xs, ∃ e1, b (inj x) ev = some e1 ∧ f e1 = some (g x)) : compF b fYes f ev (xs.map inj) = some (xs.map g) := by
  rw [compF_some inj (fun _ => true) g xs fun x hx => by
    obtain ⟨e1, h1, h2⟩ := h x hx
    exact ⟨e1, h1, rfl, fun _ => h2⟩]
  rw [List.filter_eq_self.mpr fun _ _ => rfl]
/-- a loop that always goes on: an invariant over what is done -/
theorem loopF_inv {α : Type} {b : T → Ev → Option Ev} {F : Ev → Option Out} (inj : α → T) (I : List α → Ev → Prop) : ∀ (rest done : List α) (ev : Ev), I done ev →
    (∀ d x r e, done ++ rest = d ++ x :: r → I d e → ∃ e1 e2, b (inj x) e = some e1 ∧ (F e1 = some (.nx e2) ∨ F e1 = some (.ct e2)) ∧ I (d ++ [x]) e2) →
    ∃ e', loopF b F (rest.map inj) ev = some (.nx e') ∧ I (done ++ rest) e'
  | [], done, ev, h, _ => ⟨ev, rfl, by rw [List.append_nil]; exact h⟩
  | x :: rest, done, ev, h, hs => by
    obtain ⟨e1, e2, h1, h2, h3⟩ := hs done x rest ev rfl h
    obtain ⟨e', h4, h5⟩ := loopF_inv inj I rest (done ++ [x]) e2 h3 fun d y r e he => hs d y r e (by rw [← he, List.append_assoc]; rfl)
    refine ⟨e', ?_, by rw [List.append_assoc] at h5; exact h5⟩
    rw [List.map_cons]
    unfold loopF
    rw [h1]
    dsimp only
    rcases h2 with h2 | h2
    · rw [h2]; exact h4
    · rw [h2]; exact h4
/-- a loop that goes on or hands back -/
theorem loopF_ret {α : Type} {b : T → Ev → Option Ev} {F : Ev → Option Out} (inj : α → T) (I : List α → Ev → Prop) (Rt : α → Out → Prop) (hb : ∀ x o, Rt x o → (∃ t, o = .rt t) ∨ (∃ t, o = .rf t) ∨ ∃ c e, o = .ex c e) : ∀ (rest done : List α) (ev : Ev), I done ev →
    (∀ d x r e, done ++ rest = d ++ x :: r → I d e → ∃ e1, b (inj x) e = some e1 ∧ ((∃ e2, F e1 = some (.nx e2) ∧ I (d ++ [x]) e2) ∨ ∃ o, F e1 = some o ∧ Rt x o)) →
    (∃ e', loopF b F (rest.map inj) ev = some (.nx e') ∧ I (done ++ rest) e') ∨ ∃ x ∈ rest, ∃ o, loopF b F (rest.map inj) ev = some o ∧ Rt x o
  | [], done, ev, h, _ => .inl ⟨ev, rfl, by rw [List.append_nil]; exact h⟩
  | x :: rest, done, ev, h, hs => by
    obtain ⟨e1, h1, h2⟩ := hs done x rest ev rfl h
    rcases h2 with ⟨e2, h2, h3⟩ | ⟨o, h2, h3⟩
    · rcases loopF_ret inj I Rt hb rest (done ++ [x]) e2 h3 fun d y r e he => hs d y r e (by rw [← he, List.append_assoc]; rfl) with ⟨e', h4, h5⟩ | ⟨y, hy, o, h4, h5⟩
      · refine .inl ⟨e', ?_, by rw [List.append_assoc] at h5; exact h5⟩
        rw [List.map_cons]; unfold loopF; rw [h1]; dsimp only; rw [h2]; exact h4
      · refine .inr ⟨y, List.mem_cons_of_mem _ hy, o, ?_, h5⟩
        rw [List.map_cons]; unfold loopF; rw [h1]; dsimp only; rw [h2]; exact h4
    · refine .inr ⟨x, List.mem_cons_self, o, ?_, h3⟩
      rw [List.map_cons]; unfold loopF; rw [h1]; dsimp only; rw [h2]
      rcases hb x o h3 with ⟨t, rfl⟩ | ⟨t, rfl⟩ | ⟨c, e, rfl⟩ <;> rfl
theorem irange_map (lo : Int) (n : Nat) : irange lo n = (List.range n).map fun (i : Nat) => T.int (lo + (i : Nat)) := rfl
end Fx
namespace Fx
open PySem PySem.Spec L2
open PyProof.Rows hiding St
theorem fSeq_nx {F G : Ev → Option Out} {ev e : Ev} (h : F ev = some (.nx e)) : fSeq F G ev = G e := by unfold fSeq; rw [h]
theorem fSeq_rt {F G : Ev → Option Out} {ev : Ev} {t : T} (h : F ev = some (.rt t)) : fSeq F G ev = some (.rt t) := by unfold fSeq; rw [h]
theorem fSeq_rf {F G : Ev → Option Out} {ev : Ev} {t : T} (h : F ev = some (.rf t)) : fSeq F G ev = some (.rf t) := by unfold fSeq; rw [h]
theorem fSeq_ex {F G : Ev → Option Out} {ev e : Ev} {c : Str} (h : F ev = some (.ex c e)) : fSeq F G ev = some (.ex c e) := by unfold fSeq; rw [h]
theorem fSet_eq {i : Nat} {f : Ev → Option T} {ev : Ev} {t : T} (h : f ev = some t) : fSet i f ev = some (.nx (ev.set i (.sh t))) := by unfold fSet; rw [h]; rfl
theorem fRet_eq {f : Ev → Option T} {ev : Ev} {t : T} (h : f ev = some t) : fRet f ev = some (.rt t) := by unfold fRet; rw [h]; rfl
theorem fIf_t {c : Ev → Option Bool} {F G : Ev → Option Out} {ev : Ev} (h : c ev = some true) : fIf c F G ev = F ev := by unfold fIf; rw [h]
theorem fIf_f {c : Ev → Option Bool} {F G : Ev → Option Out} {ev : Ev} (h : c ev = some false) : fIf c F G ev = G ev := by unfold fIf; rw [h]
theorem fTest_eq {f : Ev → Option T} {ev : Ev} {b : Bool} (h : f ev = some (.bl b)) : fTest f ev = some b := by unfold fTest; rw [h]
theorem f2_eq {g : T → T → Option T} {fa fb : Ev → Option T} {ev : Ev} {d e : T} (h1 : fa ev = some d) (h2 : fb ev = some e) : f2 g fa fb ev = g d e := by unfold f2; rw [h1, h2]; rfl
theorem fC_eq {g : List T → Option T} {fs : Ev → Option (List T)} {ev : Ev} {ds : List T} (h : fs ev = some ds) : fC g fs ev = g ds := by unfold fC; rw [h]; rfl
theorem fM_eq {g : T → List T → Option T} {f : Ev → Option T} {fs : Ev → Option (List T)} {ev : Ev} {d : T} {ds : List T} (h1 : f ev = some d) (h : fs ev = some ds) : fM g f fs ev = g d ds := by unfold fM; rw [h1, h]; rfl
theorem fCons_eq {fa : Ev → Option T} {fr : Ev → Option (List T)} {ev : Ev} {d : T} {ds : List T} (h1 : fa ev = some d) (h2 : fr ev = some ds) : fCons fa fr ev = some (d :: ds) := by unfold fCons; rw [h1, h2]; rfl
theorem fCall_eq {g : List T → Option Res} {fs : Ev → Option (List T)} {ev : Ev} {ds : List T} {t : T} (h : fs ev = some ds) (h2 : val (g ds) = some t) : fCall g fs ev = some t := by unfold fCall; rw [h]; exact h2
theorem fCallN_eq {g : List T → Option Res} {fs : Ev → Option (List T)} {ev : Ev} {ds : List T} {t : T} (h : fs ev = some ds) (h2 : g ds = some (.fr t)) : fCallN g fs ev = some t := by unfold fCallN; rw [h]; show (match g ds with | some (.fr t) => some t | _ => none) = _; rw [h2]
theorem fComp_eq {fi : Ev → Option (List T)} {b : T → Ev → Option Ev} {c : Ev → Option Bool} {f : Ev → Option T} {vs : List Nat} {ev : Ev} {ds ys : List T} (h1 : fi ev = some ds) (h2 : compF b c f (wipeE ev vs) ds = some ys) (h3 : noLs ys = true) (h4 : ys.length ≤ sizeLine) :
    fComp fi b c f vs ev = some (.lst ys) := by
  unfold fComp
  rw [h1]; dsimp only
  rw [h2]; dsimp only
  rw [h3, Bool.true_and, if_pos (decide_eq_true h4)]
theorem fFor_eq {fi : Ev → Option (List T)} {b : T → Ev → Option Ev} {F : Ev → Option Out} {ev : Ev} {ds : List T} (h : fi ev = some ds) : fFor fi b F ev = loopF b F ds ev := by unfold fFor; rw [h]; rfl
theorem runP_rt {N n : Nat} {F : Ev → Option Out} {ds : List T} {t : T} (hl : ds.length = n) (h : F (ds.map .sh ++ List.replicate (N - n) .un) = some (.rt t)) : runP N n F ds = some (.ok t) := by unfold runP runB; rw [if_pos hl, h]
theorem runP_rf {N n : Nat} {F : Ev → Option Out} {ds : List T} {t : T} (hl : ds.length = n) (h : F (ds.map .sh ++ List.replicate (N - n) .un) = some (.rf t)) : runP N n F ds = some (.fr t) := by unfold runP runB; rw [if_pos hl, h]

/-! ### texts -/
def oneS (c : Nat) : Str := ⟨#[c]⟩
def ofL (l : List Nat) : Str := ⟨l.toArray⟩
theorem tl_ofL (l : List Nat) : TL.tl (ofL l) = l := rfl
theorem ofL_tl (s : Str) : ofL (TL.tl s) = s := TL.mk_tl s
theorem len_ofL (l : List Nat) : (ofL l).length = l.length := TL.len_tl _
theorem joinL_ones : ∀ l : List Nat, TL.joinL [] (l.map fun c => [c]) = l
  | [] => rfl
  | [c] => rfl
  | c :: d :: l => by
    show [c] ++ ([] ++ TL.joinL [] ((d :: l).map fun c => [c])) = _
    rw [joinL_ones (d :: l)]
    rfl
theorem join_signs (l : List Nat) : Txt.join (Str.ofString "") (l.map oneS) = ofL l := by
  apply TL.ext_tl
  rw [TL.join_eq, TL.tl_join, List.map_map]
  exact joinL_ones l
theorem strsOf_map2 {α : Type} (f : α → Str) : ∀ xs : List α, strsOf (xs.map fun x => .str (f x)) = some (xs.map f)
  | [] => rfl
  | x :: xs => by
    show (strsOf (xs.map fun x => .str (f x))).map _ = _
    rw [strsOf_map2 f xs]; rfl
theorem sum_ones : ∀ l : List Nat, ((l.map oneS).map (·.length)).sum = l.length
  | [] => rfl
  | c :: l => by rw [List.map_cons, List.map_cons, List.sum_cons, sum_ones l, List.length_cons]; show 1 + l.length = _; omega
theorem gJoin_signs (l : List Nat) (h : l.length ≤ 16777216) : gJoin (.str (Str.ofString "")) [.lst (l.map fun c => .str (oneS c))] = some (.str (ofL l)) := by
  unfold gJoin
  dsimp only
  rw [strsOf_map2 oneS l]
  dsimp only
  rw [join_signs, if_pos]
  rw [sum_ones]
  show l.length + _ * 0 ≤ _
  omega
/-- the 94 signs -/
def sgn : Str := Str.ofString " !\"#$&'()*+,-./0123456789:;<=>?@ABCDEFGHIJKLMNOPQRSTUVWXYZ[\\]^_`" ++ Str.ofString "abcdefghijklmnopqrstuvwxyz{|}~"
def sgnL : List Nat := TL.tl sgn
theorem sgn_len : sgn.length = 94 := by decide +kernel
theorem sgnL_len : sgnL.length = 94 := by decide +kernel
theorem sgnL_all : sgnL.all (fun c => decide (32 ≤ c) && decide (c ≤ 126) && decide (c ≠ 37)) = true := by decide +kernel
theorem gAdd_str {a b : Str} (h : a.length + b.length ≤ sizeLine) : gAdd (.str a) (.str b) = some (.str (a ++ b)) := if_pos h
theorem gAdd_sgn : gAdd (.str (Str.ofString " !\"#$&'()*+,-./0123456789:;<=>?@ABCDEFGHIJKLMNOPQRSTUVWXYZ[\\]^_`")) (.str (Str.ofString "abcdefghijklmnopqrstuvwxyz{|}~")) = some (.str sgn) := gAdd_str (by decide +kernel)
def sAt (i : Int) : Nat := sgnL.getD i.toNat 0
theorem gIx_sgn {i : Int} (h0 : 0 ≤ i) (h1 : i < 94) : gIx (.str sgn) (.int i) = some (.str (oneS (sAt i))) := by
  unfold gIx
  dsimp only
  rw [if_pos (by rw [sgn_len]; decide)]
  have hl : i.toNat < sgnL.length := by rw [sgnL_len]; omega
  have e : atI sgn.cps.toList i = some (sAt i) := by
    show atI sgnL i = _
    unfold atI ixN
    rw [sgnL_len, if_pos h0, if_pos (by omega)]
    show sgnL[i.toNat]? = _
    unfold sAt
    rw [List.getD_eq_getElem?_getD, List.getElem?_eq_getElem hl]
    rfl
  rw [e]
  rfl
theorem sAt_ok (i : Int) (h0 : 0 ≤ i) (h1 : i < 94) : 32 ≤ sAt i ∧ sAt i ≤ 126 ∧ sAt i ≠ 37 := by
  have hl : i.toNat < sgnL.length := by rw [sgnL_len]; omega
  have e : sAt i = sgnL[i.toNat] := by
    unfold sAt
    rw [List.getD_eq_getElem?_getD, List.getElem?_eq_getElem hl]
    rfl
  have := (List.all_eq_true.mp sgnL_all) _ (List.getElem_mem hl)
  rw [e]
  simpa [and_assoc] using this
/-- the signs of a drawn piece -/
def line (start : Int) (n : Nat) : List Nat := (List.range n).map fun (k : Nat) => sAt ((start + (0 + (k : Int)) * (1 + start / 94 % 93)) % 94)
theorem line_ok {start : Int} {n : Nat} : ∀ c ∈ line start n, 32 ≤ c ∧ c ≤ 126 ∧ c ≠ 37 := fun c hc => by
  obtain ⟨k, _, rfl⟩ := List.mem_map.mp hc
  exact sAt_ok _ (Int.emod_nonneg _ (by decide)) (Int.emod_lt_of_pos _ (by decide))
theorem line_len (start : Int) (n : Nat) : (line start n).length = n := by unfold line; rw [List.length_map, List.length_range]
theorem small_k {n : Nat} (h : n ≤ 100000) : n ≤ sizeLine := Nat.le_trans h (by decide)
end Fx
namespace Fx
open PySem PySem.Spec L2
theorem gMul_l {i j : Int} (h : -(2 ^ 64) < i ∧ i < 2 ^ 64) : gMul (.int i) (.int j) = some (.int (i * j)) := by
  simp only [gI]
  rw [if_pos (Or.inl h)]
theorem gMul_s {i j : Int} (h0 : 0 ≤ i) (h : i < 1000000) : gMul (.int i) (.int j) = some (.int (i * j)) := gMul_l ⟨by omega, by omega⟩
theorem fRng1_eq {fs : Ev → Option (List T)} {ev : Ev} {j : Int} (h : fs ev = some [.int j]) (h0 : -1000000 ≤ j) (h1 : j < 1000000) : fRng1 fs ev = some (irange 0 j.toNat) := by
  unfold fRng1
  rw [h]
  dsimp only
  rw [if_pos ⟨by omega, by omega⟩]
theorem fRng2_eq {fs : Ev → Option (List T)} {ev : Ev} {i j : Int} (h : fs ev = some [.int i, .int j]) (h0 : -1000000 ≤ i) (h1 : i < 1000000) (h2 : -1000000 ≤ j) (h3 : j < 1000000) : fRng2 fs ev = some (irange i (j - i).toNat) := by
  unfold fRng2
  rw [h]
  dsimp only
  rw [if_pos ⟨by omega, by omega, by omega, by omega⟩]
theorem mem_map_noL {α : Type} {f : α → T} {xs : List α} (h : ∀ x, noL (f x) = true) : noLs (xs.map f) = true := noLs_of fun t ht => by
  obtain ⟨c, _, rfl⟩ := List.mem_map.mp ht
  exact h c
end Fx
namespace Fx
open PySem PySem.Spec L2
def nl : Str := Str.ofString "\n"
/-- the lines of a text -/
def linesF (a : Str) : List Str := Txt.split a nl
theorem gSplit_nl {a : Str} (h : a.length + 2 ≤ sizeLine) : gSplit (.str a) [.str (Str.ofString "\n")] = some (.lst ((linesF a).map .str)) := if_pos ⟨by decide +kernel, h⟩
theorem nl_tl : TL.tl nl = [10] := by decide +kernel
theorem lines_join {ps : List Str} (hne : ps ≠ []) (h : ∀ p ∈ ps, 10 ∉ TL.tl p) : linesF (Txt.join nl ps) = ps := TL.split_join nl_tl (by decide +kernel) hne h
theorem lines_ne (a : Str) : linesF a ≠ [] := fun h => by
  have h2 : (linesF a).map TL.tl = _ := TL.split_spl a nl (by rw [nl_tl]; decide) (TL.kind_ok (by decide +kernel))
  rw [h, nl_tl] at h2
  have : ∀ (l acc : List Nat) (k : Nat), TL.spl [10] k acc l ≠ [] := by
    intro l
    induction l with
    | nil => intro acc k; rw [TL.spl_nil]; exact List.cons_ne_nil _ _
    | cons c r ih =>
      intro acc k
      cases k with
      | zero =>
        show (if TL.pre [10] (c :: r) = true then acc :: TL.spl [10] _ [] r else TL.spl [10] 0 (acc ++ [c]) r) ≠ []
        split
        · exact List.cons_ne_nil _ _
        · exact ih _ _
      | succ k => exact ih acc k
  exact this _ _ _ h2.symm
theorem join_len (ps : List Str) : (Txt.join nl ps).length ≤ (ps.map (·.length)).sum + ps.length := by
  rw [TL.join_eq, TL.len_tl, TL.tl_join, nl_tl]
  induction ps with
  | nil => exact Nat.zero_le _
  | cons p r ih =>
    cases r with
    | nil =>
      show (TL.tl p).length ≤ _
      rw [← TL.len_tl, List.map_cons, List.sum_cons]
      omega
    | cons q r =>
      show (TL.tl p ++ ([10] ++ TL.joinL [10] ((q :: r).map TL.tl))).length ≤ _
      rw [List.length_append, List.length_append, ← TL.len_tl]
      have h1 : ([10] : List Nat).length = 1 := rfl
      have h2 : ((p :: q :: r).map (·.length)).sum = p.length + ((q :: r).map (·.length)).sum := by rw [List.map_cons, List.sum_cons]
      have h3 : (p :: q :: r).length = (q :: r).length + 1 := rfl
      rw [h1, h2, h3]
      omega
theorem gJoin_strs (ps : List Str) (h : (ps.map (·.length)).sum + ps.length ≤ 16777216) : gJoin (.str (Str.ofString "\n")) [.lst (ps.map .str)] = some (.str (Txt.join nl ps)) := by
  unfold gJoin
  dsimp only
  rw [strsOf_map]
  dsimp only
  rw [if_pos]
  · rfl
  · have h1 : (Str.ofString "\n").length = 1 := by decide +kernel
    rw [h1]
    omega
/-- the greatest of some numbers that are not negative -/
def most (ns : List Int) : Int := ns.foldl (fun m n => if n > m then n else m) 0
theorem most_step (ns : List Int) (n : Int) : most (ns ++ [n]) = if n > most ns then n else most ns := by unfold most; rw [List.foldl_append]; rfl
theorem fold_le : ∀ (ns : List Int) (a : Int), a ≤ ns.foldl (fun m n => if n > m then n else m) a ∧ (∀ n ∈ ns, n ≤ ns.foldl (fun m n => if n > m then n else m) a) ∧ (ns.foldl (fun m n => if n > m then n else m) a = a ∨ ns.foldl (fun m n => if n > m then n else m) a ∈ ns)
  | [], a => ⟨Int.le_refl _, (fun _ h => nomatch h), Or.inl rfl⟩
  | n :: ns, a => by
    obtain ⟨h1, h2, h3⟩ := fold_le ns (if n > a then n else a)
    have ha : a ≤ (if n > a then n else a) ∧ n ≤ (if n > a then n else a) ∧ ((if n > a then n else a) = a ∨ (if n > a then n else a) = n) := by
      by_cases h : n > a
      · rw [if_pos h]; exact ⟨by omega, Int.le_refl _, .inr rfl⟩
      · rw [if_neg h]; exact ⟨Int.le_refl _, by omega, .inl rfl⟩
    rw [List.foldl_cons]
    refine ⟨by omega, fun m hm => ?_, ?_⟩
    · rcases List.mem_cons.mp hm with e | hm
      · rw [e]; omega
      · exact h2 m hm
    · rcases h3 with h3 | h3
      · rcases ha.2.2 with e | e
        · exact .inl (h3.trans e)
        · exact .inr (List.mem_cons.mpr (.inl (h3.trans e)))
      · exact .inr (List.mem_cons_of_mem _ h3)
theorem most_max {ns : List Int} (hne : ns ≠ []) (h0 : ∀ n ∈ ns, 0 ≤ n) : ns.max? = some (most ns) := by
  obtain ⟨h1, h2, h3⟩ := fold_le ns 0
  rw [List.max?_eq_some_iff]
  refine ⟨?_, h2⟩
  rcases h3 with h3 | h3
  · cases ns with
    | nil => exact absurd rfl hne
    | cons n ns =>
      have e : n = 0 := Int.le_antisymm (by have := h2 n List.mem_cons_self; rw [h3] at this; exact this) (h0 n List.mem_cons_self)
      refine List.mem_cons.mpr (.inl ?_)
      show most (n :: ns) = n
      rw [e]
      rw [e] at h3
      exact h3
  · exact h3
theorem zip_same {α : Type} (f : α → T) : ∀ xs : List α, List.zipWith (fun t u => T.tup [t, u]) (xs.map f) (xs.map f) = xs.map fun x => .tup [f x, f x]
  | [] => rfl
  | x :: xs => by rw [List.map_cons, List.zipWith_cons_cons, zip_same f xs, List.map_cons]
end Fx
namespace Fx
theorem fAndV_t {f g : Ev → Option T} {ev : Ev} (h : f ev = some (.bl true)) : fAndV f g ev = g ev := by unfold fAndV; rw [h]
theorem fAndV_f {f g : Ev → Option T} {ev : Ev} (h : f ev = some (.bl false)) : fAndV f g ev = some (.bl false) := by unfold fAndV; rw [h]
theorem fOrV_t {f g : Ev → Option T} {ev : Ev} (h : f ev = some (.bl true)) : fOrV f g ev = some (.bl true) := by unfold fOrV; rw [h]
theorem fOrV_f {f g : Ev → Option T} {ev : Ev} (h : f ev = some (.bl false)) : fOrV f g ev = g ev := by unfold fOrV; rw [h]
theorem fAnd_t {f g : Ev → Option Bool} {ev : Ev} (h : f ev = some true) : fAnd f g ev = g ev := by unfold fAnd; rw [h]
theorem fAnd_f {f g : Ev → Option Bool} {ev : Ev} (h : f ev = some false) : fAnd f g ev = some false := by unfold fAnd; rw [h]
theorem fOr_t {f g : Ev → Option Bool} {ev : Ev} (h : f ev = some true) : fOr f g ev = some true := by unfold fOr; rw [h]
theorem fOr_f {f g : Ev → Option Bool} {ev : Ev} (h : f ev = some false) : fOr f g ev = g ev := by unfold fOr; rw [h]
theorem fNot_eq {f : Ev → Option Bool} {ev : Ev} {b : Bool} (h : f ev = some b) : fNot f ev = some (!b) := by unfold fNot; rw [h]; rfl
theorem gEq_int_self (i : Int) : gEq (.int i) (.int i) = some (.bl true) := by
  show some (T.bl (decide (i = i))) = _
  rw [decide_eq_true rfl]
theorem gEq_str_self (i : PySem.Str) : gEq (.str i) (.str i) = some (.bl true) := by
  show some (T.bl (decide (i = i))) = _
  rw [decide_eq_true rfl]
theorem gNe_int_self (i : Int) : gNe (.int i) (.int i) = some (.bl false) := by
  show some (T.bl (!decide (i = i))) = _
  rw [decide_eq_true rfl]
  rfl
theorem gNe_str_self (i : PySem.Str) : gNe (.str i) (.str i) = some (.bl false) := by
  show some (T.bl (!decide (i = i))) = _
  rw [decide_eq_true rfl]
  rfl
end Fx

namespace Fx
open PySem PySem.Spec L2
open PyProof.Rows hiding St

section
variable {X : Cx} {K : PySem.W.Frag} {a b c e : Expr} {es : List Expr} {fa fb fc : Ev → Option T} {fs : Ev → Option (List T)} {pos p : Pos} {x : Str} {r r' : R2} {g g' : T → T → Option T}
/-- [a, b, ..] of anything -/
def gLstA (ts : List T) : Option T := if ts.length ≤ sizeLine then some (.lst ts) else none
theorem fe_lst (h : PA X es (tA K fs)) : PE X (.List es pos) (tF K (fC gLstA fs)) := PE.by (pe_lst h) fun σ H Q ⟨B, Hs, ev, t, R, hf, q⟩ => by
  obtain ⟨ts, h, hf⟩ := bind_some hf
  unfold gLstA at hf
  split at hf
  · rename_i c
    cases hf
    refine ⟨B, Hs, ev, ts, R, h, fun vs Hs' H' g r => ⟨by rw [r.length]; exact c, fun p hp => ?_⟩⟩
    have g2 := Gr.new g.ok hp (o := .lst vs)
    exact q _ _ _ (g.trans g2) (.lst upd_same (r.mono g2.s))
  · cases hf
theorem chainD (hr : OpD K r g) (hr' : OpD K r' g') (hb : ∀ d e z, g d e = some z → ∃ b, z = .bl b) : ∀ σ H Q, tF K (fChain g g' fa fb fc) σ H Q → tChain r r' (tF K fa) (tF K fb) (tF K fc) σ H Q := fun σ H Q ⟨B, Hs, ev, t, R, hf, q⟩ => by
  obtain ⟨d, h1, hf⟩ := bind_some hf
  obtain ⟨e, h2, hf⟩ := bind_some hf
  refine ⟨B, Hs, ev, d, R, h1, fun x Hs1 H1 g1 r1 => ⟨B, Hs1, ev, e, R.to g1, h2, fun y Hs2 H2 g2 r2 => ?_⟩⟩
  cases hg : g d e with
  | none => rw [hg] at hf; cases hf
  | some z =>
    rw [hg] at hf
    obtain ⟨bb, rfl⟩ := hb d e z hg
    refine hr Hs2 H2 x y d e _ g2.ok (r1.mono g2.s) r2 hg _ fun v Hs3 H3 g3 r3 => ?_
    cases r3
    refine ⟨bb, rfl, ?_⟩
    cases bb with
    | false => cases hf; exact iteF (q _ Hs3 H3 ((g1.trans g2).trans g3) (.bl false))
    | true =>
      obtain ⟨u, h3, hf⟩ := bind_some hf
      exact iteT ⟨B, Hs3, ev, u, ((R.to g1).to g2).to g3, h3, fun w Hs4 H4 g4 r4 => hr' Hs4 H4 y w e u t g4.ok (r2.mono (g3.s.trans g4.s)) r4 hf Q fun v5 Hs5 H5 g5 r5 => q v5 Hs5 H5 ((((g1.trans g2).trans g3).trans g4).trans g5) r5⟩
theorem gI_bl {p : Int → Int → Option T} (h : ∀ i j, ∃ b, p i j = some (.bl b)) : ∀ d e z, gI p d e = some z → ∃ b, z = .bl b := fun d e z hz => by
  obtain ⟨i, j, rfl, rfl, h2⟩ := gI_some hz
  obtain ⟨b, hb⟩ := h i j
  rw [hb] at h2
  cases h2
  exact ⟨b, rfl⟩
class Bl (g : T → T → Option T) : Prop where
  bl : ∀ d e z, g d e = some z → ∃ b, z = .bl b
instance : Bl gLt := ⟨gI_bl fun i j => ⟨_, rfl⟩⟩
instance : Bl gLe := ⟨gI_bl fun i j => ⟨_, rfl⟩⟩
instance : Bl gGt := ⟨gI_bl fun i j => ⟨_, rfl⟩⟩
instance : Bl gGe := ⟨gI_bl fun i j => ⟨_, rfl⟩⟩
theorem fe_chain {op op' : CmpOp} [Bl g] (ho : OpR X (compareOp op) r) (hr : OpD K r g) (ho' : OpR X (compareOp op') r') (hr' : OpD K r' g') (ha : PE X a (tF K fa)) (hb : PE X b (tF K fb)) (hc : PE X c (tF K fc))
    (hm : lastMarks [op, op'] [b, c] = false := by with_unfolding_all rfl) : PE X (.Compare a [op, op'] [b, c] pos) (tF K (fChain g g' fa fb fc)) := PE.by (pe_chain ho ho' ha hb hc hm) (chainD hr hr' Bl.bl)
theorem ft_chain {op op' : CmpOp} [Bl g] (ho : OpR X (compareOp op) r) (hr : OpD K r g) (ho' : OpR X (compareOp op') r') (hr' : OpD K r' g') (ha : PE X a (tF K fa)) (hb : PE X b (tF K fb)) (hc : PE X c (tF K fc))
    (hm : lastMarks [op, op'] [b, c] = false := by with_unfolding_all rfl) : PT X (.Compare a [op, op'] [b, c] pos) (tT K (fTest (fChain g g' fa fb fc))) :=
  PT.by (pt_chain ho ho' ha hb hc hm) fun σ H Q h => chainD hr hr' Bl.bl _ _ _ (testF _ _ _ h)
/-- x is False -/
theorem od_isB : OpD K rIsB gIsB := fun Hs H x y d e z ok rx ry hz Q q => by
  unfold gIsB at hz
  split at hz
  · cases hz; cases rx; cases ry; exact ⟨_, _, rfl, rfl, q _ Hs H (Gr.refl ok) (.bl _)⟩
  · cases hz
theorem fe_isB (ha : PE X a (tF K fa)) (hb : PE X b (tF K fb)) : PE X (.Compare a [.Is] [b] pos) (tF K (f2 gIsB fa fb)) := fe_cmp op_isBl od_isB ha hb (nomark _)
/-- one sign, told k times -/
def gRepS : T → T → Option T
  | .str s, .int k => match TL.tl s with
    | [c] => if -100000 ≤ k ∧ k ≤ 100000 then some (.str (ofL (List.replicate k.toNat c))) else none
    | _ => none
  | _, _ => none
theorem fold_ones (c : Nat) : ∀ (n : Nat) (acc : List Nat), (List.replicate n (#[c] : Array Nat)).foldl (· ++ ·) acc.toArray = (acc ++ List.replicate n c).toArray
  | 0, acc => by simp
  | n + 1, acc => by
    rw [List.replicate_succ, List.foldl_cons, show acc.toArray ++ (#[c] : Array Nat) = (acc ++ [c]).toArray by simp, fold_ones c n, List.append_assoc]
    rfl
def rRepS : R2 := fun x y H Q => ∃ c k, x = .str ⟨#[c]⟩ ∧ y = .int k ∧ -100000 ≤ k ∧ k ≤ 100000 ∧ Q (.str (ofL (List.replicate k.toNat c))) H
theorem op_repS : OpR X (binaryOp .Mult) rRepS := by
  intro pins s σ H x y v u Q I rx ry h
  obtain ⟨c, k, rfl, rfl, h1, h2, q⟩ := h
  obtain ⟨t, rfl⟩ := rx
  obtain ⟨t', rfl⟩ := ry
  have hl : (⟨#[c]⟩ : Str).length = 1 := rfl
  refine PySem.P.mul_str (by rw [decide_eq_false (by omega), decide_eq_false (by omega)]; rfl) (fun _ _ => ?_) (fun _ _ => ?_) ?_
  · rw [hl]
    have h3 : (1 : Int) ≤ (2 ^ 63 - 1) / k := by
      rw [Int.le_ediv_iff_mul_le (by omega)]
      omega
    omega
  · rw [hl]
    unfold PySem.Builtin.Str.tooLong
    have hs : sizeLine = 16777216 := sizeLine_eq
    exact decide_eq_false (by omega)
  · by_cases hk : k < 1
    · rw [if_pos hk]
      have e : List.replicate k.toNat c = [] := by rw [show k.toNat = 0 by omega]; rfl
      rw [e] at q
      exact ⟨by decide, ⟨.str Str.empty, H, I.tok _, ⟨_, rfl⟩, q⟩⟩
    · rw [if_neg hk]
      by_cases h1 : (k == 1 || (⟨#[c]⟩ : Str).length == 0) = true
      · rw [if_pos h1]
        have e1 : k = 1 := by simpa [hl] using h1
        subst e1
        exact ⟨.str ⟨#[c]⟩, H, I, ⟨_, rfl⟩, q⟩
      · rw [if_neg h1]
        have e := fold_ones c k.toNat []
        rw [List.nil_append] at e
        have e2 : (⟨(List.replicate k.toNat (#[c] : Array Nat)).foldl (· ++ ·) #[]⟩ : Str) = ofL (List.replicate k.toNat c) := congrArg Str.mk e
        show Made.post (Made.str ⟨(List.replicate k.toNat (#[c] : Array Nat)).foldl (· ++ ·) #[]⟩) _ _
        rw [e2]
        refine ⟨?_, ⟨.str _, H, I.tok _, ⟨_, rfl⟩, q⟩⟩
        rw [len_ofL, List.length_replicate]
        have hs : sizeLine = 16777216 := sizeLine_eq
        omega
theorem od_repS : OpD K rRepS gRepS := fun Hs H x y d e z ok rx ry hz Q q => by
  unfold gRepS at hz
  split at hz
  · split at hz
    · rename_i hc
      split at hz
      · rename_i hk
        cases hz; cases rx; cases ry
        exact ⟨_, _, congrArg V.str (TL.ext_tl hc), rfl, hk.1, hk.2, q _ Hs H (Gr.refl ok) (.str _)⟩
      · cases hz
    · cases hz
  · cases hz
theorem fe_repS (ha : PE X a (tF K fa)) (hb : PE X b (tF K fb)) : PE X (.BinOp a .Mult b pos) (tF K (f2 gRepS fa fb)) := fe_op op_repS od_repS ha hb
end
end Fx

namespace Fx
open PySem PySem.Spec L2
open PyProof.Rows hiding St

/-! ### sorted by the first two numbers of a tuple -/
/-- the def that gives the key: the first two parts -/
structure KeyDef (st : Stmt) (x : Str) : Prop where
  body : ∃ p1 p2 p3 p4 p5 p6 p7 p8 j1 j2 k, defBody st = [.Return (some (.Tuple [.Subscript (.Name x p1) (.Constant (.int 0) j1 p2) p3, .Subscript (.Name x p4) (.Constant (.int 1) j2 p5) p6] k p7)) p8]
  bind : ∀ (nm qual : Str) (kV doc pm : Value) (an : Option Addr) (cdv ct : Value) (v : Value), bindArgs (PySem.W.fnOf nm qual (defArgs st) (defBody st) (defScope st) .none kV doc pm an cdv ct) ⟨[v], []⟩ = pure [(x, v)]
  loc : (defScope st).names.lookup x = some .local
  kind : (defScope st).kind = .function
  co : (defScope st).isCoroutine = false
  gen : (defScope st).isGenerator = false
  nd : (x == ("__debug__" : Str)) = false
open PySem.W in
theorem key_turn {prog : Program} {w : World} {A : Around} {K : PySem.W.Frag} {st : Stmt} {x nm qual : Str} {f : Addr} {fd : FuncData} (D : KeyDef st x) (F : Fun K nm qual st f fd) {s : Shared} (X : K.In s.heap) (hlim : s.heap.NoLimit) (hroom : A.depth < recursionLimit)
    {t : Addr} {its : List Value} (ht : IsTup s.heap t its.toArray) {i j : Int} {ti tj : Tok} {r : List Value} (hi : its = .int i ti :: .int j tj :: r) (hz : its.length ≤ sizeLine) :
    wpAny (model prog w) A (call (.ref f) [.ref t]) (PySem.W.KeyPure (.tuple [.int i, .int j]) s) (fun _ _ => False) s := by
  obtain ⟨oc, od, kV, doc, pm, an, cdv, ct, osl, rfl, ho, hcd⟩ := F.ex
  obtain ⟨p1, p2, p3, p4, p5, p6, p7, p8, j1, j2, k, hb⟩ := D.body
  have hN : ∀ u : Value, (bindL (envOfC qual (defScope st) s.heap.objs.size f cdv).kindOf [(x, u)] fun _ => none) x = some u := by
    intro u
    have hk : (envOfC qual (defScope st) s.heap.objs.size f cdv).kindOf x = some .local := D.loc
    simp [bindL, hk]
  refine wpAny_call (codeAny_mono (Att.call_fn (R := fun r s' => match r with | .ok (.ret v) => PySem.W.KeyPure (.tuple [.int i, .int j]) s v s' | _ => False) (binds := [(x, .ref t)]) X hlim ho hcd hroom (BindsTo.of_eq (D.bind _ _ _ _ _ _ _ _ _)) (by simp [D.loc]) (fun s₁ IC => ?_) D.co D.gen D.kind) fun r s' hq => ?_)
  · obtain ⟨h₁, tk₁, rfl⟩ := IC.toInCall.same
    have k1 : ∀ b o, s.heap.get? b = some o → h₁.get? b = some o := IC.toInCall.keep
    have hn := IC.toInCall.ns
    have ht₁ : IsTup h₁ t its.toArray := by
      obtain ⟨o, e, h⟩ := ht
      exact ⟨o, k1 _ _ e, h⟩
    have ld : ∀ (E : Value → Shared → Prop) (Q : Value → Shared → Prop) (p : Pos) (tk : Nat), Q (.ref t) { s with heap := h₁, toks := tk } → wpAny (model prog w) (A.deeper (envOfC qual (defScope st) s.heap.objs.size f cdv)) (eval (.Name x p) (envOfC qual (defScope st) s.heap.objs.size f cdv)) Q E { s with heap := h₁, toks := tk } :=
      fun E Q p tk q => wpAny_Name (wpAny_loadName_local D.kind D.loc hn (hN _) q) D.nd
    have sub : ∀ (E : Value → Shared → Prop) (Q : Value → Shared → Prop) (p p' p'' : Pos) (jj : Nat) (tk : Nat) (n : Nat) (u : Value), n < its.length → its[n]? = some u → (∀ tk', Q u { s with heap := h₁, toks := tk' }) →
        wpAny (model prog w) (A.deeper (envOfC qual (defScope st) s.heap.objs.size f cdv)) (eval (.Subscript (.Name x p) (.Constant (.int (n : Int)) jj p') p'') (envOfC qual (defScope st) s.heap.objs.size f cdv)) Q E { s with heap := h₁, toks := tk } := by
      intro E Q p p' p'' jj tk n u hn hu q
      refine Subscript_ (ld _ _ _ _ (wpAny_Constant_int ?_))
      have hs : sizeLine = 16777216 := sizeLine_eq
      exact subscriptTail_builtinR (x := u) ht₁.typeIs slot_tuple_getitem.lookup (getItem_tuple (j := n) (Q := fun r s' => r = u ∧ Q r s') ht₁ (by omega) (by omega) (by rw [List.size_toArray, seqIndex_of (by omega) (by omega)]; simp) (by simpa using hu) ⟨rfl, q _⟩) rfl
    show wpAny _ _ (execs (defBody st) _) _ _ _
    rw [hb]
    refine wpAny_execs_cons (wpAny_Return_some (wpAny_Tuple_spliced ?_))
    refine Calls.spliced_cons (sub _ _ _ _ _ _ _ 0 (.int i ti) (by rw [hi]; simp) (by rw [hi]; rfl) fun tk' => ?_)
    refine Calls.spliced_cons (sub _ _ _ _ _ _ _ 1 (.int j tj) (by rw [hi]; simp) (by rw [hi]; rfl) fun tk2 => ?_)
    refine Calls.spliced_nil ⟨show 2 ≤ sizeLine from small_k (by decide), ?_⟩
    refine ⟨_, _, rfl, fun b o e => Heap.get?_push_of_some _ (k1 b o e), ?_⟩
    exact .tuple (Heap.get?_push_size _ rfl) rfl rfl (.cons (.int _ _) (.cons (.int _ _) .nil))
  · cases r with
    | error e => exact hq
    | ok fl => cases fl <;> first | exact hq | exact False.elim hq

def keyC : T → Int × Int
  | .tup (.int i :: .int j :: _) => (i, j)
  | _ => (0, 0)
def isC : T → Bool
  | .tup (.int _ :: .int _ :: _) => true
  | _ => false
def leC (a b : T) : Bool := decide ((keyC a).1 < (keyC b).1 ∨ ((keyC a).1 = (keyC b).1 ∧ (keyC a).2 ≤ (keyC b).2))
def rSortC (K : PySem.W.Frag) (f : Addr) : List V → List V → Hp → VK → Prop := fun vs zs H Q => ∃ (a : Addr) (bs : List (V × T)), vs = [.ref a] ∧ zs = [.ref f] ∧ SqL K H a (bs.map (·.1)) ∧
  (∀ b ∈ bs, ∃ t r, b.1 = .ref t ∧ SqT K H t (.int (keyC b.2).1 :: .int (keyC b.2).2 :: r)) ∧ ∀ p, H p = none → Q (.ref p) (upd H p (.lst ((bs.mergeSort fun x y => leC x.2 y.2).map (·.1))))
theorem vals_each : ∀ {α : Type} {bs : List (V × α)} {us : List Value}, Vals (bs.map (·.1)) us → PySem.W.EachIs (fun v b => RelV b.1 v) us bs
  | _, [], _, h => by cases h; exact .nil
  | _, b :: bs, _, h => by cases h with | cons a r => exact .cons a (vals_each r)
theorem each_vals : ∀ {α : Type} {R : Value → V × α → Prop} (_ : ∀ v b, R v b → RelV b.1 v) {bs : List (V × α)} {us : List Value}, PySem.W.EachIs R us bs → Vals (bs.map (·.1)) us
  | _, _, _, _, _, .nil => .nil
  | _, _, h, _, _, .cons a r => .cons (h _ _ a) (each_vals h r)
theorem each_and {α β : Type} {R R' : α → β → Prop} : ∀ {as : List α} {bs : List β}, PySem.W.EachIs R as bs → (∀ a b, b ∈ bs → R a b → R' a b) → PySem.W.EachIs R' as bs
  | _, _, .nil, _ => .nil
  | _, _, .cons a r, h => .cons (h _ _ List.mem_cons_self a) (each_and r fun a b m => h a b (List.mem_cons_of_mem _ m))
open PySem.W in
theorem cr_sortC {X : Cx} {st : Stmt} {x nm qual : Str} {f : Addr} {fd : FuncData} {k : Nat} (hr : Room k X.A) (D : KeyDef st x) (F : Fun X.K nm qual st f fd) : CallRK X (.builtin "sorted") [Str.ofString "key"] (rSortC X.K f) := by
  intro pins s σ H vs zs us ws Q I r rz h
  obtain ⟨a, bs, rfl, rfl, hs, hb, q⟩ := h
  obtain rfl := Vals.ref1 r
  obtain rfl := Vals.ref1 rz
  obtain ⟨its, rv, hl, hz⟩ := I.list hs
  have hlen : bs.length ≤ sizeLine := by rw [List.length_map] at hz; exact hz
  have E0 := each_and (R' := fun (v : Value) (b : V × T) => RelV b.1 v ∧ ∃ t its ti tj r, v = .ref t ∧ IsTup s.heap t its ∧ its.toList = .int (keyC b.2).1 ti :: .int (keyC b.2).2 tj :: r ∧ its.size ≤ sizeLine) (vals_each rv) fun v b m rl => by
    obtain ⟨t, r, e, ht⟩ := hb b m
    rw [e] at rl
    cases rl
    obtain ⟨its, rv, pl, hz⟩ := I.tuple ht
    have hl := rv.length
    cases rv with
    | cons r1 rv =>
      cases rv with
      | cons r2 rv =>
        obtain ⟨t1, rfl⟩ := r1
        obtain ⟨t2, rfl⟩ := r2
        exact ⟨by rw [e]; rfl, _, _, t1, t2, _, rfl, pl, rfl, by rw [List.size_toArray, ← hl]; exact hz⟩
  have hu := hr.units
  refine sorted_key_data (β := V × T) (vs := its) (bs := bs) (R := fun v b => RelV b.1 v ∧ ∃ t its ti tj r, v = .ref t ∧ IsTup s.heap t its ∧ its.toList = .int (keyC b.2).1 ti :: .int (keyC b.2).2 tj :: r ∧ its.size ≤ sizeLine) (b := false) (f := .ref f)
    (fun b => .tuple [.int (keyC b.2).1, .int (keyC b.2).2]) hl.isList E0 (.of fun _ _ => rfl) (.tuples fun b => ⟨_, _, rfl⟩) hlen (fun b _ => ?_) (ksk_s1 _ _) (fun _ => ksk_l1 _ _) (fun _ => ksk_t1 _ _) (fun v b hR hm h tk kp => ?_) (fun out c h' tk kp fr hg hl2 e => ?_)
  · show X.A.units + 2 + 1 < cLine
    omega
  · obtain ⟨_, t, its, ti, tj, r, rfl, ht, e, hz⟩ := hR
    have ht' : IsTup h t (its.toList).toArray := by
      obtain ⟨o, e, h⟩ := ht
      rw [Array.toArray_toList]
      exact ⟨o, kp _ _ e, h⟩
    exact key_turn (A := X.A.in1.in1) (s := { s with heap := h, toks := tk }) D F (I.kIn.keeps kp) (I.nolimit.keeps kp) (show X.A.depth < _ from hr.depth) ht' e (by rw [Array.length_toList]; exact hz)
  · rw [dataLe_ii] at e
    have hv : Vals ((bs.mergeSort fun x y => leC x.2 y.2).map (·.1)) out := each_vals (fun v b h => h.1) e
    refine ⟨.ref _, upd H (s.heap.objs.size + 1) (.lst ((bs.mergeSort fun x y => leC x.2 y.2).map (·.1))), I.laid (t' := tk) kp (Nat.le_succ _) ⟨?_, out, c, hv, hg⟩, rfl, q _ (I.hok.fresh (Nat.le_succ _))⟩
    rw [List.length_map, List.length_mergeSort]
    exact hlen

def gSortC : T → Option T
  | .lst ts => if noLs ts && ts.all isC && decide (ts.length ≤ sizeLine) then some (.lst (ts.mergeSort leC)) else none
  | _ => none
section
variable {X : Cx} {K : PySem.W.Frag} {e e2 : Expr} {es : List Expr} {fa fb : Ev → Option T} {fs : Ev → Option (List T)} {pos p p2 kpos : Pos} {x nm qual y : Str} {st : Stmt} {f : Addr} {fd : FuncData} {k : Nat}
theorem Rps.zip {H : Hp} : ∀ {ts : List T} {vs : List V}, Rps K H vs ts → ∀ b ∈ vs.zip ts, Rp K H b.1 b.2
  | _, _, .nil => fun _ h => by cases h
  | _, _, .cons a r => fun b h => by
    rcases List.mem_cons.mp h with e | h
    · rw [e]; exact a
    · exact r.zip b h
theorem Rps.of_all {H : Hp} : ∀ {bs : List (V × T)}, (∀ b ∈ bs, Rp K H b.1 b.2) → Rps K H (bs.map (·.1)) (bs.map (·.2))
  | [], _ => .nil
  | b :: bs, h => .cons (h b List.mem_cons_self) (Rps.of_all fun c m => h c (List.mem_cons_of_mem _ m))
theorem isC_key {t : T} (h : isC t = true) : ∃ i j r, t = .tup (.int i :: .int j :: r) ∧ keyC t = (i, j) := by
  unfold isC at h
  split at h
  · exact ⟨_, _, _, rfl, rfl⟩
  · cases h
theorem fn_sortC (hr : Room k X.A) (D : KeyDef st x) (F : Fun X.K nm qual st f fd) (hm : X.mg "sorted" = none) (hmk : X.mg y = some (.ref f)) (ha : PE X e (tF K fa)) (hgk : Gl X y := by rfl) (hg : Gl X "sorted" := by rfl) (hK : X.K = K := by rfl) (hd : (y == ("__debug__" : Str)) = false := by decide)
    (hst : starEach [e] X.env = (false, eval e X.env) :: starEach [] X.env := by rfl) (he : backTo pos (starEach [e] X.env) = (false, eval e X.env) :: backTo pos (starEach [] X.env) := by rfl) (hpl : (backTo pos (starEach [e] X.env)).any (·.1) = false := by rfl)
    (hall : (backToKw pos (keywordEach [⟨some "key", .Name y p2, kpos⟩] X.env)).all (·.1.isSome) = true := by rfl) (hnone : (backToKw pos (keywordEach [⟨some "key", .Name y p2, kpos⟩] X.env)).any (·.1.isNone) = false := by rfl)
    (hks : (backToKw pos (keywordEach [⟨some "key", .Name y p2, kpos⟩] X.env)).filterMap (·.1) = [Str.ofString "key"] := by rfl) :
    PE X (.Call (.Name "sorted" p) [e] [⟨some "key", .Name y p2, kpos⟩] pos) (tN K (f1 gSortC fa)) := by
  subst hK
  refine PE.by (pe_callBK (cr_sortC hr D F) hg hm PyProof.Rows.boot_sorted (pa_cons ha pa_nil hst) (pk_cons (pe_glob (v := .ref f) hgk hmk rfl hd) pk_nil) (by decide) (by decide) he hpl hall hnone hks) fun σ H Q ⟨B, Hs, ev, t, R, hf, q⟩ => ?_
  obtain ⟨d, h1, hf⟩ := bind_some hf
  refine ⟨B, Hs, ev, d, R, h1, fun v Hs' H' g r => ?_⟩
  unfold gSortC at hf
  split at hf
  · split at hf
    · rename_i ts hz
      cases hf
      rw [Bool.and_eq_true, Bool.and_eq_true, decide_eq_true_eq] at hz
      cases r with
      | lst ea ra =>
        rename_i a vs
        have hl := ra.length
        have e1 : (vs.zip ts).map (·.1) = vs := List.map_fst_zip (by omega)
        have e2 : (vs.zip ts).map (·.2) = ts := List.map_snd_zip (by omega)
        refine ⟨a, vs.zip ts, rfl, rfl, by rw [e1]; exact SqL.of (g.ok.sub _ _ ea), fun b hb => ?_, fun p hp => ?_⟩
        · have hr := ra.zip b hb
          have hm : b.2 ∈ ts := (List.of_mem_zip hb).2
          obtain ⟨i, j, r, e, ek⟩ := isC_key (List.all_eq_true.mp hz.1.2 _ hm)
          obtain ⟨v, t⟩ := b
          dsimp only at e ek hr ⊢
          subst e
          cases hr with
          | tup et rt =>
            cases rt with
            | cons r1 rt =>
              cases rt with
              | cons r2 rt =>
                cases r1; cases r2
                exact ⟨_, _, rfl, SqT.of (g.ok.sub _ _ et)⟩
        · have es : ((vs.zip ts).mergeSort fun x y => leC x.2 y.2).map (·.2) = ts.mergeSort leC := by
            rw [List.map_mergeSort (s := leC) (fun _ _ _ _ => rfl), e2]
          have hr2 : Rps X.K Hs' (((vs.zip ts).mergeSort fun x y => leC x.2 y.2).map (·.1)) (ts.mergeSort leC) := by
            rw [← es]
            exact Rps.of_all fun b hb => ra.zip b ((List.mergeSort_perm _ _).mem_iff.mp hb)
          have hn : noLs (ts.mergeSort leC) = true := noLs_of fun t ht => noLs_mem hz.1.1 ((List.mergeSort_perm _ _).mem_iff.mp ht)
          refine q _ _ (g.h.trans (same_new hp)) (.lst (Frs.lst upd_same (g.h.free hp)) (hr2.flat (fun a xs e => Frs.cst ?_ rfl) hn))
          rw [upd_ne (ne_of_none (g.ok.sub _ _ e) hp)]
          exact g.ok.sub _ _ e
    · cases hf
  · cases hf
end
section
variable {X : Cx} {K : PySem.W.Frag} {tg e e2 e3 : Expr} {fs : Ev → Option (List T)} {p pos : Pos}
theorem fi_range3 (hm : X.mg "range" = none) (ha : PA X [e, e2, e3] (tA K fs)) (hg : Gl X "range" := by rfl) (hs : starEach [e, e2, e3] X.env = (false, eval e X.env) :: starEach [e2, e3] X.env := by rfl) (hpl : (backTo pos (starEach [e2, e3] X.env)).any (·.1) = false := by rfl) :
    PI X tg (.Call (.Name "range" p) [e, e2, e3] [] pos) (tI K (fRng3 fs)) :=
  PI.by (pi_range3 hg hm ha hs hpl) fun σ H R ⟨B, Hs, ev, ds, Rr, hf, q⟩ => by
    unfold fRng3 at hf
    split at hf
    · rename_i i j c h
      split at hf
      · rename_i hz
        cases hf
        refine ⟨B, Hs, ev, _, Rr, h, fun vs Hs' H' g r => ?_⟩
        cases r with
        | cons a r =>
          cases r with
          | cons b r =>
            cases r with
            | cons d r => cases r; cases a; cases b; cases d; exact ⟨i, j, c, _, rfl, hz, q _ Hs' H' g yl_rangeC⟩
      · cases hf
    · cases hf
end
end Fx

namespace Fx
open PySem PySem.Spec L2
open PyProof.Rows hiding St

/-! ### slots given free, lent -/
/-- what a slot's own things are, as data -/
def frzT : Sl → Option T
  | .ow ts => some (.lst ts)
  | .ob tss => some (.lst (tss.map .lst))
  | .ot us ts => some (.tup (us ++ [.lst ts]))
  | .sh t => some t
  | _ => none
section
variable {K : PySem.W.Frag} {B : Bs} {Hs H Hs' H' : Hp} {σ : St} {ev : Ev} {lab : Addr → Option Nat} {i : Nat} {s : Sl} {t : T}
theorem Rows.rps (h : ∀ a o, lab a = some i → H a = some o → Hs' a = some o) (hs : Same Hs Hs') : ∀ {rs : List Addr} {tss : List (List T)}, Rows K Hs H lab i rs tss → Rps K Hs' (rs.map V.ref) (tss.map T.lst)
  | _, _, .nil => .nil
  | _, _, .cons l e r t => .cons (.lst (h _ _ l e) (r.mono hs)) (Rows.rps h hs t)
theorem Rl.frzS (R : Rl K B Hs H σ ev) (he : ev[i]? = some s) (hf : frzT s = some t) : ∃ Hs', Same Hs Hs' ∧ Rl K B Hs' H σ (ev.set i (.sh t)) := by
  obtain ⟨lab, l1, l2⟩ := R.lab
  have hi : i < σ.length := by rw [← R.len]; exact (List.getElem?_eq_some_iff.mp he).1
  have hsl := l2 i _ _ he (List.getElem?_eq_getElem hi)
  let Hs' : Hp := fun b => if lab b = some i then H b else Hs b
  have e1 : ∀ b, lab b = some i → Hs' b = H b := fun b h => if_pos h
  have e2 : ∀ b, lab b ≠ some i → Hs' b = Hs b := fun b h => if_neg h
  have ss : Same Hs Hs' := fun b o e => by
    by_cases h : lab b = some i
    · rw [(l1 b i h).2.1] at e; cases e
    · rw [e2 b h]; exact e
  have sub : ∀ b o, Hs' b = some o → H b = some o := fun b o e => by
    by_cases h : lab b = some i
    · rw [e1 b h] at e; exact e
    · rw [e2 b h] at e; exact R.bd.ok.sub _ _ e
  have bd : Bd B Hs' H := by
    refine ⟨R.bd.s.trans ss, R.bd.h, fun x o e => ?_, ⟨sub, fun x o e c => ss _ _ (R.bd.ok.cst _ _ e c)⟩⟩
    rw [e2 x (fun z => by rw [(l1 x i z).1] at e; cases e)]
    exact R.bd.n _ _ e
  refine ⟨Hs', ss, bd, by rw [List.length_set]; exact R.len, fun x => if lab x = some i then none else lab x, fun x j e => ?_, fun j s' o q1 q2 => ?_⟩
  · dsimp only at e
    by_cases h : lab x = some i
    · rw [if_pos h] at e; cases e
    · rw [if_neg h] at e
      obtain ⟨b, z, y, q⟩ := l1 x j e
      exact ⟨b, by rw [e2 x h]; exact z, y, q⟩
  · by_cases hj : j = i
    · subst hj
      rw [List.getElem?_set_self (by rw [R.len]; exact hi)] at q1
      cases q1
      rw [List.getElem?_eq_getElem hi] at q2
      cases q2
      cases s with
      | ow ts =>
        cases hf
        obtain ⟨a, vs, eo, la, ha, r⟩ := hsl
        exact ⟨_, eo, .lst ((e1 a la).trans ha) (r.mono ss)⟩
      | ob tss =>
        cases hf
        obtain ⟨a, rs, eo, la, ha, nd, r⟩ := hsl
        exact ⟨_, eo, .lst ((e1 a la).trans ha) (r.rps (fun b o l e => (e1 b l).trans e) ss)⟩
      | ot us ts =>
        cases hf
        obtain ⟨p, a, ws, vs, eo, hp, ru, la, ha, r⟩ := hsl
        exact ⟨_, eo, .tup (ss _ _ hp) ((ru.mono ss).append (.cons (.lst ((e1 a la).trans ha) (r.mono ss)) .nil))⟩
      | sh u =>
        cases hf
        obtain ⟨v, eo, r⟩ := hsl
        exact ⟨v, eo, r.mono ss⟩
      | _ => cases hf
    · rw [List.getElem?_set_ne (Ne.symm hj)] at q1
      refine (l2 j s' o q1 q2).imp ss fun x y l q => ⟨?_, q⟩
      have hx : lab x ≠ some i := fun z => hj (by rw [l] at z; exact Option.some.inj z)
      simp only [hx, if_false]
      exact l
end
/-- read while the slot's things are lent -/
def fBorN (i : Nat) (f : Ev → Option T) : Ev → Option T := fun ev => match ev[i]?.bind frzT with
  | some t => f (ev.set i (.sh t))
  | none => none
def fBorT (i : Nat) (f : Ev → Option Bool) : Ev → Option Bool := fun ev => match ev[i]?.bind frzT with
  | some t => f (ev.set i (.sh t))
  | none => none
/-- given free ahead -/
def fFrzS (i : Nat) (F : Ev → Option Out) : Ev → Option Out := fun ev => match ev[i]?.bind frzT with
  | some t => F (ev.set i (.sh t))
  | none => none
theorem bor_some {α : Type} {i : Nat} {f : Ev → Option α} {ev : Ev} {z : α} (h : (match ev[i]?.bind frzT with | some t => f (ev.set i (.sh t)) | none => none) = some z) : ∃ s t, ev[i]? = some s ∧ frzT s = some t ∧ f (ev.set i (.sh t)) = some z := by
  cases h1 : ev[i]? with
  | none => rw [h1] at h; cases h
  | some s =>
    rw [h1] at h
    cases h2 : frzT s with
    | none => rw [show (some s).bind frzT = frzT s from rfl, h2] at h; cases h
    | some t =>
      rw [show (some s).bind frzT = frzT s from rfl, h2] at h
      exact ⟨s, t, rfl, h2, h⟩
section
variable {X : Cx} {K : PySem.W.Frag} {mg : Str → Option Value} {W : WX} {st : Stmt} {e c : Expr} {f : Ev → Option T} {fc : Ev → Option Bool} {F : Ev → Option Out}
theorem fn_bor (i : Nat) (h : PE X e (tN K f)) : PE X e (tN K (fBorN i f)) := PE.by h fun σ H Q ⟨B, Hs, ev, t, R, hf, q⟩ => by
  obtain ⟨s, u, h1, h2, h3⟩ := bor_some hf
  obtain ⟨Hs', ss, R'⟩ := R.frzS h1 h2
  exact ⟨B, Hs', _, t, R', h3, q⟩
theorem ft_bor (i : Nat) (h : PT X c (tT K fc)) : PT X c (tT K (fBorT i fc)) := PT.by h fun σ H Q ⟨B, Hs, ev, t, R, hf, q⟩ => by
  obtain ⟨s, u, h1, h2, h3⟩ := bor_some hf
  obtain ⟨Hs', ss, R'⟩ := R.frzS h1 h2
  exact ⟨B, Hs', _, t, R', h3, fun Hs2 H2 g => q _ H2 (Gr.nxt R.bd.ok g.h)⟩
/-- a value with nothing within that could change -/
def fBorF (i : Nat) (f : Ev → Option T) : Ev → Option T := fun ev => match fBorN i f ev with
  | some t => if noL t then some t else none
  | none => none
theorem fe_bor (i : Nat) (h : PE X e (tF K f)) : PE X e (tF K (fBorF i f)) := PE.by h fun σ H Q ⟨B, Hs, ev, t, R, hf, q⟩ => by
  unfold fBorF at hf
  cases hb : fBorN i f ev with
  | none => rw [hb] at hf; cases hf
  | some t' =>
    rw [hb] at hf
    dsimp only at hf
    split at hf
    · rename_i hz
      cases hf
      obtain ⟨s, u, h1, h2, h3⟩ := bor_some hb
      obtain ⟨Hs', ss, R'⟩ := R.frzS h1 h2
      refine ⟨B, Hs', _, _, R', h3, fun v Hs2 H2 g r => ?_⟩
      have g2 := Gr.nxt R.bd.ok g.h
      exact q v _ H2 g2 (r.flat (fun a xs e => g2.ok.cst _ _ (g.ok.sub _ _ e) rfl) hz)
    · cases hf
theorem fs_frzS (i : Nat) (h : PS X st (tS K mg W F)) : PS X st (tS K mg W (fFrzS i F)) := PS.by h fun D σ H ⟨B, Hs, ev, o, R, hf, q⟩ => by
  obtain ⟨s, u, h1, h2, h3⟩ := bor_some hf
  obtain ⟨Hs', ss, R'⟩ := R.frzS h1 h2
  exact ⟨B, Hs', _, o, R', h3, q.to ss⟩
end

/-! ### (e, .., new list) -/
def tAN (K : PySem.W.Frag) (fs : Ev → Option (List T)) (fn : Ev → Option T) : TA := fun σ H Q => ∃ B Hs ev ts u, Rl K B Hs H σ ev ∧ fs ev = some ts ∧ noLs ts = true ∧ fn ev = some u ∧ ∀ vs v H', Same H H' → Rps K (Frs H H') vs ts → Rp K (Frs H H') v u → Q (vs ++ [v]) H'
def fTupN (fs : Ev → Option (List T)) (fn : Ev → Option T) : Ev → Option T := fun ev => match fs ev, fn ev with
  | some ts, some u => gTupN ts u
  | _, _ => none
section
variable {X : Cx} {K : PySem.W.Frag} {e : Expr} {es : List Expr} {fa fn : Ev → Option T} {fs : Ev → Option (List T)} {pos : Pos}
theorem fan_one (h : PE X e (tN K fn)) (hs : starEach [e] X.env = (false, eval e X.env) :: starEach [] X.env := by rfl) : PA X [e] (tAN K fNil fn) := PA.by (pa_cons h pa_nil hs) fun σ H Q ⟨B, Hs, ev, ts, u, R, h1, hz, h2, q⟩ => by
  cases h1
  exact ⟨B, Hs, ev, u, R, h2, fun v H' s r => q [] v H' s .nil r⟩
theorem fan_cons (he : PE X e (tF K fa)) (h : PA X es (tAN K fs fn)) (hs : starEach (e :: es) X.env = (false, eval e X.env) :: starEach es X.env := by rfl) : PA X (e :: es) (tAN K (fCons fa fs) fn) := PA.by (pa_cons he h hs) fun σ H Q ⟨B, Hs, ev, ts, u, R, h1, hz, h2, q⟩ => by
  obtain ⟨d, e1, h1⟩ := bind_some h1
  obtain ⟨ds, e2, h1⟩ := bind_some h1
  cases h1
  have hz' : (noL d && noLs ds) = true := hz
  rw [Bool.and_eq_true] at hz'
  refine ⟨B, Hs, ev, d, R, e1, fun x Hs1 H1 g1 r1 => ⟨B, Hs1, ev, ds, u, R.to g1, e2, hz'.2, h2, fun vs v H2 s2 r2 r3 => ?_⟩⟩
  refine q (x :: vs) v H2 (g1.h.trans s2) (.cons (r1.flat (fun a xs e => Frs.cst (s2 _ _ (g1.ok.sub _ _ e)) rfl) hz'.1) (r2.mono (Frs.back g1.h))) (r3.mono (Frs.back g1.h))
theorem fn_tup {k : Nat} (h : PA X es (tAN K fs fn)) : PE X (.Tuple es k pos) (tN K (fTupN fs fn)) := PE.by (pe_tup h) fun σ H Q ⟨B, Hs, ev, t, R, hf, q⟩ => by
  unfold fTupN at hf
  split at hf
  · rename_i ts u h1 h2
    unfold gTupN at hf
    split at hf
    · rename_i c
      rw [Bool.and_eq_true, decide_eq_true_eq] at c
      cases hf
      refine ⟨B, Hs, ev, ts, u, R, h1, c.1, h2, fun vs v H' s r1 r2 => ⟨by rw [List.length_append, r1.length]; exact c.2, fun p hp => ?_⟩⟩
      have ss : Same (Frs H H') (Frs H (upd H' p (.tup (vs ++ [v])))) := Frs.fwd (same_new hp)
      exact q _ _ (s.trans (same_new hp)) (.tup (Frs.cst upd_same rfl) ((r1.mono ss).append (.cons (r2.mono ss) .nil)))
    · cases hf
  · cases hf

/-! ### min of three -/
def gMin3 : List T → Option T
  | [.int a, .int b, .int c] => some (.int (let m := if b < a then b else a; if c < m then c else m))
  | _ => none
theorem cd_min3 : CallD K (rNuC3 nuMin3) gMin3 := fun Hs H vs ds z ok r hz Q q => by
  unfold gMin3 at hz
  split at hz
  · rename_i a b c
    cases hz
    cases r with
    | cons r1 r =>
      cases r with
      | cons r2 r =>
        cases r with
        | cons r3 r =>
          cases r; cases r1; cases r2; cases r3
          refine ⟨.int a, .int b, .int c, _, rfl, ?_, q _ Hs H (Gr.refl ok) (.int _)⟩
          unfold nuMin3 nuMin2
          show Option.bind (Option.map (fun c => if c = true then V.int b else V.int a) (some (decide (b < a)))) _ = _
          by_cases h : b < a
          · rw [decide_eq_true h]
            show Option.map (fun c_1 => if c_1 = true then V.int c else V.int b) (some (decide (c < b))) = _
            by_cases h2 : c < b
            · rw [decide_eq_true h2]; simp [h, h2]
            · rw [decide_eq_false h2]; simp [h, h2]
          · rw [decide_eq_false h]
            show Option.map (fun c_1 => if c_1 = true then V.int c else V.int a) (some (decide (c < a))) = _
            by_cases h2 : c < a
            · rw [decide_eq_true h2]; simp [h, h2]
            · rw [decide_eq_false h2]; simp [h, h2]
  · cases hz
/-! ### xs.index(n), whole numbers -/
def gIndex : T → T → Option T
  | .lst ts, .int k => match intsOf ts with
    | some ns => (ns.findIdx? fun n => decide (n = k)).map fun j => .int (j : Nat)
    | none => none
  | _, _ => none
end

/-! ### enumerate(text) -/
def Iten (x : Str) : It :=
  ⟨fun i _ => i < x.cps.size, fun i H v H' => ∃ T c, v = .ref T ∧ H T = none ∧ H' = upd H T (.tup [.int (i : Nat), .str ⟨#[c]⟩]) ∧ x.cps[i]? = some c, fun i _ => i = x.cps.size⟩
theorem turn_enumS {P : Program} {w : World} {K : PySem.W.Frag} {elts : List Expr} {kk : Nat} {tpos : Pos} (e it : Addr) (x : Str) (t : Tok) (ty : String)
    (D : ∀ A : Around, A.handled = none → Draws P w A it [it] x.cps.size (fun i v => ∃ c u, x.cps[i]? = some c ∧ v = Value.str ⟨#[c]⟩ u) (fun i h => h.IsStrIter it ty x t i)) :
    Turn P w K (.Tuple elts kk tpos) (Iten x) [e, it] e (fun i h => (∃ old, IsEnum h e it ((i : Nat) : Int) old) ∧ h.IsStrIter it ty x t i ∧ e ≠ it) where
  mem := by simp
  obj := fun i h st b hb => by
    obtain ⟨⟨old, he⟩, ⟨o, ho, hc, hd⟩, _⟩ := st
    have e' : b = e ∨ b = it := by simpa using hb
    rcases e' with z | z
    · rw [z]; exact ⟨_, he, fun v q => nomatch q⟩
    · rw [z]; exact ⟨o, ho, fun v q => by rw [hd] at q; cases q⟩
  keep := fun i h h' st k => by
    obtain ⟨⟨old, he⟩, ⟨o, ho, r⟩, hne⟩ := st
    exact ⟨⟨old, k e (by simp) _ he⟩, ⟨o, k it (by simp) _ ho, r⟩, hne⟩
  item := by
    intro X hP hw hK hc i pins s σ H E I hf st hg
    subst hP hw hK
    obtain ⟨⟨old, he⟩, hit, hne⟩ := st
    have hel : e < s.heap.objs.size := Heap.lt_size he
    have hil : it < s.heap.objs.size := by obtain ⟨_, q, _⟩ := hit; exact Heap.lt_size q
    refine wpAny_pyNext_enum_itemD (D X.A.in1 (I.ok.hd hc)) he hit hg hne (by simpa using hne) fun u h' tk hP ho hit' hT hsz hk => ?_
    obtain ⟨c, uu, hcc, rfl⟩ := hP
    refine ⟨_, rfl, wpAny_letOwnedTupleGo_enum (s := { s with heap := h', toks := tk + 1 }) ho fun h'' he' sb => ?_⟩
    have hT2 : h''.get? s.heap.objs.size = some { cls := .type "tuple", data := .seq #[.int i tk, .str ⟨#[c]⟩ uu] } := (sb.2 _ (Nat.ne_of_gt hel)).trans hT
    have new : ObjOk X.prog X.w (upd H s.heap.objs.size (.tup [.int (i : Nat), .str ⟨#[c]⟩])) h'' s.heap.objs.size (.tup [.int (i : Nat), .str ⟨#[c]⟩]) :=
      ⟨by show 2 ≤ sizeLine; decide, [.int i tk, .str ⟨#[c]⟩ uu], .cons ⟨_, rfl⟩ (.cons ⟨_, rfl⟩ .nil), ⟨_, hT2, rfl, _, rfl⟩⟩
    have I1 : Inv X pins σ (upd H s.heap.objs.size (.tup [.int (i : Nat), .str ⟨#[c]⟩])) { s with heap := h'', toks := tk + 1 } :=
      I.turnedNew (ch := [e, it]) (fun b ob hb q => (sb.2 b (fun z => hb (by simp [z]))).trans (hk b ob (fun z => hb (by simp [z])) (fun z => hb (by simp [z])) q)) hf (Nat.le_refl _) new
    refine ⟨.ref s.heap.objs.size, _, I1, rfl, ⟨_, c, rfl, I.hok.fresh (Nat.le_refl _), rfl, hcc⟩, ⟨⟨.str ⟨#[c]⟩ uu, ?_⟩, ?_, hne⟩, fun b hb => ?_⟩
    · have e1 : ((i + 1 : Nat) : Int) = (i : Int) + 1 := by omega
      rw [e1]; exact he'
    · obtain ⟨o, ho', r⟩ := hit'
      exact ⟨o, (sb.2 it (Ne.symm hne)).trans ho', r⟩
    · have hb' : b < s.heap.objs.size := by
        have e' : b = e ∨ b = it := by simpa using hb
        rcases e' with z | z
        · rw [z]; exact hel
        · rw [z]; exact hil
      rw [upd_ne (Nat.ne_of_lt hb')]
      exact (hf b hb).1
  done := by
    intro X hP hw hK hc i pins s σ H E I hf st hg
    subst hP hw hK
    obtain ⟨⟨old, he⟩, hit, hne⟩ := st
    obtain ⟨f0, f1, f2, f3, f4, f5⟩ := hf it (by simp)
    have hi : i = x.cps.size := hg
    rw [hi] at hit
    exact wpAny_pyNext_enum_endD (D X.A.in1 (I.ok.hd hc)) he hit fun h' eb => ⟨rfl, I.turned (t' := s.toks) (fun b o hb q => eb b o hb q) f0 f1 f3 f4 f5⟩
  self := fun A i s Q E st h => let ⟨⟨_, he⟩, _⟩ := st; wpAny_pyIter_enum he h
def iEnumS (ta : TA) : TI := fun σ H R => ta σ H fun vs H1 => ∃ x, vs = [.str x] ∧ R (Iten x) H1
theorem pi_enumS {X : Cx} {e : Expr} {ta : TA} {p pos tpos : Pos} {elts : List Expr} {kk : Nat} (hg : Gl X "enumerate") (hm : X.mg "enumerate" = none) (ha : PA X [e] ta) (hs : starEach [e] X.env = [(false, eval e X.env)] := by rfl) :
    PI X (.Tuple elts kk tpos) (.Call (.Name "enumerate" p) [e] [] pos) (iEnumS ta) := by
  refine ⟨fun pins s σ H R I h => ?_⟩
  refine Call_ (ld_blt I hg hm boot_enumerate (PyProof.Rows.callWith_type1 (thn (ha.run pos pins s σ H _ I h) fun us s1 ⟨vs, H1, I1, r1, q1⟩ => ?_) hs rfl))
  obtain ⟨x, ex, q⟩ := q1
  subst ex
  cases r1 with
  | cons r rr =>
    cases rr
    obtain ⟨t, rfl⟩ := r
    refine call_enumerate_str fun h' he hit hsz hk => wpAny_pyIter_enum he ?_
    have I2 : Inv X pins σ H1 { s1 with heap := h' } := I1.kept (t' := s1.toks) hk
    have hfp : ∀ b ∈ [s1.heap.objs.size + 1, s1.heap.objs.size], FpOk X pins H1 b := fun b hb => by
      have e' : b = s1.heap.objs.size + 1 ∨ b = s1.heap.objs.size := by simpa using hb
      have hle : s1.heap.objs.size ≤ b := by
        rcases e' with z | z
        · rw [z]; exact Nat.le_add_right _ _
        · rw [z]; exact Nat.le_refl _
      exact I1.fpOk hle (I1.hok.fresh hle)
    cases ha : x.cps.all (· < 128)
    · have hit' : h'.IsStrIter s1.heap.objs.size "str_iterator" x t 0 := by simpa [strIterType, ha] using hit
      exact ⟨s1.heap.objs.size + 1, [s1.heap.objs.size + 1, s1.heap.objs.size], _, _, H1, rfl, I2, turn_enumS _ _ x t "str_iterator" fun A hh => Draws.strWide hh _ x t, ⟨⟨.none, he⟩, hit', Nat.succ_ne_self _⟩, hfp, q⟩
    · have hit' : h'.IsStrIter s1.heap.objs.size "str_ascii_iterator" x t 0 := by simpa [strIterType, ha] using hit
      exact ⟨s1.heap.objs.size + 1, [s1.heap.objs.size + 1, s1.heap.objs.size], _, _, H1, rfl, I2, turn_enumS _ _ x t "str_ascii_iterator" fun A hh => Draws.strAscii hh _ x t, ⟨⟨.none, he⟩, hit', Nat.succ_ne_self _⟩, hfp, q⟩
def fEnumS (fs : Ev → Option (List T)) : Ev → Option (List T) := fun ev => match fs ev with
  | some [.str s] => some (s.cps.toList.mapIdx fun i c => .tup [.int (i : Nat), .str ⟨#[c]⟩])
  | _ => none
theorem fi_enumS {X : Cx} {K : PySem.W.Frag} {e : Expr} {fs : Ev → Option (List T)} {p pos tpos : Pos} {elts : List Expr} {kk : Nat} (hm : X.mg "enumerate" = none) (ha : PA X [e] (tA K fs)) (hg : Gl X "enumerate" := by rfl) (hs : starEach [e] X.env = [(false, eval e X.env)] := by rfl) :
    PI X (.Tuple elts kk tpos) (.Call (.Name "enumerate" p) [e] [] pos) (tI K (fEnumS fs)) := PI.by (pi_enumS hg hm ha hs) fun σ H R ⟨B, Hs, ev, ds, Rr, hf, q⟩ => by
  unfold fEnumS at hf
  split at hf
  · rename_i x h
    cases hf
    refine ⟨B, Hs, ev, _, Rr, h, fun vs Hs' H' g r => ?_⟩
    obtain ⟨v, rfl, r1⟩ := rps1 r
    cases r1
    refine ⟨x, rfl, q _ Hs' H' g fun i Hs2 H2 ss ok => ?_⟩
    have hl : (x.cps.toList.mapIdx fun i c => T.tup [.int (i : Nat), .str ⟨#[c]⟩]).length = x.cps.size := by rw [List.length_mapIdx, Array.length_toList]
    refine ⟨fun hi => by rw [hl] at hi; exact hi, fun hi => by rw [hl] at hi; exact hi, fun y H3 yy t ht => ?_⟩
    obtain ⟨Tt, c, rfl, hT, rfl, hc⟩ := yy
    rw [List.getElem?_mapIdx, Array.getElem?_toList, hc] at ht
    cases ht
    have g2 := Gr.new ok hT (o := .tup [.int (i : Nat), .str ⟨#[c]⟩])
    exact ⟨_, g2, .tup upd_same (.cons (.int _) (.cons (.str _) .nil))⟩
  · cases hf
end Fx

namespace Fx
open PySem PySem.Spec L2
open PyProof.Rows hiding St

section
variable {X : Cx} {K : PySem.W.Frag} {o e : Expr} {f fi fj : Ev → Option T} {apos cpos pos p p2 p3 : Pos} {x : Str} {mg : Str → Option Value} {W : WX} {fl : Ev → Option (List T)}
theorem fe_index (ho : PE X o (tF K f)) (ha : PE X e (tF K fi)) (hK : X.K = K := by rfl)
    (hbase : attributeBase o "index" X.env (eval o X.env) = eval o X.env := by rfl)
    (hfew : ((backTo cpos (starEach [e] X.env)).all (fun x => !x.1) && (backToKw cpos (keywordEach [] X.env)).all (fun x => x.1.isSome)
      && decide ([e].length + ([] : List Keyword).length + (if ([] : List Keyword).isEmpty then 0 else 1) < 30)) = true := by rfl)
    (hline : (apos.endLine == cpos.line) = true := by rfl) (hs : starEach [e] X.env = (false, eval e X.env) :: starEach [] X.env := by rfl) (hplain : (backTo cpos (starEach [] X.env)).any (·.1) = false := by rfl) :
    PE X (.Call (.Attribute o "index" apos) [e] [] cpos) (tF K (f2 gIndex f fi)) := by
  subst hK
  refine PE.by (pe_bm PySem.F.plainAttrs_list PySem.F.slot_list_index PySem.F.type_list_index mt_index ho (pa_cons ha pa_nil hs) hbase hfew hline hs hplain) fun σ H Q ⟨B, Hs, ev, t, R, hf, q⟩ => ?_
  obtain ⟨d, h1, hf⟩ := bind_some hf
  obtain ⟨k, h2, hf⟩ := bind_some hf
  cases d with
  | lst ts =>
    cases k with
    | int n =>
      cases hns : intsOf ts with
      | none =>
        have : (match intsOf ts with | some ns => (ns.findIdx? fun m => decide (m = n)).map fun j => T.int (j : Nat) | none => none) = some t := hf
        rw [hns] at this; cases this
      | some ns =>
        have hf2 : (match intsOf ts with | some ns => (ns.findIdx? fun m => decide (m = n)).map fun j => T.int (j : Nat) | none => none) = some t := hf
        rw [hns] at hf2
        dsimp only at hf2
        cases hj : ns.findIdx? fun m => decide (m = n) with
        | none => rw [hj] at hf2; cases hf2
        | some j =>
          rw [hj] at hf2
          cases hf2
          refine ⟨B, Hs, ev, _, R, h1, fun v Hs1 H1 g1 r1 => ?_⟩
          rw [intsOf_some hns] at r1
          cases r1 with
          | lst ea ra =>
            rename_i a vs
            have hv := ra.ints
            subst hv
            refine ⟨.inl ⟨rfl, _, SqL.of (g1.ok.sub _ _ ea)⟩, B, Hs1, ev, _, R.to g1, h2, fun w Hs2 H2 g2 r2 => ?_⟩
            cases r2
            rw [List.findIdx?_eq_some_iff_getElem] at hj
            obtain ⟨hlt, hp, hno⟩ := hj
            refine ⟨a, _, .int n, j, .int ns[j], rfl, rfl, SqL.of (g2.h _ _ (g1.ok.sub _ _ ea)), rfl, ?_, ?_, ?_, fun m z hm hz => ?_, q _ Hs2 H2 (g1.trans g2) (.int _)⟩
            · rw [List.all_map]; exact List.all_eq_true.mpr fun _ _ => rfl
            · rw [List.getElem?_map, List.getElem?_eq_getElem hlt]; rfl
            · have := of_decide_eq_true hp
              show (ns[j] == n) = true
              rw [this]; simp
            · rw [List.getElem?_map, List.getElem?_eq_getElem (by omega)] at hz
              cases hz
              have := hno m hm
              show (ns[m] == n) = false
              simpa using this
    | _ => cases hf
  | _ => cases hf

/-! ### a slot's own list: x[i] = e, clear, reverse -/
def fPut (k : Nat) (fi f : Ev → Option T) : Ev → Option Out := fun ev => match ev[k]?, f ev, fi ev with
  | some (.ow ts), some t, some (.int i) => if noL t then (ixN ts.length i).map fun j => .nx (ev.set k (.ow (ts.set j t))) else none
  | _, _, _ => none
theorem fs_put (k : Nat) {i : Expr} (hi : PE X i (tF K fi)) (he : PE X e (tF K f)) (hN : X.N[k]? = some x := by rfl) (hv : Vis X.env.scope x := by first | exact Or.inl rfl | exact Or.inr (Or.inl rfl) | exact Or.inr (Or.inr rfl)) (hd : (x == ("__debug__" : Str)) = false := by decide)
    (hcd : (x == ("__classdict__" : Str)) = false := by decide)
    (ha : ∀ v, assign (.Subscript (.Name x p) i p2) X.env v = (do
      let ov ← holding [v] (eval (.Name x p) X.env)
      let iv ← holding [v, ov] (eval i X.env)
      standAt p2
      holding [v, ov, iv] (setItem ov iv v)
      release [v, ov, iv] []) := by intro _; rfl)
    (hs : swapsWithSole [.Subscript (.Name x p) i p2] e pos.line X.env = pure false := by rfl) (hw : swappedStores [.Subscript (.Name x p) i p2] e X.env = pure none := by rfl)
    (h1 : (assignEach [.Subscript (.Name x p) i p2] X.env).map (·.2) = [assign (.Subscript (.Name x p) i p2) X.env] := by rfl) :
    PS X (.Assign [.Subscript (.Name x p) i p2] e pos) (tS K mg W (fPut k fi f)) :=
  PS.by (ps_asg he (pg_sub (pe_var (i := k) hN hv hd hcd) hi set_list ha) hs hw h1) fun D σ H ⟨B, Hs, ev, o, R, hf, q⟩ => by
    unfold fPut at hf
    split at hf
    · rename_i ts t j h1 h2 h3
      split at hf
      · rename_i hz
        cases hj : ixN ts.length j with
        | none => rw [hj] at hf; cases hf
        | some m =>
          rw [hj] at hf
          cases hf
          obtain ⟨a, vs, e1, e2, e3⟩ := R.at_ow h1
          refine ⟨B, Hs, ev, t, R, h2, fun v Hs1 H1 g1 r1 => ⟨.ref a, e1, B, Hs1, ev, _, R.to g1, h3, fun w Hs2 H2 g2 r2 => ?_⟩⟩
          cases r2
          obtain ⟨a', vs', e1', e2', e3', mm⟩ := ((R.to g1).to g2).mutOw (us := ts.set m t) h1
          rw [e1] at e1'
          cases e1'
          refine ⟨a, vs', j, m, rfl, rfl, e2', by rw [e3'.length]; exact hj, ?_⟩
          exact q _ Hs2 _ (g1.s.trans g2.s) (mm _ (e3'.set m (r1.mono g2.s)))
      · cases hf
    · cases hf
def fClr (i : Nat) : Ev → Option Out := fun ev => match ev[i]? with
  | some (.ow _) => some (.nx (ev.set i (.ow [])))
  | _ => none
def fRev (i : Nat) : Ev → Option Out := fun ev => match ev[i]? with
  | some (.ow ts) => some (.nx (ev.set i (.ow ts.reverse)))
  | _ => none
theorem fs_clr (i : Nat) (hN : X.N[i]? = some x := by rfl) (hv : Vis X.env.scope x := by first | exact Or.inl rfl | exact Or.inr (Or.inl rfl) | exact Or.inr (Or.inr rfl)) (hd : (x == ("__debug__" : Str)) = false := by decide)
    (hcd : (x == ("__classdict__" : Str)) = false := by decide)
    (hbase : attributeBase (.Name x p) "clear" X.env (eval (.Name x p) X.env) = eval (.Name x p) X.env := by rfl)
    (hline : (apos.endLine == cpos.line) = true := by rfl)
    (hsw : swapsWith (.Call (.Attribute (.Name x p) "clear" apos) [] [] cpos) none pos.line X.env = pure false := by rfl) :
    PS X (.Expr (.Call (.Attribute (.Name x p) "clear" apos) [] [] cpos) pos) (tS K mg W (fClr i)) :=
  PS.by (ps_expr (pe_bm0 PySem.F.plainAttrs_list PySem.F.slot_list_clear PySem.F.type_list_clear mt_clear (pe_var (i := i) hN hv hd hcd) hbase hline) hsw) fun D σ H ⟨B, Hs, ev, o, R, hf, q⟩ => by
    unfold fClr at hf
    split at hf
    · rename_i ts h
      cases hf
      obtain ⟨a, vs, e1, e2, e3, m⟩ := R.mutOw (us := []) h
      exact ⟨.ref a, e1, .inl ⟨rfl, _, SqL.of e2⟩, a, vs, rfl, rfl, e2, q _ Hs _ (Same.refl _) (m _ .nil)⟩
    · cases hf
theorem fs_rev (i : Nat) (hN : X.N[i]? = some x := by rfl) (hv : Vis X.env.scope x := by first | exact Or.inl rfl | exact Or.inr (Or.inl rfl) | exact Or.inr (Or.inr rfl)) (hd : (x == ("__debug__" : Str)) = false := by decide)
    (hcd : (x == ("__classdict__" : Str)) = false := by decide)
    (hbase : attributeBase (.Name x p) "reverse" X.env (eval (.Name x p) X.env) = eval (.Name x p) X.env := by rfl)
    (hline : (apos.endLine == cpos.line) = true := by rfl)
    (hsw : swapsWith (.Call (.Attribute (.Name x p) "reverse" apos) [] [] cpos) none pos.line X.env = pure false := by rfl) :
    PS X (.Expr (.Call (.Attribute (.Name x p) "reverse" apos) [] [] cpos) pos) (tS K mg W (fRev i)) :=
  PS.by (ps_expr (pe_bm0 PySem.F.plainAttrs_list PySem.F.slot_list_reverse PySem.F.type_list_reverse mt_reverse (pe_var (i := i) hN hv hd hcd) hbase hline) hsw) fun D σ H ⟨B, Hs, ev, o, R, hf, q⟩ => by
    unfold fRev at hf
    split at hf
    · rename_i ts h
      cases hf
      obtain ⟨a, vs, e1, e2, e3, m⟩ := R.mutOw (us := ts.reverse) h
      exact ⟨.ref a, e1, .inl ⟨rfl, _, SqL.of e2⟩, a, vs, rfl, rfl, e2, q _ Hs _ (Same.refl _) (m _ e3.reverse)⟩
    · cases hf
end

/-! ### a slot's tuple whose last part is a list of its own -/
section
variable {K : PySem.W.Frag} {B : Bs} {Hs H Hs' H' : Hp} {σ : St} {ev : Ev} {i : Nat}
/-- a labelled list is rewritten -/
theorem Rl.mutA (R : Rl K B Hs H σ ev) {s : Sl} (he : ev[i]? = some s) : ∃ lab : Addr → Option Nat, ∃ o, σ[i]? = some o ∧ SlOk K B.fx Hs H lab i o s ∧ (∀ a, lab a = some i → B.b a = none ∧ Hs a = none ∧ ∃ o, H a = some o) ∧
    ∀ (a : Addr) (vs ws : List V) (s' : Sl), lab a = some i → H a = some (.lst vs) → SlOk K B.fx Hs (upd H a (.lst ws)) lab i o s' → Rl K B Hs (upd H a (.lst ws)) σ (ev.set i s') := by
  obtain ⟨lab, l1, l2⟩ := R.lab
  have hi : i < σ.length := by rw [← R.len]; exact (List.getElem?_eq_some_iff.mp he).1
  refine ⟨lab, σ[i], List.getElem?_eq_getElem hi, l2 i _ _ he (List.getElem?_eq_getElem hi), fun a h => l1 a i h, fun a vs ws s' la ha hs' => ?_⟩
  obtain ⟨hb, hz, _⟩ := l1 a i la
  have bd : Bd B Hs (upd H a (.lst ws)) := by
    refine ⟨R.bd.s, fun x o e => ?_, R.bd.n, ⟨fun x o e => ?_, fun x o e c => ?_⟩⟩
    · rw [upd_ne (ne_of_none e hb)]; exact R.bd.h _ _ e
    · rw [upd_ne (ne_of_none e hz)]; exact R.bd.ok.sub _ _ e
    · by_cases hx : x = a
      · subst hx; rw [upd_same] at e; cases e; cases c
      · rw [upd_ne hx] at e; exact R.bd.ok.cst _ _ e c
  refine ⟨bd, by rw [List.length_set]; exact R.len, lab, fun x j e => ?_, fun j t o e1 e2' => ?_⟩
  · obtain ⟨b, z, y, q⟩ := l1 x j e
    refine ⟨b, z, ?_⟩
    by_cases hx : x = a
    · subst hx; exact ⟨_, upd_same⟩
    · exact ⟨y, by rw [upd_ne hx]; exact q⟩
  · by_cases hj : j = i
    · subst hj
      rw [List.getElem?_set_self (by rw [R.len]; exact hi)] at e1
      rw [List.getElem?_eq_getElem hi] at e2'
      cases e1; cases e2'
      exact hs'
    · rw [List.getElem?_set_ne (Ne.symm hj)] at e1
      refine (l2 j t o e1 e2').imp (Same.refl _) fun x y l q => ⟨l, ?_⟩
      have hx : x ≠ a := fun z => hj (by rw [z, la] at l; exact (Option.some.inj l).symm)
      rw [upd_ne hx]; exact q
end
section
variable {X : Cx} {K : PySem.W.Frag} {e : Expr} {f fi : Ev → Option T} {apos cpos pos p p2 p3 : Pos} {x : Str} {mg : Str → Option Value} {W : WX}
def fSetOt (i : Nat) (f : Ev → Option T) : Ev → Option Out := fun ev => match f ev with
  | some (.tup us) => match us.getLast? with
    | some (.lst ts) => if noLs us.dropLast && noLs ts then some (.nx (ev.set i (.ot us.dropLast ts))) else none
    | _ => none
  | _ => none
theorem Rps.snoc {H : Hp} {ts : List T} {vs : List V} {t : T} (h : Rps K H vs (ts ++ [t])) : ∃ ws v, vs = ws ++ [v] ∧ Rps K H ws ts ∧ Rp K H v t := by
  induction ts generalizing vs with
  | nil => cases h with | cons a r => cases r; exact ⟨[], _, rfl, .nil, a⟩
  | cons u ts ih =>
    cases h with
    | cons a r =>
      obtain ⟨ws, v, rfl, h1, h2⟩ := ih r
      exact ⟨_ :: ws, v, rfl, .cons a h1, h2⟩
theorem asgOt (i : Nat) : ∀ D σ H, tS K mg W (fSetOt i f) D σ H → tAsg (tN K f) (gName i) D σ H := fun D σ H ⟨B, Hs, ev, o, R, hf, q⟩ => by
  unfold fSetOt at hf
  cases h : f ev with
  | none => rw [h] at hf; cases hf
  | some t =>
    rw [h] at hf
    cases t with
    | tup us =>
      dsimp only at hf
      cases hl : us.getLast? with
      | none => rw [hl] at hf; cases hf
      | some u =>
        rw [hl] at hf
        cases u with
        | lst ts =>
          dsimp only at hf
          split at hf
          · rename_i hz
            rw [Bool.and_eq_true] at hz
            cases hf
            have hus : us = us.dropLast ++ [.lst ts] := by
              have hne : us ≠ [] := fun z => by rw [z] at hl; cases hl
              rw [List.getLast?_eq_some_getLast hne] at hl
              conv => lhs; rw [← List.dropLast_concat_getLast hne]
              rw [Option.some.inj hl]
            refine ⟨B, Hs, ev, _, R, h, fun v H' s r => ?_⟩
            cases r with
            | tup ep rp =>
              rename_i p vs
              rw [hus] at rp
              obtain ⟨ws, v, rfl, r1, r2⟩ := rp.snoc
              cases r2 with
              | lst ea ra =>
                rename_i a xs
                have e1 := Frs.sub _ _ ea
                have n1 : H a = none := by
                  unfold Frs at ea
                  rw [e1] at ea
                  cases z : H a with
                  | none => rfl
                  | some y => rw [z] at ea; cases ea
                have g := Gr.but R.bd.ok s n1 e1
                refine q _ _ H' g.s (R.put (R.bd.to g) g.s (some (.ref p)) (fun y => decide (y = a)) (fun y z => ?_) (fun lab l1 _ y j l _ => ?_) ⟨p, a, ws, xs, rfl, g.ok.cst _ _ (Frs.sub _ _ ep) rfl, ?_, by simp, e1, ?_⟩)
                · have z := of_decide_eq_true z
                  subst z
                  exact ⟨R.bd.h.free n1, by unfold But; rw [if_pos rfl], _, e1⟩
                · obtain ⟨_, z, y', q'⟩ := l1 y j l
                  have hy : y ≠ a := fun e => by rw [e, n1] at q'; cases q'
                  refine ⟨decide_eq_false hy, (g.n _ _ q').trans z, fun _ q => s _ _ q⟩
                · exact r1.flat (fun b xs q => g.ok.cst _ _ (Frs.sub _ _ q) rfl) hz.1
                · exact ra.flat (fun b xs q => g.ok.cst _ _ (Frs.sub _ _ q) rfl) hz.2
          · cases hf
        | _ => cases hf
    | _ => cases hf
theorem fs_setOt (i : Nat) {pos' : Pos} (hN : X.N.Nodup) (he : PE X e (tN K f)) (hi : X.N[i]? = some x := by rfl) (hx : Loc X.env.scope x := by first | exact Or.inl rfl | exact Or.inr rfl) (hs : swapsWith e (some (.Name x pos')) pos.line X.env = pure false := by rfl)
    (hf : X.fn x = true ∨ X.env.scope.names.lookup x = some .local := by first | exact .inl rfl | exact .inr rfl) : PS X (.Assign [.Name x pos'] e pos) (tS K mg W (fSetOt i f)) := PS.by (ps_set hN hi hx he hs hf) (asgOt i)
/-- x[n].clear(), the last part -/
def fClrT (i n : Nat) : Ev → Option Out := fun ev => match ev[i]? with
  | some (.ot us _) => if us.length = n then some (.nx (ev.set i (.ot us []))) else none
  | _ => none
theorem fs_clrT (i n : Nat) {j : Nat} (hK : X.K = K := by rfl) (hN : X.N[i]? = some x := by rfl) (hv : Vis X.env.scope x := by first | exact Or.inl rfl | exact Or.inr (Or.inl rfl) | exact Or.inr (Or.inr rfl)) (hd : (x == ("__debug__" : Str)) = false := by decide)
    (hcd : (x == ("__classdict__" : Str)) = false := by decide)
    (hbase : attributeBase (.Subscript (.Name x p) (.Constant (.int (n : Int)) j p2) p3) "clear" X.env (eval (.Subscript (.Name x p) (.Constant (.int (n : Int)) j p2) p3) X.env) = eval (.Subscript (.Name x p) (.Constant (.int (n : Int)) j p2) p3) X.env := by rfl)
    (hline : (apos.endLine == cpos.line) = true := by rfl)
    (hsw : swapsWith (.Call (.Attribute (.Subscript (.Name x p) (.Constant (.int (n : Int)) j p2) p3) "clear" apos) [] [] cpos) none pos.line X.env = pure false := by rfl) :
    PS X (.Expr (.Call (.Attribute (.Subscript (.Name x p) (.Constant (.int (n : Int)) j p2) p3) "clear" apos) [] [] cpos) pos) (tS K mg W (fClrT i n)) := by
  subst hK
  refine PS.by (ps_expr (pe_bm0 PySem.F.plainAttrs_list PySem.F.slot_list_clear PySem.F.type_list_clear mt_clear (pe_ix ix_tup (pe_var (i := i) hN hv hd hcd) pe_int (fun _ _ => rfl)) hbase hline) hsw) fun D σ H ⟨B, Hs, ev, o, R, hf, q⟩ => ?_
  unfold fClrT at hf
  split at hf
  · rename_i us ts h
    split at hf
    · rename_i hl
      cases hf
      obtain ⟨lab, o, e1, hsl, l1, m⟩ := R.mutA h
      obtain ⟨pp, a, ws, vs, rfl, hp, ru, la, ha, r⟩ := hsl
      refine ⟨.ref pp, e1, pp, _, (n : Int), .ref a, rfl, rfl, SqT.of (R.bd.ok.sub _ _ hp), ?_, .inl ⟨rfl, _, SqL.of ha⟩, a, vs, rfl, rfl, ha, ?_⟩
      · refine atI_nat ?_
        rw [← hl, ← ru.length, List.getElem?_append_right (Nat.le_refl _), Nat.sub_self]
        rfl
      · exact q _ Hs _ (Same.refl _) (m a vs [] (.ot us []) la ha ⟨pp, a, ws, [], rfl, hp, ru, la, upd_same, .nil⟩)
    · cases hf
  · cases hf
end
end Fx

namespace Fx
open PySem PySem.Spec L2
open PyProof.Rows hiding St

/-! ### a slot's list of lists of its own -/
section
variable {K : PySem.W.Frag} {B : Bs} {Hs H Hs' H' : Hp} {σ : St} {ev : Ev} {i : Nat} {lab : Addr → Option Nat}
theorem Rows.len : ∀ {rs : List Addr} {tss : List (List T)}, Rows K Hs H lab i rs tss → rs.length = tss.length
  | _, _, .nil => rfl
  | _, _, .cons _ _ _ r => by rw [List.length_cons, List.length_cons, r.len]
theorem Rows.get : ∀ {rs : List Addr} {tss : List (List T)} {k : Nat} {ts : List T}, Rows K Hs H lab i rs tss → tss[k]? = some ts → ∃ r vs, rs[k]? = some r ∧ lab r = some i ∧ H r = some (.lst vs) ∧ Rps K Hs vs ts
  | _, _, _, _, .nil, h => by simp at h
  | _, _, 0, _, .cons l e r _, h => by
    have h' := Option.some.inj h
    subst h'
    exact ⟨_, _, rfl, l, e, r⟩
  | _, _, k + 1, _, .cons _ _ _ r, h => by
    obtain ⟨r, vs, h1, h2⟩ := r.get (k := k) (by simpa using h)
    exact ⟨r, vs, by simpa using h1, h2⟩
theorem Rows.upd {r : Addr} {ws : List V} {us : List T} (hu : Rps K Hs ws us) : ∀ {rs : List Addr} {tss : List (List T)} {k : Nat}, Rows K Hs H lab i rs tss → rs.Nodup → rs[k]? = some r → Rows K Hs (upd H r (.lst ws)) lab i rs (tss.set k us)
  | _, _, _, .nil, _, h => by simp at h
  | _, _, 0, .cons l e rp t, nd, h => by
    have h' := Option.some.inj h
    subst h'
    have nd' := List.nodup_cons.mp nd
    refine .cons l upd_same hu ?_
    have key : ∀ {rs : List Addr} {tss : List (List T)} {r0 : Addr}, r0 ∉ rs → Rows K Hs H lab i rs tss → Rows K Hs (L2.upd H r0 (.lst ws)) lab i rs tss := by
      intro rs
      induction rs with
      | nil => intro tss r0 _ h; cases h; exact .nil
      | cons a rs ih =>
        intro tss r0 hn h
        cases h with
        | cons l e rp t =>
          exact .cons l ((upd_ne (fun z => hn (by rw [← z]; exact List.mem_cons_self))).trans e) rp (ih (fun z => hn (List.mem_cons_of_mem _ z)) t)
    exact key nd'.1 t
  | _, _, k + 1, .cons l e rp t, nd, h => by
    have nd' := List.nodup_cons.mp nd
    rw [List.getElem?_cons_succ] at h
    have hr := List.mem_of_getElem? h
    refine .cons l ?_ rp (t.upd hu nd'.2 h)
    rw [upd_ne (fun z => nd'.1 (by rw [z]; exact hr))]
    exact e
theorem Rows.other {D : Addr} {o : HO} : ∀ {rs : List Addr} {tss : List (List T)}, D ∉ rs → Rows K Hs H lab i rs tss → Rows K Hs (L2.upd H D o) lab i rs tss
  | _, _, _, .nil => .nil
  | _, _, h, .cons l e r t => .cons l ((upd_ne fun z => h (by rw [← z]; exact List.mem_cons_self)).trans e) r (t.other fun z => h (List.mem_cons_of_mem _ z))
theorem Rows.inH : ∀ {rs : List Addr} {tss : List (List T)}, Rows K Hs H lab i rs tss → ∀ r ∈ rs, ∃ o, H r = some o
  | _, _, .nil => fun _ h => nomatch h
  | _, _, .cons l e r t => fun x h => by
    rcases List.mem_cons.mp h with z | h
    · rw [z]; exact ⟨_, e⟩
    · exact t.inH x h
theorem Rows.relab {l' : Addr → Option Nat} {j : Nat} : ∀ {rs : List Addr} {tss : List (List T)}, Rows K Hs H lab i rs tss → (∀ r ∈ rs, l' r = some j) → Rows K Hs H l' j rs tss
  | _, _, .nil, _ => .nil
  | _, _, .cons l e r t, h => .cons (h _ List.mem_cons_self) e r (t.relab fun x hx => h x (List.mem_cons_of_mem _ hx))
end
/-- [[..] for ..]: a new list of new lists -/
def tOB (K : PySem.W.Frag) (f : Ev → Option (List (List T))) : TE := fun σ H Q => ∃ B Hs ev tss, Rl K B Hs H σ ev ∧ f ev = some tss ∧
  ∀ D rs Hs' H', Gr Hs H Hs' H' → H D = none → Hs' D = none → (∀ r ∈ rs, H r = none ∧ Hs' r = none) → (D :: rs).Nodup → H' D = some (.lst (rs.map V.ref)) → Rows K Hs' H' (fun _ => some 0) 0 rs tss → Q (.ref D) H'
def rowsF (b : T → Ev → Option Ev) (f : Ev → Option T) (ev : Ev) : List T → Option (List (List T))
  | [] => some []
  | t :: ts => match b t ev with
    | none => none
    | some e1 => match f e1 with
      | some (.lst r) => if noLs r then (match rowsF b f ev ts with | some rs => some (r :: rs) | none => none) else none
      | _ => none
def fRows (fi : Ev → Option (List T)) (b : T → Ev → Option Ev) (f : Ev → Option T) (vs : List Nat) : Ev → Option (List (List T)) := fun ev => match fi ev with
  | none => none
  | some ts => match rowsF b f (wipeE ev vs) ts with
    | none => none
    | some ys => if ys.length ≤ sizeLine then some ys else none
theorem compOB {K : PySem.W.Frag} {fi : Ev → Option (List T)} {g : TG} {b : T → Ev → Option Ev} {is vs : List Nat} {f : Ev → Option T} (hb : TgD K g b is) (hsub : ∀ k ∈ is, k ∈ vs) :
    ∀ σ H Q, tOB K (fRows fi b f vs) σ H Q → tLc (tI K fi) g (tT K fYes) (tN K f) vs σ H Q := fun σ H Q ⟨B, Hs, ev, t, R, hf, q⟩ => by
  unfold fRows at hf
  cases h1 : fi ev with
  | none => rw [h1] at hf; cases hf
  | some ds =>
    rw [h1] at hf
    dsimp only at hf
    cases h2 : rowsF b f (wipeE ev vs) ds with
    | none => rw [h2] at hf; cases hf
    | some ys =>
      rw [h2] at hf
      dsimp only at hf
      split at hf
      · rename_i hz
        cases hf
        refine ⟨B, Hs, ev, ds, R, h1, fun J Hs1 H1 g1 hy D hD => ?_⟩
        have hDs : Hs1 D = none := g1.ok.sub.free hD
        refine ⟨fun i m H2 => m = ds.length - i ∧ i ≤ ds.length ∧ ∃ Hs2 acc rs rest, Gr Hs1 H1 Hs2 H2 ∧ Hs2 D = none ∧ H2 D = some (.lst (rs.map V.ref)) ∧ (∀ r ∈ rs, H1 r = none ∧ Hs2 r = none) ∧ (D :: rs).Nodup ∧ Rows K Hs2 H2 (fun _ => some 0) 0 rs acc ∧ rowsF b f (wipeE ev vs) (ds.drop i) = some rest ∧ acc ++ rest = t,
          ⟨ds.length, by simp, Nat.zero_le _, Hs1, [], [], t, Gr.new0 g1.ok hD rfl, hDs, upd_same, (fun _ h => nomatch h), by simp, .nil, h2, rfl⟩, ?_⟩
        rintro i m H2 ⟨rfl, hi, Hs2, acc, rs, rest, g2, hD2, eD, hrs, nd, rD, hr, ha⟩
        obtain ⟨y1, y2, y3⟩ := hy i Hs2 H2 g2.s g2.ok
        have R2 : Rl K B Hs2 H2 σ ev := (R.to g1).to g2
        by_cases hlt : i < ds.length
        · refine .inr ⟨y1 hlt, fun H3 => ∃ Hs2 acc rs rest, Gr Hs1 H1 Hs2 H3 ∧ Hs2 D = none ∧ H3 D = some (.lst (rs.map V.ref)) ∧ (∀ r ∈ rs, H1 r = none ∧ Hs2 r = none) ∧ (D :: rs).Nodup ∧ Rows K Hs2 H3 (fun _ => some 0) 0 rs acc ∧ rowsF b f (wipeE ev vs) (ds.drop (i + 1)) = some rest ∧ acc ++ rest = t,
            fun H3 hN => ⟨ds.length - (i + 1), by omega, rfl, hlt, hN⟩, fun x H3 yy => ?_⟩
          obtain ⟨Hs3, g3, r3⟩ := y3 x H3 yy _ (List.getElem?_eq_getElem hlt)
          rw [List.drop_eq_getElem_cons hlt] at hr
          unfold rowsF at hr
          cases hb1 : b ds[i] (wipeE ev vs) with
          | none => rw [hb1] at hr; cases hr
          | some e1 =>
            rw [hb1] at hr
            dsimp only at hr
            have R3 : Rl K B Hs3 H3 (L2.wipe σ vs) (wipeE ev vs) := (R2.to g3).wipe vs
            refine hb B Hs3 H3 _ _ x _ e1 _ R3 r3 hb1 fun σ4 R4 k4 l4 => ⟨wipe_same k4 hsub l4, ?_⟩
            have g13 := g2.trans g3
            have hD3 : Hs3 D = none := (g3.n _ _ eD).trans hD2
            have eD3 := g3.h _ _ eD
            refine ⟨B, Hs3, e1, true, R4, rfl, fun Hs5 H5 g5 => ?_⟩
            have g15 := g13.trans g5
            have hD5 : Hs5 D = none := (g5.n _ _ eD3).trans hD3
            have eD5 := g5.h _ _ eD3
            refine iteT ?_
            cases hfe : f e1 with
            | none => rw [hfe] at hr; cases hr
            | some y =>
              rw [hfe] at hr
              cases y with
              | lst row =>
                dsimp only at hr
                split at hr
                · rename_i hrow
                  cases hrest : rowsF b f (wipeE ev vs) (ds.drop (i + 1)) with
                  | none => rw [hrest] at hr; cases hr
                  | some ys2 =>
                    rw [hrest] at hr
                    cases hr
                    refine ⟨B, Hs5, e1, .lst row, R4.to g5, hfe, fun v H6 s6 r6 => ?_⟩
                    cases r6 with
                    | lst ea ra =>
                      rename_i a xs
                      have e6 := Frs.sub _ _ ea
                      have n5 : H5 a = none := by
                        unfold Frs at ea
                        rw [e6] at ea
                        cases z : H5 a with
                        | none => rfl
                        | some y => rw [z] at ea; cases ea
                      have g6 := Gr.but g5.ok s6 n5 e6
                      have g16 := g15.trans g6
                      have hDa : D ≠ a := fun z => by rw [z, n5] at eD5; cases eD5
                      have inRs2 := rD.inH
                      have inRs : ∀ r ∈ rs, ∃ o, H5 r = some o := fun r hr => by
                        obtain ⟨o, e⟩ := inRs2 r hr
                        exact ⟨o, g5.h _ _ (g3.h _ _ e)⟩
                      have haR : a ∉ rs := fun z => by
                        obtain ⟨o, e⟩ := inRs a z
                        rw [n5] at e; cases e
                      have hD6 : But a (Nxt Hs5 H5 H6) D = none := (g6.n _ _ eD5).trans hD5
                      have eD6 := g6.h _ _ eD5
                      have rA : Rps K (But a (Nxt Hs5 H5 H6)) xs row := ra.flat (fun b xs q => g6.ok.cst _ _ (Frs.sub _ _ q) rfl) hrow
                      have rAll : Rows K (But a (Nxt Hs5 H5 H6)) H6 (fun _ => some 0) 0 (rs ++ [a]) (acc ++ [row]) := by
                        have key : ∀ {rs : List Addr} {tss : List (List T)}, Rows K (But a (Nxt Hs5 H5 H6)) H6 (fun _ => some 0) 0 rs tss → Rows K (But a (Nxt Hs5 H5 H6)) H6 (fun _ => some 0) 0 (rs ++ [a]) (tss ++ [row]) := by
                          intro rs
                          induction rs with
                          | nil => intro tss h; cases h; exact .cons rfl e6 rA .nil
                          | cons b rs ih => intro tss h; cases h with | cons l e rp t => exact .cons l e rp (ih t)
                        exact key (rD.imp ((g3.s.trans g5.s).trans g6.s) fun b o l e => ⟨rfl, g6.h _ _ (g5.h _ _ (g3.h _ _ e))⟩)
                      have rAll2 : Rows K (But a (Nxt Hs5 H5 H6)) (upd H6 D (.lst ((rs ++ [a]).map V.ref))) (fun _ => some 0) 0 (rs ++ [a]) (acc ++ [row]) := by
                        refine Rows.other (fun z => ?_) rAll
                        rcases List.mem_append.mp z with z | z
                        · exact (List.nodup_cons.mp nd).1 z
                        · exact hDa (List.mem_singleton.mp z)
                      refine ⟨rs.map V.ref, eD6, ?_, But a (Nxt Hs5 H5 H6), acc ++ [row], rs ++ [a], ys2, ?_, hD6, by rw [List.map_append]; exact upd_same, fun r hr => ?_, ?_, ?_, rfl, by rw [List.append_assoc]; exact ha⟩
                      · have e1 : t.length = acc.length + (ys2.length + 1) := by rw [← ha, List.length_append, List.length_cons]
                        rw [List.length_map, rD.len]
                        omega
                      · refine ⟨g16.s, fun a o e => ?_, g16.n, ⟨fun a o e => ?_, fun b o e c => ?_⟩⟩
                        · rw [upd_ne (ne_of_none e hD)]; exact g16.h _ _ e
                        · rw [upd_ne (ne_of_none e hD6)]; exact g16.ok.sub _ _ e
                        · by_cases hx : b = D
                          · subst hx; rw [upd_same] at e; cases e; cases c
                          · rw [upd_ne hx] at e; exact g16.ok.cst _ _ e c
                      · rcases List.mem_append.mp hr with hr | hr
                        · obtain ⟨o, e⟩ := inRs r hr
                          obtain ⟨z1, z2⟩ := hrs r hr
                          obtain ⟨o2, e2⟩ := inRs2 r hr
                          exact ⟨z1, (g6.n _ _ e).trans ((g5.n _ _ (g3.h _ _ e2)).trans ((g3.n _ _ e2).trans z2))⟩
                        · rw [List.mem_singleton.mp hr]
                          exact ⟨(g13.h.trans g5.h).free n5, by unfold But; rw [if_pos rfl]⟩
                      · have nd' := List.nodup_cons.mp nd
                        refine List.nodup_cons.mpr ⟨fun z => ?_, ?_⟩
                        · rcases List.mem_append.mp z with z | z
                          · exact nd'.1 z
                          · exact hDa (List.mem_singleton.mp z)
                        · rw [List.nodup_append]
                          refine ⟨nd'.2, by simp, fun x hx y hy => ?_⟩
                          rw [List.mem_singleton.mp hy]
                          exact fun z => haR (by rw [← z]; exact hx)
                      · rw [List.map_append] at rAll2
                        exact rAll2
                · cases hr
              | _ => cases hr
        · have e : i = ds.length := by omega
          subst e
          rw [List.drop_length] at hr
          cases hr
          rw [List.append_nil] at ha
          subst ha
          refine .inl ⟨y2 rfl, q D rs Hs2 H2 (g1.trans g2) (g1.h.free hD) hD2 (fun r hr => ⟨g1.h.free (hrs r hr).1, (hrs r hr).2⟩) nd eD rD⟩
      · cases hf

section
variable {X : Cx} {K : PySem.W.Frag} {mg : Str → Option Value} {W : WX} {elt tg iter e : Expr} {ifs : List Expr} {scope : Scope} {own : List (Str × Nat)} {pos p p2 p3 : Pos} {fi : Ev → Option (List T)} {g : TG} {b : T → Ev → Option Ev} {is : List Nat} {f fj fk : Ev → Option T} {x : Str}
def fSetOb (i : Nat) (f : Ev → Option (List (List T))) : Ev → Option Out := fun ev => (f ev).map fun tss => .nx (ev.set i (.ob tss))
theorem asgOb {f : Ev → Option (List (List T))} (i : Nat) : ∀ D σ H, tS K mg W (fSetOb i f) D σ H → tAsg (tOB K f) (gName i) D σ H := fun D σ H ⟨B, Hs, ev, o, R, hf, q⟩ => by
  unfold fSetOb at hf
  cases h : f ev with
  | none => rw [h] at hf; cases hf
  | some tss =>
    rw [h] at hf
    cases hf
    refine ⟨B, Hs, ev, tss, R, h, fun D' rs Hs' H' g hD hD' hrs nd eD rows => ?_⟩
    refine q _ Hs' H' g.s (R.put (R.bd.to g) g.s (some (.ref D')) (fun y => decide (y ∈ D' :: rs)) (fun y z => ?_) (fun lab l1 _ y j l _ => ?_) ⟨D', rs, rfl, by simp, eD, nd, rows.relab fun r hr => by simp [hr]⟩)
    · have z := of_decide_eq_true z
      rcases List.mem_cons.mp z with z | z
      · rw [z]; exact ⟨R.bd.h.free hD, hD', _, eD⟩
      · exact ⟨R.bd.h.free (hrs y z).1, (hrs y z).2, rows.inH y z⟩
    · obtain ⟨_, z, y', q'⟩ := l1 y j l
      have hy : y ∉ D' :: rs := fun e => by
        rcases List.mem_cons.mp e with e | e
        · rw [e, hD] at q'; cases q'
        · rw [(hrs y e).1] at q'; cases q'
      exact ⟨decide_eq_false hy, (g.n _ _ q').trans z, fun _ q => g.h _ _ q⟩
theorem fs_setOb (i : Nat) {y : Str} {py spos : Pos} (hc : X.calm = true) (hN : X.N.Nodup) (hb : TgD K g b is) (hsub : ∀ k ∈ is, k ∈ own.map (·.2)) (hi : PI X tg iter (tI K fi)) (ok : BlkOk X.N X.env.scope scope own)
    (hg : ∀ (s : Shared) (H : Hp) (C : Addr) (cl : List (Str × Addr)) (fp : List Addr), PG (X.blk s H scope (compEnvC scope cl C X.env) fp) tg g)
    (he : ∀ (s : Shared) (H : Hp) (C : Addr) (cl : List (Str × Addr)) (fp : List Addr), PE (X.blk s H scope (compEnvC scope cl C X.env) fp) elt (tN K f)) (hy : X.N[i]? = some y := by rfl) (hyl : X.env.scope.names.lookup y = some .local := by rfl)
    (hsw : swapsWith (.ListComp elt [⟨tg, iter, [], 0⟩] scope pos) (some (.Name y py)) spos.line X.env = pure true := by exact sw_true rfl rfl rfl (by decide +kernel)) (hs : ∀ x, foldedSetIterable iter X.env x = pure x := by intro _; rfl) :
    PS X (.Assign [.Name y py] (.ListComp elt [⟨tg, iter, [], 0⟩] scope pos) spos) (tS K mg W (fSetOb i (fRows fi b f (own.map (·.2))))) :=
  PS.by (ps_setLc hc hN hy hyl hsw hi ok hg (fun _ _ _ _ _ => ft_yes) he hs) fun D σ H h => by
    have h2 : tAsg (tOB K (fRows fi b f (own.map (·.2)))) (gName i) D σ H := asgOb i D σ H h
    exact compOB hb hsub σ H _ h2
/-- a row of a slot's list of lists, to be read -/
def fRow (k : Nat) (fj : Ev → Option T) : Ev → Option (List T) := fun ev => match ev[k]?, fj ev with
  | some (.ob tss), some (.int j) => (ixN tss.length j).bind fun n => tss[n]?
  | _, _ => none
theorem fl_row (k : Nat) (hj : PE X e (tF K fj)) (hK : X.K = K := by rfl) (hN : X.N[k]? = some x := by rfl) (hv : Vis X.env.scope x := by first | exact Or.inl rfl | exact Or.inr (Or.inl rfl) | exact Or.inr (Or.inr rfl)) (hd : (x == ("__debug__" : Str)) = false := by decide)
    (hcd : (x == ("__classdict__" : Str)) = false := by decide) (hs : PlainIx e := by exact fun _ _ => rfl) : PE X (.Subscript (.Name x p) e pos) (tL K (fRow k fj)) := by
  subst hK
  refine PE.by (pe_ix ix_list (pe_var (i := k) hN hv hd hcd) hj hs) fun σ H Q ⟨B, Hs, ev, ts, R, hf, q⟩ => ?_
  unfold fRow at hf
  split at hf
  · rename_i tss j h1 h2
    obtain ⟨n, h3, h4⟩ := bind_some hf
    obtain ⟨lab, o, e1, hsl, l1, m⟩ := R.mutA h1
    obtain ⟨a, rs, rfl, la, ha, nd, rows⟩ := hsl
    obtain ⟨r, vs, g1, g2, g3, g4⟩ := rows.get h4
    refine ⟨.ref a, e1, B, Hs, ev, _, R, h2, fun v Hs1 H1 g r1 => ?_⟩
    cases r1
    refine ⟨a, rs.map V.ref, j, .ref r, rfl, rfl, SqL.of (g.h _ _ ha), ?_, q r vs Hs1 H1 g (g.h _ _ g3) (g4.mono g.s)⟩
    unfold atI
    rw [List.length_map, rows.len, h3]
    show (rs.map V.ref)[n]? = _
    rw [List.getElem?_map, g1]
    rfl
  · cases hf
/-- the rows of a slot's own list of lists, of the def's own or handed in -/
def obOf : Sl → Option (List (List T))
  | .ob t => some t
  | .op t => some t
  | _ => none
def obTo : Sl → List (List T) → Sl
  | .op _, t => .op t
  | _, t => .ob t
theorem SlOk.ob_out {fx : Addr} {Hs H : Hp} {lab : Addr → Option Nat} {i : Nat} {o : Option V} {s : Sl} {tss : List (List T)} (h : SlOk K fx Hs H lab i o s) (hs : obOf s = some tss) : ∃ a rs, o = some (.ref a) ∧ lab a = some i ∧ H a = some (.lst (rs.map V.ref)) ∧ (a :: rs).Nodup ∧ Rows K Hs H lab i rs tss ∧
    ∀ Hs' H' lab' rs' tss', lab' a = some i → H' a = some (.lst (rs'.map V.ref)) → (a :: rs').Nodup → Rows K Hs' H' lab' i rs' tss' → SlOk K fx Hs' H' lab' i o (obTo s tss') := by
  cases s with
  | ob t => cases hs; obtain ⟨a, rs, eo, la, hA, nd, rows⟩ := h; exact ⟨a, rs, eo, la, hA, nd, rows, fun Hs' H' lab' rs' tss' h1 h2 h3 h4 => ⟨a, rs', eo, h1, h2, h3, h4⟩⟩
  | op t => cases hs; obtain ⟨rs, eo, la, hA, nd, rows⟩ := h; exact ⟨fx, rs, eo, la, hA, nd, rows, fun Hs' H' lab' rs' tss' h1 h2 h3 h4 => ⟨rs', eo, h1, h2, h3, h4⟩⟩
  | _ => cases hs
/-- x[i][j] = e -/
def fPut2 (k : Nat) (fj fk f : Ev → Option T) : Ev → Option Out := fun ev => match ev[k]?, f ev, fj ev, fk ev with
  | some s, some t, some (.int i), some (.int j) => match obOf s with
    | some tss => if noL t then (ixN tss.length i).bind fun a => (tss[a]?).bind fun ts => (ixN ts.length j).map fun b => .nx (ev.set k (obTo s (tss.set a (ts.set b t)))) else none
    | none => none
  | _, _, _, _ => none
theorem fs_put2 (k : Nat) {i j : Expr} (hi : PE X i (tF K fj)) (hj : PE X j (tF K fk)) (he : PE X e (tF K f)) (hK : X.K = K := by rfl) (hN : X.N[k]? = some x := by rfl) (hv : Vis X.env.scope x := by first | exact Or.inl rfl | exact Or.inr (Or.inl rfl) | exact Or.inr (Or.inr rfl)) (hd : (x == ("__debug__" : Str)) = false := by decide)
    (hcd : (x == ("__classdict__" : Str)) = false := by decide) (hp : PlainIx i := by exact fun _ _ => rfl)
    (ha : ∀ v, assign (.Subscript (.Subscript (.Name x p) i p3) j p2) X.env v = (do
      let ov ← holding [v] (eval (.Subscript (.Name x p) i p3) X.env)
      let iv ← holding [v, ov] (eval j X.env)
      standAt p2
      holding [v, ov, iv] (setItem ov iv v)
      release [v, ov, iv] []) := by intro _; rfl)
    (hs : swapsWithSole [.Subscript (.Subscript (.Name x p) i p3) j p2] e pos.line X.env = pure false := by rfl) (hw : swappedStores [.Subscript (.Subscript (.Name x p) i p3) j p2] e X.env = pure none := by rfl)
    (h1 : (assignEach [.Subscript (.Subscript (.Name x p) i p3) j p2] X.env).map (·.2) = [assign (.Subscript (.Subscript (.Name x p) i p3) j p2) X.env] := by rfl) :
    PS X (.Assign [.Subscript (.Subscript (.Name x p) i p3) j p2] e pos) (tS K mg W (fPut2 k fj fk f)) := by
  subst hK
  refine PS.by (ps_asg he (pg_sub (pe_ix ix_list (pe_var (i := k) hN hv hd hcd) hi hp) hj set_list ha) hs hw h1) fun D σ H ⟨B, Hs, ev, o, R, hf, q⟩ => ?_
  unfold fPut2 at hf
  split at hf
  · rename_i s t i' j' h1 h2 h3 h4
    cases hso : obOf s with
    | none => rw [hso] at hf; cases hf
    | some tss =>
      rw [hso] at hf
      dsimp only at hf
      split at hf
      · rename_i hz
        obtain ⟨a, ha1, hf⟩ := bind_some hf
        obtain ⟨ts, ha2, hf⟩ := bind_some hf
        cases hb : ixN ts.length j' with
        | none => rw [hb] at hf; cases hf
        | some c =>
          rw [hb] at hf
          cases hf
          refine ⟨B, Hs, ev, t, R, h2, fun v Hs1 H1 g1 r1 => ?_⟩
          obtain ⟨lab0, o0, e0, hsl0, _, _⟩ := R.mutA h1
          obtain ⟨A, rs0, rfl, _, hA0, _, rows0, _⟩ := hsl0.ob_out hso
          refine ⟨.ref A, e0, B, Hs1, ev, _, R.to g1, h3, fun w Hs2 H2 g2 r2 => ?_⟩
          cases r2
          have R2 := (R.to g1).to g2
          obtain ⟨r0, vs0, q1, q2, q3, q4⟩ := rows0.get ha2
          refine ⟨A, rs0.map V.ref, i', .ref r0, rfl, rfl, SqL.of (g2.h _ _ (g1.h _ _ hA0)), ?_, B, Hs2, ev, _, R2, h4, fun w Hs3 H3 g3 r3 => ?_⟩
          · unfold atI
            rw [List.length_map, rows0.len, ha1]
            show (rs0.map V.ref)[a]? = _
            rw [List.getElem?_map, q1]
            rfl
          cases r3
          have R3 := R2.to g3
          obtain ⟨lab, o, e1, hsl, l1, m⟩ := R3.mutA h1
          obtain ⟨A', rs, eo, la, hA, nd, rows, back⟩ := hsl.ob_out hso
          rw [e0] at e1
          cases e1
          cases eo
          have hA3 := g3.h _ _ (g2.h _ _ (g1.h _ _ hA0))
          rw [hA] at hA3
          have hrs : rs = rs0 := by
            have z : rs.map V.ref = rs0.map V.ref := by
              have := Option.some.inj hA3
              injection this
            exact (List.map_inj_right (fun a b h => by injection h)).mp z
          subst hrs
          obtain ⟨r, vs, s1, s2, s3, s4⟩ := rows.get ha2
          rw [q1] at s1
          cases s1
          refine ⟨r0, vs, j', c, rfl, rfl, s3, by rw [s4.length]; exact hb, ?_⟩
          have nd' := List.nodup_cons.mp nd
          have hAr : A ≠ r0 := fun z => nd'.1 (by rw [z]; exact List.mem_of_getElem? q1)
          refine q _ Hs3 _ (g1.s.trans (g2.s.trans g3.s)) (m r0 vs (vs.set c v) (obTo s (tss.set a (ts.set c t))) s2 s3 (back _ _ _ rs _ la ?_ nd (rows.upd (s4.set c (r1.mono (g2.s.trans g3.s))) nd'.2 q1)))
          rw [upd_ne hAr]
          exact hA
      · cases hf
  · cases hf
end
end Fx

namespace Fx
open PySem PySem.Spec L2
open PyProof.Rows hiding St

/-! ### a def that writes into the list of lists that it is handed first -/
/-- what such a call may have changed -/
structure Wr (K : PySem.W.Frag) (a : Addr) (rs : List Addr) (Hs H Hs' H' : Hp) (tss' : List (List T)) : Prop where
  s : Same Hs Hs'
  h : ∀ x o, x ∉ a :: rs → H x = some o → H' x = some o
  n : ∀ x o, x ∉ a :: rs → H x = some o → Hs' x = Hs x
  ok : Ok Hs' H'
  out : ∃ rs', H' a = some (.lst (rs'.map V.ref)) ∧ (a :: rs').Nodup ∧ Rows K Hs' H' (fun _ => some 0) 0 rs' tss' ∧ ∀ r ∈ a :: rs', Hs' r = none ∧ (r ∈ a :: rs ∨ H r = none)
theorem Rows.labs {K : PySem.W.Frag} {Hs H : Hp} {lab : Addr → Option Nat} {i : Nat} : ∀ {rs : List Addr} {tss : List (List T)}, Rows K Hs H lab i rs tss → ∀ r ∈ rs, lab r = some i
  | _, _, .nil => fun _ h => nomatch h
  | _, _, .cons l e r t => fun x h => by
    rcases List.mem_cons.mp h with z | h
    · rw [z]; exact l
    · exact t.labs x h
def SpM (K : PySem.W.Frag) (g : List (List T) → List T → Option (List (List T))) : Sp := fun vs H Q _ => ∃ Hs a rs vs' ds tss tss', vs = .ref a :: vs' ∧ Ok Hs H ∧ H a = some (.lst (rs.map V.ref)) ∧ (a :: rs).Nodup ∧ (∀ r ∈ a :: rs, Hs r = none) ∧ Rows K Hs H (fun _ => some 0) 0 rs tss ∧ Rps K Hs vs' ds ∧ g tss ds = some tss' ∧
  ∀ Hs' H', Wr K a rs Hs H Hs' H' tss' → Q .non H'
/-- N names, n parameters behind the first -/
def runM (N n : Nat) (F : Ev → Option Out) (tss : List (List T)) (ds : List T) : Option (List (List T)) := if ds.length = n then (match F (Sl.op tss :: (ds.map .sh ++ List.replicate (N - (n + 1)) .un)) with
  | some (.nx e) => (match e[0]? with
    | some (Sl.op t) => some t
    | _ => none)
  | _ => none) else none
section
variable {P : Program} {w : World} {K : PySem.W.Frag} {mg : Str → Option Value} {base : Heap} {x qual : Str} {st : Stmt} {f : Addr} {fd : FuncData} {N ps : List Str} {k : Nat} {F : Ev → Option Out}
theorem runM_len {N n : Nat} {F : Ev → Option Out} {tss ds r} (h : runM N n F tss ds = some r) : ds.length = n := by
  unfold runM at h
  split at h
  · assumption
  · cases h
theorem rl_startM {Hs H : Hp} {a : Addr} {rs : List Addr} {vs' : List V} {ds : List T} {n : Nat} {tss : List (List T)} (ok : Ok Hs H) (ea : H a = some (.lst (rs.map V.ref))) (nd : (a :: rs).Nodup) (hn : ∀ r ∈ a :: rs, Hs r = none) (rows : Rows K Hs H (fun _ => some 0) 0 rs tss) (r : Rps K Hs vs' ds) (hl : ds.length = n) :
    Rl K ⟨Hs, fun y => if y ∈ a :: rs then none else H y, a⟩ Hs H (L2.start N (.ref a :: vs')) (.op tss :: (ds.map .sh ++ List.replicate (N.length - (n + 1)) .un)) := by
  have hlen := r.length
  refine ⟨⟨Same.refl _, fun y o e => ?_, fun y o e => rfl, ok⟩, ?_, fun y => if y ∈ a :: rs then some 0 else none, fun y j e => ?_, fun i s o e1 e2 => ?_⟩
  · dsimp only at e
    split at e
    · cases e
    · exact e
  · unfold L2.start
    simp only [List.length_cons, List.length_append, List.length_map, List.length_replicate, hlen, hl]
    omega
  · dsimp only at e
    split at e
    · rename_i hy
      refine ⟨if_pos hy, hn y hy, ?_⟩
      rcases List.mem_cons.mp hy with z | z
      · rw [z]; exact ⟨_, ea⟩
      · exact rows.inH y z
    · cases e
  · cases i with
    | zero =>
      cases e1
      unfold L2.start at e2
      cases e2
      refine ⟨rs, rfl, by simp, ea, nd, ?_⟩
      have key : Rows K Hs H (fun y => if y ∈ a :: rs then some 0 else none) 0 rs tss := rows.relab fun r hr => by simp [hr]
      exact key
    | succ i =>
      rw [List.getElem?_cons_succ] at e1
      unfold L2.start at e2
      rw [List.map_cons, List.cons_append, List.getElem?_cons_succ] at e2
      by_cases hi : i < ds.length
      · rw [List.getElem?_append_left (by rw [List.length_map]; exact hi), List.getElem?_map, List.getElem?_eq_getElem hi] at e1
        rw [List.getElem?_append_left (by rw [List.length_map, hlen]; exact hi), List.getElem?_map] at e2
        obtain ⟨v, h1, h2⟩ := r.get (List.getElem?_eq_getElem hi)
        rw [h1] at e2
        cases e1; cases e2
        exact ⟨v, rfl, h2⟩
      · rw [List.getElem?_append_right (by rw [List.length_map]; omega), List.getElem?_replicate] at e1
        split at e1
        · cases e1; trivial
        · cases e1
theorem fn_okM (D : Fun K x qual st f fd) (S : FnScope N ps (defScope st)) (n m : Nat) (hn : ps.length = n + 1) (hm : N.length = m)
    (hbody : ∀ (cdv : Value) (A : Around) (outer : List Env) (s : Shared) (H : Hp) (E : XK), Room k (A.deeper (envOfC qual (defScope st) s.heap.objs.size f cdv)) →
      PSs (cxOf CX0 P w K mg base N qual (defScope st) f cdv A outer s H E).nox (defBody st) (tS K mg (fun _ _ _ _ => False) F)) :
    FnOk P w K mg base CX0 (k + 1) f fd ps (SpM K (runM m n F)) := by
  subst hm
  refine D.ok S (fun vs H Q E ⟨Hs, a, rs, vs', ds, tss, tss', e, _, _, _, _, _, r, h, _⟩ => ?_) fun cdv A outer s H vs Q E hr hsp => ⟨_, hbody cdv A outer s H E hr, ?_⟩
  · rw [e, List.length_cons, r.length, runM_len h, hn]
  obtain ⟨Hs, a, rs, vs', ds, tss, tss', rfl, ok, ea, nd, hno, rows, r, h, q⟩ := hsp
  have hl := runM_len h
  unfold runM at h
  rw [if_pos hl] at h
  cases hF : F (.op tss :: (ds.map .sh ++ List.replicate (N.length - (n + 1)) .un)) with
  | none => rw [hF] at h; cases h
  | some o =>
    rw [hF] at h
    refine ⟨⟨Hs, fun y => if y ∈ a :: rs then none else H y, a⟩, Hs, _, o, rl_startM ok ea nd hno rows r hl, hF, ?_⟩
    cases o with
    | nx e' =>
      dsimp only at h
      refine fun σ' Hs' H' ss R => q Hs' H' ?_
      cases he : e'[0]? with
      | none => rw [he] at h; cases h
      | some sl =>
        rw [he] at h
        cases sl with
        | op t =>
          cases h
          obtain ⟨lab, o, e1, hsl, l1, _⟩ := R.mutA he
          obtain ⟨rs', eo, la, hA, nd', rows'⟩ := hsl
          refine ⟨ss, fun y o hy e => R.bd.h _ _ (by show (if y ∈ a :: rs then none else H y) = some o; rw [if_neg hy]; exact e), fun y o hy e => ?_, R.bd.ok, rs', hA, nd', rows'.relab fun _ _ => rfl, fun z hz => ?_⟩
          · exact R.bd.n y o (by show (if y ∈ a :: rs then none else H y) = some o; rw [if_neg hy]; exact e)
          · have hz0 : lab z = some 0 := by
              rcases List.mem_cons.mp hz with e | e
              · rw [e]; exact la
              · exact rows'.labs z e
            obtain ⟨b1, b2, b3⟩ := l1 z hz0
            refine ⟨b2, ?_⟩
            have b1' : (if z ∈ a :: rs then none else H z) = none := b1
            by_cases hz2 : z ∈ a :: rs
            · exact .inl hz2
            · rw [if_neg hz2] at b1'
              exact .inr b1'
        | _ => cases h
    | _ => cases h
end
section
variable {X : Cx} {K : PySem.W.Frag} {mg : Str → Option Value} {W : WX} {CX : CXT} {k : Nat} {f : Addr} {fd : FuncData} {ps : List Str} {g : List (List T) → List T → Option (List (List T))} {x y : Str} {p p2 pos spos : Pos} {es : List Expr} {fs : Ev → Option (List T)}
def fCallM (i : Nat) (g : List (List T) → List T → Option (List (List T))) (fs : Ev → Option (List T)) : Ev → Option Out := fun ev => match ev[i]?, fs ev with
  | some (.ob tss), some ds => (g tss ds).map fun t => .nx (ev.set i (.ob t))
  | _, _ => none
theorem fs_callM (i : Nat) (F : FnOk X.prog X.w X.K X.mg X.base CX k f fd ps (SpM K g)) (hr : Room k X.A) (hm : X.mg x = some (.ref f)) (hk : PySem.W.keepIn X.K (.ref f) = true) (hb : Binds X.K fd ps []) (hx : Passes CX X E0)
    (ha : PA X es (tA K fs)) (hN : X.N[i]? = some y := by rfl) (hv : Vis X.env.scope y := by first | exact Or.inl rfl | exact Or.inr (Or.inl rfl) | exact Or.inr (Or.inr rfl)) (hd : (y == ("__debug__" : Str)) = false := by decide)
    (hcd : (y == ("__classdict__" : Str)) = false := by decide)
    (hs0 : starEach (.Name y p2 :: es) X.env = (false, eval (.Name y p2) X.env) :: starEach es X.env := by rfl) (hg : Gl X x := by rfl) (hdb : (x == ("__debug__" : Str)) = false := by decide) (hpl : (backTo pos (starEach es X.env)).any (·.1) = false := by rfl)
    (hs : swapsWith (.Call (.Name x p) (.Name y p2 :: es) [] pos) none spos.line X.env = pure false := by rfl) :
    PS X (.Expr (.Call (.Name x p) (.Name y p2 :: es) [] pos) spos) (tS K mg W (fCallM i g fs)) :=
  PS.by (ps_expr (pe_call F hr hg hm hk hb .nil hx (pa_cons (pe_var (i := i) hN hv hd hcd) ha hs0) hdb hs0 hpl) hs) fun D σ H ⟨B, Hs, ev, o, R, hf, q⟩ => by
    unfold fCallM at hf
    split at hf
    · rename_i tss ds h1 h2
      cases hgg : g tss ds with
      | none => rw [hgg] at hf; cases hf
      | some t =>
        rw [hgg] at hf
        cases hf
        obtain ⟨lab0, o0, e0, hsl0, _, _⟩ := R.mutA h1
        obtain ⟨a, rs0, rfl, _, _, _, _⟩ := hsl0
        refine ⟨.ref a, e0, B, Hs, ev, ds, R, h2, fun vs Hs1 H1 g1 r1 => ?_⟩
        have R1 := R.to g1
        obtain ⟨lab, l1, l2⟩ := R1.lab
        have hi : i < σ.length := by rw [← R1.len]; exact (List.getElem?_eq_some_iff.mp h1).1
        have hsl := l2 i _ _ h1 (List.getElem?_eq_getElem hi)
        have e0' : σ[i] = some (.ref a) := by
          rw [List.getElem?_eq_getElem hi] at e0
          exact Option.some.inj e0
        rw [e0'] at hsl
        obtain ⟨a', rs, ea', la, hA, nd, rows⟩ := hsl
        cases ea'
        have hlab : ∀ r ∈ a :: rs, lab r = some i := fun r hr => by
          rcases List.mem_cons.mp hr with z | z
          · rw [z]; exact la
          · exact rows.labs r z
        show SpM K g ((.ref a :: vs) ++ []) H1 _ E0
        rw [List.append_nil]
        refine ⟨Hs1, a, rs, vs, ds, tss, t, rfl, g1.ok, hA, nd, fun r hr => (l1 r i (hlab r hr)).2.1, rows.relab fun _ _ => rfl, r1, hgg, fun Hs2 H2 w => ?_⟩
        obtain ⟨rs', hA', nd', rows', hfr⟩ := w.out
        have es : σ.set i (some (.ref a)) = σ := by
          apply List.ext_getElem?
          intro j
          by_cases hj : j = i
          · subst hj; rw [List.getElem?_set_self hi, e0]
          · rw [List.getElem?_set_ne (Ne.symm hj)]
        have bout : ∀ y o, B.b y = some o → y ∉ a :: rs := fun y o e hy => by
          rw [(l1 y i (hlab y hy)).1] at e; cases e
        have R2 : Rl K B Hs2 H2 (σ.set i (some (.ref a))) (ev.set i (.ob t)) := by
          refine R1.put ⟨R1.bd.s.trans w.s, fun y o e => w.h y o (bout y o e) (R1.bd.h _ _ e), fun y o e => (w.n y o (bout y o e) (R1.bd.h _ _ e)).trans (R1.bd.n y o e), w.ok⟩ w.s (some (.ref a)) (fun y => decide (y ∈ a :: rs')) (fun y z => ?_) (fun lab2 m1 m2 y j l hj => ?_) ⟨a, rs', rfl, by simp, hA', nd', rows'.relab fun r hr => by simp [hr]⟩
          · have z := of_decide_eq_true z
            obtain ⟨z1, z2⟩ := hfr y z
            refine ⟨?_, z1, ?_⟩
            · rcases z2 with z2 | z2
              · exact (l1 y i (hlab y z2)).1
              · exact R1.bd.h.free z2
            · rcases List.mem_cons.mp z with e | e
              · rw [e]; exact ⟨_, hA'⟩
              · exact rows'.inH y e
          · have hs2 := m2 i _ _ h1 (List.getElem?_eq_getElem hi)
            rw [e0'] at hs2
            obtain ⟨a2, rs2, ea2, la2, hA2, nd2, rows2⟩ := hs2
            cases ea2
            rw [hA] at hA2
            have hrs : rs = rs2 := by
              have z : rs.map V.ref = rs2.map V.ref := by
                have := Option.some.inj hA2
                injection this
              exact (List.map_inj_right (fun a b h => by injection h)).mp z
            subst hrs
            have hy : y ∉ a :: rs := fun z => by
              have : lab2 y = some i := by
                rcases List.mem_cons.mp z with e | e
                · rw [e]; exact la2
                · exact rows2.labs y e
              rw [l] at this
              exact hj (Option.some.inj this)
            obtain ⟨b1, b2, o, b3⟩ := m1 y j l
            refine ⟨decide_eq_false fun z => ?_, (w.n y o hy b3).trans b2, fun x e => w.h y x hy e⟩
            rcases (hfr y z).2 with z2 | z2
            · exact hy z2
            · rw [b3] at z2; cases z2
        rw [es] at R2
        exact q σ Hs2 H2 (g1.s.trans w.s) R2
    · cases hf
end
end Fx

namespace Fx
open PySem PySem.Spec L2
open PyProof.Rows hiding St

/-! ### try .. except -/
/-- behind a suite its name is gone -/
def clr (i : Nat) : Out → Option Out
  | .nx e => some (.nx (e.set i .un))
  | .bk e => some (.bk (e.set i .un))
  | .ct e => some (.ct (e.set i .un))
  | .rt t => some (.rt t)
  | .rf t => some (.rf t)
  | .ex _ _ => none
open Classical in
/-- what a suite gives, wherever the exception stands -/
noncomputable def tryOut (i : Nat) (g : Addr → Option Out) : Option Out := if h : ∃ o, ∀ a, (g a).bind (clr i) = some o then some h.choose else none
theorem tryOut_spec {i : Nat} {g : Addr → Option Out} {o : Out} (h : tryOut i g = some o) (a : Addr) : ∃ p, g a = some p ∧ clr i p = some o := by
  unfold tryOut at h
  split at h
  · rename_i hh
    cases h
    exact bind_some (hh.choose_spec a)
  · cases h
theorem tryOut_eq {i : Nat} {g : Addr → Option Out} {o : Out} (h : ∀ a, (g a).bind (clr i) = some o) : tryOut i g = some o := by
  unfold tryOut
  have hh : ∃ o, ∀ a, (g a).bind (clr i) = some o := ⟨o, h⟩
  rw [dif_pos hh]
  have h1 := hh.choose_spec 0
  rw [h 0] at h1
  exact h1.symm
noncomputable def fTryAs (i : Nat) (F : Ev → Option Out) (cs : List Str) (G : Str → Addr → Ev → Option Out) : Ev → Option Out := fun ev => match F ev with
  | some (.ex c e) => if c ∈ cs then tryOut i (fun a => G c a (e.set i (.exc a))) else none
  | o => o
def fTryOnly (F : Ev → Option Out) (cs : List Str) (G : Str → Ev → Option Out) : Ev → Option Out := fun ev => match F ev with
  | some (.ex c e) => if c ∈ cs then G c e else none
  | o => o
section
variable {X : Cx} {K : PySem.W.Frag} {mg : Str → Option Value} {Wout : WX} {x n : Str} {cv : Value} {i : Nat} {body suite : List Stmt} {b₀ : Stmt} {np pos pos' : Pos} {F : Ev → Option Out} {cs : List Str}
theorem Post.ofOut {W W' : WX} {B : Bs} {Hs : Hp} {D : Ends} {o : Out} (h : Post K mg W B Hs D o) (no : ∀ c e, o ≠ .ex c e) : Post K mg W' B Hs D o := by
  cases o with
  | ex c e => exact absurd rfl (no c e)
  | _ => exact h
theorem Rl.exc {B : Bs} {Hs H : Hp} {σ : L2.St} {ev : Ev} (R : Rl K B Hs H σ ev) (a : Addr) (i : Nat) : Rl K B Hs H (σ.set i (some (.ref a))) (ev.set i (.exc a)) :=
  R.put R.bd (Same.refl _) (some (.ref a)) (fun _ => false) (fun _ z => by cases z) (fun lab l1 _ a j e _ => ⟨rfl, (l1 a j e).2.1, fun _ q => q⟩) rfl
/-- except X as n -/
theorem fs_tryAs {G : Str → Addr → Ev → Option Out} (i : Nat) (hs : X.stack = X.env :: X.outer) (hf : X.env.frame = some X.env.locals) (hN : X.N.Nodup) (tk : L2.Takes X Wout) (hc : L2.Names X x cv)
    (hb : ∀ (W : WX) (pn : List (Addr × Obj)) (xe : Value → Shared → Prop), L2.Takes (X.tr pn xe) W → PassesOwn (model X.prog X.w) X.A X.env xe → PSs (X.tr pn xe) body (tS K mg W F))
    (hm : ∀ c ∈ cs, ∃ A, mg c = some (.ref A) ∧ PySem.W.exmOne X.K (.ref A) cv = some true)
    (hsu : ∀ c ∈ cs, ∀ A, mg c = some (.ref A) → ∀ (a : Addr) (oe : Obj) (pn : List (Addr × Obj)), Zc (.ref A) none oe → (∃ vs, oe.data = .fields vs) → PSs (X.suite a ((a, oe) :: pn)) (b₀ :: suite) (tS K mg (fun _ _ _ _ => False) (G c a)))
    (hi : X.N[i]? = some n := by rfl) (hln : X.env.kindOf n = some .local := by rfl) :
    PS X (.Try body [.ExceptHandler (some (.Name x np)) (some n) (b₀ :: suite) pos'] [] [] pos) (tS K mg Wout (fTryAs i F cs G)) := by
  refine PS.by (L2.ps_try_as (tb := fun W => tS K mg W F) (ts := fun a cls d D σ H => ∃ c A, c ∈ cs ∧ mg c = some (.ref A) ∧ cls = .ref A ∧ d = none ∧ tS K mg (fun _ _ _ _ => False) (G c a) D σ H) (Wout := Wout) hs hf hN hi hln hc tk hb fun a oe cls d pn hz hfl => ⟨fun pins s σ H D I hw => ?_⟩) fun D σ H ⟨B, Hs, ev, o, R, hF, q⟩ => ?_
  · obtain ⟨c, A, hcs, hA, rfl, rfl, hw⟩ := hw
    exact (hsu c hcs A hA a oe pn hz hfl).run pins s σ H D I hw
  · unfold fTryAs at hF
    cases hf1 : F ev with
    | none => rw [hf1] at hF; cases hF
    | some p =>
      rw [hf1] at hF
      cases p with
      | ex c e =>
        dsimp only at hF
        split at hF
        · rename_i hcs
          refine ⟨B, Hs, ev, .ex c e, R, hf1, fun σ' Hs' H' cls ss R' hcls => ?_⟩
          obtain ⟨A, hA, hex⟩ := hm c hcs
          rw [hA] at hcls
          cases hcls
          refine ⟨true, hex, fun _ a ha => ?_, fun z => by cases z⟩
          obtain ⟨p, hg, hp⟩ := tryOut_spec hF a
          refine ⟨c, A, hcs, hA, rfl, rfl, B, Hs', e.set i (.exc a), p, R'.exc a i, hg, ?_⟩
          have q' := q.to ss
          cases p with
          | nx e2 => cases hp; exact fun σ5 Hs5 H5 s5 R5 => q' _ Hs5 H5 s5 (R5.un none i)
          | bk e2 => cases hp; exact fun σ5 Hs5 H5 s5 R5 => q' _ Hs5 H5 s5 (R5.un none i)
          | ct e2 => cases hp; exact fun σ5 Hs5 H5 s5 R5 => q' _ Hs5 H5 s5 (R5.un none i)
          | rt t => cases hp; exact q'
          | rf t => cases hp; exact q'
          | ex _ _ => cases hp
        · cases hF
      | _ => cases hF; exact ⟨B, Hs, ev, _, R, hf1, q⟩
/-- except X -/
theorem fs_tryOnly {G : Str → Ev → Option Out} (hs : X.stack = X.env :: X.outer) (hf : X.env.frame = some X.env.locals) (tk : L2.Takes X Wout) (hc : L2.Names X x cv)
    (hb : ∀ (W : WX) (pn : List (Addr × Obj)) (xe : Value → Shared → Prop), L2.Takes (X.tr pn xe) W → PassesOwn (model X.prog X.w) X.A X.env xe → PSs (X.tr pn xe) body (tS K mg W F))
    (hm : ∀ c ∈ cs, ∃ A, mg c = some (.ref A) ∧ PySem.W.exmOne X.K (.ref A) cv = some true)
    (hsu : ∀ c ∈ cs, ∀ (a : Addr) (oe : Obj) (pn : List (Addr × Obj)), PSs (X.suite a ((a, oe) :: pn)) (b₀ :: suite) (tS K mg Wout (G c))) :
    PS X (.Try body [.ExceptHandler (some (.Name x np)) none (b₀ :: suite) pos'] [] [] pos) (tS K mg Wout (fTryOnly F cs G)) := by
  refine PS.by (L2.ps_try_only (tb := fun W => tS K mg W F) (ts := fun a cls d D σ H => ∃ c, c ∈ cs ∧ tS K mg Wout (G c) D σ H) (Wout := Wout) hs hf hc tk hb fun a oe cls d pn hz hfl => ⟨fun pins s σ H D I hw => ?_⟩) fun D σ H ⟨B, Hs, ev, o, R, hF, q⟩ => ?_
  · obtain ⟨c, hcs, hw⟩ := hw
    exact (hsu c hcs a oe pn).run pins s σ H D I hw
  · unfold fTryOnly at hF
    cases hf1 : F ev with
    | none => rw [hf1] at hF; cases hF
    | some p =>
      rw [hf1] at hF
      cases p with
      | ex c e =>
        dsimp only at hF
        split at hF
        · rename_i hcs
          refine ⟨B, Hs, ev, .ex c e, R, hf1, fun σ' Hs' H' cls ss R' hcls => ?_⟩
          obtain ⟨A, hA, hex⟩ := hm c hcs
          rw [hA] at hcls
          cases hcls
          exact ⟨true, hex, fun _ a ha => ⟨c, hcs, B, Hs', e, o, R', hF, q.to ss⟩, fun z => by cases z⟩
        · cases hF
      | _ => cases hF; exact ⟨B, Hs, ev, _, R, hf1, q⟩
/-- isinstance(e, C), e the exception that is held -/
def fIsE (i : Nat) (a : Addr) (b : Bool) : Ev → Option T := fun ev => match ev[i]? with
  | some (.exc a') => if a' = a then some (.bl b) else none
  | _ => none
theorem fe_isE {a : Addr} {oe : Obj} {pn : List (Addr × Obj)} {A : Addr} {b : Bool} {vv : V} {y : Str} {p p1 p2 : Pos} (i : Nat) (C : L2.ExcC X.K A) (hz : Zc (.ref A) none oe) (hf : ∃ vs, oe.data = .fields vs) (hk : PySem.W.kitOne X.K (.ref A) cv = some b) (hv : ∀ u, RelV vv u → u = cv)
    (hm : X.mg "isinstance" = none) (hx : PE (X.suite a ((a, oe) :: pn)) (.Name y p2) (tC vv)) (hN : X.N[i]? = some n := by rfl) (hvis : Vis X.env.scope n := by first | exact Or.inl rfl | exact Or.inr (Or.inl rfl) | exact Or.inr (Or.inr rfl)) (hd : (n == ("__debug__" : Str)) = false := by decide)
    (hcd : (n == ("__classdict__" : Str)) = false := by decide) (hg : Gl X "isinstance" := by rfl)
    (he : starEach [.Name n p1, .Name y p2] X.env = (false, eval (.Name n p1) X.env) :: starEach [.Name y p2] X.env := by rfl) (he2 : starEach [.Name y p2] X.env = (false, eval (.Name y p2) X.env) :: starEach [] X.env := by rfl) (hpl : (backTo pos (starEach [.Name y p2] X.env)).any (·.1) = false := by rfl) :
    PE (X.suite a ((a, oe) :: pn)) (.Call (.Name "isinstance" p) [.Name n p1, .Name y p2] [] pos) (tF K (fIsE i a b)) :=
  PE.by (pe_callB (L2.call_isE C hz hf) hg hm (by decide +kernel) (pa_cons (pe_var (X := X.suite a ((a, oe) :: pn)) (i := i) hN hvis hd hcd) (pa_cons hx pa_nil he2) he) (by decide) (by decide) he hpl) fun σ H Q ⟨B, Hs, ev, t, R, hf, q⟩ => by
    unfold fIsE at hf
    cases hs : ev[i]? with
    | none => rw [hs] at hf; cases hf
    | some s =>
      rw [hs] at hf
      cases s with
      | exc a' =>
        dsimp only at hf
        split at hf
        · rename_i e
          subst e
          cases hf
          obtain ⟨lab, _, l2⟩ := R.lab
          have hi : i < σ.length := by rw [← R.len]; exact (List.getElem?_eq_some_iff.mp hs).1
          have h2 := l2 i _ _ hs (List.getElem?_eq_getElem hi)
          have h3 : σ[i] = some (.ref a') := h2
          exact ⟨.ref a', by rw [List.getElem?_eq_getElem hi, h3], vv, cv, b, rfl, hv, hk, q _ Hs H (Gr.refl R.bd.ok) (.bl b)⟩
        · cases hf
      | _ => cases hf
end
end Fx

namespace Fx
open PySem PySem.Spec L2
open PyProof.Rows hiding St

/-! ### the package's classes -/
/-- C stands under D -/
def subX (C D : Str) : Bool := C == D || D == "TableError"
structure ClsX (K : PySem.W.Frag) (mg : Str → Option Value) (C : Str) (ds : List Str) : Prop where
  ex : ∃ A, mg C = some (.ref A) ∧ L2.ExcC K A ∧ PySem.W.kitOne K (.ref A) (.type "ValueError") = some true ∧
    ∀ d ∈ ds, ∃ D, mg d = some (.ref D) ∧ PySem.W.kitOne K (.ref A) (.ref D) = some (subX C d) ∧ PySem.W.exmOne K (.ref A) (.ref D) = some (subX C d)
theorem ClsX.pair {K : PySem.W.Frag} {mg : Str → Option Value} {C D : Str} {A B : Addr} {b : Bool} (hA : mg C = some (.ref A)) (hB : mg D = some (.ref B)) (h1 : PySem.W.subIn K (.ref B) (.type "BaseException") = some true) (hd : PySem.W.hasDictIn K B = true)
    (ht : PySem.W.typeIn K (.ref B) = some (.type "type")) (h : PySem.W.subIn K (.ref A) (.ref B) = some b) (hb : b = subX C D) (hne : C = D → b = true) (hne' : A = B → b = true) : ∃ D', mg D = some (.ref D') ∧ PySem.W.kitOne K (.ref A) (.ref D') = some (subX C D) ∧ PySem.W.exmOne K (.ref A) (.ref D') = some (subX C D) := by
  refine ⟨B, hB, ?_, hb ▸ PySem.W.exm_ref h1 hd ht h⟩
  rw [← hb]
  unfold PySem.W.kitOne
  split
  · rename_i e
    rw [hne' (Value.ref.inj (beq_iff_eq.mp e))]
  · obtain ⟨cd, hc, _⟩ := PySem.W.any_some hd
    show (if ((PySem.W.clsIn K B).isSome && PySem.W.typeIn K (.ref B) == some (.type "type")) = true then PySem.W.subIn K (.ref A) (.ref B) else none) = some b
    rw [if_pos (by rw [hc, ht]; rfl)]
    exact h
theorem kit_value {K : PySem.W.Frag} {A : Addr} (h : PySem.W.subIn K (.ref A) (.type "ValueError") = some true) : PySem.W.kitOne K (.ref A) (.type "ValueError") = some true := by
  have e : ((Value.ref A) == Value.type "ValueError") = false := by rfl
  unfold PySem.W.kitOne
  rw [if_neg (by rw [e]; exact Bool.false_ne_true)]
  exact h
/-- at another place another class: told by what stands under it -/
theorem ne_cls {K : PySem.W.Frag} {A B : Addr} {b : Bool} (hAA : PySem.W.subIn K (.ref B) (.ref B) = some true) (h : PySem.W.subIn K (.ref A) (.ref B) = some b) : A = B → b = true := by
  rintro rfl
  rw [h] at hAA
  exact Option.some.inj hAA
section
variable {X : Cx} {K : PySem.W.Frag} {mg : Str → Option Value} {x n : Str}
theorem fe_isC {C D : Str} {ds : List Str} {A Dd a : Addr} {oe : Obj} {pn : List (Addr × Obj)} {p p1 p2 pos : Pos} (i : Nat) (cl : ClsX X.K X.mg C ds) (hA : X.mg C = some (.ref A)) (hz : Zc (.ref A) none oe) (hf : ∃ vs, oe.data = .fields vs) (hm : X.mg "isinstance" = none)
    (hD : X.mg D = some (.ref Dd)) (hd0 : D ∈ ds := by decide) (hgD : Gl X D := by rfl) (hdD : (D == ("__debug__" : Str)) = false := by decide) (hN : X.N[i]? = some n := by rfl) (hvis : Vis X.env.scope n := by first | exact Or.inl rfl | exact Or.inr (Or.inl rfl) | exact Or.inr (Or.inr rfl)) (hd : (n == ("__debug__" : Str)) = false := by decide)
    (hcd : (n == ("__classdict__" : Str)) = false := by decide) (hg : Gl X "isinstance" := by rfl)
    (he : starEach [.Name n p1, .Name D p2] X.env = (false, eval (.Name n p1) X.env) :: starEach [.Name D p2] X.env := by rfl) (he2 : starEach [.Name D p2] X.env = (false, eval (.Name D p2) X.env) :: starEach [] X.env := by rfl) (hpl : (backTo pos (starEach [.Name D p2] X.env)).any (·.1) = false := by rfl) :
    PE (X.suite a ((a, oe) :: pn)) (.Call (.Name "isinstance" p) [.Name n p1, .Name D p2] [] pos) (tF K (fIsE i a (subX C D))) := by
  obtain ⟨A', hA', ex, _, all⟩ := cl.ex
  rw [hA] at hA'
  cases hA'
  obtain ⟨D', hD', hk, _⟩ := all D hd0
  rw [hD] at hD'
  cases hD'
  exact fe_isE (vv := .ref Dd) i ex hz hf hk (fun u r => r) hm (pe_glob (X := X.suite a ((a, oe) :: pn)) hgD hD rfl hdD) hN hvis hd hcd hg he he2 hpl
theorem fe_isV {C : Str} {ds : List Str} {A a : Addr} {oe : Obj} {pn : List (Addr × Obj)} {p p1 p2 pos : Pos} (i : Nat) (cl : ClsX X.K X.mg C ds) (hA : X.mg C = some (.ref A)) (hz : Zc (.ref A) none oe) (hf : ∃ vs, oe.data = .fields vs) (hm : X.mg "isinstance" = none)
    (hD : X.mg "ValueError" = none) (hgD : Gl X "ValueError" := by rfl) (hN : X.N[i]? = some n := by rfl) (hvis : Vis X.env.scope n := by first | exact Or.inl rfl | exact Or.inr (Or.inl rfl) | exact Or.inr (Or.inr rfl)) (hd : (n == ("__debug__" : Str)) = false := by decide)
    (hcd : (n == ("__classdict__" : Str)) = false := by decide) (hg : Gl X "isinstance" := by rfl)
    (he : starEach [.Name n p1, .Name "ValueError" p2] X.env = (false, eval (.Name n p1) X.env) :: starEach [.Name "ValueError" p2] X.env := by rfl) (he2 : starEach [.Name "ValueError" p2] X.env = (false, eval (.Name "ValueError" p2) X.env) :: starEach [] X.env := by rfl) (hpl : (backTo pos (starEach [.Name "ValueError" p2] X.env)).any (·.1) = false := by rfl) :
    PE (X.suite a ((a, oe) :: pn)) (.Call (.Name "isinstance" p) [.Name n p1, .Name "ValueError" p2] [] pos) (tF K (fIsE i a true)) := by
  obtain ⟨A', hA', ex, hk, _⟩ := cl.ex
  rw [hA] at hA'
  cases hA'
  exact fe_isE (vv := .ty "ValueError") i ex hz hf hk (fun u r => r) hm (pe_bltn (X := X.suite a ((a, oe) :: pn)) (v := .ty "ValueError") hgD hD (by decide +kernel) rfl) hN hvis hd hcd hg he he2 hpl
theorem ClsX.low {C D : Str} {ds : List Str} (cl : ClsX K mg C ds) (hd : D ∈ ds) {A B : Addr} (hA : mg C = some (.ref A)) (hD : mg D = some (.ref B)) : PySem.W.exmOne K (.ref A) (.ref B) = some (subX C D) := by
  obtain ⟨A', hA', _, _, all⟩ := cl.ex
  rw [hA] at hA'
  cases hA'
  obtain ⟨D', hD', _, hk⟩ := all D hd
  rw [hD] at hD'
  cases hD'
  exact hk
theorem incl_of {as bs : List Str} (h : ∀ x ∈ as, x ∈ bs) {c : Str} (hc : c ∈ as) : c ∈ bs := h c hc
/-- a clause that takes them all -/
theorem cls_all {cs ds : List Str} {D : Str} {B : Addr} (cl : ∀ c ∈ cs, ClsX K mg c ds) (es : List Str) (hD : mg D = some (.ref B)) (hsub : ∀ c ∈ es, c ∈ cs ∧ subX c D = true) (hd : D ∈ ds) : ∀ c ∈ es, ∃ A, mg c = some (.ref A) ∧ PySem.W.exmOne K (.ref A) (.ref B) = some true := fun c hc => by
  obtain ⟨h1, h2⟩ := hsub c hc
  obtain ⟨A, hA, _⟩ := (cl c h1).ex
  exact ⟨A, hA, by rw [(cl c h1).low hd hA hD, h2]⟩
end
end Fx

/-! sorted(set(xs)), xs a list of ints -/
namespace Fx
open PySem PySem.Spec L2
open PyProof.Rows hiding St
/-- a set with nothing in it -/
abbrev eSet (w : World) : Obj := { cls := .type "set", dict := none, data := .set #[] 0 (.fresh 0 0 (!w.params.followText "set-order")) }
section
variable {P : Program} {w : World} {A : Around} {E : Value → Shared → Prop} {s : Shared}
theorem lst_size {h : Heap} {l : Addr} {us : Array Value} (x : h.IsList l us) : l < h.objs.size := by
  obtain ⟨o, e, _⟩ := x
  exact Heap.lt_size e
set_option maxHeartbeats 3200000 in
/-- set(xs) -/
theorem set_of_list {l : Addr} {us : Array Value} (ns : List Int) {Q : Value → Shared → Prop} (hh : A.handled = none) (hl : s.heap.IsList l us) (hi : IntsAre us.toList ns) (hb : ns.length + 1 < scanBound)
    (h : ∀ (h' : Heap) (tk c : Nat), SetR w h' s.heap.objs.size (fun j => decide (j ∈ ns)) c → c ≤ ns.length → (∀ b o, s.heap.get? b = some o → h'.get? b = some o) → Q (.ref s.heap.objs.size) { s with heap := h', toks := tk }) :
    wpAny (model P w) A (call (.type "set") [.ref l]) Q E s := by
  have hn : us.size = ns.length := by rw [← IntsAre.length hi, Array.length_toList]
  obtain ⟨c, tl, hmro⟩ := F.called_set.mro
  have hmade := F.called_set.made; have hsub := F.called_set.sub
  refine wpAny_call (codeAny_of_tree ?_); show wpAny _ _ (callAny (.type "set") _) _ _ _
  refine wpAny_pure ⟨Code.quiet_builtin _ (by decide +kernel), codeAny_builtin F.entry_type_call ?_⟩; rw [Around.under_plain (weight_type_call_type "set" [Value.ref l] []) rfl]
  have h1 := F.called_set.notType; have h2 := F.called_set.canCreate; have hct := F.typeCall_set_1 (.ref l)
  repeat (any_goals (first | assumption | wp_step))
  refine codeAny_mono (code_set_led1 (.ref l) (E := E) (Q₁ := fun obj s₁ => obj = .ref s.heap.objs.size ∧ s₁ = { s with heap := s.heap.push (eSet w) }) ⟨rfl, rfl⟩) fun r s₁ hr => ?_
  cases r with
  | error e => exact hr
  | ok fl =>
    cases fl with
    | ret obj =>
      obtain ⟨rfl, rfl⟩ := hr
      have hS : (s.heap.push (eSet w)).get? s.heap.objs.size = some (eSet w) := Heap.get?_push_size _ rfl
      have hT : Shared.TypeIs { s with heap := s.heap.push (eSet w) } (.ref s.heap.objs.size) "set" := ⟨_, hS, rfl⟩
      have hli := F.called_set.init.lookup; have hbi := F.called_set.init.bind (.ref s.heap.objs.size)
      repeat (any_goals (first | assumption | wp_step))
      refine codeAny_mono (codeAny_call_builtin (R := wants (fun r s₂ => r = .none ∧ ∃ h' tk c, s₂ = { s with heap := h', toks := tk } ∧ SetR w h' s.heap.objs.size (fun j => decide (j ∈ ns)) c ∧ c ≤ ns.length ∧ ∀ b o, s.heap.get? b = some o → h'.get? b = some o) E)
        F.called_set.init.plain F.entry_set_init (check_set_init_1 hT ?_)) fun r₂ s₂ hr₂ => ?_
      · have hlS := lst_size hl
        have hl1 : (s.heap.push (eSet w)).IsList l us := hl.at fun u e => Heap.get?_push_of_some _ e
        obtain ⟨⟨oc, od, da, os⟩, ho, hcl, nl, hdl⟩ := id hl
        simp only at hcl hdl; subst hcl; subst hdl
        have ho' : (s.heap.push (eSet w)).get? l = some { cls := .type "list", dict := od, data := .seq us nl, slots := os } := Heap.get?_push_of_some _ ho
        have hsls := F.sub_list_set; have hslf := F.sub_list_frozenset; have hne : (Value.type "list" == Value.type "dict") = false := by decide
        unfold Builtin.«set.__init__» noKeywords Builtin.Frozenset.updateFrom; generalize hPI : pyIter = PI
        wp_walk; subst hPI
        refine wpAny_pyIter_list hl1 ?_; refine wpAny_bind (wpAny_runValue ?_)
        have hh3 : A.in1.in1.in1.handled = none := by simp [hh]
        have hz : (s.heap.push (eSet w)).objs.size = s.heap.objs.size + 1 := Heap.size_push ..
        have hnI : l ≠ (s.heap.push (eSet w)).objs.size := by rw [hz]; exact Nat.ne_of_lt (Nat.lt_succ_of_lt hlS)
        have hSf : s.heap.objs.size ∉ [(s.heap.push (eSet w)).objs.size, l] := by
          rw [hz]; simp only [List.mem_cons, List.not_mem_nil, or_false, not_or]; exact ⟨Nat.ne_of_lt (Nat.lt_succ_self _), Nat.ne_of_gt hlS⟩
        have hval : ∀ (i : Nat) (v : Value), us[i]? = some v → ∃ k t, ns[i]? = some k ∧ v = .int k t := fun i v hv => by
          have hlt : i < ns.length := by rw [← hn]; exact (Array.getElem?_eq_some_iff.mp hv).1
          obtain ⟨t, e⟩ := PyProof.Rows.IntsAre.int_at hi i v (by rw [Array.getElem?_toList]; exact hv)
          refine ⟨ns[i], t, List.getElem?_eq_getElem hlt, ?_⟩
          rw [e, List.getD_eq_getElem?_getD, List.getElem?_eq_getElem hlt] <;> rfl
        refine set_update_ints ((Walks.list hh3 _ l hnI us).toS) s.heap.objs.size hSf ns hn hb hval (us.size - 0) 0 _ (by omega) (Nat.zero_le _) ⟨⟨_, Heap.get?_push_size _ rfl, rfl, rfl⟩, hl1.at fun u e => Heap.get?_push_of_some _ e⟩
          ⟨0, Nat.le_refl 0, setR_new_at (Heap.get?_push_of_some _ hS)⟩ fun s' c' hm hc' hS' => ?_
        obtain ⟨h', g2, d', tk', os'⟩ := s'
        have eg : g2 = s.gens := hm.gens; have ed : d' = s.drawn := hm.drawn; have eo : os' = s.os := hm.os
        subst eg; subst ed; subst eo
        show wpAny _ _ _ _ _ _; refine wpAny_pure ?_; show wpAny _ _ (ret Value.none) _ _ _
        rw [hn] at hc'
        refine wpAny_pure ⟨rfl, h', tk', c', rfl, hS', hc', fun b o e => ?_⟩
        have hb0 := Heap.lt_size e
        exact hm.heap b o (by rw [hz]; simp only [List.mem_cons, List.not_mem_nil, or_false, not_or]; exact ⟨Nat.ne_of_lt hb0, Nat.ne_of_lt (Nat.lt_succ_of_lt hb0)⟩) (Heap.get?_push_of_some _ (Heap.get?_push_of_some _ e))
      · cases r₂ with
        | error e => exact hr₂
        | ok fl₂ =>
          cases fl₂ with
          | ret r =>
            obtain ⟨rfl, h', tk, c', rfl, hS', hc', hk'⟩ := hr₂
            repeat (any_goals (first | assumption | wp_step))
            exact h _ _ _ hS' hc' hk'
          | _ => exact hr₂.elim
    | _ => exact hr.elim
/-- sorted(a set of ints), any number of them -/
theorem sort_of_set {a : Addr} {S : Int → Bool} {n : Nat} {Q : Value → Shared → Prop} (R : SetR w s.heap a S n) (hh : A.handled = none)
    (hQ : ∀ s' p (out : Array Value) (c : Nat) (ns : List Int), (∀ b o, s.heap.get? b = some o → s'.heap.get? b = some o) → s'.gens = s.gens → s'.os = s.os → s.heap.objs.size ≤ p →
      s'.heap.get? p = some (seqObj "list" out c) → IntsAre out.toList ns → ns.Pairwise (· < ·) → (∀ k, k ∈ ns ↔ S k = true) → ns.length ≤ sizeLine → Q (.ref p) s') :
    wpAny (model P w) A (call (.builtin "sorted") [.ref a]) Q E s := by
  obtain ⟨o, es, ep, t, ho, hex, hd, g, nd, hm, hb, hf, hn, hr, hl⟩ := R
  refine Calls.call_function_entry kind_sorted plain_sorted entry_sorted (args_sorted1 _) ?_; unfold Builtin.«sorted»
  refine wpAny_bind (m := checkCount "sorted" 1 1 _) (wpAny_pure ?_)
  refine wpAny_bind (collect_set (A := A.in1) hh ⟨o, ho, hex.1, hd⟩ hf hb hr hl fun s1 vs k1 hz g1 o1 pm => ?_)
  have hvl : vs.length = es.size := by rw [pm.length_eq, List.length_map, Array.length_toList]
  have hz2 : vs.length ≤ sizeLine := by rw [hvl]; exact Nat.le_trans (Nat.le_of_lt hb) (by decide)
  have hI : IntsAre vs (vs.map Builtin.Re.reRawOf) := ints_of vs fun v hv => by
    obtain ⟨e, he, q⟩ := List.mem_map.mp (pm.mem_iff.mp hv)
    obtain ⟨k, tk, h1, _⟩ := g e he
    exact ⟨k, tk, by rw [← q]; exact h1⟩
  have pk : (vs.map Builtin.Re.reRawOf).Perm (es.toList.map keyOf) := by
    have q := pm.map Builtin.Re.reRawOf; rw [List.map_map] at q; exact q
  refine wpAny_bind (wpAny_newList ?_ hz2)
  have hoL : (s1.heap.push (seqObj "list" vs.toArray 0)).get? s1.heap.objs.size = some (seqObj "list" vs.toArray 0) := Heap.get?_push_size _ rfl
  refine wpAny_bind (wpAny_holding (wpAny_call_entry slot_list_sort ⟨_, hoL, rfl⟩ entry_list_sort (SrtO.list_sort_ord SrtO.swo_int hoL hz2 (fun h2 => SrtO.ints_sortable hI h2) fun out b1 b2 => ⟨_, rfl, ?_⟩) (args_list_sort _)))
  obtain ⟨a1, a2, a3⟩ := SrtO.ints_out hI b1 b2
  obtain ⟨c, hc⟩ := sortedHeap_at (vs := vs) (out := out.toArray) hoL
  have pn := a2.trans pk
  refine wpAny_pure ⟨_, rfl, hQ _ s1.heap.objs.size out.toArray c (out.map SrtO.iv) (fun b u e => ?_) g1 o1 hz hc a1 (lt_of_le_nodup _ a3 (pn.nodup_iff.mpr nd)) (fun k => by rw [pn.mem_iff, ← hm k]) ?_⟩
  · have q := k1 b u e
    have hlt := Heap.lt_size q
    show (sortedHeap (s1.heap.push (seqObj "list" vs.toArray 0)) s1.heap.objs.size vs out.toArray).get? b = some u
    rw [sortedHeap_old (Nat.ne_of_lt hlt) (by rw [size_push']; exact Nat.lt_succ_of_lt hlt)]; exact Heap.get?_push_of_some _ q
  · rw [a2.length_eq, List.length_map]; exact hz2
end
/-- the members of ns, rising -/
def ded : List Int → List Int
  | [] => []
  | a :: r => if a ∈ r then ded r else a :: ded r
theorem mem_ded (k : Int) : ∀ ns : List Int, k ∈ ded ns ↔ k ∈ ns
  | [] => Iff.rfl
  | a :: r => by
    unfold ded
    split
    · rename_i h
      rw [mem_ded k r, List.mem_cons]
      exact ⟨.inr, fun q => q.elim (fun e => e ▸ h) id⟩
    · rw [List.mem_cons, List.mem_cons, mem_ded k r]
theorem nodup_ded : ∀ ns : List Int, (ded ns).Nodup
  | [] => List.nodup_nil
  | a :: r => by
    unfold ded
    split
    · exact nodup_ded r
    · rename_i h
      exact List.nodup_cons.mpr ⟨fun q => h ((mem_ded a r).mp q), nodup_ded r⟩
def sortD (ns : List Int) : List Int := (ded ns).mergeSort (fun a b => decide (a ≤ b))
theorem mem_sortD {k : Int} {ns : List Int} : k ∈ sortD ns ↔ k ∈ ns := (List.mergeSort_perm _ _).mem_iff.trans (mem_ded k ns)
theorem sortD_lt (ns : List Int) : (sortD ns).Pairwise (· < ·) := by
  have h : (sortD ns).Pairwise fun a b => decide (a ≤ b) = true := List.pairwise_mergeSort (fun a b c h1 h2 => by rw [decide_eq_true_iff] at *; omega) (fun a b => by rw [Bool.or_eq_true, decide_eq_true_iff, decide_eq_true_iff]; omega) _
  exact lt_of_le_nodup _ (h.imp of_decide_eq_true) ((List.mergeSort_perm _ _).nodup_iff.mpr (nodup_ded ns))
theorem lt_unique {xs ys : List Int} (hx : xs.Pairwise (· < ·)) (hy : ys.Pairwise (· < ·)) (h : ∀ k, k ∈ xs ↔ k ∈ ys) : xs = ys := by
  have n1 : ∀ {zs : List Int}, zs.Pairwise (· < ·) → zs.Nodup := fun h => h.imp fun q e => by omega
  refine List.Perm.eq_of_pairwise (le := (· < ·)) (fun a b _ _ h1 h2 => by omega) hx hy ((List.perm_ext_iff_of_nodup (n1 hx) (n1 hy)).mpr h)
theorem sortD_eq {ns ns' : List Int} (h : ns'.Pairwise (· < ·)) (m : ∀ k, k ∈ ns' ↔ k ∈ ns) : ns' = sortD ns := lt_unique h (sortD_lt ns) fun k => (m k).trans mem_sortD.symm
theorem ded_len : ∀ ns : List Int, (ded ns).length ≤ ns.length
  | [] => Nat.le_refl _
  | a :: r => by
    have := ded_len r
    unfold ded
    split
    · rw [List.length_cons]; omega
    · rw [List.length_cons, List.length_cons]; omega
theorem sortD_len (ns : List Int) : (sortD ns).length ≤ ns.length := by unfold sortD; rw [List.length_mergeSort]; exact ded_len ns
section
variable {X : Cx}
def rSetL (K : PySem.W.Frag) (w : World) : List V → Hp → VK → Prop := fun vs H Q => ∃ (l : Addr) (ns : List Int), vs = [V.ref l] ∧ SqL K H l (ns.map V.int) ∧ ns.length + 1 < scanBound ∧
  ∀ (p : Addr) (n : Nat), H p = none → Q (.ref p) (upd H p (SetO w p (fun j => decide (j ∈ ns)) n))
theorem cr_setL (hc : X.calm = true) : CallR X (.type "set") (rSetL X.K X.w) := by
  intro pins s σ H vs us Q I r h
  obtain ⟨l, ns, rfl, hs, hb, q⟩ := h
  rw [Vals.ref1 r]
  obtain ⟨its, rv, hl, hz⟩ := I.list hs
  refine set_of_list ns (I.ok.hd hc) hl.isList (by simpa using rv.ints) hb fun h' tk c R hc' k => ?_
  have hn : H s.heap.objs.size = none := I.hok.fresh (Nat.le_refl _)
  exact ⟨.ref s.heap.objs.size, _, I.laid (t' := tk) k (Nat.le_refl _) (setO_new R), rfl, q _ c hn⟩
def rSortSN (w : World) : List V → Hp → VK → Prop := fun vs H Q => ∃ (a : Addr) (S : Int → Bool) (n : Nat), vs = [V.ref a] ∧ H a = some (SetO w a S n) ∧
  ∀ (ns : List Int) (p : Addr), ns.Pairwise (· < ·) → (∀ k, k ∈ ns ↔ S k = true) → H p = none → Q (.ref p) (upd H p (.lst (ns.map V.int)))
theorem cr_sortSN (hc : X.calm = true) : CallR X (.builtin "sorted") (rSortSN X.w) := by
  intro pins s σ H vs us Q I r h
  obtain ⟨a, S, n, rfl, ha, q⟩ := h
  rw [Vals.ref1 r]
  refine sort_of_set (setO_get I ha) (I.ok.hd hc) fun s' p out c ns k g o hp hg hi hs hm hl => ?_
  have hn : H p = none := I.hok.fresh hp
  have J : Inv X pins σ (upd H p (.lst (ns.map V.int))) { s with heap := s'.heap, gens := s'.gens, drawn := s'.drawn, toks := s'.toks } :=
    I.call (ch := []) (Un.laid k hp hn) (I.hok.laid k hp ⟨by rw [List.length_map]; exact hl, out.toList, c, vals_of_ints hi, hg⟩) (by rw [g]; exact I.bare) fun _ z => nomatch z
  have e : s' = { s with heap := s'.heap, gens := s'.gens, drawn := s'.drawn, toks := s'.toks } := by
    obtain ⟨_, _, _, _, _⟩ := s'; obtain ⟨_, _, _, _, _⟩ := s; cases o; rfl
  rw [e]
  exact ⟨.ref p, _, J, rfl, q ns p hs hm hn⟩
end
def gSortSet : T → Option T
  | .lst ts => (intsOf ts).bind fun ns => if ns.length + 1 < scanBound then some (.lst ((sortD ns).map .int)) else none
  | _ => none
section
variable {X : Cx} {K : PySem.W.Frag} {e : Expr} {fa : Ev → Option T} {pos p p2 q2 : Pos}
theorem fn_sortSet (hm : X.mg "sorted" = none) (hm2 : X.mg "set" = none) (ha : PE X e (tF K fa)) (hc : X.calm = true := by rfl) (hg : Gl X "sorted" := by rfl) (hg2 : Gl X "set" := by rfl) (hK : X.K = K := by rfl)
    (hs1 : starEach [e] X.env = (false, eval e X.env) :: starEach [] X.env := by rfl) (hp1 : (backTo q2 (starEach [] X.env)).any (·.1) = false := by rfl)
    (hs2 : starEach [.Call (.Name "set" p2) [e] [] q2] X.env = (false, eval (.Call (.Name "set" p2) [e] [] q2) X.env) :: starEach [] X.env := by rfl) (hp2 : (backTo pos (starEach [] X.env)).any (·.1) = false := by rfl) :
    PE X (.Call (.Name "sorted" p) [.Call (.Name "set" p2) [e] [] q2] [] pos) (tN K (f1 gSortSet fa)) := by
  subst hK
  refine PE.by (pe_callB (cr_sortSN hc) hg hm PyProof.Rows.boot_sorted (pa_cons (pe_callTy (cr_setL hc) hg2 hm2 PyProof.Rows.boot_set (pa_cons ha pa_nil hs1) (by decide) (by decide) hs1 hp1) pa_nil hs2) (by decide) (by decide) hs2 hp2) fun σ H Q ⟨B, Hs, ev, t, R, hf, q⟩ => ?_
  obtain ⟨d, h1, hf⟩ := bind_some hf
  refine ⟨B, Hs, ev, d, R, h1, fun v Hs' H' g r => ?_⟩
  unfold gSortSet at hf
  split at hf
  · obtain ⟨ns, hns, hf⟩ := bind_some hf
    split at hf
    · rename_i hz
      cases hf
      have e1 := intsOf_some hns
      subst e1
      cases r with
      | lst ea ra =>
        rename_i a vs
        have hv : vs = ns.map V.int := ra.ints
        subst hv
        refine ⟨a, ns, rfl, SqL.of (g.ok.sub _ _ ea), hz, fun p n hp => ?_⟩
        refine ⟨p, _, n, rfl, upd_same, fun ns' p' hs hmm hp' => ?_⟩
        have e2 : ns' = sortD ns := sortD_eq hs fun k => (hmm k).trans decide_eq_true_iff
        subst e2
        have s1 : Same H' (upd H' p (SetO X.w p (fun j => decide (j ∈ ns)) n)) := same_new hp
        refine q _ _ ((g.h.trans s1).trans (same_new hp')) (.lst (Frs.lst upd_same ?_) (Rps.ofInts _))
        exact (g.h.trans s1).free hp'
    · cases hf
  · cases hf
end
end Fx

/-! a def that hands back new things, or something else -/
namespace Fx
open PySem PySem.Spec L2
open PyProof.Rows hiding St
def tM (K : PySem.W.Frag) (f : Ev → Option Res) : TE := fun σ H Q => ∃ B Hs ev r, Rl K B Hs H σ ev ∧ f ev = some r ∧ match r with
  | .ok t => ∀ v Hs' H', Gr Hs H Hs' H' → Rp K Hs' v t → Q v H'
  | .fr t => ∀ v H', Same H H' → Rp K (Frs H H') v t → Q v H'
  | .ex _ => False
def fCallA (g : List T → Option Res) (fs : Ev → Option (List T)) : Ev → Option Res := fun ev => (fs ev).bind g
def fSetAny (i : Nat) (f : Ev → Option Res) : Ev → Option Out := fun ev => match f ev with
  | some (.ok t) => some (.nx (ev.set i (.sh t)))
  | some (.fr t) => fSetOt i (fun _ => some t) ev
  | _ => none
section
variable {X : Cx} {K : PySem.W.Frag} {mg : Str → Option Value} {CX : CXT} {k : Nat} {f : Addr} {fd : FuncData} {ps : List Str} {g : List T → Option Res} {x : Str} {p pos : Pos} {e : Expr} {es : List Expr} {fs : Ev → Option (List T)} {W : WX} {fr : Ev → Option Res}
theorem fm_call (F : FnOk X.prog X.w X.K X.mg X.base CX k f fd ps (SpR K mg g)) (hr : Room k X.A) (hm : X.mg x = some (.ref f)) (hk : PySem.W.keepIn X.K (.ref f) = true) (hb : Binds X.K fd ps []) (hx : Passes CX X E0)
    (ha : PA X (e :: es) (tA K fs)) (hg : Gl X x := by rfl) (hdb : (x == ("__debug__" : Str)) = false := by decide) (he : starEach (e :: es) X.env = (false, eval e X.env) :: starEach es X.env := by rfl) (hpl : (backTo pos (starEach es X.env)).any (·.1) = false := by rfl) :
    PE X (.Call (.Name x p) (e :: es) [] pos) (tM K (fCallA g fs)) := PE.by (pe_call F hr hg hm hk hb .nil hx ha hdb he hpl) fun σ H Q ⟨B, Hs, ev, r, R, hf, q⟩ => by
  obtain ⟨ds, h1, hf⟩ := bind_some hf
  refine ⟨B, Hs, ev, ds, R, h1, fun vs Hs1 H1 g1 r1 => ?_⟩
  show SpR K mg g (vs ++ []) H1 Q E0
  rw [List.append_nil]
  cases r with
  | ok t => exact ⟨Hs1, ds, _, g1.ok, r1, hf, fun v Hs2 H2 g2 r2 => q v Hs2 H2 (g1.trans g2) r2⟩
  | fr t => exact ⟨Hs1, ds, _, g1.ok, r1, hf, fun v Hs2 H2 g2 r2 => q v H2 (g1.h.trans g2.h) (r2.mono (Frs.back g1.h))⟩
  | ex c => exact q.elim
theorem asgAny (i : Nat) : ∀ D σ H, tS K mg W (fSetAny i fr) D σ H → tAsg (tM K fr) (gName i) D σ H := fun D σ H ⟨B, Hs, ev, o, R, hf, q⟩ => by
  unfold fSetAny at hf
  cases h : fr ev with
  | none => rw [h] at hf; cases hf
  | some r =>
    rw [h] at hf
    cases r with
    | ok t =>
      cases hf
      exact ⟨B, Hs, ev, .ok t, R, h, fun v Hs' H' g r => q _ Hs' H' g.s ((R.to g).set r i)⟩
    | fr t =>
      refine ⟨B, Hs, ev, .fr t, R, h, ?_⟩
      obtain ⟨B', Hs1, ev1, t1, R1, e1, q1⟩ := asgOt (f := fun _ => some t) i D σ H ⟨B, Hs, ev, o, R, hf, q⟩
      cases e1
      exact q1
    | ex c => cases hf
theorem fs_setAny (i : Nat) {pos' : Pos} (hN : X.N.Nodup) (he : PE X e (tM K fr)) (hi : X.N[i]? = some x := by rfl) (hx : Loc X.env.scope x := by first | exact Or.inl rfl | exact Or.inr rfl) (hs : swapsWith e (some (.Name x pos')) pos.line X.env = pure false := by rfl)
    (hf : X.fn x = true ∨ X.env.scope.names.lookup x = some .local := by first | exact .inl rfl | exact .inr rfl) : PS X (.Assign [.Name x pos'] e pos) (tS K mg W (fSetAny i fr)) := PS.by (ps_set hN hi hx he hs hf) (asgAny i)
end
end Fx

/-! the functions of the layer, evaluated by simp -/
namespace Fx
open PySem PySem.Spec L2
open PyProof.Rows hiding St

def thenF (G : Ev → Option Out) : Out → Option Out
  | .nx e => G e
  | o => some o
def tst : T → Option Bool
  | .bl b => some b
  | _ => none
section
variable {F G : Ev → Option Out} {f g : Ev → Option T} {c d : Ev → Option Bool} {ev e : Ev} {t u : T} {i j : Int} {n k : Nat} {s : Sl} {a b : Str} {fs : Ev → Option (List T)} {ts us ds : List T}
@[simp] theorem thenF_nx : thenF G (.nx e) = G e := rfl
@[simp] theorem thenF_rt : thenF G (.rt t) = some (.rt t) := rfl
@[simp] theorem thenF_rf : thenF G (.rf t) = some (.rf t) := rfl
@[simp] theorem thenF_bk : thenF G (.bk e) = some (.bk e) := rfl
@[simp] theorem thenF_ct : thenF G (.ct e) = some (.ct e) := rfl
@[simp] theorem thenF_ex {x : Str} : thenF G (.ex x e) = some (.ex x e) := rfl
@[simp] theorem tst_bl {b : Bool} : tst (.bl b) = some b := rfl
@[simp] theorem fSeq_ev : fSeq F G ev = (F ev).bind (thenF G) := by
  unfold fSeq
  cases F ev with
  | none => rfl
  | some o => cases o <;> rfl
@[simp] theorem fIf_ev : fIf c F G ev = (c ev).bind fun b => if b = true then F ev else G ev := by
  unfold fIf
  cases c ev with
  | none => rfl
  | some o => cases o <;> rfl
@[simp] theorem bind_ite {α β : Type} {p : Prop} [Decidable p] {x y : Option α} {h : α → Option β} : (if p then x else y).bind h = if p then x.bind h else y.bind h := by split <;> rfl
@[simp] theorem map_ite {α β : Type} {p : Prop} [Decidable p] {x y : Option α} {h : α → β} : (if p then x else y).map h = if p then x.map h else y.map h := by split <;> rfl
@[simp] theorem fTest_ev : fTest f ev = (f ev).bind tst := by
  unfold fTest
  cases f ev with
  | none => rfl
  | some o => cases o <;> rfl
@[simp] theorem fVar_zero : fVar 0 (.sh t :: ev) = some t := rfl
@[simp] theorem fVar_succ : fVar (n + 1) (s :: ev) = fVar n ev := rfl
@[simp] theorem fK_ev : fK t ev = some t := rfl
@[simp] theorem fNil_ev : fNil ev = some [] := rfl
@[simp] theorem fCons_ev : fCons f fs ev = (f ev).bind fun d => (fs ev).bind fun ds => some (d :: ds) := rfl
@[simp] theorem f2_ev {g2 : T → T → Option T} : f2 g2 f g ev = (f ev).bind fun d => (g ev).bind fun e => g2 d e := rfl
@[simp] theorem f1_ev {g1 : T → Option T} : f1 g1 f ev = (f ev).bind g1 := rfl
@[simp] theorem fC_ev {gc : List T → Option T} : fC gc fs ev = (fs ev).bind gc := rfl
@[simp] theorem fM_ev {gm : T → List T → Option T} : fM gm f fs ev = (f ev).bind fun d => (fs ev).bind fun ds => gm d ds := rfl
@[simp] theorem fSet_ev : fSet n f ev = (f ev).bind fun t => some (.nx (ev.set n (.sh t))) := by unfold fSet; cases f ev <;> rfl
@[simp] theorem fRet_ev : fRet f ev = (f ev).bind fun t => some (.rt t) := by unfold fRet; cases f ev <;> rfl
@[simp] theorem fRetF_ev : fRetF f ev = (f ev).bind fun t => some (.rf t) := by unfold fRetF; cases f ev <;> rfl
@[simp] theorem fSkip_ev : fSkip ev = some (.nx ev) := rfl
@[simp] theorem fNot_ev : fNot c ev = (c ev).bind fun b => some (!b) := by unfold fNot; cases c ev <;> rfl
@[simp] theorem fAnd_ev : fAnd c d ev = (c ev).bind fun b => if b = true then d ev else some false := by
  unfold fAnd
  cases c ev with
  | none => rfl
  | some o => cases o <;> rfl
@[simp] theorem fOr_ev : fOr c d ev = (c ev).bind fun b => if b = true then some true else d ev := by
  unfold fOr
  cases c ev with
  | none => rfl
  | some o => cases o <;> rfl
@[simp] theorem fAndV_ev : fAndV f g ev = ((f ev).bind tst).bind fun b => if b = true then g ev else some (.bl false) := by
  unfold fAndV
  cases f ev with
  | none => rfl
  | some o => cases o with
    | bl b => cases b <;> rfl
    | _ => rfl
@[simp] theorem fOrV_ev : fOrV f g ev = ((f ev).bind tst).bind fun b => if b = true then some (.bl true) else g ev := by
  unfold fOrV
  cases f ev with
  | none => rfl
  | some o => cases o with
    | bl b => cases b <;> rfl
    | _ => rfl
@[simp] theorem fCall_ev {gc : List T → Option Res} : fCall gc fs ev = (fs ev).bind fun ds => val (gc ds) := rfl
def valN : Option Res → Option T
  | some (.fr t) => some t
  | _ => none
@[simp] theorem fCallN_ev {gc : List T → Option Res} : fCallN gc fs ev = (fs ev).bind fun ds => valN (gc ds) := rfl
@[simp] theorem val_ok : val (some (.ok t)) = some t := rfl
@[simp] theorem val_fr : val (some (.fr t)) = some t := rfl
@[simp] theorem valN_fr : valN (some (.fr t)) = some t := rfl
@[simp] theorem gI_ii {p : Int → Int → Option T} : gI p (.int i) (.int j) = p i j := rfl
@[simp] theorem gAdd_ii : gAdd (.int i) (.int j) = some (.int (i + j)) := rfl
@[simp] theorem gEqB_ii : gEqB (.int i) (.int j) = some (decide (i = j)) := rfl
@[simp] theorem gEqB_ss : gEqB (.str a) (.str b) = some (decide (a = b)) := rfl
@[simp] theorem gEq_ev : gEq t u = (gEqB t u).bind fun b => some (.bl b) := by unfold gEq; cases gEqB t u <;> rfl
@[simp] theorem gNe_ev : gNe t u = (gEqB t u).bind fun b => some (.bl (!b)) := by unfold gNe; cases gEqB t u <;> rfl
@[simp] theorem gNeg_i : gNeg (.int i) = some (.int (-i)) := rfl
@[simp] theorem ixN_ev {m : Nat} : ixN m i = if 0 ≤ i then (if i < m then some i.toNat else none) else (if -(m : Int) ≤ i then some (i + m).toNat else none) := rfl
@[simp] theorem gIx_t : gIx (.tup ts) (.int i) = (ixN ts.length i).bind fun j => ts[j]? := rfl
@[simp] theorem gIx_l : gIx (.lst ts) (.int i) = (ixN ts.length i).bind fun j => ts[j]? := rfl
@[simp] theorem gTup_small (h : ts.length ≤ 100000) : gTup ts = some (.tup ts) := if_pos (small_k h)
@[simp] theorem gLst_small (h : ts.length ≤ 100000) : gLst ts = if noLs ts = true then some (.lst ts) else none := by
  unfold gLst
  rw [decide_eq_true (small_k h), Bool.and_true]
@[simp] theorem noLs_nil : noLs [] = true := rfl
@[simp] theorem noLs_cons : noLs (t :: ts) = (noL t && noLs ts) := rfl
@[simp] theorem noLs_app : noLs (ts ++ us) = (noLs ts && noLs us) := noLs_append
@[simp] theorem noL_int : noL (.int i) = true := rfl
@[simp] theorem noL_str : noL (.str a) = true := rfl
@[simp] theorem noL_bl {b : Bool} : noL (.bl b) = true := rfl
@[simp] theorem noL_non : noL .non = true := rfl
@[simp] theorem noL_tup : noL (.tup ts) = noLs ts := rfl
@[simp] theorem gCat_small (h1 : noLs ts = true) (h2 : noLs us = true) (h : ts.length + us.length ≤ 100000) : gCat (.lst ts) (.lst us) = some (.lst (ts ++ us)) := by
  show (if _ then _ else _) = _
  rw [h1, h2, decide_eq_true (small_k h)]
  rfl
def outR (n : Nat) : Option Out → Option Res
  | some (.rt t) => some (.ok t)
  | some (.rf t) => some (.fr t)
  | some (.nx _) => some (.ok .non)
  | some (.ex c _) => some (.ex c)
  | _ => none
def outP : Option Out → Option Res
  | some (.rt t) => some (.ok t)
  | some (.rf t) => some (.fr t)
  | some (.nx _) => some (.ok .non)
  | _ => none
theorem runB_ev {N : Nat} (h : ds.length = n) : runB N n F ds = outR n (F (ds.map .sh ++ List.replicate (N - n) .un)) := by
  unfold runB
  rw [if_pos h]
  cases F (ds.map .sh ++ List.replicate (N - n) .un) with
  | none => rfl
  | some o => cases o <;> rfl
theorem runP_ev {N : Nat} (h : ds.length = n) : runP N n F ds = outP (F (ds.map .sh ++ List.replicate (N - n) .un)) := by
  unfold runP
  rw [runB_ev h]
  cases F (ds.map .sh ++ List.replicate (N - n) .un) with
  | none => rfl
  | some o => cases o <;> rfl
@[simp] theorem outP_rt : outP (some (.rt t)) = some (.ok t) := rfl
@[simp] theorem outP_rf : outP (some (.rf t)) = some (.fr t) := rfl
@[simp] theorem outP_nx : outP (some (.nx e)) = some (.ok .non) := rfl
@[simp] theorem outR_rt : outR n (some (.rt t)) = some (.ok t) := rfl
@[simp] theorem outR_rf : outR n (some (.rf t)) = some (.fr t) := rfl
@[simp] theorem outR_nx : outR n (some (.nx e)) = some (.ok .non) := rfl
@[simp] theorem outR_ex {x : Str} : outR n (some (.ex x e)) = some (.ex x) := rfl
@[simp] theorem outP_ite {p : Prop} [Decidable p] {x y : Option Out} : outP (if p then x else y) = if p then outP x else outP y := by split <;> rfl
@[simp] theorem outR_ite {p : Prop} [Decidable p] {x y : Option Out} : outR n (if p then x else y) = if p then outR n x else outR n y := by split <;> rfl
@[simp] theorem isInt_i : gIs qInt (.int i) = some (.bl true) := rfl
@[simp] theorem gLen_l : gLen [.lst ts] = some (.int ts.length) := rfl
@[simp] theorem gLen_t : gLen [.tup ts] = some (.int ts.length) := rfl
@[simp] theorem gLen_scr {ns : List Int} : gLen [.scr ns] = some (.int ns.length) := rfl
end
end Fx

/-! Lists of anything, given free as they are made; a dict that a slot alone holds, its keys tuples of whole numbers. -/
namespace Fx
open PySem PySem.Spec L2
open PyProof.Rows hiding St

/-! ### lists of anything -/
def gCatA : T → T → Option T
  | .lst ts, .lst us => if ts.length + us.length ≤ sizeLine then some (.lst (ts ++ us)) else none
  | _, _ => none
def gSlA : T → Option Int → Option Int → Option T
  | .lst ts, lo, hi => some (.lst (cutT ts lo hi))
  | _, _, _ => none
def gListA : List T → Option T
  | [.lst ts] => some (.lst ts)
  | [.tup ts] => some (.lst ts)
  | _ => none
section
variable {X : Cx} {K : PySem.W.Frag} {a b e : Expr} {es : List Expr} {fa fb : Ev → Option T} {fs : Ev → Option (List T)} {pos p : Pos} {x : Str}
theorem od_catA : OpD K rCat gCatA := fun Hs H x y d e z ok rx ry hz Q q => by
  unfold gCatA at hz
  split at hz
  · split at hz
    · rename_i ts us c
      cases hz
      cases rx with
      | lst e1 r1 =>
        cases ry with
        | lst e2 r2 =>
          rename_i a vs b ws
          refine ⟨a, b, vs, ws, rfl, rfl, ok.sub _ _ e1, ok.sub _ _ e2, by rw [r1.length, r2.length]; exact c, fun p hp => ?_⟩
          have g := Gr.new ok hp (o := .lst (vs ++ ws))
          exact q _ _ _ g (.lst upd_same ((r1.append r2).mono g.s))
    · cases hz
  · cases hz
theorem fe_catA (ha : PE X a (tF K fa)) (hb : PE X b (tF K fb)) : PE X (.BinOp a .Add b pos) (tF K (f2 gCatA fa fb)) := fe_op op_cat od_catA ha hb
theorem fe_slA {p2 : Pos} {lo hi : Option Expr} {fl fh : Ev → Option (Option Int)} (he : PE X e (tF K fa)) (hl : PO X lo (tO K fl)) (hh : PO X hi (tO K fh)) (hK : X.K = K := by rfl) : PE X (.Subscript e (.Slice lo hi none p2) pos) (tF K (fSl gSlA fa fl fh)) := by
  subst hK
  refine PE.by (pe_slice sl_list he hl hh) fun σ H Q ⟨B, Hs, ev, t, R, hf, q⟩ => ?_
  unfold fSl at hf
  split at hf
  · rename_i d lo hi h1 h2 h3
    refine ⟨B, Hs, ev, d, R, h1, fun v Hs1 H1 g1 r1 => ⟨B, Hs1, ev, lo, R.to g1, h2, fun Hs2 H2 g2 => ⟨B, Hs2, ev, hi, (R.to g1).to g2, h3, fun Hs3 H3 g3 => ?_⟩⟩⟩
    have g13 := (g1.trans g2).trans g3
    have r3 := r1.mono (g2.s.trans g3.s)
    unfold gSlA at hf
    split at hf
    · cases hf
      cases r3 with
      | lst e r =>
        rename_i ts aa vs
        refine ⟨_, _, rfl, SqL.of (g3.ok.sub _ _ e), fun p hp => ?_⟩
        have g4 := Gr.new g3.ok hp (o := .lst (cutV vs lo hi))
        exact q _ _ _ (g13.trans g4) (.lst upd_same ((r.cut lo hi).mono g4.s))
    · cases hf
  · cases hf
theorem cd_listA : CallD K (fun xs H Q => ∃ p ys, xs = [.ref p] ∧ (SqL K H p ys ∨ SqT K H p ys) ∧ ∀ l, H l = none → Q (.ref l) (upd H l (.lst ys))) gListA := fun Hs H vs ds z ok r hz Q q => by
  unfold gListA at hz
  split at hz
  · cases hz
    obtain ⟨v, rfl, r1⟩ := rps1 r
    cases r1 with
    | lst e r2 =>
      rename_i ts aa ws
      refine ⟨_, _, rfl, .inl (SqL.of (ok.sub _ _ e)), fun l hl => ?_⟩
      have g := Gr.new ok hl (o := .lst ws)
      exact q _ _ _ g (.lst upd_same (r2.mono g.s))
  · cases hz
    obtain ⟨v, rfl, r1⟩ := rps1 r
    cases r1 with
    | tup e r2 =>
      rename_i ts aa ws
      refine ⟨_, _, rfl, .inr (SqT.of (ok.sub _ _ e)), fun l hl => ?_⟩
      have g := Gr.new ok hl (o := .lst ws)
      exact q _ _ _ g (.lst upd_same (r2.mono g.s))
  · cases hz
end

/-! ### a dict of a slot's own -/
def fSetDk (i : Nat) : Ev → Option Out := fun ev => some (.nx (ev.set i (.dk [])))
def fInD (i : Nat) (f : Ev → Option T) : Ev → Option Bool := fun ev => match ev[i]?, f ev with
  | some (.dk ks), some (.tup ts) => (intsOf ts).map fun ns => decide (ns ∈ ks)
  | _, _ => none
def fLenD (i : Nat) : Ev → Option T := fun ev => match ev[i]? with
  | some (.dk ks) => some (.int ks.length)
  | _ => none
def fPutD (i : Nat) (fk fv : Ev → Option T) : Ev → Option Out := fun ev => match ev[i]?, fv ev, fk ev with
  | some (.dk ks), some _, some (.tup ts) => match intsOf ts with
    | some ns => if ns ∉ ks ∧ ks.length < sizeLine then some (.nx (ev.set i (.dk (ks ++ [ns])))) else none
    | none => none
  | _, _, _ => none
theorem map_inl_inj {ns ms : List Int} (h : ns.map (Sum.inl : Int → Key) = ms.map Sum.inl) : ns = ms := by
  induction ns generalizing ms with
  | nil => cases ms with
    | nil => rfl
    | cons _ _ => cases h
  | cons n ns ih => cases ms with
    | nil => cases h
    | cons m ms =>
      rw [List.map_cons, List.map_cons] at h
      injection h with h1 h2
      injection h1 with h1
      rw [h1, ih h2]
theorem mem_keys {kvs : List (List Key × V)} {ks : List (List Int)} (h : kvs.map (·.1) = ks.map (List.map Sum.inl)) (ns : List Int) : (valV kvs (ns.map Sum.inl)).isSome = decide (ns ∈ ks) := by
  rw [← valV_any, Bool.eq_iff_iff, List.any_eq_true, decide_eq_true_eq]
  constructor
  · rintro ⟨x, hx, e⟩
    have e := of_decide_eq_true e
    have h1 : x.1 ∈ ks.map (List.map (Sum.inl : Int → Key)) := by rw [← h]; exact List.mem_map.mpr ⟨x, hx, rfl⟩
    obtain ⟨ms, hm, e2⟩ := List.mem_map.mp h1
    rw [e] at e2
    rw [← map_inl_inj e2]; exact hm
  · intro hm
    have h1 : ns.map (Sum.inl : Int → Key) ∈ kvs.map (·.1) := by rw [h]; exact List.mem_map.mpr ⟨ns, hm, rfl⟩
    obtain ⟨x, hx, e⟩ := List.mem_map.mp h1
    exact ⟨x, hx, decide_eq_true e⟩
section
variable {K : PySem.W.Frag} {B : Bs} {Hs H Hs' H' : Hp} {σ : L2.St} {ev : Ev} {i : Nat}
theorem Rl.at_dk {ks : List (List Int)} (R : Rl K B Hs H σ ev) (he : ev[i]? = some (.dk ks)) : ∃ a kvs, σ[i]? = some (some (.ref a)) ∧ H a = some (.dT kvs) ∧ kvs.map (·.1) = ks.map (List.map Sum.inl) := by
  obtain ⟨lab, l1, l2⟩ := R.lab
  have hi : i < σ.length := by rw [← R.len]; exact (List.getElem?_eq_some_iff.mp he).1
  obtain ⟨a, kvs, eo, la, ha, r⟩ := l2 i _ _ he (List.getElem?_eq_getElem hi)
  exact ⟨a, kvs, by rw [List.getElem?_eq_getElem hi, eo], ha, r⟩
/-- a new dict, held by slot i alone -/
theorem Rl.setDk (R : Rl K B Hs H σ ev) {a : Addr} (ha : H a = none) (i : Nat) : Rl K B Hs (upd H a (.dT [])) (σ.set i (some (.ref a))) (ev.set i (.dk [])) := by
  have hsa : Hs a = none := R.bd.ok.sub.free ha
  have hba : B.b a = none := R.bd.h.free ha
  have g : Gr Hs H Hs (upd H a (.dT [])) := Gr.new0 R.bd.ok ha rfl
  refine R.put (R.bd.to g) (Same.refl _) (some (.ref a)) (fun x => decide (x = a)) (fun x z => ?_) (fun lab l1 _ x j e _ => ?_) ⟨a, [], rfl, by simp, upd_same, rfl⟩
  · have z : x = a := of_decide_eq_true z
    subst z
    exact ⟨hba, hsa, _, upd_same⟩
  · obtain ⟨b, z, y, q⟩ := l1 x j e
    refine ⟨decide_eq_false fun e => ?_, z, fun y q => g.h _ _ q⟩
    rw [e, ha] at q; cases q
/-- a slot's own dict is rewritten -/
theorem Rl.mutDk {ks us : List (List Int)} (R : Rl K B Hs H σ ev) (he : ev[i]? = some (.dk ks)) : ∃ a kvs, σ[i]? = some (some (.ref a)) ∧ H a = some (.dT kvs) ∧ kvs.map (·.1) = ks.map (List.map Sum.inl) ∧
    ∀ kws : List (List Key × V), kws.map (·.1) = us.map (List.map Sum.inl) → Rl K B Hs (upd H a (.dT kws)) σ (ev.set i (.dk us)) := by
  obtain ⟨lab, l1, l2⟩ := R.lab
  have hi : i < σ.length := by rw [← R.len]; exact (List.getElem?_eq_some_iff.mp he).1
  obtain ⟨a, kvs, eo, la, ha, r⟩ := l2 i _ _ he (List.getElem?_eq_getElem hi)
  have e2 : σ[i]? = some (some (.ref a)) := by rw [List.getElem?_eq_getElem hi, eo]
  obtain ⟨hb, hz, _⟩ := l1 a i la
  refine ⟨a, kvs, e2, ha, r, fun ws hw => ?_⟩
  have es : σ.set i (some (.ref a)) = σ := by
    apply List.ext_getElem?
    intro j
    by_cases hj : j = i
    · subst hj; rw [List.getElem?_set_self hi, e2]
    · rw [List.getElem?_set_ne (Ne.symm hj)]
  have key : Rl K B Hs (upd H a (.dT ws)) (σ.set i (some (.ref a))) (ev.set i (.dk us)) := by
    have bd : Bd B Hs (upd H a (.dT ws)) := by
      refine ⟨R.bd.s, fun x o e => ?_, R.bd.n, ⟨fun x o e => ?_, fun x o e c => ?_⟩⟩
      · rw [upd_ne (ne_of_none e hb)]; exact R.bd.h _ _ e
      · rw [upd_ne (ne_of_none e hz)]; exact R.bd.ok.sub _ _ e
      · by_cases hx : x = a
        · subst hx; rw [upd_same] at e; cases e; cases c
        · rw [upd_ne hx] at e; exact R.bd.ok.cst _ _ e c
    refine ⟨bd, by rw [List.length_set, List.length_set]; exact R.len, lab, fun x j e => ?_, fun j s' o e1 e2' => ?_⟩
    · obtain ⟨b, z, y, q⟩ := l1 x j e
      refine ⟨b, z, ?_⟩
      by_cases hx : x = a
      · subst hx; exact ⟨_, upd_same⟩
      · exact ⟨y, by rw [upd_ne hx]; exact q⟩
    · by_cases hj : j = i
      · subst hj
        rw [List.getElem?_set_self (by rw [R.len]; exact hi)] at e1
        rw [List.getElem?_set_self hi] at e2'
        cases e1; cases e2'
        exact ⟨a, ws, rfl, la, upd_same, hw⟩
      · rw [List.getElem?_set_ne (Ne.symm hj)] at e1 e2'
        refine (l2 j s' o e1 e2').imp (Same.refl _) fun x y l q => ⟨l, ?_⟩
        have hx : x ≠ a := fun z => hj (by rw [z, la] at l; exact (Option.some.inj l).symm)
        rw [upd_ne hx]; exact q
  rw [es] at key
  exact key
end
section
variable {X : Cx} {K : PySem.W.Frag} {mg : Str → Option Value} {W : WX} {e b value : Expr} {f fk fv : Ev → Option T} {pos p : Pos} {x : Str}
theorem fs_setDk (i : Nat) {pos' pos2 : Pos} (hN : X.N.Nodup) (hi : X.N[i]? = some x := by rfl) (hx : Loc X.env.scope x := by first | exact Or.inl rfl | exact Or.inr rfl) (hs : swapsWith (.Dict [] [] pos2) (some (.Name x pos')) pos.line X.env = pure false := by rfl)
    (hf : X.fn x = true ∨ X.env.scope.names.lookup x = some .local := by first | exact .inl rfl | exact .inr rfl) : PS X (.Assign [.Name x pos'] (.Dict [] [] pos2) pos) (tS K mg W (fSetDk i)) :=
  PS.by (ps_set hN hi hx pe_dnewT hs hf) fun D σ H ⟨B, Hs, ev, o, R, hf, q⟩ => by
    cases hf
    intro p hp
    exact q _ Hs _ (Same.refl _) (R.setDk hp i)
/-- a variable that is a dict of the slot's own -/
theorem ft_inD (hu : X.A.units + 64 < cLine) (i : Nat) (hk : PE X e (tF K f)) (hN : X.N[i]? = some x := by rfl) (hv : Vis X.env.scope x := by first | exact Or.inl rfl | exact Or.inr (Or.inl rfl) | exact Or.inr (Or.inr rfl)) (hd : (x == ("__debug__" : Str)) = false := by decide)
    (hcd : (x == ("__classdict__" : Str)) = false := by decide) : PT X (.Compare e [.In] [.Name x p] pos) (tT K (fInD i f)) :=
  PT.by (pt_cmp (pc_din (by omega) hk (pe_var (i := i) hN hv hd hcd))) fun σ H Q ⟨B, Hs, ev, c, R, hf, q⟩ => by
    unfold fInD at hf
    split at hf
    · rename_i ks ts h1 h2
      cases hz : intsOf ts with
      | none => rw [hz] at hf; cases hf
      | some ns =>
        rw [hz] at hf
        cases hf
        refine ⟨B, Hs, ev, _, R, h2, fun v Hs' H' g r => ?_⟩
        obtain ⟨a, kvs, e1, e2, e3⟩ := (R.to g).at_dk h1
        rw [intsOf_some hz] at r
        cases r with
        | tup eb r =>
          rename_i b vs
          have hb := g.ok.sub _ _ eb
          rw [r.ints, show ns.map V.int = (ns.map (Sum.inl : Int → Key)).map kV by rw [List.map_map]; rfl] at hb
          refine ⟨.ref a, e1, a, _, rfl, DGet.t e2 hb, _, rfl, ?_⟩
          rw [mem_keys e3 ns]
          exact q Hs' H' g
    · cases hf
theorem fs_putD (hu : X.A.units + 64 < cLine) (i : Nat) (hk : PE X e (tF K fk)) (hv : PE X value (tF K fv)) {pos' : Pos} (hN : X.N[i]? = some x := by rfl) (hvi : Vis X.env.scope x := by first | exact Or.inl rfl | exact Or.inr (Or.inl rfl) | exact Or.inr (Or.inr rfl)) (hd : (x == ("__debug__" : Str)) = false := by decide)
    (hcd : (x == ("__classdict__" : Str)) = false := by decide) (hs : swapsWith value (some (.Subscript (.Name x p) e pos')) pos.line X.env = pure false := by rfl) :
    PS X (.Assign [.Subscript (.Name x p) e pos'] value pos) (tS K mg W (fPutD i fk fv)) :=
  PS.by (ps_dput (by omega) (pe_var (i := i) hN hvi hd hcd) hk hv hs) fun D σ H ⟨B, Hs, ev, o, R, hf, q⟩ => by
    unfold fPutD at hf
    split at hf
    · rename_i ks w ts h1 h2 h3
      split at hf
      · rename_i ns hz
        split at hf
        · rename_i c
          cases hf
          refine ⟨B, Hs, ev, _, R, h2, fun v Hs' H' g r => ?_⟩
          obtain ⟨a0, kvs0, e1, _⟩ := (R.to g).at_dk h1
          refine ⟨.ref a0, e1, B, Hs', ev, _, R.to g, h3, fun v2 Hs2 H2 g2 r2 => ?_⟩
          obtain ⟨a, kvs, f1, f2, f3, m⟩ := ((R.to g).to g2).mutDk (us := ks ++ [ns]) h1
          rw [e1] at f1
          cases f1
          rw [intsOf_some hz] at r2
          cases r2 with
          | tup eb r2 =>
            rename_i b vs
            have hb := g2.ok.sub _ _ eb
            rw [r2.ints, show ns.map V.int = (ns.map (Sum.inl : Int → Key)).map kV by rw [List.map_map]; rfl] at hb
            have hn : valV kvs (ns.map Sum.inl) = none := by
              have := mem_keys f3 ns
              rw [decide_eq_false c.1] at this
              cases hq : valV kvs (ns.map Sum.inl) with
              | none => rfl
              | some y => rw [hq] at this; cases this
            have hl : kvs.length < sizeLine := by
              have := congrArg List.length f3
              rw [List.length_map, List.length_map] at this
              rw [this]; exact c.2
            refine ⟨a0, _, rfl, DPut.t f2 hb hl, ?_⟩
            rw [putK_new _ hn]
            exact q _ Hs2 _ (g.s.trans g2.s) (m _ (by rw [List.map_append, List.map_append, f3]; rfl))
        · cases hf
      · cases hf
    · cases hf
theorem fe_lenD (hm : X.mg "len" = none) (i : Nat) (hN : X.N[i]? = some x := by rfl) (hv : Vis X.env.scope x := by first | exact Or.inl rfl | exact Or.inr (Or.inl rfl) | exact Or.inr (Or.inr rfl)) (hd : (x == ("__debug__" : Str)) = false := by decide)
    (hcd : (x == ("__classdict__" : Str)) = false := by decide) {p2 : Pos} (hg : Gl X "len" := by rfl)
    (he : starEach [.Name x p] X.env = (false, eval (.Name x p) X.env) :: starEach [] X.env := by rfl) (hpl : (backTo pos (starEach [] X.env)).any (·.1) = false := by rfl) : PE X (.Call (.Name "len" p2) [.Name x p] [] pos) (tF K (fLenD i)) := by
  refine PE.by (pe_callB call_len_dT hg hm PySem.boot_len (pa_cons (pe_var (i := i) hN hv hd hcd) pa_nil he) (by decide) (by decide) he hpl) fun σ H Q ⟨B, Hs, ev, t, R, hf, q⟩ => ?_
  unfold fLenD at hf
  split at hf
  · rename_i ks h1
    cases hf
    obtain ⟨a, kvs, e1, e2, e3⟩ := R.at_dk h1
    refine ⟨.ref a, e1, a, kvs, rfl, e2, ?_⟩
    have := congrArg List.length e3
    rw [List.length_map, List.length_map] at this
    rw [this]
    exact q _ Hs H (Gr.refl R.bd.ok) (.int _)
  · cases hf
end
end Fx

noncomputable section
namespace Bx
open PySem PySem.Spec L2 Fx
open PyProof.Rows hiding St
def body_lines_of : Ev → Option Out := (fRetF (fM gSplit (fVar 0) (fCons (fK (.str "\n")) fNil)))
def m_lines_of : List T → Option Res := runP 1 1 body_lines_of
def body_longest : Ev → Option Out := (fRet (fC gMax (fCons (fComp (fItems (fCallN m_lines_of (fCons (fVar 0) fNil))) (b1 1) fYes (fC gLen (fCons (fVar 1) fNil)) [1]) fNil)))
def m_longest : List T → Option Res := runP 2 1 body_longest
def body_law_whole : Ev → Option Out := (fRet (fAndV (f1 (gIs qInt) (fVar 0)) (fNotV (f1 (gIs qBool) (fVar 0)))))
def m_law_whole : List T → Option Res := runP 1 1 body_law_whole
def body_law_at : Ev → Option Out := (fSeq (fIf (fTest (f2 gLt (fVar 1) (fC gLen (fCons (fVar 0) fNil))))
  (fRet (f2 gIx (fVar 0) (fVar 1)))
  fSkip)
  (fRet (fK (.int 0))))
def m_law_at : List T → Option Res := runP 2 2 body_law_at
def body_law_piece : Ev → Option Out := (fSeq (fSet 1 (fK (.str " !\"#$&'()*+,-./0123456789:;<=>?@ABCDEFGHIJKLMNOPQRSTUVWXYZ[\\]^_`")))
  (fSeq (fSet 1 (f2 gAdd (fVar 1) (fK (.str "abcdefghijklmnopqrstuvwxyz{|}~"))))
  (fSeq (fSet 2 (f2 gMod (f2 gDiv (fVar 0) (fK (.int 8))) (fK (.int 10))))
  (fSeq (fIf (fTest (f2 gEq (f2 gMod (fVar 0) (fK (.int 8))) (fK (.int 1))))
  (fSet 2 (f2 gMod (f2 gDiv (fVar 0) (fK (.int 8))) (fK (.int 200))))
  fSkip)
  (fSeq (fSet 3 (f2 gDiv (fVar 0) (fK (.int 1600))))
  (fRet (fM gJoin (fK (.str "")) (fCons (fComp (fRng1 (fCons (fVar 2) fNil)) (b1 4) fYes (f2 gIx (fVar 1) (f2 gMod (f2 gAdd (fVar 3) (f2 gMul (fVar 4) (f2 gAdd (fK (.int 1)) (f2 gMod (f2 gDiv (fVar 3) (fK (.int 94))) (fK (.int 93)))))) (fK (.int 94)))) [4]) fNil))))))))
def m_law_piece : List T → Option Res := runP 5 1 body_law_piece
def lp1_law_K01 : Ev → Option Out := (fSeq (fIf (fOr (fNot (fTest (f1 (gIs qStr) (fVar 5)))) (fTest (f2 gNe (fVar 5) (fVar 6))))
  (fRet (fK (.bl false)))
  fSkip)
  (fSet 4 (fC gMax (fCons (fVar 4) (fCons (fC gLen (fCons (fVar 6) fNil)) fNil)))))
def body_law_K01 : Ev → Option Out := (fSeq (fSet 1 (fComp (fRng1 (fCons (f2 gAdd (fK (.int 1)) (f2 gMod (fCall m_law_at (fCons (fVar 0) (fCons (fK (.int 0)) fNil))) (fK (.int 6)))) fNil)) (b1 8) fYes (fCall m_law_piece (fCons (fCall m_law_at (fCons (fVar 0) (fCons (f2 gAdd (fK (.int 1)) (fVar 8)) fNil))) fNil)) [8]))
  (fSeq (fSet 2 (fM gJoin (fK (.str "\n")) (fCons (fVar 1) fNil)))
  (fSeq (fSet 3 (fCallN m_lines_of (fCons (fVar 2) fNil)))
  (fSeq (fIf (fOr (fNot (fTest (f1 (gIs qList) (fVar 3)))) (fTest (f2 gNe (fC gLen (fCons (fVar 3) fNil)) (fC gLen (fCons (fVar 1) fNil)))))
  (fRet (fK (.bl false)))
  fSkip)
  (fSeq (fSet 4 (fK (.int 0)))
  (fSeq (fFor (fZip (fCons (fVar 3) (fCons (fVar 1) fNil))) (b2 5 6) lp1_law_K01)
  (fSeq (fSet 7 (fCall m_longest (fCons (fVar 2) fNil)))
  (fRet (fAndV (fCall m_law_whole (fCons (fVar 7) fNil)) (fAndV (f2 gEq (fVar 7) (fVar 4)) (fAndV (fCall m_law_whole (fCons (fK (.int 200)) fNil)) (f2 gEq (fK (.int 200)) (fK (.int 200))))))))))))))
def m_law_K01 : List T → Option Res := runP 9 1 body_law_K01
def lp1_is_good : Ev → Option Out := (fIf (fAnd (fTest (f2 gNe (fVar 1) (fK (.str "\n")))) (fTest (f2 gNotInS (fVar 1) (fK (.str " !\"#$&'()*+,-./0123456789:;<=>?@ABCDEFGHIJKLMNOPQRSTUVWXYZ[\\]^_`abcdefghijklmnopqrstuvwxyz{|}~")))))
  (fRet (fK (.bl false)))
  fSkip)
def lp2_is_good : Ev → Option Out := (fIf (fTest (fM gEndswith (fVar 2) (fCons (fK (.str " ")) fNil)))
  (fRet (fK (.bl false)))
  fSkip)
def body_is_good : Ev → Option Out := (fSeq (fIf (fOr (fNot (fTest (f1 (gIs qStr) (fVar 0)))) (fTest (f2 gGt (fC gLen (fCons (fVar 0) fNil)) (fK (.int 200)))))
  (fRet (fK (.bl false)))
  fSkip)
  (fSeq (fFor (fSigns (fVar 0)) (b1 1) lp1_is_good)
  (fSeq (fFor (fItems (fCallN m_lines_of (fCons (fVar 0) fNil))) (b1 2) lp2_is_good)
  (fRet (fNotV (fM gEndswith (fVar 0) (fCons (fK (.str "\n")) fNil)))))))
def m_is_good : List T → Option Res := runP 3 1 body_is_good
def body_law_piece_2 : Ev → Option Out := (fSeq (fSet 1 (fK (.str " !\"#$&'()*+,-./0123456789:;<=>?@ABCDEFGHIJKLMNOPQRSTUVWXYZ[\\]^_`")))
  (fSeq (fSet 1 (f2 gAdd (fVar 1) (fK (.str "abcdefghijklmnopqrstuvwxyz{|}~"))))
  (fSeq (fSet 2 (f2 gDiv (fVar 0) (fK (.int 10))))
  (fRet (fM gJoin (fK (.str "")) (fCons (fComp (fRng1 (fCons (f2 gMod (fVar 0) (fK (.int 10))) fNil)) (b1 3) fYes (f2 gIx (fVar 1) (f2 gMod (f2 gAdd (fVar 2) (f2 gMul (fVar 3) (f2 gAdd (fK (.int 1)) (f2 gMod (f2 gDiv (fVar 2) (fK (.int 94))) (fK (.int 93)))))) (fK (.int 94)))) [3]) fNil))))))
def m_law_piece_2 : List T → Option Res := runP 4 1 body_law_piece_2
def lp1_law_good : Ev → Option Out := (fIf (fOr (fTest (f2 gEq (f2 gIx (fVar 0) (fVar 1)) (fK (.str "\t")))) (fAnd (fTest (f2 gEq (f2 gIx (fVar 0) (fVar 1)) (fK (.str "\n")))) (fAnd (fTest (f2 gGt (fVar 1) (fK (.int 0)))) (fTest (f2 gEq (f2 gIx (fVar 0) (f2 gSub (fVar 1) (fK (.int 1)))) (fK (.str " ")))))))
  (fRet (fK (.bl false)))
  fSkip)
def body_law_good : Ev → Option Out := (fSeq (fIf (fOr (fTest (f2 gGt (fC gLen (fCons (fVar 0) fNil)) (fK (.int 200)))) (fOr (fTest (f2 gEq (fSl gSl (fVar 0) (fPart (f1 gNeg (fK (.int 1)))) fNoP) (fK (.str "\n")))) (fTest (f2 gEq (fSl gSl (fVar 0) (fPart (f1 gNeg (fK (.int 1)))) fNoP) (fK (.str " "))))))
  (fRet (fK (.bl false)))
  fSkip)
  (fSeq (fFor (fRng1 (fCons (fC gLen (fCons (fVar 0) fNil)) fNil)) (b1 1) lp1_law_good)
  (fRet (fK (.bl true)))))
def m_law_good : List T → Option Res := runP 2 1 body_law_good
def body_law_changed : Ev → Option Out := (fSeq (fIf (fTest (f2 gEq (fVar 1) (fK (.int 1))))
  (fSeq (fSet 3 (f2 gMod (fVar 2) (f2 gAdd (fC gLen (fCons (fVar 0) fNil)) (fK (.int 1)))))
  (fRet (f2 gAdd (f2 gAdd (fSl gSl (fVar 0) fNoP (fPart (fVar 3))) (fK (.str "\t"))) (fSl gSl (fVar 0) (fPart (fVar 3)) fNoP))))
  fSkip)
  (fSeq (fIf (fTest (f2 gEq (fVar 1) (fK (.int 2))))
  (fRet (f2 gAdd (fVar 0) (f2 gRepS (fK (.str "x")) (fC gMax (fCons (fK (.int 0)) (fCons (f2 gSub (f2 gAdd (fK (.int 199)) (f2 gMod (fVar 2) (fK (.int 3)))) (fC gLen (fCons (fVar 0) fNil))) fNil))))))
  fSkip)
  (fSeq (fIf (fTest (f2 gEq (fVar 1) (fK (.int 3))))
  (fRet (f2 gAdd (fVar 0) (f2 gIx (fC gLst (fCons (fK (.str " ")) (fCons (fK (.str "\n")) (fCons (fK (.str "\n\n")) fNil)))) (f2 gMod (fVar 2) (fK (.int 3))))))
  fSkip)
  (fRet (fVar 0)))))
def m_law_changed : List T → Option Res := runP 4 3 body_law_changed
def body_law_K02 : Ev → Option Out := (fSeq (fIf (fTest (f2 gEq (f2 gMod (fCall m_law_at (fCons (fVar 0) (fCons (fK (.int 0)) fNil))) (fK (.int 9))) (fK (.int 8))))
  (fSeq (fSet 1 (fCall m_is_good (fCons (f2 gIx (fC gLstA (fCons (fK (.int 7)) (fCons (fK .non) (fCons (fK (.bl true)) (fCons (fC gLst (fCons (fK (.str "a")) fNil)) (fCons (fC gTup (fCons (fK (.str "a")) (fCons (fK (.str "b")) fNil))) (fCons (fK (.int 0)) fNil))))))) (f2 gMod (fCall m_law_at (fCons (fVar 0) (fCons (fK (.int 1)) fNil))) (fK (.int 6)))) fNil)))
  (fRet (f2 gIsB (fVar 1) (fK (.bl false)))))
  fSkip)
  (fSeq (fSet 2 (fComp (fRng1 (fCons (f2 gAdd (fK (.int 1)) (f2 gMod (f2 gDiv (fCall m_law_at (fCons (fVar 0) (fCons (fK (.int 0)) fNil))) (fK (.int 9))) (fK (.int 5)))) fNil)) (b1 6) fYes (fCall m_law_piece_2 (fCons (fCall m_law_at (fCons (fVar 0) (fCons (f2 gAdd (fK (.int 3)) (fVar 6)) fNil))) fNil)) [6]))
  (fSeq (fSet 3 (fCall m_law_at (fCons (fVar 0) (fCons (fK (.int 2)) fNil))))
  (fSeq (fIf (fTest (f2 gEq (f2 gMod (f2 gDiv (fCall m_law_at (fCons (fVar 0) (fCons (fK (.int 1)) fNil))) (fK (.int 4))) (fK (.int 3))) (fK (.int 1))))
  (fSeq (fSet 4 (f2 gMod (fVar 3) (fC gLen (fCons (fVar 2) fNil))))
  (fSet 2 (f2 gCat (f2 gCat (fSl gSlL (fVar 2) fNoP (fPart (fVar 4))) (fC gLst (fCons (f2 gAdd (f2 gIx (fVar 2) (fVar 4)) (fK (.str " "))) fNil))) (fSl gSlL (fVar 2) (fPart (f2 gAdd (fVar 4) (fK (.int 1)))) fNoP))))
  fSkip)
  (fSeq (fSet 5 (fCall m_law_changed (fCons (fM gJoin (fK (.str "\n")) (fCons (fVar 2) fNil)) (fCons (f2 gMod (fCall m_law_at (fCons (fVar 0) (fCons (fK (.int 1)) fNil))) (fK (.int 4))) (fCons (fVar 3) fNil)))))
  (fSeq (fSet 1 (fCall m_is_good (fCons (fVar 5) fNil)))
  (fRet (fAndV (f1 (gIs qBool) (fVar 1)) (f2 gEq (fVar 1) (fCall m_law_good (fCons (fVar 5) fNil)))))))))))
def m_law_K02 : List T → Option Res := runP 7 1 body_law_K02
def body_is_whole : Ev → Option Out := (fRet (fAndV (f1 (gIs qInt) (fVar 0)) (fNotV (f1 (gIs qBool) (fVar 0)))))
def m_is_whole : List T → Option Res := runP 1 1 body_is_whole
def lp1_need_size : Ev → Option Out := (fIf (fOr (fNot (fTest (fCall m_is_whole (fCons (fVar 2) fNil)))) (fOr (fTest (f2 gLt (fVar 2) (fK (.int 1)))) (fTest (f2 gGt (fVar 2) (fK (.int 20))))))
  (fRaise "BadSize")
  fSkip)
def body_need_size : Ev → Option Out := (fFor (fTup (fC gTup (fCons (fVar 0) (fCons (fVar 1) fNil)))) (b1 2) lp1_need_size)
def m_need_size : List T → Option Res := runB 3 2 body_need_size
def lp1_lies_in : Ev → Option Out := (fIf (fNot (fTest (fCall m_is_whole (fCons (fVar 3) fNil))))
  (fRet (fK (.bl false)))
  fSkip)
def body_lies_in : Ev → Option Out := (fSeq (fFor (fTup (fSl gSl (fVar 0) fNoP (fPart (fK (.int 4))))) (b1 3) lp1_lies_in)
  (fSeq (fIf (fOr (fTest (f2 gLt (f2 gIx (fVar 0) (fK (.int 0))) (fK (.int 0)))) (fOr (fTest (f2 gLt (f2 gIx (fVar 0) (fK (.int 1))) (fK (.int 0)))) (fOr (fTest (f2 gLt (f2 gIx (fVar 0) (fK (.int 2))) (fK (.int 1)))) (fTest (f2 gLt (f2 gIx (fVar 0) (fK (.int 3))) (fK (.int 1)))))))
  (fRet (fK (.bl false)))
  fSkip)
  (fRet (fAndV (f2 gLe (f2 gAdd (f2 gIx (fVar 0) (fK (.int 0))) (f2 gIx (fVar 0) (fK (.int 2)))) (fVar 1)) (f2 gLe (f2 gAdd (f2 gIx (fVar 0) (fK (.int 1))) (f2 gIx (fVar 0) (fK (.int 3)))) (fVar 2))))))
def m_lies_in : List T → Option Res := runP 4 3 body_lies_in
def lp1_need_cells : Ev → Option Out := (fSeq (fIf (fOr (fNot (fTest (f1 (gIs qTuple) (fVar 3)))) (fOr (fTest (f2 gNe (fC gLen (fCons (fVar 3) fNil)) (fK (.int 5)))) (fNot (fTest (fCall m_lies_in (fCons (fVar 3) (fCons (fVar 0) (fCons (fVar 1) fNil))))))))
  (fRaise "BadCell")
  fSkip)
  (fIf (fNot (fTest (fCall m_is_good (fCons (f2 gIx (fVar 3) (fK (.int 4))) fNil))))
  (fRaise "BadText")
  fSkip))
def body_need_cells : Ev → Option Out := (fFor (fItems (fVar 2)) (b1 3) lp1_need_cells)
def m_need_cells : List T → Option Res := runB 4 3 body_need_cells
def lp1_counts_of : Ev → Option Out := (fPut2 3 (fVar 5) (fVar 6) (f2 gAdd (fIxL (fRow 3 (fVar 5)) (fVar 6)) (fK (.int 1))))
def lp2_counts_of : Ev → Option Out := (fFor (fRng2 (fCons (f2 gIx (fVar 4) (fK (.int 1))) (fCons (f2 gAdd (f2 gIx (fVar 4) (fK (.int 1))) (f2 gIx (fVar 4) (fK (.int 3)))) fNil))) (b1 6) lp1_counts_of)
def lp3_counts_of : Ev → Option Out := (fFor (fRng2 (fCons (f2 gIx (fVar 4) (fK (.int 0))) (fCons (f2 gAdd (f2 gIx (fVar 4) (fK (.int 0))) (f2 gIx (fVar 4) (fK (.int 2)))) fNil))) (b1 5) lp2_counts_of)
def body_counts_of : Ev → Option Out := (fSeq (fSetOb 3 (fRows (fRng1 (fCons (fVar 0) fNil)) (b1 5) (f2 gRep (fC gLst (fCons (fK (.int 0)) fNil)) (fVar 1)) [5]))
  (fSeq (fFor (fItems (fVar 2)) (b1 4) lp3_counts_of)
  (fFrzS 3 (fRet (fVar 3)))))
def m_counts_of : List T → Option Res := runP 7 3 body_counts_of
def body_corner : Ev → Option Out := (fRet (fC gTup (fCons (f2 gIx (fVar 0) (fK (.int 0))) (fCons (f2 gIx (fVar 0) (fK (.int 1))) fNil))))
def m_corner : List T → Option Res := runP 1 1 body_corner
def body_made : Ev → Option Out := (fSeq (fCallDrop m_need_size (fCons (fVar 0) (fCons (fVar 1) fNil)))
  (fSeq (fCallDrop m_need_cells (fCons (fVar 0) (fCons (fVar 1) (fCons (fVar 2) fNil))))
  (fSeq (fSet 3 (fCall m_counts_of (fCons (fVar 0) (fCons (fVar 1) (fCons (fVar 2) fNil)))))
  (fSeq (fIf (fTest (f2 gGt (fC gMax (fCons (fComp (fItems (fVar 3)) (b1 4) fYes (fC gMax (fCons (fVar 4) fNil)) [4]) fNil)) (fK (.int 1))))
  (fRaise "Shared")
  fSkip)
  (fSeq (fIf (fTest (f2 gLt (fC gMin (fCons (fComp (fItems (fVar 3)) (b1 4) fYes (fC gMin (fCons (fVar 4) fNil)) [4]) fNil)) (fK (.int 1))))
  (fRaise "Bare")
  fSkip)
  (fRetF (fTupN (fCons (fVar 0) (fCons (fVar 1) fNil)) (f1 gSortC (fVar 2)))))))))
def m_made : List T → Option Res := runB 5 3 body_made
def body_law_line : Ev → Option Out := (fSeq (fSet 2 (fK (.str " !\"#$&'()*+,-./0123456789:;<=>?@ABCDEFGHIJKLMNOPQRSTUVWXYZ[\\]^_`")))
  (fSeq (fSet 2 (f2 gAdd (fVar 2) (fK (.str "abcdefghijklmnopqrstuvwxyz{|}~"))))
  (fRet (fM gRstrip (fM gJoin (fK (.str "")) (fCons (fComp (fRng1 (fCons (fVar 1) fNil)) (b1 3) fYes (f2 gIx (fVar 2) (f2 gMod (f2 gAdd (fVar 0) (f2 gMul (fVar 3) (f2 gAdd (fK (.int 1)) (f2 gMod (f2 gDiv (fVar 0) (fK (.int 94))) (fK (.int 93)))))) (fK (.int 94)))) [3]) fNil)) (fCons (fK (.str " ")) fNil)))))
def m_law_line : List T → Option Res := runP 4 2 body_law_line
def body_law_text : Ev → Option Out := (fSeq (fSet 1 (f2 gDiv (fVar 0) (fK (.int 8))))
  (fSeq (fIf (fTest (f2 gEq (f2 gMod (fVar 0) (fK (.int 64))) (fK (.int 7))))
  (fRet (fCall m_law_line (fCons (f2 gDiv (f2 gDiv (fVar 1) (fK (.int 8))) (fK (.int 201))) (fCons (f2 gMod (f2 gDiv (fVar 1) (fK (.int 8))) (fK (.int 201))) fNil))))
  fSkip)
  (fSeq (fIf (fTest (f2 gEq (f2 gMod (fVar 0) (fK (.int 16))) (fK (.int 14))))
  (fSeq (fSet 2 (fComp (fRng1 (fCons (f2 gAdd (fK (.int 1)) (f2 gMod (f2 gDiv (fVar 1) (fK (.int 2))) (fK (.int 60)))) fNil)) (b1 3) fYes (fCall m_law_line (fCons (f2 gAdd (f2 gDiv (fVar 1) (fK (.int 120))) (f2 gMul (fK (.int 7)) (fVar 3))) (fCons (f2 gMod (f2 gAdd (fVar 1) (fVar 3)) (fK (.int 3))) fNil))) [3]))
  (fRet (f2 gAdd (fM gJoin (fK (.str "\n")) (fCons (fVar 2) fNil)) (fK (.str ".")))))
  fSkip)
  (fSeq (fIf (fTest (f2 gEq (f2 gMod (fVar 0) (fK (.int 8))) (fK (.int 6))))
  (fSeq (fSet 2 (fComp (fRng1 (fCons (f2 gAdd (fK (.int 1)) (f2 gMod (fVar 1) (fK (.int 4)))) fNil)) (b1 3) fYes (fCall m_law_line (fCons (f2 gAdd (f2 gDiv (fVar 1) (fK (.int 36))) (f2 gMul (fK (.int 29)) (fVar 3))) (fCons (f2 gMod (f2 gAdd (f2 gDiv (fVar 1) (fK (.int 4))) (f2 gMul (fK (.int 2)) (fVar 3))) (fK (.int 9))) fNil))) [3]))
  (fRet (f2 gAdd (fM gJoin (fK (.str "\n")) (fCons (fVar 2) fNil)) (fK (.str ".")))))
  fSkip)
  (fRet (fCall m_law_line (fCons (f2 gDiv (fVar 1) (fK (.int 7))) (fCons (f2 gMul (f2 gMod (fVar 1) (fK (.int 7))) (fC gMin (fCons (fK (.int 1)) (fCons (f2 gMod (fVar 0) (fK (.int 8))) fNil)))) fNil))))))))
def m_law_text : List T → Option Res := runP 4 1 body_law_text
def body_law_size : Ev → Option Out := (fSeq (fIf (fTest (f2 gEq (f2 gMod (fVar 0) (fK (.int 3))) (fK (.int 1))))
  (fRet (f2 gAdd (fK (.int 1)) (f2 gMod (f2 gDiv (fVar 0) (fK (.int 9))) (fK (.int 20)))))
  fSkip)
  (fRet (f2 gAdd (fK (.int 1)) (f2 gMod (f2 gDiv (fVar 0) (fK (.int 9))) (fK (.int 5))))))
def m_law_size : List T → Option Res := runP 1 1 body_law_size
def body_law_parts : Ev → Option Out := (fSeq (fSet 2 (f2 gDiv (fVar 1) (fK (.int 4))))
  (fSeq (fSet 3 (f2 gSub (f2 gIx (fVar 0) (fK (.int 2))) (fK (.int 1))))
  (fSeq (fSet 4 (f2 gSub (f2 gIx (fVar 0) (fK (.int 3))) (fK (.int 1))))
  (fSeq (fIf (fAnd (fTest (f2 gEq (f2 gMod (fVar 1) (fK (.int 4))) (fK (.int 0)))) (fTest (f2 gGt (fVar 3) (fK (.int 0)))))
  (fSeq (fSet 5 (f2 gAdd (fK (.int 1)) (f2 gMod (fVar 2) (fVar 3))))
  (fRet (fC gLst (fCons (fC gTup (fCons (f2 gIx (fVar 0) (fK (.int 0))) (fCons (f2 gIx (fVar 0) (fK (.int 1))) (fCons (fVar 5) (fCons (f2 gIx (fVar 0) (fK (.int 3))) fNil))))) (fCons (fC gTup (fCons (f2 gAdd (f2 gIx (fVar 0) (fK (.int 0))) (fVar 5)) (fCons (f2 gIx (fVar 0) (fK (.int 1))) (fCons (f2 gSub (f2 gIx (fVar 0) (fK (.int 2))) (fVar 5)) (fCons (f2 gIx (fVar 0) (fK (.int 3))) fNil))))) fNil)))))
  fSkip)
  (fSeq (fIf (fAnd (fTest (f2 gEq (f2 gMod (fVar 1) (fK (.int 4))) (fK (.int 1)))) (fTest (f2 gGt (fVar 4) (fK (.int 0)))))
  (fSeq (fSet 5 (f2 gAdd (fK (.int 1)) (f2 gMod (fVar 2) (fVar 4))))
  (fRet (fC gLst (fCons (fC gTup (fCons (f2 gIx (fVar 0) (fK (.int 0))) (fCons (f2 gIx (fVar 0) (fK (.int 1))) (fCons (f2 gIx (fVar 0) (fK (.int 2))) (fCons (fVar 5) fNil))))) (fCons (fC gTup (fCons (f2 gIx (fVar 0) (fK (.int 0))) (fCons (f2 gAdd (f2 gIx (fVar 0) (fK (.int 1))) (fVar 5)) (fCons (f2 gIx (fVar 0) (fK (.int 2))) (fCons (f2 gSub (f2 gIx (fVar 0) (fK (.int 3))) (fVar 5)) fNil))))) fNil)))))
  fSkip)
  (fSeq (fIf (fAnd (fTest (f2 gGt (f2 gMod (fVar 1) (fK (.int 4))) (fK (.int 1)))) (fAnd (fTest (f2 gGt (fVar 3) (fK (.int 1)))) (fTest (f2 gGt (fVar 4) (fK (.int 1))))))
  (fSeq (fSet 6 (fC gTup (fCons (f2 gAdd (f2 gIx (fVar 0) (fK (.int 0))) (fK (.int 1))) (fCons (f2 gAdd (f2 gIx (fVar 0) (fK (.int 1))) (fK (.int 1))) (fCons (f2 gSub (fVar 3) (fK (.int 1))) (fCons (f2 gSub (fVar 4) (fK (.int 1))) fNil))))))
  (fSeq (fIf (fTest (f2 gEq (f2 gMod (fVar 1) (fK (.int 4))) (fK (.int 2))))
  (fSeq (fSet 7 (fC gLst (fCons (fC gTup (fCons (f2 gIx (fVar 0) (fK (.int 0))) (fCons (f2 gIx (fVar 0) (fK (.int 1))) (fCons (fK (.int 1)) (fCons (fVar 4) fNil))))) (fCons (fC gTup (fCons (f2 gIx (fVar 0) (fK (.int 0))) (fCons (f2 gAdd (f2 gIx (fVar 0) (fK (.int 1))) (fVar 4)) (fCons (fVar 3) (fCons (fK (.int 1)) fNil))))) (fCons (fC gTup (fCons (f2 gAdd (f2 gIx (fVar 0) (fK (.int 0))) (fVar 3)) (fCons (f2 gAdd (f2 gIx (fVar 0) (fK (.int 1))) (fK (.int 1))) (fCons (fK (.int 1)) (fCons (fVar 4) fNil))))) fNil)))))
  (fRet (f2 gCat (fVar 7) (fC gLst (fCons (fC gTup (fCons (f2 gAdd (f2 gIx (fVar 0) (fK (.int 0))) (fK (.int 1))) (fCons (f2 gIx (fVar 0) (fK (.int 1))) (fCons (fVar 3) (fCons (fK (.int 1)) fNil))))) (fCons (fVar 6) fNil))))))
  fSkip)
  (fSeq (fSet 7 (fC gLst (fCons (fC gTup (fCons (f2 gIx (fVar 0) (fK (.int 0))) (fCons (f2 gAdd (f2 gIx (fVar 0) (fK (.int 1))) (fK (.int 1))) (fCons (fK (.int 1)) (fCons (fVar 4) fNil))))) (fCons (fC gTup (fCons (f2 gIx (fVar 0) (fK (.int 0))) (fCons (f2 gIx (fVar 0) (fK (.int 1))) (fCons (fVar 3) (fCons (fK (.int 1)) fNil))))) (fCons (fC gTup (fCons (f2 gAdd (f2 gIx (fVar 0) (fK (.int 0))) (fVar 3)) (fCons (f2 gIx (fVar 0) (fK (.int 1))) (fCons (fK (.int 1)) (fCons (fVar 4) fNil))))) fNil)))))
  (fRet (f2 gCat (fVar 7) (fC gLst (fCons (fC gTup (fCons (f2 gAdd (f2 gIx (fVar 0) (fK (.int 0))) (fK (.int 1))) (fCons (f2 gAdd (f2 gIx (fVar 0) (fK (.int 1))) (fVar 4)) (fCons (fVar 3) (fCons (fK (.int 1)) fNil))))) (fCons (fVar 6) fNil))))))))
  fSkip)
  (fRet (fC gLst (fCons (fVar 0) fNil)))))))))
def m_law_parts : List T → Option Res := runP 8 2 body_law_parts
def lp1_law_cells : Ev → Option Out := (fSeq (fSet 5 (f2 gMod (f2 gIx (fVar 0) (fVar 4)) (fC gLen (fCons (fVar 3) fNil))))
  (fSet 3 (f2 gCat (f2 gCat (fSl gSlL (fVar 3) fNoP (fPart (fVar 5))) (fCall m_law_parts (fCons (f2 gIx (fVar 3) (fVar 5)) (fCons (f2 gDiv (f2 gIx (fVar 0) (fVar 4)) (fC gLen (fCons (fVar 3) fNil))) fNil)))) (fSl gSlL (fVar 3) (fPart (f2 gAdd (fVar 5) (fK (.int 1)))) fNoP))))
def body_law_cells : Ev → Option Out := (fSeq (fSet 3 (fC gLst (fCons (fC gTup (fCons (fK (.int 0)) (fCons (fK (.int 0)) (fCons (fVar 1) (fCons (fVar 2) fNil))))) fNil)))
  (fSeq (fFor (fRng3 (fCons (fK (.int 2)) (fCons (fC gLen (fCons (fVar 0) fNil)) (fCons (fK (.int 2)) fNil)))) (b1 4) lp1_law_cells)
  (fRet (fComp (fEnum (fCons (fVar 3) fNil)) (b2 4 6) fYes (f2 gAdd (fVar 6) (fC gTup (fCons (fCall m_law_text (fCons (fCall m_law_at (fCons (fVar 0) (fCons (f2 gAdd (fK (.int 3)) (f2 gMul (fK (.int 2)) (fVar 4))) fNil))) fNil)) fNil))) [4, 6]))))
def m_law_cells : List T → Option Res := runP 7 3 body_law_cells
def body_law_corner : Ev → Option Out := (fRet (fC gTup (fCons (f2 gIx (fVar 0) (fK (.int 0))) (fCons (f2 gIx (fVar 0) (fK (.int 1))) fNil))))
def m_law_corner : List T → Option Res := runP 1 1 body_law_corner
def lp1_law_cell_is : Ev → Option Out := (fIf (fOr (fNot (fTest (fCall m_law_whole (fCons (f2 gIx (fVar 0) (fVar 2)) fNil)))) (fTest (f2 gNe (f2 gIx (fVar 0) (fVar 2)) (f2 gIx (fVar 1) (fVar 2)))))
  (fRet (fK (.bl false)))
  fSkip)
def body_law_cell_is : Ev → Option Out := (fSeq (fIf (fOr (fNot (fTest (f1 (gIs qTuple) (fVar 0)))) (fOr (fTest (f2 gNe (fC gLen (fCons (fVar 0) fNil)) (fK (.int 5)))) (fNot (fTest (f1 (gIs qStr) (f2 gIx (fVar 0) (fK (.int 4))))))))
  (fRet (fK (.bl false)))
  fSkip)
  (fSeq (fFor (fRng1 (fCons (fK (.int 4)) fNil)) (b1 2) lp1_law_cell_is)
  (fRet (f2 gEq (f2 gIx (fVar 0) (fK (.int 4))) (f2 gIx (fVar 1) (fK (.int 4)))))))
def m_law_cell_is : List T → Option Res := runP 3 2 body_law_cell_is
def lp1_law_K03 : Ev → Option Out := (fIf (fNot (fTest (fCall m_law_cell_is (fCons (fVar 8) (fCons (fVar 9) fNil)))))
  (fRet (fK (.bl false)))
  fSkip)
def body_law_K03 : Ev → Option Out := (fSeq (fSet 1 (fCall m_law_size (fCons (fCall m_law_at (fCons (fVar 0) (fCons (fK (.int 0)) fNil))) fNil)))
  (fSeq (fSet 2 (fCall m_law_size (fCons (fCall m_law_at (fCons (fVar 0) (fCons (fK (.int 1)) fNil))) fNil)))
  (fSeq (fSet 3 (fCall m_law_cells (fCons (fVar 0) (fCons (fVar 1) (fCons (fVar 2) fNil)))))
  (fSeq (fSet 4 (f2 gMod (f2 gDiv (fCall m_law_at (fCons (fVar 0) (fCons (fK (.int 0)) fNil))) (fK (.int 180))) (fC gLen (fCons (fVar 3) fNil))))
  (fSeq (fSetOw 5 (f2 gCat (fSl gSlL (fVar 3) (fPart (fVar 4)) fNoP) (fSl gSlL (fVar 3) fNoP (fPart (fVar 4)))))
  (fSeq (fIf (fTest (f2 gEq (f2 gMod (f2 gDiv (fCall m_law_at (fCons (fVar 0) (fCons (fK (.int 1)) fNil))) (fK (.int 180))) (fK (.int 2))) (fK (.int 1))))
  (fRev 5)
  fSkip)
  (fSeq (fSet 6 (fBorN 5 (fC gList (fCons (fVar 5) fNil))))
  (fSeq (fSet 7 (fBorN 5 (fCallN m_made (fCons (fVar 1) (fCons (fVar 2) (fCons (fVar 5) fNil))))))
  (fSeq (fIf (fBorT 5 (fTest (f2 gNe (fVar 5) (fVar 6))))
  (fRet (fK (.bl false)))
  fSkip)
  (fSeq (fClr 5)
  (fSeq (fIf (fOr (fNot (fTest (f1 (gIs qTuple) (fVar 7)))) (fOr (fTest (f2 gNe (fC gLen (fCons (fVar 7) fNil)) (fK (.int 3)))) (fOr (fNot (fTest (fCall m_law_whole (fCons (f2 gIx (fVar 7) (fK (.int 0))) fNil)))) (fNot (fTest (fCall m_law_whole (fCons (f2 gIx (fVar 7) (fK (.int 1))) fNil)))))))
  (fRet (fK (.bl false)))
  fSkip)
  (fSeq (fIf (fOr (fTest (f2 gNe (f2 gIx (fVar 7) (fK (.int 0))) (fVar 1))) (fOr (fTest (f2 gNe (f2 gIx (fVar 7) (fK (.int 1))) (fVar 2))) (fOr (fNot (fTest (f1 (gIs qList) (f2 gIx (fVar 7) (fK (.int 2)))))) (fTest (f2 gNe (fC gLen (fCons (f2 gIx (fVar 7) (fK (.int 2))) fNil)) (fC gLen (fCons (fVar 3) fNil)))))))
  (fRet (fK (.bl false)))
  fSkip)
  (fSeq (fFor (fZip (fCons (f2 gIx (fVar 7) (fK (.int 2))) (fCons (f1 gSortC (fVar 3)) fNil))) (b2 8 9) lp1_law_K03)
  (fRet (f2 gEq (fK (.int 20)) (fK (.int 20)))))))))))))))))
def m_law_K03 : List T → Option Res := runP 10 1 body_law_K03
def body_law_size_2 : Ev → Option Out := (fSeq (fIf (fTest (f2 gEq (f2 gMod (fVar 0) (fK (.int 9))) (fK (.int 1))))
  (fRet (f2 gAdd (fK (.int 1)) (f2 gMod (f2 gDiv (fVar 0) (fK (.int 9))) (fK (.int 20)))))
  fSkip)
  (fRet (f2 gAdd (fK (.int 1)) (f2 gMod (f2 gDiv (fVar 0) (fK (.int 9))) (fK (.int 5))))))
def m_law_size_2 : List T → Option Res := runP 1 1 body_law_size_2
def body_law_parts_2 : Ev → Option Out := (fSeq (fSet 2 (f2 gDiv (fVar 1) (fK (.int 2))))
  (fSeq (fIf (fAnd (fTest (f2 gEq (f2 gMod (fVar 1) (fK (.int 2))) (fK (.int 0)))) (fTest (f2 gGt (f2 gIx (fVar 0) (fK (.int 2))) (fK (.int 1)))))
  (fSeq (fSet 3 (f2 gAdd (fK (.int 1)) (f2 gMod (fVar 2) (f2 gSub (f2 gIx (fVar 0) (fK (.int 2))) (fK (.int 1))))))
  (fRet (fC gLst (fCons (fC gTup (fCons (f2 gIx (fVar 0) (fK (.int 0))) (fCons (f2 gIx (fVar 0) (fK (.int 1))) (fCons (fVar 3) (fCons (f2 gIx (fVar 0) (fK (.int 3))) fNil))))) (fCons (fC gTup (fCons (f2 gAdd (f2 gIx (fVar 0) (fK (.int 0))) (fVar 3)) (fCons (f2 gIx (fVar 0) (fK (.int 1))) (fCons (f2 gSub (f2 gIx (fVar 0) (fK (.int 2))) (fVar 3)) (fCons (f2 gIx (fVar 0) (fK (.int 3))) fNil))))) fNil)))))
  fSkip)
  (fSeq (fIf (fAnd (fTest (f2 gEq (f2 gMod (fVar 1) (fK (.int 2))) (fK (.int 1)))) (fTest (f2 gGt (f2 gIx (fVar 0) (fK (.int 3))) (fK (.int 1)))))
  (fSeq (fSet 3 (f2 gAdd (fK (.int 1)) (f2 gMod (fVar 2) (f2 gSub (f2 gIx (fVar 0) (fK (.int 3))) (fK (.int 1))))))
  (fRet (fC gLst (fCons (fC gTup (fCons (f2 gIx (fVar 0) (fK (.int 0))) (fCons (f2 gIx (fVar 0) (fK (.int 1))) (fCons (f2 gIx (fVar 0) (fK (.int 2))) (fCons (fVar 3) fNil))))) (fCons (fC gTup (fCons (f2 gIx (fVar 0) (fK (.int 0))) (fCons (f2 gAdd (f2 gIx (fVar 0) (fK (.int 1))) (fVar 3)) (fCons (f2 gIx (fVar 0) (fK (.int 2))) (fCons (f2 gSub (f2 gIx (fVar 0) (fK (.int 3))) (fVar 3)) fNil))))) fNil)))))
  fSkip)
  (fRet (fC gLst (fCons (fVar 0) fNil))))))
def m_law_parts_2 : List T → Option Res := runP 4 2 body_law_parts_2
def lp1_law_cells_2 : Ev → Option Out := (fSeq (fSet 5 (f2 gMod (f2 gIx (fVar 0) (fVar 4)) (fC gLen (fCons (fVar 3) fNil))))
  (fSet 3 (f2 gCat (f2 gCat (fSl gSlL (fVar 3) fNoP (fPart (fVar 5))) (fCall m_law_parts_2 (fCons (f2 gIx (fVar 3) (fVar 5)) (fCons (f2 gDiv (f2 gIx (fVar 0) (fVar 4)) (fC gLen (fCons (fVar 3) fNil))) fNil)))) (fSl gSlL (fVar 3) (fPart (f2 gAdd (fVar 5) (fK (.int 1)))) fNoP))))
def body_law_cells_2 : Ev → Option Out := (fSeq (fSet 3 (fC gLst (fCons (fC gTup (fCons (fK (.int 0)) (fCons (fK (.int 0)) (fCons (fVar 1) (fCons (fVar 2) fNil))))) fNil)))
  (fSeq (fFor (fRng3 (fCons (fK (.int 5)) (fCons (fC gLen (fCons (fVar 0) fNil)) (fCons (fK (.int 2)) fNil)))) (b1 4) lp1_law_cells_2)
  (fRet (fComp (fEnum (fCons (fVar 3) fNil)) (b2 4 6) fYes (f2 gAdd (fVar 6) (fC gTup (fCons (fCall m_law_line (fCons (f2 gDiv (fCall m_law_at (fCons (fVar 0) (fCons (f2 gAdd (fK (.int 6)) (f2 gMul (fK (.int 2)) (fVar 4))) fNil))) (fK (.int 7))) (fCons (f2 gMod (fVar 4) (fK (.int 7))) fNil))) fNil))) [4, 6]))))
def m_law_cells_2 : List T → Option Res := runP 7 3 body_law_cells_2
def body_law_bad_cell : Ev → Option Out := (fSeq (fSet 2 (f2 gDiv (fVar 1) (fK (.int 6))))
  (fSeq (fIf (fTest (f2 gLt (f2 gMod (fVar 1) (fK (.int 6))) (fK (.int 4))))
  (fSeq (fSet 3 (f2 gMod (fVar 1) (fK (.int 6))))
  (fSeq (fSet 4 (f2 gIx (fC gLstA (fCons (f1 gNeg (fK (.int 1))) (fCons (f1 gNeg (fK (.int 1))) (fCons (fK (.int 0)) (fCons (fK (.int 0)) fNil))))) (fVar 3)))
  (fSeq (fSet 5 (f2 gIx (fC gLstA (fCons (fK (.str "1")) (fCons (fK .non) (fCons (fK (.bl true)) (fCons (fK (.bl false)) fNil))))) (f2 gMod (f2 gDiv (fVar 2) (fK (.int 6))) (fK (.int 4)))))
  (fSeq (fSet 6 (f2 gIx (fC gLstA (fCons (fVar 4) (fCons (f2 gAdd (fK (.int 21)) (f2 gMod (f2 gDiv (fC gAbs (fCons (fVar 2) fNil)) (fK (.int 6))) (f2 gPow (fK (.int 10)) (fK (.int 60))))) (fCons (fVar 4) (fCons (fVar 5) (fCons (fK (.int 21)) (fCons (f2 gSub (fVar 4) (f2 gMod (f2 gDiv (fVar 2) (fK (.int 6))) (fK (.int 9)))) fNil))))))) (f2 gMod (fVar 2) (fK (.int 6)))))
  (fRet (f2 gAdd (f2 gAdd (fSl gSl (fVar 0) fNoP (fPart (fVar 3))) (fC gTup (fCons (fVar 6) fNil))) (fSl gSl (fVar 0) (fPart (f2 gAdd (fVar 3) (fK (.int 1)))) fNoP)))))))
  fSkip)
  (fRet (f2 gIx (fC gLstA (fCons (fC gListA (fCons (fVar 0) fNil)) (fCons (fSl gSl (fVar 0) fNoP (fPart (fK (.int 4)))) (fCons (f2 gAdd (fVar 0) (fC gTup (fCons (fK (.int 0)) fNil))) (fCons (fK (.str "cells")) (fCons (fK .non) (fCons (fC gTup fNil) fNil))))))) (f2 gMod (fVar 2) (fK (.int 6)))))))
def m_law_bad_cell : List T → Option Res := runP 7 2 body_law_bad_cell
def body_law_bad_text : Ev → Option Out := (fSeq (fSet 2 (fC gLstA (fCons (f2 gMod (fVar 1) (f2 gPow (fK (.int 10)) (fK (.int 60)))) (fCons (fK .non) (fCons (f2 gAdd (f2 gIx (fVar 0) (fK (.int 4))) (fK (.str "\t"))) (fCons (f2 gAdd (fK (.str "\t")) (f2 gIx (fVar 0) (fK (.int 4)))) (fCons (f2 gAdd (f2 gIx (fVar 0) (fK (.int 4))) (fK (.str " "))) (fCons (fK (.str "a \nb")) (fCons (f2 gAdd (f2 gIx (fVar 0) (fK (.int 4))) (fK (.str "\n"))) fNil)))))))))
  (fSeq (fSet 2 (f2 gCatA (fVar 2) (fC gLstA (fCons (f2 gRepS (fK (.str "y")) (f2 gAdd (fK (.int 201)) (f2 gMod (f2 gDiv (fVar 1) (fK (.int 9))) (fK (.int 40))))) (fCons (fC gLstA (fCons (f2 gIx (fVar 0) (fK (.int 4))) fNil)) fNil)))))
  (fRet (f2 gAdd (fSl gSl (fVar 0) fNoP (fPart (fK (.int 4)))) (fC gTup (fCons (f2 gIx (fVar 2) (f2 gMod (fVar 1) (fK (.int 9)))) fNil))))))
def m_law_bad_text : List T → Option Res := runP 3 2 body_law_bad_text
def body_law_outcome : Ev → Option Out := (fSeq (fSet 3 (fK (.str "made")))
  (fSeq (fTryAs 4 (fCallDrop m_made (fCons (fVar 0) (fCons (fVar 1) (fCons (fVar 2) fNil)))) ["BadSize", "BadCell", "BadText", "Shared", "Bare"] fun c a => (fSeq (fSet 3 (f2 gIx (fC gLst (fCons (fK (.str "")) (fCons (fK (.str "no value error ")) fNil))) (fC gInt (fCons (fNotV (fIsE 4 a true)) fNil))))
  (fSeq (fIf (fTest (fIsE 4 a (subX c "BadSize")))
  (fSet 3 (f2 gAdd (fVar 3) (fK (.str "size"))))
  fSkip)
  (fSeq (fIf (fTest (fIsE 4 a (subX c "BadCell")))
  (fSet 3 (f2 gAdd (fVar 3) (fK (.str "cell"))))
  fSkip)
  (fSeq (fIf (fTest (fIsE 4 a (subX c "BadText")))
  (fSet 3 (f2 gAdd (fVar 3) (fK (.str "text"))))
  fSkip)
  (fSeq (fIf (fTest (fIsE 4 a (subX c "Shared")))
  (fSet 3 (f2 gAdd (fVar 3) (fK (.str "shared"))))
  fSkip)
  (fSeq (fIf (fTest (fIsE 4 a (subX c "Bare")))
  (fSet 3 (f2 gAdd (fVar 3) (fK (.str "bare"))))
  fSkip)
  (fIf (fOr (fTest (fIsE 4 a (subX c "NoSquare"))) (fOr (fTest (fIsE 4 a (subX c "Cut"))) (fTest (fIsE 4 a (subX c "NoDrawing")))))
  (fSet 3 (f2 gAdd (fVar 3) (fK (.str "another"))))
  fSkip))))))))
  (fRet (fVar 3))))
def m_law_outcome : List T → Option Res := runP 5 3 body_law_outcome
def body_law_spoilt : Ev → Option Out := (fSeq (fSet 3 (f2 gMod (fVar 2) (fC gLen (fCons (fVar 0) fNil))))
  (fSeq (fSet 4 (f2 gMod (f2 gDiv (fVar 2) (fC gLen (fCons (fVar 0) fNil))) (fC gLen (fCons (fVar 0) fNil))))
  (fSeq (fSet 5 (f2 gDiv (f2 gDiv (fVar 2) (fC gLen (fCons (fVar 0) fNil))) (fC gLen (fCons (fVar 0) fNil))))
  (fSeq (fIf (fTest (f2 gEq (fVar 1) (fK (.int 2))))
  (fSeq (fSet 6 (f2 gIx (fVar 0) (fVar 3)))
  (fSeq (fIf (fTest (f2 gEq (f2 gMod (fVar 2) (fK (.int 3))) (fK (.int 1))))
  (fSet 6 (fCall m_law_bad_text (fCons (fVar 6) (fCons (f2 gDiv (fVar 5) (fK (.int 9))) fNil))))
  fSkip)
  (fRet (fC gTup (fCons (f2 gCatA (f2 gCatA (fSl gSlA (fVar 0) fNoP (fPart (fVar 3))) (fC gLstA (fCons (fCall m_law_bad_cell (fCons (fVar 6) (fCons (fVar 5) fNil))) fNil))) (fSl gSlA (fVar 0) (fPart (f2 gAdd (fVar 3) (fK (.int 1)))) fNoP)) (fCons (fK (.str "cell")) fNil))))))
  fSkip)
  (fSeq (fIf (fTest (f2 gEq (fVar 1) (fK (.int 3))))
  (fRet (fC gTup (fCons (f2 gCatA (f2 gCatA (fSl gSlA (fVar 0) fNoP (fPart (fVar 3))) (fC gLstA (fCons (fCall m_law_bad_text (fCons (f2 gIx (fVar 0) (fVar 3)) (fCons (fVar 5) fNil))) fNil))) (fSl gSlA (fVar 0) (fPart (f2 gAdd (fVar 3) (fK (.int 1)))) fNoP)) (fCons (fK (.str "text")) fNil))))
  fSkip)
  (fSeq (fIf (fTest (f2 gEq (fVar 1) (fK (.int 4))))
  (fRet (fC gTup (fCons (f2 gCatA (f2 gCatA (fSl gSlA (fVar 0) fNoP (fPart (fVar 4))) (fC gLstA (fCons (f2 gIx (fVar 0) (fVar 3)) fNil))) (fSl gSlA (fVar 0) (fPart (fVar 4)) fNoP)) (fCons (fK (.str "shared")) fNil))))
  fSkip)
  (fSeq (fIf (fTest (f2 gEq (fVar 1) (fK (.int 5))))
  (fRet (fC gTup (fCons (f2 gCatA (fSl gSlA (fVar 0) fNoP (fPart (fVar 3))) (fSl gSlA (fVar 0) (fPart (f2 gAdd (fVar 3) (fK (.int 1)))) fNoP)) (fCons (fK (.str "bare")) fNil))))
  fSkip)
  (fSeq (fIf (fAnd (fTest (f2 gEq (fVar 1) (fK (.int 6)))) (fTest (f2 gNe (fVar 3) (fVar 4))))
  (fRet (fC gTup (fCons (f2 gCatA (f2 gCatA (fSl gSlA (fVar 0) fNoP (fPart (fVar 4))) (fC gLstA (fCons (f2 gIx (fVar 0) (fVar 3)) fNil))) (fSl gSlA (fVar 0) (fPart (f2 gAdd (fVar 4) (fK (.int 1)))) fNoP)) (fCons (fK (.str "shared")) fNil))))
  fSkip)
  (fSeq (fIf (fAnd (fTest (f2 gEq (fVar 1) (fK (.int 7)))) (fTest (f2 gNe (fVar 3) (fVar 4))))
  (fSeq (fSet 7 (fC gMin (fCons (fVar 3) (fCons (fVar 4) fNil))))
  (fSeq (fSet 8 (f2 gCatA (f2 gCatA (fSl gSlA (fVar 0) fNoP (fPart (fVar 3))) (fC gLstA (fCons (fCall m_law_bad_text (fCons (f2 gIx (fVar 0) (fVar 3)) (fCons (fVar 5) fNil))) fNil))) (fSl gSlA (fVar 0) (fPart (f2 gAdd (fVar 3) (fK (.int 1)))) fNoP)))
  (fSeq (fSet 8 (f2 gCatA (f2 gCatA (fSl gSlA (fVar 8) fNoP (fPart (fVar 4))) (fC gLstA (fCons (fCall m_law_bad_cell (fCons (f2 gIx (fVar 0) (fVar 4)) (fCons (f2 gDiv (fVar 5) (fK (.int 9))) fNil))) fNil))) (fSl gSlA (fVar 8) (fPart (f2 gAdd (fVar 4) (fK (.int 1)))) fNoP)))
  (fRet (fC gTup (fCons (fVar 8) (fCons (f2 gIx (fC gLstA (fCons (fK (.str "text")) (fCons (fK (.str "cell")) fNil))) (fC gInt (fCons (f2 gEq (fVar 7) (fVar 4)) fNil))) fNil)))))))
  fSkip)
  (fSeq (fIf (fTest (f2 gEq (fVar 1) (fK (.int 9))))
  (fSeq (fSet 9 (f2 gIx (fC gLstA (fCons (fCall m_law_bad_text (fCons (f2 gIx (fVar 0) (fVar 3)) (fCons (f2 gDiv (fVar 5) (fK (.int 4))) fNil))) (fCons (fCall m_law_bad_cell (fCons (f2 gIx (fVar 0) (fVar 3)) (fCons (f2 gDiv (fVar 5) (fK (.int 4))) fNil))) fNil))) (f2 gMod (fVar 5) (fK (.int 2)))))
  (fSeq (fSet 8 (f2 gCatA (f2 gCatA (fSl gSlA (fVar 0) fNoP (fPart (fVar 3))) (fC gLstA (fCons (fVar 9) fNil))) (fSl gSlA (fVar 0) (fPart (f2 gAdd (fVar 3) (fK (.int 1)))) fNoP)))
  (fSeq (fIf (fTest (f2 gEq (f2 gMod (f2 gDiv (fVar 5) (fK (.int 2))) (fK (.int 2))) (fK (.int 0))))
  (fRet (fC gTup (fCons (f2 gCatA (fVar 8) (fC gLstA (fCons (f2 gIx (fVar 0) (fVar 4)) fNil))) (fCons (f2 gIx (fC gLstA (fCons (fK (.str "text")) (fCons (fK (.str "cell")) fNil))) (f2 gMod (fVar 5) (fK (.int 2)))) fNil))))
  fSkip)
  (fRet (fC gTup (fCons (f2 gCatA (fC gLstA (fCons (f2 gIx (fVar 0) (fVar 4)) fNil)) (fVar 8)) (fCons (f2 gIx (fC gLstA (fCons (fK (.str "text")) (fCons (fK (.str "cell")) fNil))) (f2 gMod (fVar 5) (fK (.int 2)))) fNil)))))))
  fSkip)
  (fRet (fC gTup (fCons (f2 gCatA (f2 gCatA (fSl gSlA (fVar 0) fNoP (fPart (fVar 3))) (fC gLstA (fCons (fCall m_law_bad_cell (fCons (f2 gIx (fVar 0) (fVar 3)) (fCons (fVar 5) fNil))) fNil))) (fSl gSlA (fVar 0) (fPart (f2 gAdd (fVar 3) (fK (.int 1)))) fNoP)) (fCons (fK (.str "cell")) fNil))))))))))))))
def m_law_spoilt : List T → Option Res := runP 10 3 body_law_spoilt
def lp1_law_moved : Ev → Option Out := (fSeq (fSet 11 (fC gTup (fCons (f2 gAdd (f2 gIx (fVar 9) (fK (.int 0))) (f2 gDiv (fVar 10) (f2 gIx (fVar 9) (fK (.int 3))))) (fCons (f2 gAdd (f2 gIx (fVar 9) (fK (.int 1))) (f2 gMod (fVar 10) (f2 gIx (fVar 9) (fK (.int 3))))) fNil))))
  (fSeq (fIf (fInD 8 (fVar 11))
  (fRet (fC gTup (fCons (fVar 7) (fCons (fK (.str "shared")) fNil))))
  fSkip)
  (fPutD 8 (fVar 11) (fK (.bl true)))))
def lp2_law_moved : Ev → Option Out := (fFor (fRng1 (fCons (f2 gMul (f2 gIx (fVar 9) (fK (.int 2))) (f2 gIx (fVar 9) (fK (.int 3)))) fNil)) (b1 10) lp1_law_moved)
def body_law_moved : Ev → Option Out := (fSeq (fSet 4 (f2 gMod (fVar 3) (fC gLen (fCons (fVar 0) fNil))))
  (fSeq (fSet 5 (f2 gDiv (fVar 3) (fC gLen (fCons (fVar 0) fNil))))
  (fSeq (fSetOw 6 (fC gList (fCons (f2 gIx (fVar 0) (fVar 4)) fNil)))
  (fSeq (fPut 6 (f2 gMod (fVar 5) (fK (.int 4))) (f2 gAdd (fIxL (fOw 6) (f2 gMod (fVar 5) (fK (.int 4)))) (f2 gIx (fC gLst (fCons (fK (.int 1)) (fCons (f1 gNeg (fK (.int 1))) fNil))) (f2 gMod (f2 gDiv (fVar 5) (fK (.int 4))) (fK (.int 2))))))
  (fSeq (fSet 7 (f2 gCat (f2 gCat (fSl gSlL (fVar 0) fNoP (fPart (fVar 4))) (fC gLst (fCons (fC gTup (fCons (fIxL (fOw 6) (fK (.int 0))) (fCons (fIxL (fOw 6) (fK (.int 1))) (fCons (fIxL (fOw 6) (fK (.int 2))) (fCons (fIxL (fOw 6) (fK (.int 3))) (fCons (fIxL (fOw 6) (fK (.int 4))) fNil)))))) fNil))) (fSl gSlL (fVar 0) (fPart (f2 gAdd (fVar 4) (fK (.int 1)))) fNoP)))
  (fSeq (fIf (fOr (fTest (f2 gLt (fC gMin (fCons (fIxL (fOw 6) (fK (.int 0))) (fCons (fIxL (fOw 6) (fK (.int 1))) fNil))) (fK (.int 0)))) (fOr (fTest (f2 gLt (fC gMin (fCons (fIxL (fOw 6) (fK (.int 2))) (fCons (fIxL (fOw 6) (fK (.int 3))) fNil))) (fK (.int 1)))) (fOr (fTest (f2 gGt (f2 gAdd (fIxL (fOw 6) (fK (.int 0))) (fIxL (fOw 6) (fK (.int 2)))) (fVar 1))) (fTest (f2 gGt (f2 gAdd (fIxL (fOw 6) (fK (.int 1))) (fIxL (fOw 6) (fK (.int 3)))) (fVar 2))))))
  (fRet (fC gTup (fCons (fVar 7) (fCons (fK (.str "cell")) fNil))))
  fSkip)
  (fSeq (fSetDk 8)
  (fSeq (fFor (fItems (fVar 7)) (b1 9) lp2_law_moved)
  (fRet (fC gTup (fCons (fVar 7) (fCons (f2 gIx (fC gLst (fCons (fK (.str "made")) (fCons (fK (.str "bare")) fNil))) (fC gInt (fCons (f2 gLt (fLenD 8) (f2 gMul (fVar 1) (fVar 2))) fNil))) fNil))))))))))))
def m_law_moved : List T → Option Res := runP 12 4 body_law_moved
def body_law_K04 : Ev → Option Out := (fSeq (fSet 1 (fCall m_law_size_2 (fCons (fCall m_law_at (fCons (fVar 0) (fCons (fK (.int 0)) fNil))) fNil)))
  (fSeq (fSet 2 (fCall m_law_size_2 (fCons (fCall m_law_at (fCons (fVar 0) (fCons (fK (.int 1)) fNil))) fNil)))
  (fSeq (fSet 3 (fCall m_law_cells_2 (fCons (fVar 0) (fCons (fVar 1) (fCons (fVar 2) fNil)))))
  (fSeq (fSet 4 (f2 gMod (fCall m_law_at (fCons (fVar 0) (fCons (fK (.int 2)) fNil))) (fK (.int 12))))
  (fSeq (fSet 5 (f2 gIx (fC gLstA (fCons (fK (.int 0)) (fCons (fK (.int 21)) (fCons (f1 gNeg (fK (.int 1))) (fCons (fK (.bl true)) (fCons (fK (.str "3")) (fCons (fK .non) (fCons (fK (.int 1000)) (fCons (f1 gNeg (fK (.int 20))) (fCons (fK (.bl false)) fNil)))))))))) (f2 gMod (fCall m_law_at (fCons (fVar 0) (fCons (fK (.int 3)) fNil))) (fK (.int 9)))))
  (fSeq (fSet 6 (fK (.str "size")))
  (fSeq (fIf (fTest (f2 gEq (fVar 4) (fK (.int 0))))
  (fSet 1 (fVar 5))
  (fIf (fTest (f2 gEq (fVar 4) (fK (.int 1))))
  (fSet 2 (fVar 5))
  (fIf (fTest (f2 gGt (fVar 4) (fK (.int 9))))
  (fSeq (fSet 7 (fCall m_law_moved (fCons (fVar 3) (fCons (fVar 1) (fCons (fVar 2) (fCons (fCall m_law_at (fCons (fVar 0) (fCons (fK (.int 4)) fNil))) fNil))))))
  (fSeq (fSet 3 (f2 gIx (fVar 7) (fK (.int 0))))
  (fSet 6 (f2 gIx (fVar 7) (fK (.int 1))))))
  (fSeq (fSet 7 (fCall m_law_spoilt (fCons (fVar 3) (fCons (fVar 4) (fCons (fCall m_law_at (fCons (fVar 0) (fCons (fK (.int 4)) fNil))) fNil)))))
  (fSeq (fSet 3 (f2 gIx (fVar 7) (fK (.int 0))))
  (fSet 6 (f2 gIx (fVar 7) (fK (.int 1)))))))))
  (fSeq (fIf (fTest (f2 gEq (fVar 4) (fK (.int 8))))
  (fSeq (fSet 1 (fVar 5))
  (fSet 6 (fK (.str "size"))))
  fSkip)
  (fSeq (fSet 8 (fC gListA (fCons (fVar 3) fNil)))
  (fRet (fAndV (f2 gEq (fCall m_law_outcome (fCons (fVar 1) (fCons (fVar 2) (fCons (fVar 3) fNil)))) (fVar 6)) (f2 gEq (fVar 3) (fVar 8)))))))))))))
def m_law_K04 : List T → Option Res := runP 9 1 body_law_K04
def lp1_owner : Ev → Option Out := (fIf (fAnd (fTest (fChain gLe gLt (f2 gIx (fVar 3) (fK (.int 0))) (fVar 1) (f2 gAdd (f2 gIx (fVar 3) (fK (.int 0))) (f2 gIx (fVar 3) (fK (.int 2)))))) (fTest (fChain gLe gLt (f2 gIx (fVar 3) (fK (.int 1))) (fVar 2) (f2 gAdd (f2 gIx (fVar 3) (fK (.int 1))) (f2 gIx (fVar 3) (fK (.int 3)))))))
  (fRet (fVar 3))
  fSkip)
def body_owner : Ev → Option Out := (fSeq (fIf (fAnd (fTest (fCall m_is_whole (fCons (fVar 1) fNil))) (fTest (fCall m_is_whole (fCons (fVar 2) fNil))))
  (fFor (fItems (f2 gIx (fVar 0) (fK (.int 2)))) (b1 3) lp1_owner)
  fSkip)
  (fRaise "NoSquare"))
def m_owner : List T → Option Res := runB 4 3 body_owner
def lp1_law_cells_3 : Ev → Option Out := (fSeq (fSet 5 (f2 gMod (fVar 4) (fC gLen (fCons (fVar 3) fNil))))
  (fSet 3 (f2 gCat (f2 gCat (fSl gSlL (fVar 3) fNoP (fPart (fVar 5))) (fCall m_law_parts (fCons (f2 gIx (fVar 3) (fVar 5)) (fCons (f2 gDiv (fVar 4) (fC gLen (fCons (fVar 3) fNil))) fNil)))) (fSl gSlL (fVar 3) (fPart (f2 gAdd (fVar 5) (fK (.int 1)))) fNoP))))
def body_law_cells_3 : Ev → Option Out := (fSeq (fSet 3 (fC gLst (fCons (fC gTup (fCons (fK (.int 0)) (fCons (fK (.int 0)) (fCons (fVar 1) (fCons (fVar 2) fNil))))) fNil)))
  (fSeq (fFor (fItems (fVar 0)) (b1 4) lp1_law_cells_3)
  (fSeq (fSet 6 (fComp (fItems (fVar 3)) (b1 7) fYes (f2 gAdd (fVar 7) (fC gTup (fCons (f2 gAdd (f2 gAdd (f2 gAdd (fK (.str "cell ")) (fC gStr (fCons (f2 gIx (fVar 7) (fK (.int 0))) fNil))) (fK (.str " "))) (fC gStr (fCons (f2 gIx (fVar 7) (fK (.int 1))) fNil))) fNil))) [7]))
  (fRet (f1 gSortC (fVar 6))))))
def m_law_cells_3 : List T → Option Res := runP 8 3 body_law_cells_3
def lp1_law_over : Ev → Option Out := (fIf (fAnd (fTest (fChain gLe gLt (f2 gIx (fVar 3) (fK (.int 0))) (fVar 1) (f2 gAdd (f2 gIx (fVar 3) (fK (.int 0))) (f2 gIx (fVar 3) (fK (.int 2)))))) (fTest (fChain gLe gLt (f2 gIx (fVar 3) (fK (.int 1))) (fVar 2) (f2 gAdd (f2 gIx (fVar 3) (fK (.int 1))) (f2 gIx (fVar 3) (fK (.int 3)))))))
  (fRet (fVar 3))
  fSkip)
def body_law_over : Ev → Option Out := (fSeq (fFor (fItems (fVar 0)) (b1 3) lp1_law_over)
  (fRet (fK .non)))
def m_law_over : List T → Option Res := runP 4 3 body_law_over
def body_law_refused : Ev → Option Out := (fSeq (fTryAs 3 (fCallDrop m_owner (fCons (fVar 0) (fCons (fVar 1) (fCons (fVar 2) fNil)))) ["NoSquare"] fun c a => (fSeq (fIf (fOr (fTest (fIsE 3 a (subX c "BadSize"))) (fOr (fTest (fIsE 3 a (subX c "BadCell"))) (fOr (fTest (fIsE 3 a (subX c "BadText"))) (fTest (fIsE 3 a (subX c "Shared"))))))
  (fRet (fK (.bl false)))
  fSkip)
  (fSeq (fIf (fOr (fTest (fIsE 3 a (subX c "Bare"))) (fOr (fTest (fIsE 3 a (subX c "Cut"))) (fTest (fIsE 3 a (subX c "NoDrawing")))))
  (fRet (fK (.bl false)))
  fSkip)
  (fRet (fAndV (fIsE 3 a (subX c "NoSquare")) (fIsE 3 a true))))))
  (fRet (fK (.bl false))))
def m_law_refused : List T → Option Res := runP 4 3 body_law_refused
def lp1_law_K05 : Ev → Option Out := (fSeq (fSet 6 (f2 gMod (fCall m_law_at (fCons (fVar 0) (fCons (fVar 5) fNil))) (fVar 1)))
  (fSeq (fSet 7 (f2 gMod (f2 gDiv (fCall m_law_at (fCons (fVar 0) (fCons (fVar 5) fNil))) (fVar 1)) (fVar 2)))
  (fIf (fNot (fTest (fCall m_law_cell_is (fCons (fCall m_owner (fCons (fVar 4) (fCons (fVar 6) (fCons (fVar 7) fNil)))) (fCons (fCall m_law_over (fCons (fVar 3) (fCons (fVar 6) (fCons (fVar 7) fNil)))) fNil)))))
  (fRet (fK (.bl false)))
  fSkip)))
def body_law_K05 : Ev → Option Out := (fSeq (fSet 1 (fCall m_law_size (fCons (fCall m_law_at (fCons (fVar 0) (fCons (fK (.int 0)) fNil))) fNil)))
  (fSeq (fSet 2 (fCall m_law_size (fCons (fCall m_law_at (fCons (fVar 0) (fCons (fK (.int 1)) fNil))) fNil)))
  (fSeq (fSet 3 (fCall m_law_cells_3 (fCons (fSl gSlL (fVar 0) (fPart (fK (.int 7))) fNoP) (fCons (fVar 1) (fCons (fVar 2) fNil)))))
  (fSeq (fSet 4 (fC gTup (fCons (fVar 1) (fCons (fVar 2) (fCons (fC gList (fCons (fVar 3) fNil)) fNil)))))
  (fSeq (fFor (fRng2 (fCons (fK (.int 2)) (fCons (fK (.int 5)) fNil))) (b1 5) lp1_law_K05)
  (fSeq (fSet 6 (f2 gMod (fCall m_law_at (fCons (fVar 0) (fCons (fK (.int 5)) fNil))) (fVar 1)))
  (fSeq (fSet 7 (f2 gMod (f2 gDiv (fCall m_law_at (fCons (fVar 0) (fCons (fK (.int 5)) fNil))) (fVar 1)) (fVar 2)))
  (fSeq (fSet 8 (f2 gMod (f2 gDiv (fCall m_law_at (fCons (fVar 0) (fCons (fK (.int 6)) fNil))) (fK (.int 12))) (f2 gPow (fK (.int 10)) (fK (.int 60)))))
  (fSeq (fSet 9 (f2 gIx (fC gLst (fCons (f1 gNeg (fK (.int 1))) (fCons (f2 gAdd (f2 gAdd (fVar 1) (fVar 2)) (fC gAbs (fCons (fVar 8) fNil))) (fCons (fK (.str "0")) (fCons (fK .non) (fCons (fK (.bl true)) (fCons (f2 gSub (f1 gNeg (fK (.int 1))) (fC gAbs (fCons (fVar 8) fNil))) (fCons (fK (.bl false)) fNil)))))))) (f2 gMod (f2 gDiv (fCall m_law_at (fCons (fVar 0) (fCons (fK (.int 6)) fNil))) (fK (.int 2))) (fK (.int 7)))))
  (fSeq (fIf (fTest (f2 gEq (f2 gMod (fCall m_law_at (fCons (fVar 0) (fCons (fK (.int 6)) fNil))) (fK (.int 2))) (fK (.int 0))))
  (fSet 6 (f2 gIx (fC gLst (fCons (fVar 9) (fCons (fVar 1) fNil))) (fC gInt (fCons (fAndV (f2 gEq (f2 gMod (f2 gDiv (fCall m_law_at (fCons (fVar 0) (fCons (fK (.int 6)) fNil))) (fK (.int 2))) (fK (.int 6))) (fK (.int 1))) (f2 gEq (f2 gMod (fVar 8) (fK (.int 2))) (fK (.int 0)))) fNil))))
  (fSet 7 (f2 gIx (fC gLst (fCons (fVar 9) (fCons (fVar 2) fNil))) (fC gInt (fCons (fAndV (f2 gEq (f2 gMod (f2 gDiv (fCall m_law_at (fCons (fVar 0) (fCons (fK (.int 6)) fNil))) (fK (.int 2))) (fK (.int 6))) (fK (.int 1))) (f2 gEq (f2 gMod (fVar 8) (fK (.int 2))) (fK (.int 0)))) fNil)))))
  (fRet (fAndV (fCall m_law_refused (fCons (fVar 4) (fCons (fVar 6) (fCons (fVar 7) fNil)))) (f2 gEq (f2 gIx (fVar 4) (fK (.int 2))) (fVar 3))))))))))))))
def m_law_K05 : List T → Option Res := runP 10 1 body_law_K05
def lp1_placed : Ev → Option Out := (fIf (fTest (f2 gEq (f2 gIx (fVar 5) (fK (.int 1))) (fVar 3)))
  (fSet 4 (fC gMax (fCons (fVar 4) (fCons (f2 gAdd (fIxL (fOw 2) (f2 gIx (fVar 5) (fK (.int 0)))) (f2 gIx (fVar 5) (fK (.int 2)))) fNil))))
  fSkip)
def lp2_placed : Ev → Option Out := (fSeq (fSet 4 (f2 gAdd (fIxL (fOw 2) (f2 gSub (fVar 3) (fK (.int 1)))) (fK (.int 2))))
  (fSeq (fFor (fItems (fVar 1)) (b1 5) lp1_placed)
  (fApp 2 (fVar 4))))
def body_placed : Ev → Option Out := (fSeq (fSetOw 2 (fC gLst (fCons (fK (.int 0)) fNil)))
  (fSeq (fFor (fRng2 (fCons (fK (.int 1)) (fCons (f2 gAdd (fVar 0) (fK (.int 1))) fNil))) (b1 3) lp2_placed)
  (fFrz 2 (fRet (fVar 2)))))
def m_placed : List T → Option Res := runP 6 2 body_placed
def body_across : Ev → Option Out := (fRet (fCall m_placed (fCons (f2 gIx (fVar 0) (fK (.int 1))) (fCons (fComp (fItems (f2 gIx (fVar 0) (fK (.int 2)))) (b1 1) fYes (fC gTup (fCons (f2 gIx (fVar 1) (fK (.int 1))) (fCons (f2 gAdd (f2 gIx (fVar 1) (fK (.int 1))) (f2 gIx (fVar 1) (fK (.int 3)))) (fCons (f2 gAdd (fCall m_longest (fCons (f2 gIx (fVar 1) (fK (.int 4))) fNil)) (fK (.int 3))) fNil)))) [1]) fNil))))
def m_across : List T → Option Res := runP 2 1 body_across
def body_down : Ev → Option Out := (fRet (fCall m_placed (fCons (f2 gIx (fVar 0) (fK (.int 0))) (fCons (fComp (fItems (f2 gIx (fVar 0) (fK (.int 2)))) (b1 1) fYes (fC gTup (fCons (f2 gIx (fVar 1) (fK (.int 0))) (fCons (f2 gAdd (f2 gIx (fVar 1) (fK (.int 0))) (f2 gIx (fVar 1) (fK (.int 2)))) (fCons (f2 gAdd (fC gLen (fCons (fCallN m_lines_of (fCons (f2 gIx (fVar 1) (fK (.int 4))) fNil)) fNil)) (fK (.int 2))) fNil)))) [1]) fNil))))
def m_down : List T → Option Res := runP 2 1 body_down
def lp1_law_cells_4 : Ev → Option Out := (fSeq (fSet 5 (f2 gMod (f2 gIx (fVar 0) (fVar 4)) (fC gLen (fCons (fVar 3) fNil))))
  (fSet 3 (f2 gCat (f2 gCat (fSl gSlL (fVar 3) fNoP (fPart (fVar 5))) (fCall m_law_parts (fCons (f2 gIx (fVar 3) (fVar 5)) (fCons (f2 gDiv (f2 gIx (fVar 0) (fVar 4)) (fC gLen (fCons (fVar 3) fNil))) fNil)))) (fSl gSlL (fVar 3) (fPart (f2 gAdd (fVar 5) (fK (.int 1)))) fNoP))))
def body_law_cells_4 : Ev → Option Out := (fSeq (fSet 3 (fC gLst (fCons (fC gTup (fCons (fK (.int 0)) (fCons (fK (.int 0)) (fCons (fVar 1) (fCons (fVar 2) fNil))))) fNil)))
  (fSeq (fFor (fRng3 (fCons (fK (.int 2)) (fCons (fC gLen (fCons (fVar 0) fNil)) (fCons (fK (.int 2)) fNil)))) (b1 4) lp1_law_cells_4)
  (fRet (f1 gSortC (fComp (fEnum (fCons (fVar 3) fNil)) (b2 4 6) fYes (f2 gAdd (fVar 6) (fC gTup (fCons (fCall m_law_text (fCons (fCall m_law_at (fCons (fVar 0) (fCons (f2 gAdd (fK (.int 3)) (f2 gMul (fK (.int 2)) (fVar 4))) fNil))) fNil)) fNil))) [4, 6])))))
def m_law_cells_4 : List T → Option Res := runP 7 3 body_law_cells_4
def lp1_law_signs : Ev → Option Out := (fSet 1 (fC gMax (fCons (fVar 1) (fCons (fC gLen (fCons (fVar 2) fNil)) fNil))))
def body_law_signs : Ev → Option Out := (fSeq (fSet 1 (fK (.int 0)))
  (fSeq (fFor (fItems (fM gSplit (fVar 0) (fCons (fK (.str "\n")) fNil))) (b1 2) lp1_law_signs)
  (fRet (fVar 1))))
def m_law_signs : List T → Option Res := runP 3 1 body_law_signs
def lp1_law_stand : Ev → Option Out := (fSeq (fIf (fAnd (fTest (f2 gEq (f2 gAdd (f2 gIx (fVar 6) (fVar 3)) (f2 gIx (fVar 6) (f2 gAdd (fK (.int 2)) (fVar 3)))) (fVar 4))) (fTest (f2 gEq (fVar 3) (fK (.int 1)))))
  (fSet 5 (fC gMax (fCons (fVar 5) (fCons (f2 gAdd (f2 gAdd (f2 gIx (fVar 0) (f2 gIx (fVar 6) (fK (.int 1)))) (fK (.int 3))) (fCall m_law_signs (fCons (f2 gIx (fVar 6) (fK (.int 4))) fNil))) fNil))))
  fSkip)
  (fIf (fAnd (fTest (f2 gEq (f2 gAdd (f2 gIx (fVar 6) (fVar 3)) (f2 gIx (fVar 6) (f2 gAdd (fK (.int 2)) (fVar 3)))) (fVar 4))) (fTest (f2 gEq (fVar 3) (fK (.int 0)))))
  (fSet 5 (fC gMax (fCons (fVar 5) (fCons (f2 gAdd (f2 gAdd (f2 gIx (fVar 0) (f2 gIx (fVar 6) (fK (.int 0)))) (fK (.int 3))) (fM gCount (f2 gIx (fVar 6) (fK (.int 4))) (fCons (fK (.str "\n")) fNil))) fNil))))
  fSkip))
def lp2_law_stand : Ev → Option Out := (fSeq (fSet 5 (fK (.int 0)))
  (fSeq (fIf (fTest (f2 gGt (fVar 4) (fK (.int 0))))
  (fSet 5 (f2 gAdd (f2 gIx (fVar 0) (f2 gSub (fVar 4) (fK (.int 1)))) (fK (.int 2))))
  fSkip)
  (fSeq (fFor (fItems (fVar 2)) (b1 6) lp1_law_stand)
  (fIf (fOr (fNot (fTest (fCall m_law_whole (fCons (f2 gIx (fVar 0) (fVar 4)) fNil)))) (fTest (f2 gNe (f2 gIx (fVar 0) (fVar 4)) (fVar 5))))
  (fRet (fK (.bl false)))
  fSkip))))
def body_law_stand : Ev → Option Out := (fSeq (fIf (fOr (fNot (fTest (f1 (gIs qList) (fVar 0)))) (fTest (f2 gNe (fC gLen (fCons (fVar 0) fNil)) (f2 gAdd (fVar 1) (fK (.int 1))))))
  (fRet (fK (.bl false)))
  fSkip)
  (fSeq (fFor (fRng1 (fCons (f2 gAdd (fVar 1) (fK (.int 1))) fNil)) (b1 4) lp2_law_stand)
  (fRet (fK (.bl true)))))
def m_law_stand : List T → Option Res := runP 7 4 body_law_stand
def body_law_K06 : Ev → Option Out := (fSeq (fSet 1 (fCall m_law_size (fCons (fCall m_law_at (fCons (fVar 0) (fCons (fK (.int 0)) fNil))) fNil)))
  (fSeq (fSet 2 (fCall m_law_size (fCons (fCall m_law_at (fCons (fVar 0) (fCons (fK (.int 1)) fNil))) fNil)))
  (fSeq (fSet 3 (fCall m_law_cells_4 (fCons (fVar 0) (fCons (fVar 1) (fCons (fVar 2) fNil)))))
  (fSeq (fSet 4 (fC gTup (fCons (fVar 1) (fCons (fVar 2) (fCons (fC gList (fCons (fVar 3) fNil)) fNil)))))
  (fSeq (fIf (fOr (fNot (fTest (fCall m_law_stand (fCons (fCall m_across (fCons (fVar 4) fNil)) (fCons (fVar 2) (fCons (fVar 3) (fCons (fK (.int 1)) fNil))))))) (fNot (fTest (fCall m_law_stand (fCons (fCall m_down (fCons (fVar 4) fNil)) (fCons (fVar 1) (fCons (fVar 3) (fCons (fK (.int 0)) fNil))))))))
  (fRet (fK (.bl false)))
  fSkip)
  (fRet (f2 gEq (f2 gIx (fVar 4) (fK (.int 2))) (fVar 3))))))))
def m_law_K06 : List T → Option Res := runP 5 1 body_law_K06
def body_begun : Ev → Option Out := (fRet (f1 gSortSet (fComp (fItems (fVar 0)) (b1 2) fYes (f2 gIx (fVar 2) (fVar 1)) [2])))
def m_begun : List T → Option Res := runP 3 2 body_begun
def body_many : Ev → Option Out := (fRet (fC gLen (fCons (fComp (fItems (fVar 0)) (b1 3) (fTest (fChain gLe gLt (fVar 1) (fVar 3) (fVar 2))) (fVar 3) [3]) fNil)))
def m_many : List T → Option Res := runP 4 3 body_many
def body_narrowed : Ev → Option Out := (fSeq (fSet 3 (fCall m_many (fCons (fVar 1) (fCons (f2 gIx (fVar 0) (fK (.int 0))) (fCons (f2 gAdd (f2 gIx (fVar 0) (fK (.int 0))) (f2 gIx (fVar 0) (fK (.int 2)))) fNil)))))
  (fSeq (fSet 4 (fCall m_many (fCons (fVar 2) (fCons (f2 gIx (fVar 0) (fK (.int 1))) (fCons (f2 gAdd (f2 gIx (fVar 0) (fK (.int 1))) (f2 gIx (fVar 0) (fK (.int 3)))) fNil)))))
  (fRet (fC gTup (fCons (fCall m_many (fCons (fVar 1) (fCons (fK (.int 0)) (fCons (f2 gIx (fVar 0) (fK (.int 0))) fNil)))) (fCons (fCall m_many (fCons (fVar 2) (fCons (fK (.int 0)) (fCons (f2 gIx (fVar 0) (fK (.int 1))) fNil)))) (fCons (fVar 3) (fCons (fVar 4) (fCons (f2 gIx (fVar 0) (fK (.int 4))) fNil)))))))))
def m_narrowed : List T → Option Res := runP 5 3 body_narrowed
def body_tight : Ev → Option Out := (fSeq (fSet 1 (fCall m_begun (fCons (f2 gIx (fVar 0) (fK (.int 2))) (fCons (fK (.int 0)) fNil))))
  (fSeq (fSet 2 (fCall m_begun (fCons (f2 gIx (fVar 0) (fK (.int 2))) (fCons (fK (.int 1)) fNil))))
  (fRetF (fTupN (fCons (fC gLen (fCons (fVar 1) fNil)) (fCons (fC gLen (fCons (fVar 2) fNil)) fNil)) (fComp (fItems (f2 gIx (fVar 0) (fK (.int 2)))) (b1 3) fYes (fCall m_narrowed (fCons (fVar 3) (fCons (fVar 1) (fCons (fVar 2) fNil)))) [3])))))
def m_tight : List T → Option Res := runP 4 1 body_tight
def lp1_law_cells_5 : Ev → Option Out := (fSeq (fSet 5 (f2 gMod (fVar 4) (fC gLen (fCons (fVar 3) fNil))))
  (fSet 3 (f2 gCat (f2 gCat (fSl gSlL (fVar 3) fNoP (fPart (fVar 5))) (fCall m_law_parts (fCons (f2 gIx (fVar 3) (fVar 5)) (fCons (f2 gDiv (fVar 4) (fC gLen (fCons (fVar 3) fNil))) fNil)))) (fSl gSlL (fVar 3) (fPart (f2 gAdd (fVar 5) (fK (.int 1)))) fNoP))))
def lp2_law_cells_5 : Ev → Option Out := (fSeq (fSet 8 (f2 gIx (fC gLst (fCons (fK (.str " ")) (fCons (fK (.str "\n")) (fCons (fK (.str "\n\n")) fNil)))) (f2 gMod (f2 gAdd (f2 gIx (fVar 7) (fK (.int 0))) (f2 gIx (fVar 7) (fK (.int 3)))) (fK (.int 3)))))
  (fApp 6 (f2 gAdd (fVar 7) (fC gTup (fCons (f2 gAdd (f2 gAdd (f2 gAdd (f2 gAdd (f2 gAdd (fSl gSl (fVar 8) (fPart (fK (.int 1))) fNoP) (fK (.str "r"))) (fC gStr (fCons (f2 gIx (fVar 7) (fK (.int 0))) fNil))) (fVar 8)) (fK (.str "c"))) (fC gStr (fCons (f2 gIx (fVar 7) (fK (.int 1))) fNil))) fNil)))))
def body_law_cells_5 : Ev → Option Out := (fSeq (fSet 3 (fC gLst (fCons (fC gTup (fCons (fK (.int 0)) (fCons (fK (.int 0)) (fCons (fVar 1) (fCons (fVar 2) fNil))))) fNil)))
  (fSeq (fFor (fItems (fVar 0)) (b1 4) lp1_law_cells_5)
  (fSeq (fSetOw 6 (fC gLst fNil))
  (fSeq (fFor (fItems (fVar 3)) (b1 7) lp2_law_cells_5)
  (fFrz 6 (fRet (f1 gSortC (fVar 6))))))))
def m_law_cells_5 : List T → Option Res := runP 9 3 body_law_cells_5
def lp1_law_without : Ev → Option Out := (fSeq (fSetOw 5 (fC gList (fCons (fVar 4) fNil)))
  (fSeq (fIf (fTest (f2 gGt (f2 gIx (fVar 4) (fVar 1)) (fVar 2)))
  (fPut 5 (fVar 1) (f2 gSub (f2 gIx (fVar 4) (fVar 1)) (fK (.int 1))))
  (fIf (fTest (f2 gGt (f2 gAdd (f2 gIx (fVar 4) (fVar 1)) (f2 gIx (fVar 4) (f2 gAdd (fK (.int 2)) (fVar 1)))) (fVar 2)))
  (fPut 5 (f2 gAdd (fK (.int 2)) (fVar 1)) (f2 gSub (f2 gIx (fVar 4) (f2 gAdd (fK (.int 2)) (fVar 1))) (fK (.int 1))))
  fSkip))
  (fApp 3 (fC gTup (fCons (fIxL (fOw 5) (fK (.int 0))) (fCons (fIxL (fOw 5) (fK (.int 1))) (fCons (fIxL (fOw 5) (fK (.int 2))) (fCons (fIxL (fOw 5) (fK (.int 3))) (fCons (fIxL (fOw 5) (fK (.int 4))) fNil)))))))))
def body_law_without : Ev → Option Out := (fSeq (fSetOw 3 (fC gLst fNil))
  (fSeq (fFor (fItems (fVar 0)) (b1 4) lp1_law_without)
  (fFrz 3 (fRet (fVar 3)))))
def m_law_without : List T → Option Res := runP 6 3 body_law_without
def lp1_law_left : Ev → Option Out := (fIf (fTest (f2 gEq (fC gLen (fCons (fComp (fItems (fVar 0)) (b1 4) (fTest (f2 gEq (f2 gIx (fVar 4) (fVar 1)) (fVar 3))) (fVar 4) [4]) fNil)) (fK (.int 0))))
  (fSeq (fSet 0 (fCall m_law_without (fCons (fVar 0) (fCons (fVar 1) (fCons (fVar 3) fNil)))))
  (fSet 2 (f2 gSub (fVar 2) (fK (.int 1)))))
  fSkip)
def body_law_left : Ev → Option Out := (fSeq (fFor (fRng3 (fCons (f2 gSub (fVar 2) (fK (.int 1))) (fCons (fK (.int 0)) (fCons (f1 gNeg (fK (.int 1))) fNil)))) (b1 3) lp1_law_left)
  (fRet (fC gTup (fCons (fVar 0) (fCons (fVar 2) fNil)))))
def m_law_left : List T → Option Res := runP 5 3 body_law_left
def lp1_law_is : Ev → Option Out := (fIf (fOr (fNot (fTest (fCall m_law_whole (fCons (f2 gIx (fVar 4) (fVar 6)) fNil)))) (fTest (f2 gNe (f2 gIx (fVar 4) (fVar 6)) (f2 gIx (fVar 5) (fVar 6)))))
  (fRet (fK (.bl false)))
  fSkip)
def lp2_law_is : Ev → Option Out := (fSeq (fIf (fOr (fNot (fTest (f1 (gIs qTuple) (fVar 4)))) (fOr (fTest (f2 gNe (fC gLen (fCons (fVar 4) fNil)) (fK (.int 5)))) (fOr (fNot (fTest (f1 (gIs qStr) (f2 gIx (fVar 4) (fK (.int 4)))))) (fTest (f2 gNe (f2 gIx (fVar 4) (fK (.int 4))) (f2 gIx (fVar 5) (fK (.int 4))))))))
  (fRet (fK (.bl false)))
  fSkip)
  (fFor (fRng1 (fCons (fK (.int 4)) fNil)) (b1 6) lp1_law_is))
def body_law_is : Ev → Option Out := (fSeq (fIf (fOr (fNot (fTest (f1 (gIs qTuple) (fVar 0)))) (fOr (fTest (f2 gNe (fC gLen (fCons (fVar 0) fNil)) (fK (.int 3)))) (fOr (fNot (fTest (fCall m_law_whole (fCons (f2 gIx (fVar 0) (fK (.int 0))) fNil)))) (fNot (fTest (fCall m_law_whole (fCons (f2 gIx (fVar 0) (fK (.int 1))) fNil)))))))
  (fRet (fK (.bl false)))
  fSkip)
  (fSeq (fIf (fOr (fTest (f2 gNe (f2 gIx (fVar 0) (fK (.int 0))) (fVar 1))) (fOr (fTest (f2 gNe (f2 gIx (fVar 0) (fK (.int 1))) (fVar 2))) (fOr (fNot (fTest (f1 (gIs qList) (f2 gIx (fVar 0) (fK (.int 2)))))) (fTest (f2 gNe (fC gLen (fCons (f2 gIx (fVar 0) (fK (.int 2))) fNil)) (fC gLen (fCons (fVar 3) fNil)))))))
  (fRet (fK (.bl false)))
  fSkip)
  (fSeq (fFor (fZip (fCons (f2 gIx (fVar 0) (fK (.int 2))) (fCons (fVar 3) fNil))) (b2 4 5) lp2_law_is)
  (fRet (fK (.bl true))))))
def m_law_is : List T → Option Res := runP 7 4 body_law_is
def lp1_law_widened : Ev → Option Out := (fSeq (fApp 4 (f2 gAdd (f2 gAdd (fIxL (fOw 4) (fVar 5)) (fK (.int 1))) (f2 gMul (f2 gMod (fVar 3) (fK (.int 3))) (fC gInt (fCons (f2 gLt (fVar 2) (fK (.int 7))) fNil)))))
  (fSet 3 (f2 gDiv (fVar 3) (fK (.int 3)))))
def lp2_law_widened : Ev → Option Out := (fSeq (fSetOw 8 (fC gList (fCons (fVar 7) fNil)))
  (fSeq (fPut 8 (fVar 1) (fIxL (fOw 4) (f2 gIx (fVar 7) (fVar 1))))
  (fSeq (fSet 9 (fIxL (fOw 4) (f2 gAdd (f2 gIx (fVar 7) (fVar 1)) (f2 gIx (fVar 7) (f2 gAdd (fK (.int 2)) (fVar 1))))))
  (fSeq (fPut 8 (f2 gAdd (fK (.int 2)) (fVar 1)) (f2 gSub (fVar 9) (fIxL (fOw 8) (fVar 1))))
  (fApp 6 (fC gTup (fCons (fIxL (fOw 8) (fK (.int 0))) (fCons (fIxL (fOw 8) (fK (.int 1))) (fCons (fIxL (fOw 8) (fK (.int 2))) (fCons (fIxL (fOw 8) (fK (.int 3))) (fCons (fIxL (fOw 8) (fK (.int 4))) fNil)))))))))))
def body_law_widened : Ev → Option Out := (fSeq (fSetOw 4 (fC gLst (fCons (fK (.int 0)) fNil)))
  (fSeq (fFor (fRng1 (fCons (fVar 2) fNil)) (b1 5) lp1_law_widened)
  (fSeq (fSetOw 6 (fC gLst fNil))
  (fSeq (fFor (fItems (fVar 0)) (b1 7) lp2_law_widened)
  (fFrz 6 (fRet (fC gTup (fCons (fVar 6) (fCons (fIxL (fOw 4) (fVar 2)) fNil)))))))))
def m_law_widened : List T → Option Res := runP 10 4 body_law_widened
def body_law_K07 : Ev → Option Out := (fSeq (fSet 1 (fCall m_law_size (fCons (fCall m_law_at (fCons (fVar 0) (fCons (fK (.int 0)) fNil))) fNil)))
  (fSeq (fSet 2 (fCall m_law_size (fCons (fCall m_law_at (fCons (fVar 0) (fCons (fK (.int 1)) fNil))) fNil)))
  (fSeq (fSet 3 (fCall m_law_cells_5 (fCons (fSl gSlL (fVar 0) (fPart (fK (.int 4))) fNoP) (fCons (fVar 1) (fCons (fVar 2) fNil)))))
  (fSeq (fSet 4 (fCall m_law_at (fCons (fVar 0) (fCons (fK (.int 2)) fNil))))
  (fSeq (fIf (fTest (f2 gEq (f2 gMod (fVar 4) (fK (.int 2))) (fK (.int 1))))
  (fSeq (fSet 5 (fCall m_law_widened (fCons (fVar 3) (fCons (fK (.int 0)) (fCons (fVar 1) (fCons (f2 gDiv (fVar 4) (fK (.int 2))) fNil))))))
  (fSeq (fSet 3 (f2 gIx (fVar 5) (fK (.int 0))))
  (fSeq (fSet 1 (f2 gIx (fVar 5) (fK (.int 1))))
  (fSeq (fSet 5 (fCall m_law_widened (fCons (fVar 3) (fCons (fK (.int 1)) (fCons (fVar 2) (fCons (fCall m_law_at (fCons (fVar 0) (fCons (fK (.int 3)) fNil))) fNil))))))
  (fSeq (fSet 3 (f2 gIx (fVar 5) (fK (.int 0))))
  (fSet 2 (f2 gIx (fVar 5) (fK (.int 1)))))))))
  fSkip)
  (fSeq (fSet 6 (fC gTup (fCons (fVar 1) (fCons (fVar 2) (fCons (fC gList (fCons (fVar 3) fNil)) fNil)))))
  (fSeq (fSet 7 (fCall m_law_left (fCons (fVar 3) (fCons (fK (.int 0)) (fCons (fVar 1) fNil)))))
  (fSeq (fSet 8 (fCall m_law_left (fCons (f2 gIx (fVar 7) (fK (.int 0))) (fCons (fK (.int 1)) (fCons (fVar 2) fNil)))))
  (fSeq (fSetOt 9 (fCallN m_tight (fCons (fVar 6) fNil)))
  (fSeq (fIf (fBorT 9 (fOr (fNot (fTest (fCall m_law_is (fCons (fVar 9) (fCons (f2 gIx (fVar 7) (fK (.int 1))) (fCons (f2 gIx (fVar 8) (fK (.int 1))) (fCons (f2 gIx (fVar 8) (fK (.int 0))) fNil))))))) (fTest (f2 gNe (f2 gIx (fVar 6) (fK (.int 2))) (fVar 3)))))
  (fRet (fK (.bl false)))
  fSkip)
  (fSeq (fSetOt 10 (fBorN 9 (fCallN m_tight (fCons (fVar 9) fNil))))
  (fSeq (fIf (fBorT 10 (fNot (fTest (fCall m_law_is (fCons (fVar 10) (fCons (f2 gIx (fVar 7) (fK (.int 1))) (fCons (f2 gIx (fVar 8) (fK (.int 1))) (fCons (f2 gIx (fVar 8) (fK (.int 0))) fNil))))))))
  (fRet (fK (.bl false)))
  fSkip)
  (fSeq (fClrT 10 2)
  (fSeq (fIf (fBorT 9 (fNot (fTest (fCall m_law_is (fCons (fVar 9) (fCons (f2 gIx (fVar 7) (fK (.int 1))) (fCons (f2 gIx (fVar 8) (fK (.int 1))) (fCons (f2 gIx (fVar 8) (fK (.int 0))) fNil))))))))
  (fRet (fK (.bl false)))
  fSkip)
  (fSeq (fClrT 9 2)
  (fRet (f2 gEq (f2 gIx (fVar 6) (fK (.int 2))) (fVar 3))))))))))))))))))
def m_law_K07 : List T → Option Res := runP 11 1 body_law_K07
def body_turned : Ev → Option Out := (fSeq (fSet 1 (fComp (fItems (f2 gIx (fVar 0) (fK (.int 2)))) (b1 2) fYes (fC gTup (fCons (f2 gIx (fVar 2) (fK (.int 1))) (fCons (f2 gIx (fVar 2) (fK (.int 0))) (fCons (f2 gIx (fVar 2) (fK (.int 3))) (fCons (f2 gIx (fVar 2) (fK (.int 2))) (fCons (f2 gIx (fVar 2) (fK (.int 4))) fNil)))))) [2]))
  (fRetF (fTupN (fCons (f2 gIx (fVar 0) (fK (.int 1))) (fCons (f2 gIx (fVar 0) (fK (.int 0))) fNil)) (f1 gSortC (fVar 1)))))
def m_turned : List T → Option Res := runP 3 1 body_turned
def body_law_text_2 : Ev → Option Out := (fSeq (fSet 1 (fK (.str " !\"#$&'()*+,-./0123456789:;<=>?@ABCDEFGHIJKLMNOPQRSTUVWXYZ[\\]^_`")))
  (fSeq (fSet 1 (f2 gAdd (fVar 1) (fK (.str "abcdefghijklmnopqrstuvwxyz{|}~"))))
  (fSeq (fSet 2 (f2 gDiv (fVar 0) (fK (.int 18))))
  (fSeq (fSet 3 (fM gRstrip (fM gJoin (fK (.str "")) (fCons (fComp (fRng1 (fCons (f2 gMod (f2 gDiv (fVar 0) (fK (.int 2))) (fK (.int 9))) fNil)) (b1 4) fYes (f2 gIx (fVar 1) (f2 gMod (f2 gAdd (fVar 2) (f2 gMul (fVar 4) (f2 gAdd (fK (.int 1)) (f2 gMod (f2 gDiv (fVar 2) (fK (.int 94))) (fK (.int 93)))))) (fK (.int 94)))) [4]) fNil)) (fCons (fK (.str " ")) fNil)))
  (fRet (f2 gAdd (f2 gIx (fC gLst (fCons (fK (.str "")) (fCons (fK (.str "first\n")) fNil))) (f2 gMul (f2 gMod (fVar 0) (fK (.int 2))) (fC gInt (fCons (f2 gNe (fVar 3) (fK (.str ""))) fNil)))) (fVar 3)))))))
def m_law_text_2 : List T → Option Res := runP 5 1 body_law_text_2
def lp1_law_cells_6 : Ev → Option Out := (fSeq (fSet 5 (f2 gMod (f2 gIx (fVar 0) (fVar 4)) (fC gLen (fCons (fVar 3) fNil))))
  (fSet 3 (f2 gCat (f2 gCat (fSl gSlL (fVar 3) fNoP (fPart (fVar 5))) (fCall m_law_parts (fCons (f2 gIx (fVar 3) (fVar 5)) (fCons (f2 gDiv (f2 gIx (fVar 0) (fVar 4)) (fC gLen (fCons (fVar 3) fNil))) fNil)))) (fSl gSlL (fVar 3) (fPart (f2 gAdd (fVar 5) (fK (.int 1)))) fNoP))))
def body_law_cells_6 : Ev → Option Out := (fSeq (fSet 3 (fC gLst (fCons (fC gTup (fCons (fK (.int 0)) (fCons (fK (.int 0)) (fCons (fVar 1) (fCons (fVar 2) fNil))))) fNil)))
  (fSeq (fFor (fRng3 (fCons (fK (.int 2)) (fCons (fC gLen (fCons (fVar 0) fNil)) (fCons (fK (.int 2)) fNil)))) (b1 4) lp1_law_cells_6)
  (fRet (f1 gSortC (fComp (fEnum (fCons (fVar 3) fNil)) (b2 4 6) fYes (f2 gAdd (fVar 6) (fC gTup (fCons (fCall m_law_text_2 (fCons (fCall m_law_at (fCons (fVar 0) (fCons (f2 gAdd (fK (.int 3)) (f2 gMul (fK (.int 2)) (fVar 4))) fNil))) fNil)) fNil))) [4, 6])))))
def m_law_cells_6 : List T → Option Res := runP 7 3 body_law_cells_6
def lp1_law_K08 : Ev → Option Out := (fSet 6 (f2 gCat (fVar 6) (fComp (fItems (fVar 3)) (b1 10) (fAnd (fTest (f2 gEq (f2 gIx (fVar 10) (fK (.int 0))) (fVar 8))) (fTest (f2 gEq (f2 gIx (fVar 10) (fK (.int 1))) (fVar 7)))) (fC gTup (fCons (fVar 7) (fCons (fVar 8) (fCons (f2 gIx (fVar 10) (fK (.int 3))) (fCons (f2 gIx (fVar 10) (fK (.int 2))) (fCons (f2 gIx (fVar 10) (fK (.int 4))) fNil)))))) [10])))
def lp2_law_K08 : Ev → Option Out := (fFor (fRng1 (fCons (fVar 1) fNil)) (b1 8) lp1_law_K08)
def body_law_K08 : Ev → Option Out := (fSeq (fSet 1 (fCall m_law_size (fCons (fCall m_law_at (fCons (fVar 0) (fCons (fK (.int 0)) fNil))) fNil)))
  (fSeq (fSet 2 (fCall m_law_size (fCons (fCall m_law_at (fCons (fVar 0) (fCons (fK (.int 1)) fNil))) fNil)))
  (fSeq (fSet 3 (fCall m_law_cells_6 (fCons (fVar 0) (fCons (fVar 1) (fCons (fVar 2) fNil)))))
  (fSeq (fSet 4 (fC gTup (fCons (fVar 1) (fCons (fVar 2) (fCons (fC gList (fCons (fVar 3) fNil)) fNil)))))
  (fSeq (fSet 5 (fCallN m_turned (fCons (fVar 4) fNil)))
  (fSeq (fSet 6 (fC gLst fNil))
  (fSeq (fFor (fRng1 (fCons (fVar 2) fNil)) (b1 7) lp2_law_K08)
  (fSeq (fIf (fOr (fNot (fTest (fCall m_law_is (fCons (fVar 5) (fCons (fVar 2) (fCons (fVar 1) (fCons (fVar 6) fNil))))))) (fTest (f2 gNe (f2 gIx (fVar 4) (fK (.int 2))) (fVar 3))))
  (fRet (fK (.bl false)))
  fSkip)
  (fSeq (fSetOt 9 (fCallN m_turned (fCons (fVar 5) fNil)))
  (fSeq (fIf (fBorT 9 (fNot (fTest (fCall m_law_is (fCons (fVar 9) (fCons (fVar 1) (fCons (fVar 2) (fCons (fVar 3) fNil))))))))
  (fRet (fK (.bl false)))
  fSkip)
  (fSeq (fClrT 9 2)
  (fRet (fAndV (fCall m_law_is (fCons (fVar 5) (fCons (fVar 2) (fCons (fVar 1) (fCons (fVar 6) fNil))))) (f2 gEq (f2 gIx (fVar 4) (fK (.int 2))) (fVar 3)))))))))))))))
def m_law_K08 : List T → Option Res := runP 11 1 body_law_K08
def body_meets : Ev → Option Out := (fSeq (fIf (fOr (fTest (f2 gLe (f2 gAdd (f2 gIx (fVar 0) (fK (.int 0))) (f2 gIx (fVar 0) (fK (.int 2)))) (f2 gIx (fVar 1) (fK (.int 0))))) (fTest (f2 gLe (f2 gAdd (f2 gIx (fVar 1) (fK (.int 0))) (f2 gIx (fVar 1) (fK (.int 2)))) (f2 gIx (fVar 0) (fK (.int 0))))))
  (fRet (fK (.bl false)))
  fSkip)
  (fRet (fAndV (f2 gGt (f2 gAdd (f2 gIx (fVar 0) (fK (.int 1))) (f2 gIx (fVar 0) (fK (.int 3)))) (f2 gIx (fVar 1) (fK (.int 1)))) (f2 gGt (f2 gAdd (f2 gIx (fVar 1) (fK (.int 1))) (f2 gIx (fVar 1) (fK (.int 3)))) (f2 gIx (fVar 0) (fK (.int 1)))))))
def m_meets : List T → Option Res := runP 2 2 body_meets
def body_is_within : Ev → Option Out := (fSeq (fIf (fOr (fTest (f2 gLt (f2 gIx (fVar 0) (fK (.int 0))) (f2 gIx (fVar 1) (fK (.int 0))))) (fTest (f2 gGt (f2 gAdd (f2 gIx (fVar 0) (fK (.int 0))) (f2 gIx (fVar 0) (fK (.int 2)))) (f2 gAdd (f2 gIx (fVar 1) (fK (.int 0))) (f2 gIx (fVar 1) (fK (.int 2)))))))
  (fRet (fK (.bl false)))
  fSkip)
  (fRet (fAndV (f2 gGe (f2 gIx (fVar 0) (fK (.int 1))) (f2 gIx (fVar 1) (fK (.int 1)))) (f2 gLe (f2 gAdd (f2 gIx (fVar 0) (fK (.int 1))) (f2 gIx (fVar 0) (fK (.int 3)))) (f2 gAdd (f2 gIx (fVar 1) (fK (.int 1))) (f2 gIx (fVar 1) (fK (.int 3))))))))
def m_is_within : List T → Option Res := runP 2 2 body_is_within
def lp1_joined : Ev → Option Out := (fIf (fNot (fTest (fCall m_is_within (fCons (fVar 7) (fCons (fVar 5) fNil)))))
  (fRaise "Cut")
  fSkip)
def body_joined : Ev → Option Out := (fSeq (fSet 5 (fC gTup (fCons (fVar 1) (fCons (fVar 2) (fCons (fVar 3) (fCons (fVar 4) fNil))))))
  (fSeq (fIf (fNot (fTest (fCall m_lies_in (fCons (fVar 5) (fCons (f2 gIx (fVar 0) (fK (.int 0))) (fCons (f2 gIx (fVar 0) (fK (.int 1))) fNil))))))
  (fRaise "BadCell")
  fSkip)
  (fSeq (fSet 6 (fComp (fItems (f2 gIx (fVar 0) (fK (.int 2)))) (b1 7) (fTest (fCall m_meets (fCons (fVar 7) (fCons (fVar 5) fNil)))) (fVar 7) [7]))
  (fSeq (fFor (fItems (fVar 6)) (b1 7) lp1_joined)
  (fSeq (fSet 8 (fM gJoin (fK (.str "\n")) (fCons (fComp (fItems (fVar 6)) (b1 7) (fTest (f2 gNe (f2 gIx (fVar 7) (fK (.int 4))) (fK (.str "")))) (f2 gIx (fVar 7) (fK (.int 4))) [7]) fNil)))
  (fSeq (fIf (fNot (fTest (fCall m_is_good (fCons (fVar 8) fNil))))
  (fRaise "BadText")
  fSkip)
  (fSeq (fSetOw 9 (fComp (fItems (f2 gIx (fVar 0) (fK (.int 2)))) (b1 7) (fNot (fTest (fCall m_meets (fCons (fVar 7) (fCons (fVar 5) fNil))))) (fVar 7) [7]))
  (fSeq (fApp 9 (fC gTup (fCons (fVar 1) (fCons (fVar 2) (fCons (fVar 3) (fCons (fVar 4) (fCons (fVar 8) fNil)))))))
  (fFrz 9 (fRetF (fTupN (fCons (f2 gIx (fVar 0) (fK (.int 0))) (fCons (f2 gIx (fVar 0) (fK (.int 1))) fNil)) (f1 gSortC (fVar 9)))))))))))))
def m_joined : List T → Option Res := runB 10 5 body_joined
def lp1_parted : Ev → Option Out := (fSeq (fSet 7 (fK (.str "")))
  (fSeq (fIf (fAnd (fTest (f2 gEq (fVar 5) (f2 gIx (fVar 3) (fK (.int 0))))) (fTest (f2 gEq (fVar 6) (f2 gIx (fVar 3) (fK (.int 1))))))
  (fSet 7 (f2 gIx (fVar 3) (fK (.int 4))))
  fSkip)
  (fApp 4 (fC gTup (fCons (fVar 5) (fCons (fVar 6) (fCons (fK (.int 1)) (fCons (fK (.int 1)) (fCons (fVar 7) fNil)))))))))
def lp2_parted : Ev → Option Out := (fFor (fRng2 (fCons (f2 gIx (fVar 3) (fK (.int 1))) (fCons (f2 gAdd (f2 gIx (fVar 3) (fK (.int 1))) (f2 gIx (fVar 3) (fK (.int 3)))) fNil))) (b1 6) lp1_parted)
def body_parted : Ev → Option Out := (fSeq (fCallSet 3 m_owner (fCons (fVar 0) (fCons (fVar 1) (fCons (fVar 2) fNil))))
  (fSeq (fSetOw 4 (fComp (fItems (f2 gIx (fVar 0) (fK (.int 2)))) (b1 8) (fTest (f2 gNe (fCall m_corner (fCons (fVar 8) fNil)) (fCall m_corner (fCons (fVar 3) fNil)))) (fVar 8) [8]))
  (fSeq (fFor (fRng2 (fCons (f2 gIx (fVar 3) (fK (.int 0))) (fCons (f2 gAdd (f2 gIx (fVar 3) (fK (.int 0))) (f2 gIx (fVar 3) (fK (.int 2)))) fNil))) (b1 5) lp2_parted)
  (fFrz 4 (fRetF (fTupN (fCons (f2 gIx (fVar 0) (fK (.int 0))) (fCons (f2 gIx (fVar 0) (fK (.int 1))) fNil)) (f1 gSortC (fVar 4))))))))
def m_parted : List T → Option Res := runB 9 3 body_parted
def body_law_text_3 : Ev → Option Out := (fSeq (fSet 1 (f2 gDiv (fVar 0) (fK (.int 16))))
  (fSeq (fIf (fTest (f2 gEq (f2 gMod (fVar 0) (fK (.int 4))) (fK (.int 1))))
  (fRet (fCall m_law_line (fCons (f2 gDiv (fVar 1) (fK (.int 200))) (fCons (f2 gMod (fVar 1) (fK (.int 200))) fNil))))
  fSkip)
  (fSeq (fIf (fTest (f2 gEq (f2 gMod (fVar 0) (fK (.int 16))) (fK (.int 14))))
  (fSeq (fSet 2 (fComp (fRng1 (fCons (f2 gAdd (fK (.int 1)) (f2 gMod (fVar 1) (fK (.int 60)))) fNil)) (b1 3) fYes (fCall m_law_line (fCons (f2 gAdd (f2 gDiv (fVar 1) (fK (.int 60))) (f2 gMul (fK (.int 7)) (fVar 3))) (fCons (f2 gMod (f2 gAdd (fVar 1) (fVar 3)) (fK (.int 3))) fNil))) [3]))
  (fRet (f2 gAdd (fM gJoin (fK (.str "\n")) (fCons (fVar 2) fNil)) (fK (.str ".")))))
  fSkip)
  (fSeq (fIf (fTest (f2 gEq (f2 gMod (fVar 0) (fK (.int 4))) (fK (.int 2))))
  (fSeq (fSet 2 (fComp (fRng1 (fCons (f2 gAdd (fK (.int 1)) (f2 gMod (fVar 1) (fK (.int 6)))) fNil)) (b1 3) fYes (fCall m_law_line (fCons (f2 gAdd (f2 gDiv (fVar 1) (fK (.int 36))) (f2 gMul (fK (.int 29)) (fVar 3))) (fCons (f2 gMod (f2 gAdd (f2 gDiv (fVar 1) (fK (.int 4))) (f2 gMul (fK (.int 2)) (fVar 3))) (fK (.int 5))) fNil))) [3]))
  (fRet (f2 gAdd (fM gJoin (fK (.str "\n")) (fCons (fVar 2) fNil)) (fK (.str ".")))))
  fSkip)
  (fRet (fCall m_law_line (fCons (f2 gDiv (fVar 1) (fK (.int 9))) (fCons (f2 gMul (f2 gMod (fVar 1) (fK (.int 9))) (fC gInt (fCons (f2 gEq (f2 gMod (fVar 0) (fK (.int 4))) (fK (.int 3))) fNil))) fNil))))))))
def m_law_text_3 : List T → Option Res := runP 4 1 body_law_text_3
def lp1_law_cells_7 : Ev → Option Out := (fSeq (fSet 5 (f2 gMod (f2 gIx (fVar 0) (fVar 4)) (fC gLen (fCons (fVar 3) fNil))))
  (fSet 3 (f2 gCat (f2 gCat (fSl gSlL (fVar 3) fNoP (fPart (fVar 5))) (fCall m_law_parts (fCons (f2 gIx (fVar 3) (fVar 5)) (fCons (f2 gDiv (f2 gIx (fVar 0) (fVar 4)) (fC gLen (fCons (fVar 3) fNil))) fNil)))) (fSl gSlL (fVar 3) (fPart (f2 gAdd (fVar 5) (fK (.int 1)))) fNoP))))
def body_law_cells_7 : Ev → Option Out := (fSeq (fSet 3 (fC gLst (fCons (fC gTup (fCons (fK (.int 0)) (fCons (fK (.int 0)) (fCons (fVar 1) (fCons (fVar 2) fNil))))) fNil)))
  (fSeq (fFor (fRng3 (fCons (fK (.int 5)) (fCons (fC gLen (fCons (fVar 0) fNil)) (fCons (fK (.int 2)) fNil)))) (b1 4) lp1_law_cells_7)
  (fRet (f1 gSortC (fComp (fEnum (fCons (fVar 3) fNil)) (b2 4 6) fYes (f2 gAdd (fVar 6) (fC gTup (fCons (fCall m_law_text_3 (fCons (fCall m_law_at (fCons (fVar 0) (fCons (f2 gAdd (fK (.int 6)) (f2 gMul (fK (.int 2)) (fVar 4))) fNil))) fNil)) fNil))) [4, 6])))))
def m_law_cells_7 : List T → Option Res := runP 7 3 body_law_cells_7
def body_law_part : Ev → Option Out := (fSeq (fSet 4 (f2 gDiv (fVar 3) (fK (.int 4))))
  (fSeq (fIf (fTest (f2 gEq (f2 gMod (fVar 3) (fK (.int 4))) (fK (.int 3))))
  (fRet (fC gTup (fCons (fK (.int 0)) (fCons (fK (.int 0)) (fCons (fVar 1) (fCons (fVar 2) fNil))))))
  fSkip)
  (fSeq (fIf (fTest (f2 gEq (f2 gMod (fVar 3) (fK (.int 4))) (fK (.int 0))))
  (fSeq (fSet 5 (f2 gIx (fVar 0) (f2 gMod (fVar 4) (fC gLen (fCons (fVar 0) fNil)))))
  (fSeq (fSet 6 (f2 gIx (fVar 0) (f2 gMod (f2 gDiv (fVar 4) (fC gLen (fCons (fVar 0) fNil))) (fC gLen (fCons (fVar 0) fNil)))))
  (fSeq (fSet 7 (fC gMin (fCons (f2 gIx (fVar 5) (fK (.int 0))) (fCons (f2 gIx (fVar 6) (fK (.int 0))) fNil))))
  (fSeq (fSet 8 (fC gMin (fCons (f2 gIx (fVar 5) (fK (.int 1))) (fCons (f2 gIx (fVar 6) (fK (.int 1))) fNil))))
  (fSeq (fSet 9 (f2 gSub (fC gMax (fCons (f2 gAdd (f2 gIx (fVar 5) (fK (.int 0))) (f2 gIx (fVar 5) (fK (.int 2)))) (fCons (f2 gAdd (f2 gIx (fVar 6) (fK (.int 0))) (f2 gIx (fVar 6) (fK (.int 2)))) fNil))) (fVar 7)))
  (fRet (fC gTup (fCons (fVar 7) (fCons (fVar 8) (fCons (fVar 9) (fCons (f2 gSub (fC gMax (fCons (f2 gAdd (f2 gIx (fVar 5) (fK (.int 1))) (f2 gIx (fVar 5) (fK (.int 3)))) (fCons (f2 gAdd (f2 gIx (fVar 6) (fK (.int 1))) (f2 gIx (fVar 6) (fK (.int 3)))) fNil))) (fVar 8)) fNil)))))))))))
  fSkip)
  (fSeq (fSet 7 (f2 gMod (fVar 4) (fVar 1)))
  (fSeq (fSet 8 (f2 gMod (f2 gDiv (fVar 4) (fVar 1)) (fVar 2)))
  (fSeq (fSet 4 (f2 gDiv (f2 gDiv (fVar 4) (fVar 1)) (fVar 2)))
  (fSeq (fSet 10 (fC gTup (fCons (fVar 7) (fCons (fVar 8) (fCons (f2 gAdd (fK (.int 1)) (f2 gMod (fVar 4) (f2 gSub (fVar 1) (fVar 7)))) (fCons (f2 gAdd (fK (.int 1)) (f2 gMod (f2 gDiv (fVar 4) (f2 gSub (fVar 1) (fVar 7))) (f2 gSub (fVar 2) (fVar 8)))) fNil))))))
  (fSeq (fIf (fTest (f2 gEq (f2 gMod (fVar 3) (fK (.int 4))) (fK (.int 1))))
  (fSeq (fSet 4 (fC gAbs (fCons (f2 gDiv (fVar 4) (fK (.int 400))) fNil)))
  (fSeq (fSet 11 (f2 gMod (fVar 4) (fK (.int 4))))
  (fSeq (fSet 12 (f2 gIx (fC gLst (fCons (f2 gAdd (f2 gSub (fVar 1) (fVar 7)) (fK (.int 1))) (fCons (f2 gAdd (f2 gSub (fVar 2) (fVar 8)) (fK (.int 1))) fNil))) (f2 gMod (fVar 11) (fK (.int 2)))))
  (fSeq (fSet 13 (f2 gIx (fC gLst (fCons (f2 gIx (fC gLst (fCons (f1 gNeg (fK (.int 1))) (fCons (f1 gNeg (fK (.int 1))) (fCons (fK (.int 0)) (fCons (fK (.int 0)) fNil))))) (fVar 11)) (fCons (f2 gAdd (fK (.int 21)) (f2 gMod (f2 gDiv (fVar 4) (fK (.int 24))) (f2 gPow (fK (.int 10)) (fK (.int 60))))) (fCons (fK .non) (fCons (fK (.bl true)) (fCons (fK (.str "1")) (fCons (fVar 12) (fCons (fK (.bl false)) fNil)))))))) (f2 gMod (f2 gDiv (fVar 4) (fK (.int 4))) (fK (.int 7)))))
  (fSeq (fIf (fTest (f2 gEq (f2 gMod (f2 gDiv (fVar 4) (fK (.int 4))) (fK (.int 6))) (fK (.int 5))))
  (fSet 11 (f2 gAdd (fK (.int 2)) (f2 gMod (fVar 11) (fK (.int 2)))))
  fSkip)
  (fRet (f2 gAdd (f2 gAdd (fSl gSl (fVar 10) fNoP (fPart (fVar 11))) (fC gTup (fCons (fVar 13) fNil))) (fSl gSl (fVar 10) (fPart (f2 gAdd (fVar 11) (fK (.int 1)))) fNoP))))))))
  fSkip)
  (fRet (fVar 10))))))))))
def m_law_part : List T → Option Res := runP 14 4 body_law_part
def lp1_law_due : Ev → Option Out := (fIf (fNot (fTest (fCall m_law_whole (fCons (fVar 4) fNil))))
  (fRet (fK (.str "cell")))
  fSkip)
def lp2_law_due : Ev → Option Out := (fSeq (fSet 8 (fOrV (f2 gGe (f2 gIx (fVar 7) (fK (.int 0))) (f2 gAdd (f2 gIx (fVar 3) (fK (.int 0))) (f2 gIx (fVar 3) (fK (.int 2))))) (f2 gLe (f2 gAdd (f2 gIx (fVar 7) (fK (.int 0))) (f2 gIx (fVar 7) (fK (.int 2)))) (f2 gIx (fVar 3) (fK (.int 0))))))
  (fIf (fOr (fTest (fVar 8)) (fOr (fTest (f2 gGe (f2 gIx (fVar 7) (fK (.int 1))) (f2 gAdd (f2 gIx (fVar 3) (fK (.int 1))) (f2 gIx (fVar 3) (fK (.int 3)))))) (fTest (f2 gLe (f2 gAdd (f2 gIx (fVar 7) (fK (.int 1))) (f2 gIx (fVar 7) (fK (.int 3)))) (f2 gIx (fVar 3) (fK (.int 1)))))))
  (fApp 6 (fVar 7))
  (fIf (fTest (f2 gLt (fC gMin3 (fCons (f2 gSub (f2 gIx (fVar 7) (fK (.int 0))) (f2 gIx (fVar 3) (fK (.int 0)))) (fCons (f2 gSub (f2 gIx (fVar 7) (fK (.int 1))) (f2 gIx (fVar 3) (fK (.int 1)))) (fCons (f2 gSub (f2 gSub (f2 gAdd (f2 gIx (fVar 3) (fK (.int 0))) (f2 gIx (fVar 3) (fK (.int 2)))) (f2 gIx (fVar 7) (fK (.int 0)))) (f2 gIx (fVar 7) (fK (.int 2)))) fNil)))) (fK (.int 0))))
  (fRet (fK (.str "cut")))
  (fIf (fTest (f2 gLt (f2 gAdd (f2 gIx (fVar 3) (fK (.int 1))) (f2 gIx (fVar 3) (fK (.int 3)))) (f2 gAdd (f2 gIx (fVar 7) (fK (.int 1))) (f2 gIx (fVar 7) (fK (.int 3))))))
  (fRet (fK (.str "cut")))
  (fSet 5 (f2 gCat (fVar 5) (f2 gRep (fC gLst (fCons (f2 gIx (fVar 7) (fK (.int 4))) fNil)) (fC gInt (fCons (f2 gNe (f2 gIx (fVar 7) (fK (.int 4))) (fK (.str ""))) fNil)))))))))
def body_law_due : Ev → Option Out := (fSeq (fFor (fTup (fVar 3)) (b1 4) lp1_law_due)
  (fSeq (fIf (fOr (fTest (f2 gLt (fC gMin (fCons (f2 gIx (fVar 3) (fK (.int 0))) (fCons (f2 gIx (fVar 3) (fK (.int 1))) fNil))) (fK (.int 0)))) (fOr (fTest (f2 gLt (fC gMin (fCons (f2 gIx (fVar 3) (fK (.int 2))) (fCons (f2 gIx (fVar 3) (fK (.int 3))) fNil))) (fK (.int 1)))) (fTest (f2 gGt (f2 gAdd (f2 gIx (fVar 3) (fK (.int 0))) (f2 gIx (fVar 3) (fK (.int 2)))) (fVar 1)))))
  (fRet (fK (.str "cell")))
  fSkip)
  (fSeq (fIf (fTest (f2 gGt (f2 gAdd (f2 gIx (fVar 3) (fK (.int 1))) (f2 gIx (fVar 3) (fK (.int 3)))) (fVar 2)))
  (fRet (fK (.str "cell")))
  fSkip)
  (fSeq (fSet 5 (fC gLst fNil))
  (fSeq (fSetOw 6 (fC gLst fNil))
  (fSeq (fFor (fItems (fVar 0)) (b1 7) lp2_law_due)
  (fSeq (fIf (fTest (f2 gGt (fC gLen (fCons (fM gJoin (fK (.str "\n")) (fCons (fVar 5) fNil)) fNil)) (fK (.int 200))))
  (fRet (fK (.str "text")))
  fSkip)
  (fFrz 6 (fRet (f1 gSortC (f2 gCat (fVar 6) (fC gLst (fCons (f2 gAdd (fVar 3) (fC gTup (fCons (fM gJoin (fK (.str "\n")) (fCons (fVar 5) fNil)) fNil))) fNil)))))))))))))
def m_law_due : List T → Option Res := runP 9 4 body_law_due
def body_law_tried : Ev → Option Out := (fTryAs 2 (fCallRet m_joined (fCons (fVar 0) (fCons (f2 gIx (fVar 1) (fK (.int 0))) (fCons (f2 gIx (fVar 1) (fK (.int 1))) (fCons (f2 gIx (fVar 1) (fK (.int 2))) (fCons (f2 gIx (fVar 1) (fK (.int 3))) fNil)))))) ["BadCell", "BadText", "Cut", "NoSquare"] fun c a => (fSeq (fSet 3 (f2 gIx (fC gLst (fCons (fK (.str "")) (fCons (fK (.str "no value error ")) fNil))) (fC gInt (fCons (fNotV (fIsE 2 a true)) fNil))))
  (fSeq (fIf (fTest (fIsE 2 a (subX c "BadCell")))
  (fSet 3 (f2 gAdd (fVar 3) (fK (.str "cell"))))
  fSkip)
  (fSeq (fIf (fTest (fIsE 2 a (subX c "Cut")))
  (fSet 3 (f2 gAdd (fVar 3) (fK (.str "cut"))))
  fSkip)
  (fSeq (fIf (fTest (fIsE 2 a (subX c "BadText")))
  (fSet 3 (f2 gAdd (fVar 3) (fK (.str "text"))))
  fSkip)
  (fSeq (fIf (fOr (fTest (fIsE 2 a (subX c "BadSize"))) (fOr (fTest (fIsE 2 a (subX c "Shared"))) (fTest (fIsE 2 a (subX c "Bare")))))
  (fSet 3 (f2 gAdd (fVar 3) (fK (.str "another"))))
  fSkip)
  (fSeq (fIf (fOr (fTest (fIsE 2 a (subX c "NoSquare"))) (fTest (fIsE 2 a (subX c "NoDrawing"))))
  (fSet 3 (f2 gAdd (fVar 3) (fK (.str "another"))))
  fSkip)
  (fRet (fVar 3)))))))))
def m_law_tried : List T → Option Res := runP 4 2 body_law_tried
def body_law_no_square : Ev → Option Out := (fSeq (fTryOnly (fCallDrop m_parted (fCons (fVar 0) (fCons (fVar 1) (fCons (fVar 2) fNil)))) ["NoSquare"] fun c => (fRet (fK (.bl true))))
  (fRet (fK (.bl false))))
def m_law_no_square : List T → Option Res := runP 3 3 body_law_no_square
def lp1_law_parted_well : Ev → Option Out := (fIf (fAnd (fTest (fChain gLe gLt (f2 gIx (fVar 11) (fK (.int 0))) (fVar 5) (f2 gAdd (f2 gIx (fVar 11) (fK (.int 0))) (f2 gIx (fVar 11) (fK (.int 2)))))) (fTest (fChain gLe gLt (f2 gIx (fVar 11) (fK (.int 1))) (fVar 6) (f2 gAdd (f2 gIx (fVar 11) (fK (.int 1))) (f2 gIx (fVar 11) (fK (.int 3)))))))
  (fSet 10 (fVar 11))
  (fApp 9 (fVar 11)))
def lp2_law_parted_well : Ev → Option Out := (fApp 9 (fC gTup (fCons (f2 gAdd (f2 gIx (fVar 10) (fK (.int 0))) (f2 gDiv (fVar 12) (f2 gIx (fVar 10) (fK (.int 3))))) (fCons (f2 gAdd (f2 gIx (fVar 10) (fK (.int 1))) (f2 gMod (fVar 12) (f2 gIx (fVar 10) (fK (.int 3))))) (fCons (fK (.int 1)) (fCons (fK (.int 1)) (fCons (f2 gIx (fC gLst (fCons (fK (.str "")) (fCons (f2 gIx (fVar 10) (fK (.int 4))) fNil))) (fC gInt (fCons (f2 gEq (fVar 12) (fK (.int 0))) fNil))) fNil)))))))
def body_law_parted_well : Ev → Option Out := (fSeq (fSet 5 (f2 gMod (fVar 4) (fVar 1)))
  (fSeq (fSet 6 (f2 gMod (f2 gDiv (fVar 4) (fVar 1)) (fVar 2)))
  (fSeq (fSet 7 (f2 gMod (fC gAbs (fCons (fVar 4) fNil)) (f2 gPow (fK (.int 10)) (fK (.int 60)))))
  (fSeq (fSet 8 (f2 gIx (fC gLst (fCons (f2 gSub (f1 gNeg (fK (.int 1))) (fVar 7)) (fCons (f2 gAdd (f2 gAdd (fVar 1) (fVar 2)) (fVar 7)) (fCons (fK .non) (fCons (fK (.str "0")) (fCons (fK (.bl true)) (fCons (fK (.bl false)) fNil))))))) (f2 gMod (f2 gDiv (f2 gDiv (fVar 4) (fVar 1)) (fVar 2)) (fK (.int 6)))))
  (fSeq (fIf (fOr (fNot (fTest (fCall m_law_no_square (fCons (fVar 0) (fCons (fVar 8) (fCons (fVar 6) fNil)))))) (fNot (fTest (fCall m_law_no_square (fCons (fVar 0) (fCons (fVar 5) (fCons (fVar 8) fNil)))))))
  (fRet (fK (.bl false)))
  fSkip)
  (fSeq (fIf (fOr (fNot (fTest (fCall m_law_no_square (fCons (fVar 0) (fCons (fVar 1) (fCons (fVar 6) fNil)))))) (fNot (fTest (fCall m_law_no_square (fCons (fVar 0) (fCons (fVar 5) (fCons (f1 gNeg (fK (.int 1))) fNil)))))))
  (fRet (fK (.bl false)))
  fSkip)
  (fSeq (fSetOw 9 (fC gLst fNil))
  (fSeq (fSet 10 (fK .non))
  (fSeq (fFor (fItems (fVar 3)) (b1 11) lp1_law_parted_well)
  (fSeq (fFor (fRng1 (fCons (f2 gMul (f2 gIx (fVar 10) (fK (.int 2))) (f2 gIx (fVar 10) (fK (.int 3)))) fNil)) (b1 12) lp2_law_parted_well)
  (fSeq (fSetOt 13 (fCallN m_parted (fCons (fVar 0) (fCons (fVar 5) (fCons (fVar 6) fNil)))))
  (fSeq (fFrz 9 (fIf (fBorT 13 (fNot (fTest (fCall m_law_is (fCons (fVar 13) (fCons (fVar 1) (fCons (fVar 2) (fCons (f1 gSortC (fVar 9)) fNil))))))))
  (fRet (fK (.bl false)))
  fSkip))
  (fSeq (fSetOt 14 (fBorN 13 (fCallN m_joined (fCons (fVar 13) (fCons (f2 gIx (fVar 10) (fK (.int 0))) (fCons (f2 gIx (fVar 10) (fK (.int 1))) (fCons (f2 gIx (fVar 10) (fK (.int 2))) (fCons (f2 gIx (fVar 10) (fK (.int 3))) fNil))))))))
  (fSeq (fIf (fBorT 14 (fNot (fTest (fCall m_law_is (fCons (fVar 14) (fCons (fVar 1) (fCons (fVar 2) (fCons (fVar 3) fNil))))))))
  (fRet (fK (.bl false)))
  fSkip)
  (fSeq (fClrT 14 2)
  (fSeq (fIf (fBorT 13 (fNot (fTest (fCall m_law_is (fCons (fVar 13) (fCons (fVar 1) (fCons (fVar 2) (fCons (f1 gSortC (fVar 9)) fNil))))))))
  (fRet (fK (.bl false)))
  fSkip)
  (fSeq (fClrT 13 2)
  (fRet (fK (.bl true))))))))))))))))))))
def m_law_parted_well : List T → Option Res := runP 15 5 body_law_parted_well
def body_law_K09 : Ev → Option Out := (fSeq (fSet 1 (fCall m_law_size (fCons (fCall m_law_at (fCons (fVar 0) (fCons (fK (.int 0)) fNil))) fNil)))
  (fSeq (fSet 2 (fCall m_law_size (fCons (fCall m_law_at (fCons (fVar 0) (fCons (fK (.int 1)) fNil))) fNil)))
  (fSeq (fSet 3 (fCall m_law_cells_7 (fCons (fVar 0) (fCons (fVar 1) (fCons (fVar 2) fNil)))))
  (fSeq (fSet 4 (fC gTup (fCons (fVar 1) (fCons (fVar 2) (fCons (fC gList (fCons (fVar 3) fNil)) fNil)))))
  (fSeq (fSet 5 (fCall m_law_part (fCons (fVar 3) (fCons (fVar 1) (fCons (fVar 2) (fCons (f2 gAdd (fCall m_law_at (fCons (fVar 0) (fCons (fK (.int 2)) fNil))) (f2 gMul (fK (.int 4)) (fCall m_law_at (fCons (fVar 0) (fCons (fK (.int 3)) fNil))))) fNil))))))
  (fSeq (fSet 6 (fCall m_law_due (fCons (fVar 3) (fCons (fVar 1) (fCons (fVar 2) (fCons (fVar 5) fNil))))))
  (fSeq (fSetAny 7 (fCallA m_law_tried (fCons (fVar 4) (fCons (fVar 5) fNil))))
  (fSeq (fIf (fTest (f1 (gIs qStr) (fVar 6)))
  (fIf (fBorT 7 (fOr (fNot (fTest (f1 (gIs qStr) (fVar 7)))) (fTest (f2 gNe (fVar 7) (fVar 6)))))
  (fRet (fK (.bl false)))
  fSkip)
  (fIf (fBorT 7 (fNot (fTest (fCall m_law_is (fCons (fVar 7) (fCons (fVar 1) (fCons (fVar 2) (fCons (fVar 6) fNil))))))))
  (fRet (fK (.bl false)))
  (fClrT 7 2)))
  (fSeq (fIf (fTest (f2 gNe (f2 gIx (fVar 4) (fK (.int 2))) (fVar 3)))
  (fRet (fK (.bl false)))
  fSkip)
  (fRet (fAndV (fCall m_law_parted_well (fCons (fVar 4) (fCons (fVar 1) (fCons (fVar 2) (fCons (fVar 3) (fCons (fCall m_law_at (fCons (fVar 0) (fCons (fK (.int 4)) fNil))) fNil)))))) (f2 gEq (f2 gIx (fVar 4) (fK (.int 2))) (fVar 3)))))))))))))
def m_law_K09 : List T → Option Res := runP 8 1 body_law_K09
def lp1_edged : Ev → Option Out := (fSeq (fPut2 0 (f2 gIx (fVar 1) (fK (.int 0))) (fVar 2) (fK (.str "-")))
  (fPut2 0 (f2 gIx (fVar 1) (fK (.int 2))) (fVar 2) (fK (.str "-"))))
def lp2_edged : Ev → Option Out := (fSeq (fPut2 0 (fVar 3) (f2 gIx (fVar 1) (fK (.int 1))) (fK (.str "|")))
  (fPut2 0 (fVar 3) (f2 gIx (fVar 1) (fK (.int 3))) (fK (.str "|"))))
def body_edged : Ev → Option Out := (fSeq (fFor (fRng2 (fCons (f2 gIx (fVar 1) (fK (.int 1))) (fCons (f2 gAdd (f2 gIx (fVar 1) (fK (.int 3))) (fK (.int 1))) fNil))) (b1 2) lp1_edged)
  (fFor (fRng2 (fCons (f2 gIx (fVar 1) (fK (.int 0))) (fCons (f2 gAdd (f2 gIx (fVar 1) (fK (.int 2))) (fK (.int 1))) fNil))) (b1 3) lp2_edged))
def m_edged : List (List T) → List T → Option (List (List T)) := runM 4 1 body_edged
def lp1_cornered : Ev → Option Out := (fSeq (fPut2 0 (fVar 2) (f2 gIx (fVar 1) (fK (.int 1))) (fK (.str "+")))
  (fPut2 0 (fVar 2) (f2 gIx (fVar 1) (fK (.int 3))) (fK (.str "+"))))
def body_cornered : Ev → Option Out := (fFor (fTup (fC gTup (fCons (f2 gIx (fVar 1) (fK (.int 0))) (fCons (f2 gIx (fVar 1) (fK (.int 2))) fNil)))) (b1 2) lp1_cornered)
def m_cornered : List (List T) → List T → Option (List (List T)) := runM 3 1 body_cornered
def lp1_written : Ev → Option Out := (fPut2 0 (f2 gAdd (f2 gAdd (f2 gIx (fVar 1) (fK (.int 0))) (fK (.int 2))) (fVar 3)) (f2 gAdd (f2 gAdd (f2 gIx (fVar 1) (fK (.int 1))) (fK (.int 2))) (fVar 5)) (fVar 6))
def lp2_written : Ev → Option Out := (fFor (fEnumS (fCons (fVar 4) fNil)) (b2 5 6) lp1_written)
def body_written : Ev → Option Out := (fFor (fEnum (fCons (fCallN m_lines_of (fCons (fVar 2) fNil)) fNil)) (b2 3 4) lp2_written)
def m_written : List (List T) → List T → Option (List (List T)) := runM 7 2 body_written
def lp1_drawn : Ev → Option Out := (fCallM 4 m_edged (fCons (fVar 6) fNil))
def lp2_drawn : Ev → Option Out := (fCallM 4 m_cornered (fCons (fVar 6) fNil))
def lp3_drawn : Ev → Option Out := (fCallM 4 m_written (fCons (fVar 6) (fCons (f2 gIx (fVar 7) (fK (.int 4))) fNil)))
def body_drawn : Ev → Option Out := (fSeq (fSet 1 (fCallN m_tight (fCons (fVar 0) fNil)))
  (fSeq (fSet 2 (fCall m_across (fCons (fVar 1) fNil)))
  (fSeq (fSet 3 (fCall m_down (fCons (fVar 1) fNil)))
  (fSeq (fSetOb 4 (fRows (fRng1 (fCons (f2 gAdd (f2 gIx (fVar 3) (f2 gIx (fVar 1) (fK (.int 0)))) (fK (.int 1))) fNil)) (b1 8) (f2 gRep (fC gLst (fCons (fK (.str " ")) fNil)) (f2 gAdd (f2 gIx (fVar 2) (f2 gIx (fVar 1) (fK (.int 1)))) (fK (.int 1)))) [8]))
  (fSeq (fSet 5 (fComp (fItems (f2 gIx (fVar 1) (fK (.int 2)))) (b1 7) fYes (fC gTup (fCons (f2 gIx (fVar 3) (f2 gIx (fVar 7) (fK (.int 0)))) (fCons (f2 gIx (fVar 2) (f2 gIx (fVar 7) (fK (.int 1)))) (fCons (f2 gIx (fVar 3) (f2 gAdd (f2 gIx (fVar 7) (fK (.int 0))) (f2 gIx (fVar 7) (fK (.int 2))))) (fCons (f2 gIx (fVar 2) (f2 gAdd (f2 gIx (fVar 7) (fK (.int 1))) (f2 gIx (fVar 7) (fK (.int 3))))) fNil))))) [7]))
  (fSeq (fFor (fItems (fVar 5)) (b1 6) lp1_drawn)
  (fSeq (fFor (fItems (fVar 5)) (b1 6) lp2_drawn)
  (fSeq (fFor (fZip (fCons (fVar 5) (fCons (f2 gIx (fVar 1) (fK (.int 2))) fNil))) (b2 6 7) lp3_drawn)
  (fFrzS 4 (fRet (fM gJoin (fK (.str "\n")) (fCons (fComp (fItems (fVar 4)) (b1 8) fYes (fM gJoin (fK (.str "")) (fCons (fVar 8) fNil)) [8]) fNil))))))))))))
def m_drawn : List T → Option Res := runP 9 1 body_drawn
def body_law_size_3 : Ev → Option Out := (fSeq (fIf (fTest (f2 gEq (f2 gMod (fVar 0) (fK (.int 3))) (fK (.int 1))))
  (fRet (f2 gAdd (fK (.int 1)) (f2 gMod (f2 gDiv (fVar 0) (fK (.int 9))) (fK (.int 20)))))
  fSkip)
  (fRet (f2 gAdd (fK (.int 1)) (f2 gMod (f2 gDiv (fVar 0) (fK (.int 9))) (fK (.int 6))))))
def m_law_size_3 : List T → Option Res := runP 1 1 body_law_size_3
def lp1_law_tiled : Ev → Option Out := (fSet 8 (f2 gAdd (fVar 8) (fK (.int 1))))
def lp2_law_tiled : Ev → Option Out := (fSeq (fSet 6 (fC gMin (fCons (fVar 3) fNil)))
  (fIf (fTest (f2 gLt (fVar 6) (fVar 0)))
  (fSeq (fSet 7 (f2 gIndex (fVar 3) (fVar 6)))
  (fSeq (fSet 8 (fK (.int 1)))
  (fSeq (whileF (fAnd (fTest (f2 gLt (f2 gAdd (fVar 7) (fVar 8)) (fVar 1))) (fTest (f2 gEq (f2 gIx (fVar 3) (f2 gAdd (fVar 7) (fVar 8))) (fVar 6)))) lp1_law_tiled 100000)
  (fSeq (fSet 9 (f1 gNeg (fK (.int 1))))
  (fSeq (fIf (fTest (f2 gLt (fVar 5) (fC gLen (fCons (fVar 2) fNil))))
  (fSet 9 (f2 gIx (fVar 2) (fVar 5)))
  fSkip)
  (fSeq (fSet 10 (f2 gAdd (fK (.int 1)) (f2 gMod (fVar 9) (fVar 8))))
  (fSeq (fSet 11 (f2 gAdd (fK (.int 1)) (f2 gMod (f2 gDiv (fVar 9) (fVar 8)) (f2 gSub (fVar 0) (fVar 6)))))
  (fSeq (fApp 4 (fC gTup (fCons (fVar 6) (fCons (fVar 7) (fCons (fVar 11) (fCons (fVar 10) fNil))))))
  (fSet 3 (f2 gCat (f2 gCat (fSl gSlL (fVar 3) fNoP (fPart (fVar 7))) (f2 gRep (fC gLst (fCons (f2 gAdd (fVar 6) (fVar 11)) fNil)) (fVar 10))) (fSl gSlL (fVar 3) (fPart (f2 gAdd (fVar 7) (fVar 10))) fNoP)))))))))))
  fSkip))
def body_law_tiled : Ev → Option Out := (fSeq (fSet 3 (f2 gRep (fC gLst (fCons (fK (.int 0)) fNil)) (fVar 1)))
  (fSeq (fSetOw 4 (fC gLst fNil))
  (fSeq (fFor (fRng1 (fCons (f2 gMul (fVar 0) (fVar 1)) fNil)) (b1 5) lp2_law_tiled)
  (fFrz 4 (fRet (fVar 4))))))
def m_law_tiled : List T → Option Res := runP 12 3 body_law_tiled
def lp1_law_cells_8 : Ev → Option Out := (fSeq (fSet 9 (fC gStr (fCons (f2 gMod (fVar 7) (fK (.int 97))) fNil)))
  (fSeq (fIf (fTest (f2 gLt (f2 gAdd (fK (.int 3)) (f2 gMul (fK (.int 2)) (fVar 7))) (fC gLen (fCons (fVar 0) fNil))))
  (fSet 9 (fCall m_law_text (fCons (f2 gIx (fVar 0) (f2 gAdd (fK (.int 3)) (f2 gMul (fK (.int 2)) (fVar 7)))) fNil)))
  fSkip)
  (fApp 6 (f2 gAdd (fVar 8) (fC gTup (fCons (fVar 9) fNil))))))
def body_law_cells_8 : Ev → Option Out := (fSeq (fSet 4 (fComp (fRng3 (fCons (fK (.int 2)) (fCons (fC gMin (fCons (fC gLen (fCons (fVar 0) fNil)) (fCons (fK (.int 42)) fNil))) (fCons (fK (.int 2)) fNil)))) (b1 7) fYes (f2 gIx (fVar 0) (fVar 7)) [7]))
  (fSeq (fIf (fTest (fVar 3))
  (fSet 4 (f2 gRep (fC gLst (fCons (fK (.int 0)) fNil)) (f2 gMul (fVar 1) (fVar 2))))
  fSkip)
  (fSeq (fSet 5 (fCall m_law_tiled (fCons (fVar 1) (fCons (fVar 2) (fCons (fVar 4) fNil)))))
  (fSeq (fSetOw 6 (fC gLst fNil))
  (fSeq (fFor (fEnum (fCons (fVar 5) fNil)) (b2 7 8) lp1_law_cells_8)
  (fFrz 6 (fRet (f1 gSortC (fVar 6)))))))))
def m_law_cells_8 : List T → Option Res := runP 10 4 body_law_cells_8
def lp1_law_stand_2 : Ev → Option Out := (fIf (fTest (f2 gEq (f2 gAdd (f2 gIx (fVar 7) (fVar 2)) (f2 gIx (fVar 7) (f2 gAdd (fK (.int 2)) (fVar 2)))) (fVar 4)))
  (fSeq (fSet 8 (f2 gAdd (fK (.int 3)) (fM gCount (f2 gIx (fVar 7) (fK (.int 4))) (fCons (fK (.str "\n")) fNil))))
  (fSeq (fIf (fTest (f2 gEq (fVar 2) (fK (.int 1))))
  (fSet 8 (f2 gAdd (fK (.int 3)) (fC gMax (fCons (fComp (fItems (fM gSplit (f2 gIx (fVar 7) (fK (.int 4))) (fCons (fK (.str "\n")) fNil))) (b1 9) fYes (fC gLen (fCons (fVar 9) fNil)) [9]) fNil))))
  fSkip)
  (fSet 6 (fC gMax (fCons (fVar 6) (fCons (f2 gAdd (fIxL (fOw 3) (f2 gIx (fVar 7) (fVar 2))) (fVar 8)) fNil))))))
  fSkip)
def lp2_law_stand_2 : Ev → Option Out := (fSeq (fSet 5 (f2 gAdd (fC gLen (fCons (fComp (fItems (fVar 0)) (b1 7) (fTest (f2 gEq (f2 gIx (fVar 7) (fVar 2)) (fVar 4))) (fVar 7) [7]) fNil)) (fC gInt (fCons (f2 gEq (fVar 4) (fVar 1)) fNil))))
  (fSeq (fSet 6 (f2 gAdd (fIxL (fOw 3) (f2 gSub (fVar 4) (fK (.int 1)))) (f2 gMul (fK (.int 2)) (fC gMin (fCons (fK (.int 1)) (fCons (fVar 5) fNil))))))
  (fSeq (fFor (fItems (fVar 0)) (b1 7) lp1_law_stand_2)
  (fApp 3 (fVar 6)))))
def body_law_stand_2 : Ev → Option Out := (fSeq (fSetOw 3 (fC gLst (fCons (fK (.int 0)) fNil)))
  (fSeq (fFor (fRng2 (fCons (fK (.int 1)) (fCons (f2 gAdd (fVar 1) (fK (.int 1))) fNil))) (b1 4) lp2_law_stand_2)
  (fFrz 3 (fRet (fVar 3)))))
def m_law_stand_2 : List T → Option Res := runP 10 3 body_law_stand_2
def lp1_law_drawn : Ev → Option Out := (fSeq (fPut2 3 (fVar 6) (f2 gIx (fVar 5) (fK (.int 1))) (fK (.str "|")))
  (fPut2 3 (fVar 6) (f2 gIx (fVar 5) (fK (.int 3))) (fK (.str "|"))))
def lp2_law_drawn : Ev → Option Out := (fFor (fRng2 (fCons (f2 gIx (fVar 5) (fK (.int 0))) (fCons (f2 gAdd (f2 gIx (fVar 5) (fK (.int 2))) (fK (.int 1))) fNil))) (b1 6) lp1_law_drawn)
def lp3_law_drawn : Ev → Option Out := (fSeq (fPut2 3 (f2 gIx (fVar 5) (fK (.int 0))) (fVar 7) (fK (.str "-")))
  (fPut2 3 (f2 gIx (fVar 5) (fK (.int 2))) (fVar 7) (fK (.str "-"))))
def lp4_law_drawn : Ev → Option Out := (fFor (fRng2 (fCons (f2 gIx (fVar 5) (fK (.int 1))) (fCons (f2 gAdd (f2 gIx (fVar 5) (fK (.int 3))) (fK (.int 1))) fNil))) (b1 7) lp3_law_drawn)
def lp5_law_drawn : Ev → Option Out := (fSeq (fPut2 3 (f2 gIx (fVar 5) (fK (.int 0))) (fVar 7) (fK (.str "+")))
  (fPut2 3 (f2 gIx (fVar 5) (fK (.int 2))) (fVar 7) (fK (.str "+"))))
def lp6_law_drawn : Ev → Option Out := (fFor (fTup (fC gTup (fCons (f2 gIx (fVar 5) (fK (.int 1))) (fCons (f2 gIx (fVar 5) (fK (.int 3))) fNil)))) (b1 7) lp5_law_drawn)
def lp7_law_drawn : Ev → Option Out := (fPut2 3 (f2 gAdd (f2 gAdd (f2 gIx (fVar 5) (fK (.int 0))) (fK (.int 2))) (fVar 9)) (f2 gAdd (f2 gAdd (f2 gIx (fVar 5) (fK (.int 1))) (fK (.int 2))) (fVar 11)) (fVar 12))
def lp8_law_drawn : Ev → Option Out := (fFor (fEnumS (fCons (fVar 10) fNil)) (b2 11 12) lp7_law_drawn)
def lp9_law_drawn : Ev → Option Out := (fFor (fEnum (fCons (fM gSplit (f2 gIx (fVar 8) (fK (.int 4))) (fCons (fK (.str "\n")) fNil)) fNil)) (b2 9 10) lp8_law_drawn)
def body_law_drawn : Ev → Option Out := (fSeq (fSetOb 3 (fRows (fRng1 (fCons (f2 gAdd (f2 gIx (fVar 1) (f2 gSub (fC gLen (fCons (fVar 1) fNil)) (fK (.int 1)))) (fK (.int 1))) fNil)) (b1 6) (f2 gRep (fC gLst (fCons (fK (.str " ")) fNil)) (f2 gAdd (f2 gIx (fVar 2) (f2 gSub (fC gLen (fCons (fVar 2) fNil)) (fK (.int 1)))) (fK (.int 1)))) [6]))
  (fSeq (fSet 4 (fComp (fItems (fVar 0)) (b1 13) fYes (fC gTup (fCons (f2 gIx (fVar 1) (f2 gIx (fVar 13) (fK (.int 0)))) (fCons (f2 gIx (fVar 2) (f2 gIx (fVar 13) (fK (.int 1)))) (fCons (f2 gIx (fVar 1) (f2 gAdd (f2 gIx (fVar 13) (fK (.int 0))) (f2 gIx (fVar 13) (fK (.int 2))))) (fCons (f2 gIx (fVar 2) (f2 gAdd (f2 gIx (fVar 13) (fK (.int 1))) (f2 gIx (fVar 13) (fK (.int 3))))) fNil))))) [13]))
  (fSeq (fFor (fItems (fVar 4)) (b1 5) lp2_law_drawn)
  (fSeq (fFor (fItems (fVar 4)) (b1 5) lp4_law_drawn)
  (fSeq (fFor (fItems (fVar 4)) (b1 5) lp6_law_drawn)
  (fSeq (fFor (fZip (fCons (fVar 4) (fCons (fVar 0) fNil))) (b2 5 8) lp9_law_drawn)
  (fFrzS 3 (fRet (fM gJoin (fK (.str "\n")) (fCons (fComp (fItems (fVar 3)) (b1 6) fYes (fM gJoin (fK (.str "")) (fCons (fVar 6) fNil)) [6]) fNil))))))))))
def m_law_drawn : List T → Option Res := runP 14 3 body_law_drawn
def body_law_K10 : Ev → Option Out := (fSeq (fSet 1 (fCall m_law_size_3 (fCons (fCall m_law_at (fCons (fVar 0) (fCons (fK (.int 0)) fNil))) fNil)))
  (fSeq (fSet 2 (fCall m_law_size_3 (fCons (fCall m_law_at (fCons (fVar 0) (fCons (fK (.int 1)) fNil))) fNil)))
  (fSeq (fSet 3 (f2 gEq (f2 gMod (fCall m_law_at (fCons (fVar 0) (fCons (fK (.int 2)) fNil))) (fK (.int 8))) (fK (.int 5))))
  (fSeq (fIf (fTest (fVar 3))
  (fSeq (fSet 1 (f2 gAdd (fK (.int 6)) (f2 gMod (fVar 1) (fK (.int 4)))))
  (fSet 2 (f2 gAdd (fK (.int 6)) (f2 gMod (fVar 2) (fK (.int 4))))))
  fSkip)
  (fSeq (fIf (fTest (f2 gEq (f2 gMod (fCall m_law_at (fCons (fVar 0) (fCons (fK (.int 2)) fNil))) (fK (.int 64))) (fK (.int 13))))
  (fSeq (fSet 1 (f2 gAdd (fVar 1) (fK (.int 5))))
  (fSet 2 (f2 gAdd (fVar 2) (fK (.int 5)))))
  fSkip)
  (fSeq (fSet 4 (fCall m_law_cells_8 (fCons (fVar 0) (fCons (fVar 1) (fCons (fVar 2) (fCons (fVar 3) fNil))))))
  (fSeq (fSet 5 (fC gTup (fCons (fVar 1) (fCons (fVar 2) (fCons (fC gList (fCons (fVar 4) fNil)) fNil)))))
  (fSeq (fSet 6 (fCall m_drawn (fCons (fVar 5) fNil)))
  (fSeq (fSet 7 (fCall m_law_drawn (fCons (fVar 4) (fCons (fCall m_law_stand_2 (fCons (fVar 4) (fCons (fVar 1) (fCons (fK (.int 0)) fNil)))) (fCons (fCall m_law_stand_2 (fCons (fVar 4) (fCons (fVar 2) (fCons (fK (.int 1)) fNil)))) fNil)))))
  (fRet (fAndV (f1 (gIs qStr) (fVar 6)) (fAndV (f2 gEq (fVar 6) (fVar 7)) (f2 gEq (f2 gIx (fVar 5) (fK (.int 2))) (fVar 4))))))))))))))
def m_law_K10 : List T → Option Res := runP 8 1 body_law_K10
def lp1_lower_of : Ev → Option Out := (fIf (fTest (f2 gEq (f2 gIx (f2 gIx (fVar 0) (fVar 3)) (f2 gAdd (fVar 2) (fK (.int 1)))) (fK (.str "-"))))
  (fRet (fVar 3))
  fSkip)
def body_lower_of : Ev → Option Out := (fSeq (fFor (fRng2 (fCons (f2 gAdd (fVar 1) (fK (.int 2))) (fCons (fC gLen (fCons (fVar 0) fNil)) fNil))) (b1 3) lp1_lower_of)
  (fRet (f1 gNeg (fK (.int 1)))))
def m_lower_of : List T → Option Res := runP 4 3 body_lower_of
def body_box_at : Ev → Option Out := (fSeq (fSet 3 (fM gFind3 (f2 gIx (fVar 0) (f2 gAdd (fVar 1) (fK (.int 1)))) (fCons (fK (.str "|")) (fCons (f2 gAdd (fVar 2) (fK (.int 2))) fNil))))
  (fSeq (fSet 4 (fCall m_lower_of (fCons (fVar 0) (fCons (fVar 1) (fCons (fVar 2) fNil)))))
  (fSeq (fIf (fOr (fTest (f2 gLt (fVar 3) (fK (.int 0)))) (fTest (f2 gLt (fVar 4) (fK (.int 0)))))
  (fRaise "NoDrawing")
  fSkip)
  (fRet (fC gTup (fCons (fVar 1) (fCons (fVar 2) (fCons (fVar 4) (fCons (fVar 3) fNil)))))))))
def m_box_at : List T → Option Res := runB 5 3 body_box_at
def lp1_boxes_of : Ev → Option Out := (fPut2 2 (fVar 6) (fVar 7) (fK (.bl true)))
def lp2_boxes_of : Ev → Option Out := (fFor (fRng2 (fCons (f2 gIx (fVar 5) (fK (.int 1))) (fCons (f2 gAdd (f2 gIx (fVar 5) (fK (.int 3))) (fK (.int 1))) fNil))) (b1 7) lp1_boxes_of)
def lp3_boxes_of : Ev → Option Out := (fIf (fNot (fTest (fIxL (fRow 2 (fVar 3)) (fVar 4))))
  (fSeq (fCallSet 5 m_box_at (fCons (fVar 0) (fCons (f2 gSub (fVar 3) (fK (.int 1))) (fCons (f2 gSub (fVar 4) (fK (.int 1))) fNil))))
  (fSeq (fApp 1 (fVar 5))
  (fFor (fRng2 (fCons (f2 gIx (fVar 5) (fK (.int 0))) (fCons (f2 gAdd (f2 gIx (fVar 5) (fK (.int 2))) (fK (.int 1))) fNil))) (b1 6) lp2_boxes_of)))
  fSkip)
def lp4_boxes_of : Ev → Option Out := (fFor (fRng2 (fCons (fK (.int 1)) (fCons (fC gLen (fCons (f2 gIx (fVar 0) (fVar 3)) fNil)) fNil))) (b1 4) lp3_boxes_of)
def body_boxes_of : Ev → Option Out := (fSeq (fSetOw 1 (fC gLst fNil))
  (fSeq (fSetOb 2 (fRows (fItems (fVar 0)) (b1 3) (f2 gRep (fC gLst (fCons (fK (.bl false)) fNil)) (fC gLen (fCons (fVar 3) fNil))) [3]))
  (fSeq (fFor (fRng2 (fCons (fK (.int 1)) (fCons (fC gLen (fCons (fVar 0) fNil)) fNil))) (b1 3) lp4_boxes_of)
  (fFrz 1 (fRet (fVar 1))))))
def m_boxes_of : List T → Option Res := runB 8 1 body_boxes_of
def lp1_text_in : Ev → Option Out := (fPop 2)
def body_text_in : Ev → Option Out := (fSeq (fSetOw 2 (fComp (fItems (fSl gSlL (fVar 0) (fPart (f2 gAdd (f2 gIx (fVar 1) (fK (.int 0))) (fK (.int 2)))) (fPart (f2 gIx (fVar 1) (fK (.int 2)))))) (b1 3) fYes (fM gRstrip (fSl gSl (fVar 3) (fPart (f2 gAdd (f2 gIx (fVar 1) (fK (.int 1))) (fK (.int 2)))) (fPart (f2 gIx (fVar 1) (fK (.int 3))))) (fCons (fK (.str " ")) fNil)) [3]))
  (fSeq (whileF (fAnd (fTest (f2 gGt (fLenL (fOw 2)) (fK (.int 1)))) (fTest (f2 gEq (fIxL (fOw 2) (f2 gSub (fLenL (fOw 2)) (fK (.int 1)))) (fK (.str ""))))) lp1_text_in 100000)
  (fFrz 2 (fRet (fM gJoin (fK (.str "\n")) (fCons (fVar 2) fNil))))))
def m_text_in : List T → Option Res := runP 4 2 body_text_in
def lp1_table_by : Ev → Option Out := (fSeq (fSet 6 (f2 gIndex (fVar 2) (f2 gIx (fVar 5) (fK (.int 0)))))
  (fSeq (fSet 7 (f2 gIndex (fVar 3) (f2 gIx (fVar 5) (fK (.int 1)))))
  (fApp 4 (fC gTup (fCons (fVar 6) (fCons (fVar 7) (fCons (f2 gSub (f2 gIndex (fVar 2) (f2 gIx (fVar 5) (fK (.int 2)))) (fVar 6)) (fCons (f2 gSub (f2 gIndex (fVar 3) (f2 gIx (fVar 5) (fK (.int 3)))) (fVar 7)) (fCons (fCall m_text_in (fCons (fVar 0) (fCons (fVar 5) fNil))) fNil)))))))))
def body_table_by : Ev → Option Out := (fSeq (fSet 2 (f1 gSortSet (f2 gCat (fComp (fItems (fVar 1)) (b1 5) fYes (f2 gIx (fVar 5) (fK (.int 0))) [5]) (fComp (fItems (fVar 1)) (b1 5) fYes (f2 gIx (fVar 5) (fK (.int 2))) [5]))))
  (fSeq (fSet 3 (f1 gSortSet (f2 gCat (fComp (fItems (fVar 1)) (b1 5) fYes (f2 gIx (fVar 5) (fK (.int 1))) [5]) (fComp (fItems (fVar 1)) (b1 5) fYes (f2 gIx (fVar 5) (fK (.int 3))) [5]))))
  (fSeq (fSetOw 4 (fC gLst fNil))
  (fSeq (fFor (fItems (fVar 1)) (b1 5) lp1_table_by)
  (fFrz 4 (fCallRet m_made (fCons (f2 gSub (fC gLen (fCons (fVar 2) fNil)) (fK (.int 1))) (fCons (f2 gSub (fC gLen (fCons (fVar 3) fNil)) (fK (.int 1))) (fCons (fVar 4) fNil)))))))))
def m_table_by : List T → Option Res := runB 8 2 body_table_by
def body_read : Ev → Option Out := (fSeq (fIf (fNot (fTest (f1 (gIs qStr) (fVar 0))))
  (fRaise "NoDrawing")
  fSkip)
  (fSeq (fSet 1 (fM gSplit (fVar 0) (fCons (fK (.str "\n")) fNil)))
  (fSeq (fIf (fTest (f2 gNe (fC gMin (fCons (fComp (fItems (fVar 1)) (b1 4) fYes (fC gLen (fCons (fVar 4) fNil)) [4]) fNil)) (fC gMax (fCons (fComp (fItems (fVar 1)) (b1 4) fYes (fC gLen (fCons (fVar 4) fNil)) [4]) fNil))))
  (fRaise "NoDrawing")
  fSkip)
  (fSeq (fCallSet 2 m_boxes_of (fCons (fVar 1) fNil))
  (fSeq (fIf (fTest (f2 gEq (fVar 2) (fC gLst fNil)))
  (fRaise "NoDrawing")
  fSkip)
  (fSeq (fTryOnly (fCallSet 3 m_table_by (fCons (fVar 1) (fCons (fVar 2) fNil))) ([] : List Str) fun _ => fSkip)
  (fSeq (fIf (fTest (f2 gNe (fCall m_drawn (fCons (fVar 3) fNil)) (fVar 0)))
  (fRaise "NoDrawing")
  fSkip)
  (fRet (fVar 3)))))))))
def m_read : List T → Option Res := runB 5 1 body_read
def body_law_line_2 : Ev → Option Out := (fSeq (fSet 2 (fK (.str "+-|+-| !\"#$&'()*+,-./0123456789:;<=>?@ABCDEFGHIJKLMNOPQRSTUVWXYZ[\\]^_`")))
  (fSeq (fSet 2 (f2 gAdd (fVar 2) (fK (.str "abcdefghijklmnopqrstuvwxyz{|}~"))))
  (fRet (fM gRstrip (fM gJoin (fK (.str "")) (fCons (fComp (fRng1 (fCons (fVar 1) fNil)) (b1 3) fYes (f2 gIx (fVar 2) (f2 gMod (f2 gAdd (fVar 0) (f2 gMul (fVar 3) (f2 gAdd (fK (.int 1)) (f2 gMod (f2 gDiv (fVar 0) (fK (.int 100))) (fK (.int 99)))))) (fK (.int 100)))) [3]) fNil)) (fCons (fK (.str " ")) fNil)))))
def m_law_line_2 : List T → Option Res := runP 4 2 body_law_line_2
def body_law_text_4 : Ev → Option Out := (fSeq (fSet 1 (f2 gDiv (fVar 0) (fK (.int 8))))
  (fSeq (fIf (fTest (f2 gEq (f2 gMod (fVar 0) (fK (.int 64))) (fK (.int 7))))
  (fRet (fCall m_law_line_2 (fCons (f2 gDiv (f2 gDiv (fVar 1) (fK (.int 8))) (fK (.int 201))) (fCons (f2 gMod (f2 gDiv (fVar 1) (fK (.int 8))) (fK (.int 201))) fNil))))
  fSkip)
  (fSeq (fIf (fTest (f2 gEq (f2 gMod (fVar 0) (fK (.int 16))) (fK (.int 14))))
  (fSeq (fSet 2 (fComp (fRng1 (fCons (f2 gAdd (fK (.int 1)) (f2 gMod (f2 gDiv (fVar 1) (fK (.int 2))) (fK (.int 60)))) fNil)) (b1 3) fYes (fCall m_law_line_2 (fCons (f2 gAdd (f2 gDiv (fVar 1) (fK (.int 120))) (f2 gMul (fK (.int 7)) (fVar 3))) (fCons (f2 gMod (f2 gAdd (fVar 1) (fVar 3)) (fK (.int 3))) fNil))) [3]))
  (fRet (f2 gAdd (fM gJoin (fK (.str "\n")) (fCons (fVar 2) fNil)) (fK (.str "|")))))
  fSkip)
  (fSeq (fIf (fTest (f2 gEq (f2 gMod (fVar 0) (fK (.int 8))) (fK (.int 6))))
  (fSeq (fSet 2 (fComp (fRng1 (fCons (f2 gAdd (fK (.int 1)) (f2 gMod (fVar 1) (fK (.int 4)))) fNil)) (b1 3) fYes (fCall m_law_line_2 (fCons (f2 gAdd (f2 gDiv (fVar 1) (fK (.int 36))) (f2 gMul (fK (.int 29)) (fVar 3))) (fCons (f2 gMod (f2 gAdd (f2 gDiv (fVar 1) (fK (.int 4))) (f2 gMul (fK (.int 2)) (fVar 3))) (fK (.int 9))) fNil))) [3]))
  (fRet (f2 gAdd (fM gJoin (fK (.str "\n")) (fCons (fVar 2) fNil)) (f2 gIx (fC gLst (fCons (fK (.str "|")) (fCons (fK (.str "-")) (fCons (fK (.str "+")) (fCons (fK (.str ".")) fNil))))) (f2 gMod (f2 gDiv (fVar 1) (fK (.int 4))) (fK (.int 4)))))))
  fSkip)
  (fRet (fCall m_law_line_2 (fCons (f2 gDiv (fVar 1) (fK (.int 7))) (fCons (f2 gMul (f2 gMod (fVar 1) (fK (.int 7))) (fC gMin (fCons (fK (.int 1)) (fCons (f2 gMod (fVar 0) (fK (.int 8))) fNil)))) fNil))))))))
def m_law_text_4 : List T → Option Res := runP 4 1 body_law_text_4
def lp1_law_cells_9 : Ev → Option Out := (fSeq (fSet 9 (fC gStr (fCons (f2 gMod (fVar 7) (fK (.int 97))) fNil)))
  (fSeq (fIf (fTest (f2 gLt (f2 gAdd (fK (.int 3)) (f2 gMul (fK (.int 2)) (fVar 7))) (fC gLen (fCons (fVar 0) fNil))))
  (fSet 9 (fCall m_law_text_4 (fCons (f2 gIx (fVar 0) (f2 gAdd (fK (.int 3)) (f2 gMul (fK (.int 2)) (fVar 7)))) fNil)))
  fSkip)
  (fApp 6 (f2 gAdd (fVar 8) (fC gTup (fCons (fVar 9) fNil))))))
def body_law_cells_9 : Ev → Option Out := (fSeq (fSet 4 (fComp (fRng3 (fCons (fK (.int 2)) (fCons (fC gMin (fCons (fC gLen (fCons (fVar 0) fNil)) (fCons (fK (.int 42)) fNil))) (fCons (fK (.int 2)) fNil)))) (b1 7) fYes (f2 gIx (fVar 0) (fVar 7)) [7]))
  (fSeq (fIf (fTest (fVar 3))
  (fSet 4 (f2 gRep (fC gLst (fCons (fK (.int 0)) fNil)) (f2 gMul (fVar 1) (fVar 2))))
  fSkip)
  (fSeq (fSet 5 (fCall m_law_tiled (fCons (fVar 1) (fCons (fVar 2) (fCons (fVar 4) fNil)))))
  (fSeq (fSetOw 6 (fC gLst fNil))
  (fSeq (fFor (fEnum (fCons (fVar 5) fNil)) (b2 7 8) lp1_law_cells_9)
  (fFrz 6 (fRet (f1 gSortC (fVar 6)))))))))
def m_law_cells_9 : List T → Option Res := runP 10 4 body_law_cells_9
def lp1_law_counted : Ev → Option Out := (fApp 3 (f2 gAdd (fIxL (fOw 3) (fVar 4)) (fC gMin (fCons (fK (.int 1)) (fCons (fC gLen (fCons (fComp (fItems (fVar 0)) (b1 5) (fTest (f2 gEq (f2 gIx (fVar 5) (fVar 2)) (fVar 4))) (fVar 5) [5]) fNil)) fNil)))))
def body_law_counted : Ev → Option Out := (fSeq (fSetOw 3 (fC gLst (fCons (fK (.int 0)) fNil)))
  (fSeq (fFor (fRng1 (fCons (fVar 1) fNil)) (b1 4) lp1_law_counted)
  (fFrz 3 (fRet (fVar 3)))))
def m_law_counted : List T → Option Res := runP 6 3 body_law_counted
def body_law_read : Ev → Option Out := (fTryOnly (fCallRet m_read (fCons (fVar 0) fNil)) ([] : List Str) fun _ => fSkip)
def m_law_read : List T → Option Res := runP 1 1 body_law_read
def lp1_law_K11 : Ev → Option Out := (fSeq (fSet 10 (f2 gSub (f2 gIx (fVar 6) (f2 gAdd (f2 gIx (fVar 9) (fK (.int 0))) (f2 gIx (fVar 9) (fK (.int 2))))) (f2 gIx (fVar 6) (f2 gIx (fVar 9) (fK (.int 0))))))
  (fApp 8 (fC gTup (fCons (f2 gIx (fVar 6) (f2 gIx (fVar 9) (fK (.int 0)))) (fCons (f2 gIx (fVar 7) (f2 gIx (fVar 9) (fK (.int 1)))) (fCons (fVar 10) (fCons (f2 gSub (f2 gIx (fVar 7) (f2 gAdd (f2 gIx (fVar 9) (fK (.int 1))) (f2 gIx (fVar 9) (fK (.int 3))))) (f2 gIx (fVar 7) (f2 gIx (fVar 9) (fK (.int 1))))) (fCons (f2 gIx (fVar 9) (fK (.int 4))) fNil))))))))
def body_law_K11 : Ev → Option Out := (fSeq (fSet 1 (fCall m_law_size_3 (fCons (fCall m_law_at (fCons (fVar 0) (fCons (fK (.int 0)) fNil))) fNil)))
  (fSeq (fSet 2 (fCall m_law_size_3 (fCons (fCall m_law_at (fCons (fVar 0) (fCons (fK (.int 1)) fNil))) fNil)))
  (fSeq (fSet 3 (f2 gEq (f2 gMod (fCall m_law_at (fCons (fVar 0) (fCons (fK (.int 2)) fNil))) (fK (.int 8))) (fK (.int 5))))
  (fSeq (fIf (fTest (fVar 3))
  (fSeq (fSet 1 (f2 gAdd (fK (.int 6)) (f2 gMod (fVar 1) (fK (.int 4)))))
  (fSet 2 (f2 gAdd (fK (.int 6)) (f2 gMod (fVar 2) (fK (.int 4))))))
  fSkip)
  (fSeq (fIf (fTest (f2 gEq (f2 gMod (fCall m_law_at (fCons (fVar 0) (fCons (fK (.int 2)) fNil))) (fK (.int 64))) (fK (.int 13))))
  (fSeq (fSet 1 (f2 gAdd (fVar 1) (fK (.int 5))))
  (fSet 2 (f2 gAdd (fVar 2) (fK (.int 5)))))
  fSkip)
  (fSeq (fSet 4 (fCall m_law_cells_9 (fCons (fVar 0) (fCons (fVar 1) (fCons (fVar 2) (fCons (fVar 3) fNil))))))
  (fSeq (fSet 5 (fCall m_drawn (fCons (fC gTup (fCons (fVar 1) (fCons (fVar 2) (fCons (fC gList (fCons (fVar 4) fNil)) fNil)))) fNil)))
  (fSeq (fSet 6 (fCall m_law_counted (fCons (fVar 4) (fCons (fVar 1) (fCons (fK (.int 0)) fNil)))))
  (fSeq (fSet 7 (fCall m_law_counted (fCons (fVar 4) (fCons (fVar 2) (fCons (fK (.int 1)) fNil)))))
  (fSeq (fSetOw 8 (fC gLst fNil))
  (fSeq (fFor (fItems (fVar 4)) (b1 9) lp1_law_K11)
  (fSeq (fSet 11 (fCall m_law_read (fCons (fVar 5) fNil)))
  (fSeq (fFrz 8 (fIf (fNot (fTest (fCall m_law_is (fCons (fVar 11) (fCons (f2 gIx (fVar 6) (fVar 1)) (fCons (f2 gIx (fVar 7) (fVar 2)) (fCons (fVar 8) fNil)))))))
  (fRet (fK (.bl false)))
  fSkip))
  (fRet (fAndV (f1 (gIs qStr) (fVar 5)) (f2 gEq (fCall m_drawn (fCons (fVar 11) fNil)) (fVar 5)))))))))))))))))
def m_law_K11 : List T → Option Res := runP 12 1 body_law_K11
def body_law_line_3 : Ev → Option Out := (fSeq (fSet 2 (fK (.str " !\"#$&'()*+,-./0123456789:;<=>?@ABCDEFGHIJKLMNOPQRSTUVWXYZ[\\]^_`")))
  (fSeq (fSet 2 (f2 gAdd (fVar 2) (fK (.str "abcdefghijklmnopqrstuvwxyz{|}~"))))
  (fRet (fM gJoin (fK (.str "")) (fCons (fComp (fRng1 (fCons (fVar 1) fNil)) (b1 3) fYes (f2 gIx (fVar 2) (f2 gMod (f2 gAdd (fVar 0) (f2 gMul (fVar 3) (f2 gAdd (fK (.int 1)) (f2 gMod (f2 gDiv (fVar 0) (fK (.int 94))) (fK (.int 93)))))) (fK (.int 94)))) [3]) fNil)))))
def m_law_line_3 : List T → Option Res := runP 4 2 body_law_line_3
def body_law_text_5 : Ev → Option Out := (fSeq (fSet 1 (f2 gDiv (fVar 0) (fK (.int 8))))
  (fSeq (fIf (fTest (f2 gEq (f2 gMod (fVar 0) (fK (.int 64))) (fK (.int 7))))
  (fRet (fM gRstrip (fCall m_law_line_3 (fCons (f2 gDiv (f2 gDiv (fVar 1) (fK (.int 8))) (fK (.int 201))) (fCons (f2 gMod (f2 gDiv (fVar 1) (fK (.int 8))) (fK (.int 201))) fNil))) (fCons (fK (.str " ")) fNil)))
  fSkip)
  (fSeq (fIf (fTest (f2 gEq (f2 gMod (fVar 0) (fK (.int 16))) (fK (.int 14))))
  (fSeq (fSet 2 (fComp (fRng1 (fCons (f2 gAdd (fK (.int 1)) (f2 gMod (f2 gDiv (fVar 1) (fK (.int 2))) (fK (.int 60)))) fNil)) (b1 3) fYes (fM gRstrip (fCall m_law_line_3 (fCons (f2 gAdd (f2 gDiv (fVar 1) (fK (.int 120))) (f2 gMul (fK (.int 7)) (fVar 3))) (fCons (f2 gMod (f2 gAdd (fVar 1) (fVar 3)) (fK (.int 3))) fNil))) (fCons (fK (.str " ")) fNil)) [3]))
  (fRet (f2 gAdd (fM gJoin (fK (.str "\n")) (fCons (fVar 2) fNil)) (fK (.str ".")))))
  fSkip)
  (fSeq (fIf (fTest (f2 gEq (f2 gMod (fVar 0) (fK (.int 8))) (fK (.int 6))))
  (fSeq (fSet 2 (fComp (fRng1 (fCons (f2 gAdd (fK (.int 1)) (f2 gMod (fVar 1) (fK (.int 4)))) fNil)) (b1 3) fYes (fM gRstrip (fCall m_law_line_3 (fCons (f2 gAdd (f2 gDiv (fVar 1) (fK (.int 36))) (f2 gMul (fK (.int 29)) (fVar 3))) (fCons (f2 gMod (f2 gAdd (f2 gDiv (fVar 1) (fK (.int 4))) (f2 gMul (fK (.int 2)) (fVar 3))) (fK (.int 9))) fNil))) (fCons (fK (.str " ")) fNil)) [3]))
  (fRet (f2 gAdd (fM gJoin (fK (.str "\n")) (fCons (fVar 2) fNil)) (fK (.str ".")))))
  fSkip)
  (fRet (fM gRstrip (fCall m_law_line_3 (fCons (f2 gDiv (fVar 1) (fK (.int 7))) (fCons (f2 gMul (f2 gMod (fVar 1) (fK (.int 7))) (fC gMin (fCons (fK (.int 1)) (fCons (f2 gMod (fVar 0) (fK (.int 8))) fNil)))) fNil))) (fCons (fK (.str " ")) fNil)))))))
def m_law_text_5 : List T → Option Res := runP 4 1 body_law_text_5
def lp1_law_cells_10 : Ev → Option Out := (fSeq (fSet 9 (f2 gSub (f2 gIx (fVar 4) (f2 gAdd (f2 gIx (fVar 8) (fK (.int 0))) (f2 gIx (fVar 8) (fK (.int 2))))) (f2 gIx (fVar 4) (f2 gIx (fVar 8) (fK (.int 0))))))
  (fSeq (fSet 10 (f2 gSub (f2 gIx (fVar 5) (f2 gAdd (f2 gIx (fVar 8) (fK (.int 1))) (f2 gIx (fVar 8) (fK (.int 3))))) (f2 gIx (fVar 5) (f2 gIx (fVar 8) (fK (.int 1))))))
  (fApp 6 (fC gTup (fCons (f2 gIx (fVar 4) (f2 gIx (fVar 8) (fK (.int 0)))) (fCons (f2 gIx (fVar 5) (f2 gIx (fVar 8) (fK (.int 1)))) (fCons (fVar 9) (fCons (fVar 10) (fCons (fCall m_law_text_5 (fCons (fCall m_law_at (fCons (fVar 0) (fCons (f2 gAdd (fK (.int 5)) (f2 gMul (fK (.int 2)) (fVar 7))) fNil))) fNil)) fNil)))))))))
def body_law_cells_10 : Ev → Option Out := (fSeq (fSet 3 (fCall m_law_tiled (fCons (fVar 1) (fCons (fVar 2) (fCons (fComp (fRng3 (fCons (fK (.int 4)) (fCons (fC gMin (fCons (fC gLen (fCons (fVar 0) fNil)) (fCons (fK (.int 44)) fNil))) (fCons (fK (.int 2)) fNil)))) (b1 7) fYes (f2 gIx (fVar 0) (fVar 7)) [7]) fNil)))))
  (fSeq (fSet 4 (fCall m_law_counted (fCons (fVar 3) (fCons (fVar 1) (fCons (fK (.int 0)) fNil)))))
  (fSeq (fSet 5 (fCall m_law_counted (fCons (fVar 3) (fCons (fVar 2) (fCons (fK (.int 1)) fNil)))))
  (fSeq (fSetOw 6 (fC gLst fNil))
  (fSeq (fFor (fEnum (fCons (f1 gSortC (fVar 3)) fNil)) (b2 7 8) lp1_law_cells_10)
  (fFrz 6 (fRet (fVar 6))))))))
def m_law_cells_10 : List T → Option Res := runP 11 3 body_law_cells_10
def lp1_law_lines : Ev → Option Out := (fIf (fTest (f2 gEq (f2 gAdd (f2 gIx (fVar 6) (fVar 1)) (f2 gIx (fVar 6) (f2 gAdd (fK (.int 2)) (fVar 1)))) (fVar 4)))
  (fSeq (fSet 7 (f2 gAdd (fK (.int 3)) (fM gCount (f2 gIx (fVar 6) (fK (.int 4))) (fCons (fK (.str "\n")) fNil))))
  (fSeq (fIf (fTest (f2 gEq (fVar 1) (fK (.int 1))))
  (fSet 7 (f2 gAdd (fK (.int 3)) (fC gMax (fCons (fComp (fItems (fM gSplit (f2 gIx (fVar 6) (fK (.int 4))) (fCons (fK (.str "\n")) fNil))) (b1 8) fYes (fC gLen (fCons (fVar 8) fNil)) [8]) fNil))))
  fSkip)
  (fSet 5 (fC gMax (fCons (fVar 5) (fCons (f2 gAdd (fIxL (fOw 3) (f2 gIx (fVar 6) (fVar 1))) (fVar 7)) fNil))))))
  fSkip)
def lp2_law_lines : Ev → Option Out := (fSeq (fSet 5 (f2 gAdd (fIxL (fOw 3) (f2 gSub (fVar 4) (fK (.int 1)))) (fK (.int 2))))
  (fSeq (fFor (fItems (fVar 0)) (b1 6) lp1_law_lines)
  (fApp 3 (fVar 5))))
def body_law_lines : Ev → Option Out := (fSeq (fSet 2 (fC gMax (fCons (fComp (fItems (fVar 0)) (b1 6) fYes (f2 gAdd (f2 gIx (fVar 6) (fVar 1)) (f2 gIx (fVar 6) (f2 gAdd (fK (.int 2)) (fVar 1)))) [6]) fNil)))
  (fSeq (fSetOw 3 (fC gLst (fCons (fK (.int 0)) fNil)))
  (fSeq (fFor (fRng2 (fCons (fK (.int 1)) (fCons (f2 gAdd (fVar 2) (fK (.int 1))) fNil))) (b1 4) lp2_law_lines)
  (fFrz 3 (fRet (fVar 3))))))
def m_law_lines : List T → Option Res := runP 9 2 body_law_lines
def body_law_boxes : Ev → Option Out := (fSeq (fSet 1 (fCall m_law_lines (fCons (fVar 0) (fCons (fK (.int 0)) fNil))))
  (fSeq (fSet 2 (fCall m_law_lines (fCons (fVar 0) (fCons (fK (.int 1)) fNil))))
  (fRet (fComp (fItems (fVar 0)) (b1 3) fYes (fC gTup (fCons (f2 gIx (fVar 1) (f2 gIx (fVar 3) (fK (.int 0)))) (fCons (f2 gIx (fVar 2) (f2 gIx (fVar 3) (fK (.int 1)))) (fCons (f2 gIx (fVar 1) (f2 gAdd (f2 gIx (fVar 3) (fK (.int 0))) (f2 gIx (fVar 3) (fK (.int 2))))) (fCons (f2 gIx (fVar 2) (f2 gAdd (f2 gIx (fVar 3) (fK (.int 1))) (f2 gIx (fVar 3) (fK (.int 3))))) fNil))))) [3]))))
def m_law_boxes : List T → Option Res := runP 4 1 body_law_boxes
def lp1_law_drawn_2 : Ev → Option Out := (fSeq (fPut2 3 (fVar 5) (f2 gIx (fVar 4) (fK (.int 1))) (fK (.str "|")))
  (fPut2 3 (fVar 5) (f2 gIx (fVar 4) (fK (.int 3))) (fK (.str "|"))))
def lp2_law_drawn_2 : Ev → Option Out := (fFor (fRng2 (fCons (f2 gIx (fVar 4) (fK (.int 0))) (fCons (f2 gAdd (f2 gIx (fVar 4) (fK (.int 2))) (fK (.int 1))) fNil))) (b1 5) lp1_law_drawn_2)
def lp3_law_drawn_2 : Ev → Option Out := (fSeq (fPut2 3 (f2 gIx (fVar 4) (fK (.int 0))) (fVar 6) (fK (.str "-")))
  (fPut2 3 (f2 gIx (fVar 4) (fK (.int 2))) (fVar 6) (fK (.str "-"))))
def lp4_law_drawn_2 : Ev → Option Out := (fFor (fRng2 (fCons (f2 gIx (fVar 4) (fK (.int 1))) (fCons (f2 gAdd (f2 gIx (fVar 4) (fK (.int 3))) (fK (.int 1))) fNil))) (b1 6) lp3_law_drawn_2)
def lp5_law_drawn_2 : Ev → Option Out := (fSeq (fPut2 3 (f2 gIx (fVar 4) (fK (.int 0))) (fVar 6) (fK (.str "+")))
  (fPut2 3 (f2 gIx (fVar 4) (fK (.int 2))) (fVar 6) (fK (.str "+"))))
def lp6_law_drawn_2 : Ev → Option Out := (fFor (fTup (fC gTup (fCons (f2 gIx (fVar 4) (fK (.int 1))) (fCons (f2 gIx (fVar 4) (fK (.int 3))) fNil)))) (b1 6) lp5_law_drawn_2)
def lp7_law_drawn_2 : Ev → Option Out := (fPut2 3 (f2 gAdd (f2 gAdd (f2 gIx (fVar 4) (fK (.int 0))) (fK (.int 2))) (fVar 8)) (f2 gAdd (f2 gAdd (f2 gIx (fVar 4) (fK (.int 1))) (fK (.int 2))) (fVar 10)) (fVar 11))
def lp8_law_drawn_2 : Ev → Option Out := (fFor (fEnumS (fCons (fVar 9) fNil)) (b2 10 11) lp7_law_drawn_2)
def lp9_law_drawn_2 : Ev → Option Out := (fFor (fEnum (fCons (fM gSplit (f2 gIx (fVar 7) (fK (.int 4))) (fCons (fK (.str "\n")) fNil)) fNil)) (b2 8 9) lp8_law_drawn_2)
def body_law_drawn_2 : Ev → Option Out := (fSeq (fSet 1 (fCall m_law_boxes (fCons (fVar 0) fNil)))
  (fSeq (fSet 2 (f2 gAdd (fK (.int 1)) (fC gMax (fCons (fComp (fItems (fVar 1)) (b1 4) fYes (f2 gIx (fVar 4) (fK (.int 3))) [4]) fNil))))
  (fSeq (fSetOb 3 (fRows (fRng1 (fCons (f2 gAdd (fK (.int 1)) (fC gMax (fCons (fComp (fItems (fVar 1)) (b1 4) fYes (f2 gIx (fVar 4) (fK (.int 2))) [4]) fNil))) fNil)) (b1 5) (f2 gRep (fC gLst (fCons (fK (.str " ")) fNil)) (fVar 2)) [5]))
  (fSeq (fFor (fItems (fVar 1)) (b1 4) lp2_law_drawn_2)
  (fSeq (fFor (fItems (fVar 1)) (b1 4) lp4_law_drawn_2)
  (fSeq (fFor (fItems (fVar 1)) (b1 4) lp6_law_drawn_2)
  (fSeq (fFor (fZip (fCons (fVar 1) (fCons (fVar 0) fNil))) (b2 4 7) lp9_law_drawn_2)
  (fFrzS 3 (fRet (fM gJoin (fK (.str "\n")) (fCons (fComp (fItems (fVar 3)) (b1 5) fYes (fM gJoin (fK (.str "")) (fCons (fVar 5) fNil)) [5]) fNil)))))))))))
def m_law_drawn_2 : List T → Option Res := runP 12 1 body_law_drawn_2
def body_law_good_2 : Ev → Option Out := (fSeq (fIf (fOr (fNot (fTest (f1 (gIs qStr) (fVar 0)))) (fOr (fTest (f2 gGt (fC gLen (fCons (fVar 0) fNil)) (fK (.int 200)))) (fTest (f2 gEq (fSl gSl (fVar 0) (fPart (f1 gNeg (fK (.int 1)))) fNoP) (fK (.str "\n"))))))
  (fRet (fK (.bl false)))
  fSkip)
  (fRet (fAndV (f2 gNotIn (fK (.str " \n")) (fVar 0)) (fAndV (f2 gNe (fSl gSl (fVar 0) (fPart (f1 gNeg (fK (.int 1)))) fNoP) (fK (.str " "))) (f2 gNotIn (fK (.str "\t")) (fVar 0))))))
def m_law_good_2 : List T → Option Res := runP 1 1 body_law_good_2
def lp1_law_sound : Ev → Option Out := (fSeq (fIf (fOr (fNot (fTest (f1 (gIs qTuple) (fVar 3)))) (fOr (fTest (f2 gNe (fC gLen (fCons (fVar 3) fNil)) (fK (.int 5)))) (fNot (fTest (fCall m_law_good_2 (fCons (f2 gIx (fVar 3) (fK (.int 4))) fNil))))))
  (fRet (fK (.bl false)))
  fSkip)
  (fSeq (fIf (fOr (fTest (f2 gGt (fC gLen (fCons (fComp (fRng1 (fCons (fK (.int 4)) fNil)) (b1 7) (fNot (fTest (fCall m_law_whole (fCons (f2 gIx (fVar 3) (fVar 7)) fNil)))) (fVar 7) [7]) fNil)) (fK (.int 0)))) (fOr (fTest (f2 gLt (fC gMin (fCons (fSl gSl (fVar 3) fNoP (fPart (fK (.int 2)))) fNil)) (fK (.int 0)))) (fTest (f2 gLt (fC gMin (fCons (fSl gSl (fVar 3) (fPart (fK (.int 2))) (fPart (fK (.int 4)))) fNil)) (fK (.int 1))))))
  (fRet (fK (.bl false)))
  fSkip)
  (fSet 2 (f2 gCat (fVar 2) (fComp (fRng1 (fCons (fC gMin (fCons (f2 gMul (f2 gIx (fVar 3) (fK (.int 2))) (f2 gIx (fVar 3) (fK (.int 3)))) (fCons (fK (.int 400)) fNil))) fNil)) (b1 7) fYes (fC gTup (fCons (f2 gAdd (f2 gIx (fVar 3) (fK (.int 0))) (f2 gDiv (fVar 7) (f2 gIx (fVar 3) (fK (.int 3))))) (fCons (f2 gAdd (f2 gIx (fVar 3) (fK (.int 1))) (f2 gMod (fVar 7) (f2 gIx (fVar 3) (fK (.int 3))))) fNil))) [7])))))
def lp1_law_other_cells : Ev → Option Out := (fPop 9)
def lp2_law_other_cells : Ev → Option Out := (fSeq (fIf (fAnd (fTest (fChain gLe gLt (f2 gAdd (f2 gIx (fVar 7) (fK (.int 0))) (fK (.int 2))) (fVar 4) (f2 gIx (fVar 7) (fK (.int 2))))) (fTest (fChain gLe gLt (f2 gAdd (f2 gIx (fVar 7) (fK (.int 1))) (fK (.int 2))) (fVar 5) (f2 gSub (f2 gIx (fVar 7) (fK (.int 3))) (fK (.int 1))))))
  (fSeq (fSetOw 9 (fComp (fItems (fSl gSlL (fVar 3) (fPart (f2 gAdd (f2 gIx (fVar 7) (fK (.int 0))) (fK (.int 2)))) (fPart (f2 gIx (fVar 7) (fK (.int 2)))))) (b1 10) fYes (fM gRstrip (fSl gSl (fVar 10) (fPart (f2 gAdd (f2 gIx (fVar 7) (fK (.int 1))) (fK (.int 2)))) (fPart (f2 gSub (f2 gIx (fVar 7) (fK (.int 3))) (fK (.int 1))))) (fCons (fK (.str " ")) fNil)) [10]))
  (fSeq (whileF (fAnd (fTest (f2 gGt (fLenL (fOw 9)) (fK (.int 1)))) (fTest (f2 gEq (fIxL (fOw 9) (f2 gSub (fLenL (fOw 9)) (fK (.int 1)))) (fK (.str ""))))) lp1_law_other_cells 100000)
  (fFrz 9 (fSet 8 (f2 gAdd (fSl gSl (fVar 8) fNoP (fPart (fK (.int 4)))) (fC gTup (fCons (fM gJoin (fK (.str "\n")) (fCons (fVar 9) fNil)) fNil)))))))
  fSkip)
  (fApp 6 (fVar 8)))
def body_law_other_cells : Ev → Option Out := (fSeq (fSet 3 (fM gSplit (fVar 1) (fCons (fK (.str "\n")) fNil)))
  (fSeq (fSet 4 (f2 gDiv (fVar 2) (f2 gAdd (fC gLen (fCons (f2 gIx (fVar 3) (fK (.int 0))) fNil)) (fK (.int 1)))))
  (fSeq (fSet 5 (f2 gMod (fVar 2) (f2 gAdd (fC gLen (fCons (f2 gIx (fVar 3) (fK (.int 0))) fNil)) (fK (.int 1)))))
  (fSeq (fSetOw 6 (fC gLst fNil))
  (fSeq (fFor (fZip (fCons (fCall m_law_boxes (fCons (fVar 0) fNil)) (fCons (fVar 0) fNil))) (b2 7 8) lp2_law_other_cells)
  (fFrz 6 (fRet (fVar 6))))))))
def m_law_other_cells : List T → Option Res := runP 11 3 body_law_other_cells
def lp1_law_bent : Ev → Option Out := (fSeq (fSet 8 (f2 gAdd (f2 gMul (fK (.int 2)) (fVar 7)) (f2 gMul (f2 gMul (fVar 7) (fVar 7)) (f2 gAdd (fK (.int 1)) (f2 gMod (f2 gDiv (fVar 2) (fK (.int 369))) (fK (.int 8)))))))
  (fApp 6 (f2 gIx (fK (.str "+-| \na|-+")) (f2 gMod (f2 gAdd (f2 gDiv (fVar 2) (fK (.int 41))) (fVar 8)) (fK (.int 9))))))
def body_law_bent : Ev → Option Out := (fSeq (fSet 3 (fM gSplit (fVar 0) (fCons (fK (.str "\n")) fNil)))
  (fSeq (fSet 4 (f2 gMod (fVar 2) (fC gLen (fCons (fVar 3) fNil))))
  (fSeq (fSet 5 (f2 gMod (f2 gDiv (f2 gDiv (fVar 2) (fC gLen (fCons (fVar 3) fNil))) (fK (.int 3))) (fC gLen (fCons (fVar 3) fNil))))
  (fSeq (fIf (fAnd (fTest (f2 gEq (fVar 1) (fK (.int 2)))) (fTest (f2 gEq (f2 gMod (f2 gDiv (fVar 2) (fC gLen (fCons (fVar 3) fNil))) (fK (.int 3))) (fK (.int 0)))))
  (fSet 3 (f2 gCat (fSl gSlL (fVar 3) fNoP (fPart (fVar 4))) (fSl gSlL (fVar 3) (fPart (f2 gAdd (fVar 4) (fK (.int 1)))) fNoP)))
  (fIf (fAnd (fTest (f2 gEq (fVar 1) (fK (.int 2)))) (fTest (f2 gEq (f2 gMod (f2 gDiv (fVar 2) (fC gLen (fCons (fVar 3) fNil))) (fK (.int 3))) (fK (.int 1)))))
  (fSet 3 (f2 gCat (f2 gCat (fSl gSlL (fVar 3) fNoP (fPart (fVar 4))) (fC gLst (fCons (f2 gIx (fVar 3) (fVar 5)) fNil))) (fSl gSlL (fVar 3) (fPart (fVar 4)) fNoP)))
  (fIf (fTest (f2 gEq (fVar 1) (fK (.int 2))))
  (fSet 3 (f2 gCat (f2 gCat (fSl gSlL (fVar 3) fNoP (fPart (fVar 4))) (fC gLst (fCons (f2 gIx (fVar 3) (fVar 5)) fNil))) (fSl gSlL (fVar 3) (fPart (f2 gAdd (fVar 4) (fK (.int 1)))) fNoP)))
  fSkip)))
  (fSeq (fIf (fTest (f2 gEq (fVar 1) (fK (.int 3))))
  (fSeq (fSetOw 6 (fC gLst fNil))
  (fSeq (fFor (fRng1 (fCons (f2 gMod (fVar 2) (fK (.int 41))) fNil)) (b1 7) lp1_law_bent)
  (fFrz 6 (fRet (fM gJoin (fK (.str "")) (fCons (fVar 6) fNil))))))
  fSkip)
  (fRet (fM gJoin (fK (.str "\n")) (fCons (fVar 3) fNil))))))))
def m_law_bent : List T → Option Res := runP 9 3 body_law_bent
end Bx
end

/-! what the laws' common defs compute -/
namespace Mx
open PySem PySem.Spec L2 Fx Bx
open PyProof.Rows hiding St

/-! ### texts -/
def blank : Str := Str.ofString " "
def rstripL (l : List Nat) : List Nat := (l.reverse.dropWhile (· == 32)).reverse
theorem rstripL_pre (l : List Nat) : ∃ k, k ≤ l.length ∧ rstripL l = l.take k ∧ k = l.length - (l.reverse.takeWhile (· == 32)).length := by
  refine ⟨_, Nat.sub_le _ _, ?_, rfl⟩
  unfold rstripL
  have h1 : l.reverse = l.reverse.takeWhile (· == 32) ++ l.reverse.dropWhile (· == 32) := (List.takeWhile_append_dropWhile).symm
  have h2 : l = (l.reverse.dropWhile (· == 32)).reverse ++ (l.reverse.takeWhile (· == 32)).reverse := by
    rw [← List.reverse_append, ← h1, List.reverse_reverse]
  have h3 : l.length = (l.reverse.dropWhile (· == 32)).reverse.length + (l.reverse.takeWhile (· == 32)).length := by
    conv => lhs; rw [h2]
    rw [List.length_append, List.length_reverse (as := l.reverse.takeWhile (· == 32))]
  conv => rhs; rw [h2]
  rw [List.take_left' (by rw [← h2]; omega)]
theorem tl_rstrip (a : Str) : Txt.rstripChars a (Str.ofString " ") = ofL (rstripL (TL.tl a)) := by
  have hc : ∀ c : Nat, (Str.ofString " ").cps.contains c = (c == 32) := fun c => by
    have e : (Str.ofString " ").cps = #[32] := by decide +kernel
    rw [e]
    simp [Array.contains, eq_comm]
  obtain ⟨k, hk, e, ek⟩ := rstripL_pre (TL.tl a)
  have hl : a.length = (TL.tl a).length := TL.len_tl a
  have hf : (fun c : Nat => (Str.ofString " ").cps.contains c) = (· == 32) := funext hc
  apply TL.ext_tl
  rw [tl_ofL, e]
  unfold Txt.rstripChars Txt.stripBy
  split
  · rename_i h
    unfold stripSame stripLo stripHi at h
    simp at h
    rw [show ((Str.ofString " ").cps.contains : Nat → Bool) = (· == 32) from hf] at h
    have h2 : ((TL.tl a).reverse.takeWhile (· == 32)).length = 0 ∨ a.length = 0 := by
      have : (a.cps.toList.reverse.takeWhile (· == 32)).length ≤ a.cps.toList.reverse.length := (List.takeWhile_sublist _).length_le
      rw [List.length_reverse, ← TL.len_tl a] at this
      by_cases h0 : a.length = 0
      · exact .inr h0
      · left
        have h3 : a.length - (a.cps.toList.reverse.takeWhile (· == 32)).length = a.length := h
        show (a.cps.toList.reverse.takeWhile (· == 32)).length = 0
        omega
    rw [List.take_of_length_le]
    rcases h2 with h2 | h2 <;> omega
  · show TL.tl (PySem.Builtin.Str.strSub a _ _) = _
    rw [TL.tl_strSub]
    unfold stripLo stripHi
    simp
    rw [show ((Str.ofString " ").cps.contains : Nat → Bool) = (· == 32) from hf]
    rw [hl, ek]
theorem gRstrip_eq {a : Str} (h : a.length ≤ 100000) : gRstrip (.str a) [.str (Str.ofString " ")] = some (.str (ofL (rstripL (TL.tl a)))) := by
  unfold gRstrip
  dsimp only
  rw [if_pos (small_k h), tl_rstrip]
theorem rstripL_len (l : List Nat) : (rstripL l).length ≤ l.length := by
  obtain ⟨k, hk, e, _⟩ := rstripL_pre l
  rw [e, List.length_take]
  omega
theorem rstripL_mem {l : List Nat} {c : Nat} (h : c ∈ rstripL l) : c ∈ l := by
  obtain ⟨k, hk, e, _⟩ := rstripL_pre l
  rw [e] at h
  exact List.mem_of_mem_take h
theorem rstripL_last (l : List Nat) : (rstripL l).getLast? ≠ some 32 := by
  unfold rstripL
  rw [List.getLast?_reverse]
  intro h
  cases e : l.reverse.dropWhile (· == 32) with
  | nil => rw [e] at h; cases h
  | cons x xs =>
    rw [e] at h
    have h1 : x = 32 := Option.some.inj h
    have := List.head_dropWhile_not (· == 32) (l := l.reverse) (by rw [e]; exact List.cons_ne_nil _ _)
    simp [e, h1] at this

/-! ### lines -/
def okC (c : Nat) : Prop := 32 ≤ c ∧ c ≤ 126 ∧ c ≠ 37
/-- the text of some lines -/
def txt (ls : List (List Nat)) : Str := ofL (TL.joinL [10] ls)
structure GoodLs (ls : List (List Nat)) : Prop where
  ne : ls ≠ []
  ok : ∀ p ∈ ls, (∀ c ∈ p, okC c) ∧ p.getLast? ≠ some 32
  len : (TL.joinL [10] ls).length ≤ 200
  last : ls = [[]] ∨ ls.getLast? ≠ some []
theorem joinL_len : ∀ ls : List (List Nat), (TL.joinL [10] ls).length + 1 ≤ (ls.map List.length).sum + ls.length + 1 ∧ (ls ≠ [] → (TL.joinL [10] ls).length + 1 = (ls.map List.length).sum + ls.length)
  | [] => ⟨Nat.le_refl _, fun h => absurd rfl h⟩
  | [p] => by
    have e : TL.joinL [10] [p] = p := rfl
    rw [e]
    simp
  | p :: q :: r => by
    have ih := joinL_len (q :: r)
    have e : TL.joinL [10] (p :: q :: r) = p ++ ([10] ++ TL.joinL [10] (q :: r)) := rfl
    rw [e]
    have h2 := ih.2 (List.cons_ne_nil _ _)
    simp only [List.length_append, List.map_cons, List.sum_cons, List.length_cons, List.length_nil] at h2 ⊢
    refine ⟨by omega, fun _ => by omega⟩
theorem joinL_snoc (x : List Nat) : ∀ (ls : List (List Nat)) (p : List Nat), TL.joinL [10] (ls ++ [p]) ++ x = TL.joinL [10] (ls ++ [p ++ x])
  | [], p => rfl
  | [q], p => by
    show (q ++ ([10] ++ p)) ++ x = q ++ ([10] ++ (p ++ x))
    simp
  | q :: r :: ls, p => by
    have ih := joinL_snoc x (r :: ls) p
    show (q ++ ([10] ++ TL.joinL [10] (r :: ls ++ [p]))) ++ x = q ++ ([10] ++ TL.joinL [10] (r :: ls ++ [p ++ x]))
    rw [← ih]
    simp
theorem gJoin_nl (ls : List (List Nat)) (h : (ls.map List.length).sum + ls.length ≤ 100000) : gJoin (.str (Str.ofString "\n")) [.lst (ls.map fun l => .str (ofL l))] = some (.str (txt ls)) := by
  have e : (ls.map fun l => T.str (ofL l)) = (ls.map ofL).map T.str := by rw [List.map_map]; rfl
  have es : ((ls.map ofL).map (·.length)) = ls.map List.length := by
    rw [List.map_map]
    exact List.map_congr_left fun l _ => len_ofL l
  rw [e, gJoin_strs _ (by rw [es, List.length_map]; omega)]
  congr 2
  apply TL.ext_tl
  rw [TL.join_eq, TL.tl_join, List.map_map]
  unfold txt
  rw [tl_ofL]
  have e3 : (TL.tl ∘ ofL) = (id : List Nat → List Nat) := funext fun l => tl_ofL l
  rw [e3, List.map_id]
  rfl
theorem lines_txt {ls : List (List Nat)} (hne : ls ≠ []) (h : ∀ p ∈ ls, 10 ∉ p) : linesF (txt ls) = ls.map ofL := by
  have e : txt ls = Txt.join nl (ls.map ofL) := by
    apply TL.ext_tl
    rw [TL.join_eq, TL.tl_join, List.map_map]
    unfold txt
    rw [tl_ofL]
    have e3 : (TL.tl ∘ ofL) = (id : List Nat → List Nat) := funext fun l => tl_ofL l
    rw [e3, List.map_id]
    rfl
  rw [e]
  refine lines_join (fun e => hne (List.map_eq_nil_iff.mp e)) fun p hp => ?_
  obtain ⟨l, hl, rfl⟩ := List.mem_map.mp hp
  exact h l hl
theorem GoodLs.noNl {ls : List (List Nat)} (g : GoodLs ls) : ∀ p ∈ ls, 10 ∉ p := fun p hp h => by
  have := (g.ok p hp).1 10 h
  unfold okC at this
  omega
theorem GoodLs.lines {ls : List (List Nat)} (g : GoodLs ls) : linesF (txt ls) = ls.map ofL := lines_txt g.ne g.noNl
theorem len_txt (ls : List (List Nat)) : (txt ls).length = (TL.joinL [10] ls).length := len_ofL _

/-! ### comprehensions -/
theorem fComp_range {fi : Ev → Option (List T)} {i : Nat} {f : Ev → Option T} {vs : List Nat} {ev : Ev} {n : Nat} {g : Nat → T} (h1 : fi ev = some (irange 0 n)) (h2 : ∀ k, k < n → f ((wipeE ev vs).set i (.sh (.int (k : Nat)))) = some (g k)) (h3 : ∀ k, noL (g k) = true) (h4 : n ≤ 100000) :
    fComp fi (b1 i) fYes f vs ev = some (.lst ((List.range n).map g)) := by
  refine fComp_eq h1 ?_ (mem_map_noL h3) (by rw [List.length_map, List.length_range]; exact small_k h4)
  rw [irange_map]
  refine compF_yes (fun (i : Nat) => T.int (0 + (i : Nat))) g _ fun k hk => ⟨_, rfl, ?_⟩
  rw [Int.zero_add]
  exact h2 k (List.mem_range.mp hk)
theorem fComp_map {α : Type} (inj : α → T) {fi : Ev → Option (List T)} {i : Nat} {f : Ev → Option T} {vs : List Nat} {ev : Ev} {xs : List α} {g : α → T} (h1 : fi ev = some (xs.map inj)) (h2 : ∀ x ∈ xs, f ((wipeE ev vs).set i (.sh (inj x))) = some (g x)) (h3 : ∀ x, noL (g x) = true) (h4 : xs.length ≤ 100000) :
    fComp fi (b1 i) fYes f vs ev = some (.lst (xs.map g)) := by
  refine fComp_eq h1 ?_ (mem_map_noL h3) (by rw [List.length_map]; exact small_k h4)
  exact compF_yes inj g _ fun x hx => ⟨_, rfl, h2 x hx⟩
theorem fComp_filter {α : Type} (inj : α → T) {fi : Ev → Option (List T)} {i : Nat} {c : Ev → Option Bool} {f : Ev → Option T} {vs : List Nat} {ev : Ev} {xs : List α} {p : α → Bool} {g : α → T} (h1 : fi ev = some (xs.map inj)) (hc : ∀ x ∈ xs, c ((wipeE ev vs).set i (.sh (inj x))) = some (p x))
    (h2 : ∀ x ∈ xs, p x = true → f ((wipeE ev vs).set i (.sh (inj x))) = some (g x)) (h3 : ∀ x, noL (g x) = true) (h4 : xs.length ≤ 100000) : fComp fi (b1 i) c f vs ev = some (.lst ((xs.filter p).map g)) := by
  refine fComp_eq h1 (compF_some inj p g _ fun x hx => ⟨_, rfl, hc x hx, h2 x hx⟩) (mem_map_noL h3) ?_
  rw [List.length_map]
  exact small_k (Nat.le_trans (List.length_filter_le _ _) h4)

/-! ### the common defs -/
theorem at_eq (ns : List Int) (k : Nat) : m_law_at [.scr ns, .int k] = some (.ok (.int (ns.getD k 0))) := by
  refine (runP_ev rfl).trans ?_
  unfold body_law_at
  by_cases h : k < ns.length
  · simp [h, gIx, atI]
  · simp [h]
theorem whole_int (i : Int) : m_law_whole [.int i] = some (.ok (.bl true)) := rfl
def lineF (n : Int) (k : Nat) : List Nat := rstripL (line n k)
theorem lineF_len (n : Int) (k : Nat) : (lineF n k).length ≤ k := by
  have := rstripL_len (line n k)
  rw [line_len] at this
  exact this
theorem lineF_ok (n : Int) (k : Nat) : (∀ c ∈ lineF n k, okC c) ∧ (lineF n k).getLast? ≠ some 32 := ⟨fun c hc => line_ok c (rstripL_mem hc), rstripL_last _⟩
theorem line_eq (n : Int) (k : Nat) (hk : k ≤ 1000) : m_law_line [.int n, .int k] = some (.ok (.str (ofL (lineF n k)))) := by
  refine runP_rt rfl ?_
  show body_law_line [.sh (.int n), .sh (.int k), .un, .un] = _
  unfold body_law_line
  refine (fSeq_nx rfl).trans ?_
  refine (fSeq_nx (fSet_eq ((f2_eq rfl rfl).trans gAdd_sgn))).trans ?_
  refine fRet_eq ?_
  have hs : (fComp (fRng1 (fCons (fVar 1) fNil)) (b1 3) fYes (f2 gIx (fVar 2) (f2 gMod (f2 gAdd (fVar 0) (f2 gMul (fVar 3) (f2 gAdd (fK (.int 1)) (f2 gMod (f2 gDiv (fVar 0) (fK (.int 94))) (fK (.int 93)))))) (fK (.int 94)))) [3]) [.sh (.int n), .sh (.int k), .sh (.str sgn), .un] = some (.lst ((line n k).map fun c => .str (oneS c))) := by
    unfold line
    rw [List.map_map]
    refine fComp_range (fRng1_eq (j := (k : Int)) rfl (by omega) (by omega)) (fun j hj => ?_) (fun _ => rfl) (by omega)
    refine (f2_eq rfl ?_).trans (gIx_sgn (Int.emod_nonneg _ (by decide)) (Int.emod_lt_of_pos _ (by decide)))
    have hm : gMul (.int (j : Int)) (.int (1 + n / 94 % 93)) = some (.int ((0 + (j : Int)) * (1 + n / 94 % 93))) := by rw [Int.zero_add]; exact gMul_s (by omega) (by omega)
    exact (f2_eq ((f2_eq rfl ((f2_eq rfl rfl).trans hm)).trans rfl) rfl).trans rfl
  refine (fM_eq ((fM_eq rfl (fCons_eq hs rfl)).trans (gJoin_signs _ (by rw [line_len]; omega))) rfl).trans ?_
  refine (gRstrip_eq ?_).trans rfl
  rw [len_ofL, line_len]
  omega

theorem joinL_one (p : List Nat) : TL.joinL [10] [p] = p := rfl
theorem good_one {p : List Nat} (h : (∀ c ∈ p, okC c) ∧ p.getLast? ≠ some 32) (hl : p.length ≤ 200) : GoodLs [p] := by
  refine ⟨List.cons_ne_nil _ _, fun q hq => by rw [List.mem_singleton.mp hq]; exact h, hl, ?_⟩
  cases p with
  | nil => exact .inl rfl
  | cons c p => exact .inr (by simp)
theorem sum_le {α : Type} {f : α → Nat} {b : Nat} : ∀ {xs : List α}, (∀ x ∈ xs, f x ≤ b) → (xs.map f).sum ≤ b * xs.length
  | [], _ => Nat.le_refl _
  | x :: xs, h => by
    have h1 := h x List.mem_cons_self
    have h2 := sum_le fun y hy => h y (List.mem_cons_of_mem _ hy)
    rw [List.map_cons, List.sum_cons, List.length_cons, Nat.mul_succ]
    omega
/-- lines, and a point behind the last one -/
theorem good_dot (x : Nat) (hx : okC x ∧ x ≠ 32) {ls : List (List Nat)} {b : Nat} (hne : ls ≠ []) (h : ∀ p ∈ ls, ((∀ c ∈ p, okC c) ∧ p.getLast? ≠ some 32) ∧ p.length ≤ b) (hl : b * ls.length + ls.length ≤ 200) :
    ∃ ms, GoodLs ms ∧ TL.joinL [10] ls ++ [x] = TL.joinL [10] ms ∧ ms.length = ls.length := by
  obtain ⟨init, p, rfl⟩ : ∃ init p, ls = init ++ [p] := ⟨ls.dropLast, ls.getLast hne, (List.dropLast_concat_getLast hne).symm⟩
  have e := joinL_snoc [x] init p
  refine ⟨init ++ [p ++ [x]], ⟨by simp, fun q hq => ?_, ?_, .inr ?_⟩, e, by simp⟩
  · rcases List.mem_append.mp hq with hq | hq
    · exact (h q (List.mem_append_left _ hq)).1
    · rw [List.mem_singleton.mp hq]
      refine ⟨fun c hc => ?_, by rw [List.getLast?_append]; simp; exact hx.2⟩
      rcases List.mem_append.mp hc with hc | hc
      · exact (h p (by simp)).1.1 c hc
      · rw [List.mem_singleton.mp hc]; exact hx.1
  · rw [← e, List.length_append]
    have h1 := (joinL_len (init ++ [p])).2 (by simp)
    have h2 : ((init ++ [p]).map List.length).sum ≤ b * (init ++ [p]).length := sum_le fun q hq => (h q hq).2
    have h3 : ([x] : List Nat).length = 1 := rfl
    rw [h3]
    omega
  · rw [List.getLast?_append]
    simp
/-- a comp of lines over a range, joined, a sign behind -/
theorem gAdd_txt {ls ms : List (List Nat)} {x : Nat} {s : Str} (hs : s = ofL [x]) (e : TL.joinL [10] ls ++ [x] = TL.joinL [10] ms) (hl : (TL.joinL [10] ms).length ≤ 200) : gAdd (.str (txt ls)) (.str s) = some (.str (txt ms)) := by
  subst hs
  rw [gAdd_str]
  · congr 2
    apply TL.ext_tl
    rw [TL.tl_append]
    exact e
  · rw [len_txt, len_ofL]
    have : (TL.joinL [10] ls ++ [x]).length ≤ 200 := by rw [e]; exact hl
    rw [List.length_append] at this
    exact Nat.le_trans this (by decide)
theorem gEq_t {i j : Int} (h : i = j) : gEq (.int i) (.int j) = some (.bl true) := by subst h; exact gEq_int_self i
theorem gEq_f {i j : Int} (h : i ≠ j) : gEq (.int i) (.int j) = some (.bl false) := by
  show some (T.bl (decide (i = j))) = _
  rw [decide_eq_false h]
theorem mod_ok (j m : Int) (h : 0 < m) : 0 ≤ j % m ∧ j % m < m := ⟨Int.emod_nonneg _ (by omega), Int.emod_lt_of_pos _ h⟩
theorem call_line {fs : Ev → Option (List T)} {ev : Ev} {n k : Int} (h : fs ev = some [.int n, .int k]) (h0 : 0 ≤ k) (h1 : k ≤ 1000) : fCall m_law_line fs ev = some (.str (ofL (lineF n k.toNat))) :=
  fCall_eq h (by rw [show k = ((k.toNat : Nat) : Int) by omega, line_eq _ _ (by omega)]; rfl)
theorem if_eqT {f g : Ev → Option T} {F G : Ev → Option Out} {ev : Ev} {i j : Int} (h1 : f ev = some (.int i)) (h2 : g ev = some (.int j)) (h : i = j) : fIf (fTest (f2 gEq f g)) F G ev = F ev := fIf_t (fTest_eq ((f2_eq h1 h2).trans (gEq_t h)))
theorem if_eqF {f g : Ev → Option T} {F G : Ev → Option Out} {ev : Ev} {i j : Int} (h1 : f ev = some (.int i)) (h2 : g ev = some (.int j)) (h : i ≠ j) : fIf (fTest (f2 gEq f g)) F G ev = G ev := fIf_f (fTest_eq ((f2_eq h1 h2).trans (gEq_f h)))
theorem lines_goods {n : Nat} {f : Nat → List Nat} {b : Nat} (h0 : 0 < n) (hn : b * n + n ≤ 200) (h : ∀ k, k < n → ((∀ c ∈ f k, okC c) ∧ (f k).getLast? ≠ some 32) ∧ (f k).length ≤ b) {x : Nat} (hx : okC x ∧ x ≠ 32) :
    ∃ ms, GoodLs ms ∧ TL.joinL [10] ((List.range n).map f) ++ [x] = TL.joinL [10] ms ∧ ms.length = n := by
  have := good_dot x hx (ls := (List.range n).map f) (b := b) (fun e => by simp at e; omega) (fun p hp => by
    obtain ⟨k, hk, rfl⟩ := List.mem_map.mp hp
    exact h k (List.mem_range.mp hk)) (by rw [List.length_map, List.length_range]; exact hn)
  rw [List.length_map, List.length_range] at this
  exact this
theorem join_goods {n : Nat} {f : Nat → List Nat} {b : Nat} (hn : b * n + n ≤ 200) (h : ∀ k, k < n → (f k).length ≤ b) : gJoin (.str (Str.ofString "\n")) [.lst ((List.range n).map fun k => .str (ofL (f k)))] = some (.str (txt ((List.range n).map f))) := by
  have e : ((List.range n).map fun k => T.str (ofL (f k))) = ((List.range n).map f).map fun l => T.str (ofL l) := by rw [List.map_map]; rfl
  rw [e]
  refine gJoin_nl _ ?_
  have h2 : (((List.range n).map f).map List.length).sum ≤ b * ((List.range n).map f).length := sum_le fun q hq => by
    obtain ⟨k, hk, rfl⟩ := List.mem_map.mp hq
    exact h k (List.mem_range.mp hk)
  rw [List.length_map, List.length_range] at h2 ⊢
  omega
theorem text_eq (n : Int) : ∃ ls, m_law_text [.int n] = some (.ok (.str (txt ls))) ∧ GoodLs ls := by
  have key : ∃ ls, body_law_text [.sh (.int n), .un, .un, .un] = some (.rt (.str (txt ls))) ∧ GoodLs ls := by
    unfold body_law_text
    by_cases h1 : n % 64 = 7
    · have h2 := mod_ok (n / 8 / 8) 201 (by omega)
      refine ⟨[lineF (n / 8 / 8 / 201) (n / 8 / 8 % 201).toNat], ?_, good_one (lineF_ok _ _) (Nat.le_trans (lineF_len _ _) (by omega))⟩
      refine (fSeq_nx rfl).trans ?_
      exact (fSeq_rt ((if_eqT rfl rfl h1).trans (fRet_eq (call_line rfl h2.1 (by omega)))))
    by_cases h2 : n % 16 = 14
    · have hc := mod_ok (n / 8 / 2) 60 (by omega)
      have hl : ∀ k : Nat, ((∀ c ∈ lineF (n / 8 / 120 + 7 * (k : Int)) ((n / 8 + k) % 3).toNat, okC c) ∧ (lineF (n / 8 / 120 + 7 * (k : Int)) ((n / 8 + k) % 3).toNat).getLast? ≠ some 32) ∧ (lineF (n / 8 / 120 + 7 * (k : Int)) ((n / 8 + k) % 3).toNat).length ≤ 2 := fun k =>
        ⟨lineF_ok _ _, Nat.le_trans (lineF_len _ _) (by have := mod_ok (n / 8 + k) 3 (by omega); omega)⟩
      obtain ⟨ms, hg, he, _⟩ := lines_goods (n := (1 + n / 8 / 2 % 60).toNat) (f := fun k => lineF (n / 8 / 120 + 7 * (k : Int)) ((n / 8 + k) % 3).toNat) (b := 2) (x := 46) (by omega) (by omega) (fun k _ => hl k) (by unfold okC; decide)
      refine ⟨ms, ?_, hg⟩
      refine (fSeq_nx rfl).trans ?_
      refine (fSeq_nx ((if_eqF rfl rfl h1).trans rfl)).trans ?_
      refine fSeq_rt ((if_eqT rfl rfl h2).trans ?_)
      refine (fSeq_nx (fSet_eq (fComp_range (n := (1 + n / 8 / 2 % 60).toNat) (g := fun k => .str (ofL (lineF (n / 8 / 120 + 7 * (k : Int)) ((n / 8 + k) % 3).toNat))) (fRng1_eq rfl (by omega) (by omega)) (fun k hk => ?_) (fun _ => rfl) (by omega)))).trans ?_
      · have h3 := mod_ok (n / 8 + k) 3 (by omega)
        refine call_line (fCons_eq ((f2_eq rfl ((f2_eq rfl rfl).trans (gMul_s (by omega) (by omega)))).trans rfl) rfl) h3.1 (by omega)
      · exact fRet_eq ((f2_eq ((fM_eq rfl rfl).trans (join_goods (b := 2) (by omega) fun k _ => (hl k).2)) rfl).trans (gAdd_txt rfl he hg.len))
    by_cases h3 : n % 8 = 6
    · have hc := mod_ok (n / 8) 4 (by omega)
      have hl : ∀ k : Nat, ((∀ c ∈ lineF (n / 8 / 36 + 29 * (k : Int)) ((n / 8 / 4 + 2 * (k : Int)) % 9).toNat, okC c) ∧ (lineF (n / 8 / 36 + 29 * (k : Int)) ((n / 8 / 4 + 2 * (k : Int)) % 9).toNat).getLast? ≠ some 32) ∧ (lineF (n / 8 / 36 + 29 * (k : Int)) ((n / 8 / 4 + 2 * (k : Int)) % 9).toNat).length ≤ 8 := fun k =>
        ⟨lineF_ok _ _, Nat.le_trans (lineF_len _ _) (by have := mod_ok (n / 8 / 4 + 2 * (k : Int)) 9 (by omega); omega)⟩
      obtain ⟨ms, hg, he, _⟩ := lines_goods (n := (1 + n / 8 % 4).toNat) (f := fun k => lineF (n / 8 / 36 + 29 * (k : Int)) ((n / 8 / 4 + 2 * (k : Int)) % 9).toNat) (b := 8) (x := 46) (by omega) (by omega) (fun k _ => hl k) (by unfold okC; decide)
      refine ⟨ms, ?_, hg⟩
      refine (fSeq_nx rfl).trans ?_
      refine (fSeq_nx ((if_eqF rfl rfl h1).trans rfl)).trans ?_
      refine (fSeq_nx ((if_eqF rfl rfl h2).trans rfl)).trans ?_
      refine fSeq_rt ((if_eqT rfl rfl h3).trans ?_)
      refine (fSeq_nx (fSet_eq (fComp_range (n := (1 + n / 8 % 4).toNat) (g := fun k => .str (ofL (lineF (n / 8 / 36 + 29 * (k : Int)) ((n / 8 / 4 + 2 * (k : Int)) % 9).toNat))) (fRng1_eq rfl (by omega) (by omega)) (fun k hk => ?_) (fun _ => rfl) (by omega)))).trans ?_
      · have h3 := mod_ok (n / 8 / 4 + 2 * (k : Int)) 9 (by omega)
        refine call_line (fCons_eq ((f2_eq rfl ((f2_eq rfl rfl).trans (gMul_s (by omega) (by omega)))).trans rfl) (fCons_eq ((f2_eq ((f2_eq rfl ((f2_eq rfl rfl).trans (gMul_s (by omega) (by omega)))).trans rfl) rfl).trans rfl) rfl)) h3.1 (by omega)
      · exact fRet_eq ((f2_eq ((fM_eq rfl rfl).trans (join_goods (b := 8) (by omega) fun k _ => (hl k).2)) rfl).trans (gAdd_txt rfl he hg.len))
    · have h4 := mod_ok (n / 8) 7 (by omega)
      have h5 := mod_ok n 8 (by omega)
      have hb : 0 ≤ n / 8 % 7 * (if n % 8 < 1 then n % 8 else 1) ∧ n / 8 % 7 * (if n % 8 < 1 then n % 8 else 1) ≤ 6 := by
        split
        · rw [show n % 8 = 0 by omega]; omega
        · omega
      refine ⟨[lineF (n / 8 / 7) (n / 8 % 7 * (if n % 8 < 1 then n % 8 else 1)).toNat], ?_, good_one (lineF_ok _ _) (Nat.le_trans (lineF_len _ _) (by omega))⟩
      refine (fSeq_nx rfl).trans ?_
      refine (fSeq_nx ((if_eqF rfl rfl h1).trans rfl)).trans ?_
      refine (fSeq_nx ((if_eqF rfl rfl h2).trans rfl)).trans ?_
      refine (fSeq_nx ((if_eqF rfl rfl h3).trans rfl)).trans ?_
      exact fRet_eq (call_line (fCons_eq rfl (fCons_eq ((f2_eq rfl rfl).trans (gMul_s (by omega) (by omega))) rfl)) hb.1 (by omega))
  obtain ⟨ls, h1, h2⟩ := key
  exact ⟨ls, (runP_ev rfl).trans (by show outP (body_law_text [.sh (.int n), .un, .un, .un]) = _; rw [h1]; rfl), h2⟩

end Mx

/-! what the laws' common defs compute -/
namespace Mx
open PySem PySem.Spec L2 Fx Bx
open PyProof.Rows hiding St

/-! ### boxes that lie over all squares -/
def sizeF (n : Int) : Int := if n % 3 = 1 then 1 + n / 9 % 20 else 1 + n / 9 % 5
theorem size_eq (n : Int) : m_law_size [.int n] = some (.ok (.int (sizeF n))) := by
  unfold m_law_size sizeF
  refine (runP_ev rfl).trans ?_
  unfold body_law_size
  by_cases h : n % 3 = 1 <;> simp [h]
def boxT (b : Int × Int × Int × Int) : T := .tup [.int b.1, .int b.2.1, .int b.2.2.1, .int b.2.2.2]
def partsF (b : Int × Int × Int × Int) (n : Int) : List (Int × Int × Int × Int) :=
  let (r, c, h, w) := b
  if n % 4 = 0 ∧ 0 < h - 1 then [(r, c, 1 + n / 4 % (h - 1), w), (r + (1 + n / 4 % (h - 1)), c, h - (1 + n / 4 % (h - 1)), w)]
  else if n % 4 = 1 ∧ 0 < w - 1 then [(r, c, h, 1 + n / 4 % (w - 1)), (r, c + (1 + n / 4 % (w - 1)), h, w - (1 + n / 4 % (w - 1)))]
  else if 1 < n % 4 ∧ 1 < h - 1 ∧ 1 < w - 1 then
    if n % 4 = 2 then [(r, c, 1, w - 1), (r, c + (w - 1), h - 1, 1), (r + (h - 1), c + 1, 1, w - 1), (r + 1, c, h - 1, 1), (r + 1, c + 1, h - 1 - 1, w - 1 - 1)]
    else [(r, c + 1, 1, w - 1), (r, c, h - 1, 1), (r + (h - 1), c, 1, w - 1), (r + 1, c + (w - 1), h - 1, 1), (r + 1, c + 1, h - 1 - 1, w - 1 - 1)]
  else [(r, c, h, w)]
theorem parts_eq (b : Int × Int × Int × Int) (n : Int) : m_law_parts [boxT b, .int n] = some (.ok (.lst ((partsF b n).map boxT))) := by
  obtain ⟨r, c, h, w⟩ := b
  unfold m_law_parts partsF boxT
  refine (runP_ev rfl).trans ?_
  unfold body_law_parts
  dsimp only
  have e0 : 0 ≤ n % 4 := Int.emod_nonneg _ (by decide)
  have e4 : n % 4 < 4 := Int.emod_lt_of_pos _ (by decide)
  by_cases h1 : 1 < h <;> by_cases w1 : 1 < w <;> by_cases h2 : 2 < h <;> by_cases w2 : 2 < w <;>
    rcases (show n % 4 = 0 ∨ n % 4 = 1 ∨ n % 4 = 2 ∨ n % 4 = 3 by omega) with e | e | e | e <;>
    first | omega | (simp [e, h1, w1, h2, w2, show (1 < h - 1) = (2 < h) by apply propext; omega, show (1 < w - 1) = (2 < w) by apply propext; omega]; done)

abbrev Box := Int × Int × Int × Int
def has (i j : Int) (b : Box) : Bool := decide (b.1 ≤ i ∧ i < b.1 + b.2.2.1 ∧ b.2.1 ≤ j ∧ j < b.2.1 + b.2.2.2)
structure BoxOk (R C : Int) (b : Box) : Prop where
  r : 0 ≤ b.1
  c : 0 ≤ b.2.1
  h : 1 ≤ b.2.2.1
  w : 1 ≤ b.2.2.2
  rh : b.1 + b.2.2.1 ≤ R
  cw : b.2.1 + b.2.2.2 ≤ C
structure Tiles (R C : Int) (bs : List Box) : Prop where
  ok : ∀ b ∈ bs, BoxOk R C b
  one : ∀ i j, 0 ≤ i → i < R → 0 ≤ j → j < C → bs.countP (has i j) = 1
theorem countP_2 (p : Box → Bool) (a b : Box) : [a, b].countP p = (if p a = true then 1 else 0) + (if p b = true then 1 else 0) := by
  simp only [List.countP_cons, List.countP_nil]; omega
theorem countP_5 (p : Box → Bool) (a b c d e : Box) : [a, b, c, d, e].countP p = (if p a = true then 1 else 0) + (if p b = true then 1 else 0) + (if p c = true then 1 else 0) + (if p d = true then 1 else 0) + (if p e = true then 1 else 0) := by
  simp only [List.countP_cons, List.countP_nil]; omega
/-- what a def that parts a box must keep -/
structure PartsOk (pf : Box → Int → List Box) : Prop where
  ok : ∀ R C b n, BoxOk R C b → ∀ p ∈ pf b n, BoxOk R C p
  one : ∀ R C b n i j, BoxOk R C b → (pf b n).countP (has i j) = if has i j b = true then 1 else 0
  ne : ∀ b n, pf b n ≠ [] ∧ (pf b n).length ≤ 5
theorem has_iff {i j : Int} {b : Box} : has i j b = true ↔ (b.1 ≤ i ∧ i < b.1 + b.2.2.1 ∧ b.2.1 ≤ j ∧ j < b.2.1 + b.2.2.2) := decide_eq_true_iff
theorem ite_has {i j : Int} {b : Box} : (if has i j b = true then 1 else 0 : Nat) = if (b.1 ≤ i ∧ i < b.1 + b.2.2.1 ∧ b.2.1 ≤ j ∧ j < b.2.1 + b.2.2.2) then 1 else 0 := by
  by_cases h : has i j b = true
  · rw [if_pos h, if_pos (has_iff.mp h)]
  · rw [if_neg h, if_neg fun q => h (has_iff.mpr q)]
theorem parts_ok : PartsOk partsF where
  ok := by
    rintro R C ⟨r, c, h, w⟩ n ⟨h1, h2, h3, h4, h5, h6⟩ p hp
    dsimp only at h1 h2 h3 h4 h5 h6
    unfold partsF at hp
    dsimp only at hp
    split at hp
    · rename_i q
      have q1 := mod_ok (n / 4) (h - 1) q.2
      simp only [List.mem_cons, List.not_mem_nil, or_false] at hp
      rcases hp with rfl | rfl <;> constructor <;> dsimp only <;> omega
    · split at hp
      · rename_i q
        have q1 := mod_ok (n / 4) (w - 1) q.2
        simp only [List.mem_cons, List.not_mem_nil, or_false] at hp
        rcases hp with rfl | rfl <;> constructor <;> dsimp only <;> omega
      · split at hp
        · split at hp
          · simp only [List.mem_cons, List.not_mem_nil, or_false] at hp
            rcases hp with rfl | rfl | rfl | rfl | rfl <;> constructor <;> dsimp only <;> omega
          · simp only [List.mem_cons, List.not_mem_nil, or_false] at hp
            rcases hp with rfl | rfl | rfl | rfl | rfl <;> constructor <;> dsimp only <;> omega
        · rw [List.mem_singleton.mp hp]
          exact ⟨h1, h2, h3, h4, h5, h6⟩
  one := by
    rintro R C ⟨r, c, h, w⟩ n i j ⟨h1, h2, h3, h4, h5, h6⟩
    dsimp only at h1 h2 h3 h4 h5 h6
    unfold partsF
    dsimp only
    split
    · rename_i q
      have q1 := mod_ok (n / 4) (h - 1) q.2
      rw [countP_2]
      simp only [ite_has]
      generalize n / 4 % (h - 1) = m at q1
      by_cases c1 : r ≤ i ∧ i < r + h ∧ c ≤ j ∧ j < c + w
      · by_cases c2 : i < r + (1 + m)
        · rw [if_pos c1, if_pos (by omega), if_neg (by omega)]
        · rw [if_pos c1, if_neg (by omega), if_pos (by omega)]
      · rw [if_neg c1, if_neg (by omega), if_neg (by omega)]
    · split
      · rename_i q
        have q1 := mod_ok (n / 4) (w - 1) q.2
        rw [countP_2]
        simp only [ite_has]
        generalize n / 4 % (w - 1) = m at q1
        by_cases c1 : r ≤ i ∧ i < r + h ∧ c ≤ j ∧ j < c + w
        · by_cases c2 : j < c + (1 + m)
          · rw [if_pos c1, if_pos (by omega), if_neg (by omega)]
          · rw [if_pos c1, if_neg (by omega), if_pos (by omega)]
        · rw [if_neg c1, if_neg (by omega), if_neg (by omega)]
      · split
        · rename_i q
          split
          · rw [countP_5]
            simp only [ite_has]
            repeat' split
            all_goals omega
          · rw [countP_5]
            simp only [ite_has]
            repeat' split
            all_goals omega
        · rw [List.countP_cons, List.countP_nil, Nat.zero_add]
  ne := by
    rintro ⟨r, c, h, w⟩ n
    unfold partsF
    dsimp only
    repeat' split
    all_goals simp

/-- one box is parted -/
def stepB (pf : Box → Int → List Box) (bs : List Box) (n : Int) : List Box :=
  let at_ := (n % bs.length).toNat
  bs.take at_ ++ pf (bs.getD at_ (0, 0, 0, 0)) (n / bs.length) ++ bs.drop (at_ + 1)
theorem stepB_split (bs : List Box) (n : Int) (hne : bs ≠ []) : ∃ pre b post, bs = pre ++ b :: post ∧ pre.length = (n % bs.length).toNat ∧ (n % bs.length).toNat < bs.length ∧ bs.getD (n % bs.length).toNat (0, 0, 0, 0) = b ∧ bs.take (n % bs.length).toNat = pre ∧ bs.drop ((n % bs.length).toNat + 1) = post := by
  have hl : 0 < bs.length := List.length_pos_iff.mpr hne
  have hm := mod_ok n bs.length (by omega)
  have hlt : (n % bs.length).toNat < bs.length := by omega
  refine ⟨bs.take (n % bs.length).toNat, bs[(n % bs.length).toNat], bs.drop ((n % bs.length).toNat + 1), ?_, ?_, hlt, ?_, rfl, rfl⟩
  · rw [← List.drop_eq_getElem_cons hlt, List.take_append_drop]
  · rw [List.length_take]; omega
  · rw [List.getD_eq_getElem?_getD, List.getElem?_eq_getElem hlt]; rfl
theorem Tiles.step {R C : Int} {pf : Box → Int → List Box} (P : PartsOk pf) {bs : List Box} (T : Tiles R C bs) (hne : bs ≠ []) (n : Int) : Tiles R C (stepB pf bs n) ∧ stepB pf bs n ≠ [] ∧ (stepB pf bs n).length ≤ bs.length + 4 := by
  obtain ⟨pre, b, post, e, hl, hlt, e1, e2, e3⟩ := stepB_split bs n hne
  have es : stepB pf bs n = pre ++ pf b (n / bs.length) ++ post := by
    unfold stepB
    dsimp only
    rw [e1, e2, e3]
  have hb : BoxOk R C b := T.ok b (by rw [e]; simp)
  have hn := P.ne b (n / bs.length)
  refine ⟨⟨fun p hp => ?_, fun i j h1 h2 h3 h4 => ?_⟩, ?_, ?_⟩
  · rw [es] at hp
    rcases List.mem_append.mp hp with hp | hp
    · rcases List.mem_append.mp hp with hp | hp
      · exact T.ok p (by rw [e]; exact List.mem_append_left _ hp)
      · exact P.ok R C b _ hb p hp
    · exact T.ok p (by rw [e]; exact List.mem_append_right _ (List.mem_cons_of_mem _ hp))
  · have h0 := T.one i j h1 h2 h3 h4
    rw [e, List.countP_append, List.countP_cons] at h0
    rw [es, List.countP_append, List.countP_append, P.one R C b _ i j hb]
    omega
  · rw [es]
    intro q
    rw [List.append_eq_nil_iff, List.append_eq_nil_iff] at q
    exact hn.1 q.1.2
  · rw [es]
    have : bs.length = pre.length + (post.length + 1) := by
      conv => lhs; rw [e]
      simp
    simp only [List.length_append]
    omega
theorem tiles_one {R C : Int} (hR : 1 ≤ R) (hC : 1 ≤ C) : Tiles R C [(0, 0, R, C)] where
  ok := fun b hb => by
    rw [List.mem_singleton.mp hb]
    constructor <;> dsimp only <;> omega
  one := fun i j h1 h2 h3 h4 => by
    rw [List.countP_cons, List.countP_nil, if_pos]
    exact has_iff.mpr ⟨h1, by dsimp only; omega, h3, by dsimp only; omega⟩

/-! ### slices of lists -/
theorem cutT_to {α : Type} (xs : List α) {i : Int} (h : 0 ≤ i) : cutT xs none (some i) = xs.take i.toNat := by
  have e : HT.sIx xs.length xs.length (some i) = min i.toNat xs.length := if_neg (by omega)
  unfold cutT
  rw [e, show HT.sIx xs.length 0 none = 0 from rfl, List.drop_zero, Nat.sub_zero]
  rw [List.take_eq_take_iff]
  omega
theorem cutT_from {α : Type} (xs : List α) {i : Int} (h : 0 ≤ i) : cutT xs (some i) none = xs.drop i.toNat := by
  have e : HT.sIx xs.length 0 (some i) = min i.toNat xs.length := if_neg (by omega)
  unfold cutT
  rw [e, show HT.sIx xs.length xs.length none = xs.length from rfl]
  rw [List.take_of_length_le (by rw [List.length_drop]; omega)]
  by_cases q : i.toNat ≤ xs.length
  · rw [Nat.min_eq_left q]
  · rw [Nat.min_eq_right (by omega), List.drop_length, List.drop_of_length_le (by omega)]
theorem gSlL_to {ts : List T} {i : Int} (hn : noLs ts = true) (h : 0 ≤ i) : gSlL (.lst ts) none (some i) = some (.lst (ts.take i.toNat)) := by
  unfold gSlL
  dsimp only
  rw [if_pos hn, cutT_to _ h]
theorem gSlL_from {ts : List T} {i : Int} (hn : noLs ts = true) (h : 0 ≤ i) : gSlL (.lst ts) (some i) none = some (.lst (ts.drop i.toNat)) := by
  unfold gSlL
  dsimp only
  rw [if_pos hn, cutT_from _ h]
theorem fSl_eq {g : T → Option Int → Option Int → Option T} {f : Ev → Option T} {fl fh : Ev → Option (Option Int)} {ev : Ev} {t : T} {lo hi : Option Int} (h1 : f ev = some t) (h2 : fl ev = some lo) (h3 : fh ev = some hi) : fSl g f fl fh ev = g t lo hi := by
  unfold fSl
  rw [h1, h2, h3]
theorem fPart_eq {f : Ev → Option T} {ev : Ev} {i : Int} (h : f ev = some (.int i)) : fPart f ev = some (some i) := by unfold fPart; rw [h]
theorem gIx_at {ts : List T} {i : Int} {t : T} (h0 : 0 ≤ i) (h : ts[i.toNat]? = some t) : gIx (.lst ts) (.int i) = some t := by
  have hl : i.toNat < ts.length := (List.getElem?_eq_some_iff.mp h).1
  rw [gIx_l, ixN_ev, if_pos h0, if_pos (by omega)]
  exact h
theorem gIx_scr {ns : List Int} {i : Int} {n : Int} (h0 : 0 ≤ i) (h : ns[i.toNat]? = some n) : gIx (.scr ns) (.int i) = some (.int n) := by
  have hl : i.toNat < ns.length := (List.getElem?_eq_some_iff.mp h).1
  unfold gIx atI
  dsimp only
  rw [ixN_ev, if_pos h0, if_pos (by omega)]
  show Option.map T.int (ns[i.toNat]?) = _
  rw [h]
  rfl
theorem noLs_boxes (bs : List Box) : noLs (bs.map boxT) = true := mem_map_noL fun _ => rfl
theorem gMod_p {i j : Int} (h : 0 < j) : gMod (.int i) (.int j) = some (.int (i % j)) := if_pos h
theorem gDiv_p {i j : Int} (h : 0 < j) (h2 : j ≤ 1000000) : gDiv (.int i) (.int j) = some (.int (i / j)) := if_pos ⟨h, by omega⟩

theorem step_eq {pm : List T → Option Res} {pf : Box → Int → List Box} (hp : ∀ b n, pm [boxT b, .int n] = some (.ok (.lst ((pf b n).map boxT)))) (P : PartsOk pf) {fn : Ev → Option T} {s0 s1 s2 s4 s5 : Sl} {tail : Ev} {bs : List Box} {n : Int}
    (hfn : ∀ s5', fn (s0 :: s1 :: s2 :: .sh (.lst (bs.map boxT)) :: s4 :: s5' :: tail) = some (.int n)) (hne : bs ≠ []) (hlen : bs.length ≤ 1000) :
    fSeq (fSet 5 (f2 gMod fn (fC gLen (fCons (fVar 3) fNil))))
      (fSet 3 (f2 gCat (f2 gCat (fSl gSlL (fVar 3) fNoP (fPart (fVar 5))) (fCall pm (fCons (f2 gIx (fVar 3) (fVar 5)) (fCons (f2 gDiv fn (fC gLen (fCons (fVar 3) fNil))) fNil)))) (fSl gSlL (fVar 3) (fPart (f2 gAdd (fVar 5) (fK (.int 1)))) fNoP)))
      (s0 :: s1 :: s2 :: .sh (.lst (bs.map boxT)) :: s4 :: s5 :: tail) = some (.nx (s0 :: s1 :: s2 :: .sh (.lst ((stepB pf bs n).map boxT)) :: s4 :: .sh (.int (n % bs.length)) :: tail)) := by
  obtain ⟨pre, b, post, e, hl, hlt, e1, e2, e3⟩ := stepB_split bs n hne
  have hm := mod_ok n bs.length (by omega)
  have hlT : (bs.map boxT).length = bs.length := List.length_map _
  have hpn := P.ne b (n / bs.length)
  have hlb : bs.length = pre.length + (post.length + 1) := by
    conv => lhs; rw [e]
    simp
  refine (fSeq_nx (fSet_eq (t := .int (n % bs.length)) ?_)).trans ?_
  · refine (f2_eq (hfn _) rfl).trans ?_
    rw [hlT]
    exact gMod_p (by omega)
  show fSet 3 _ (s0 :: s1 :: s2 :: .sh (.lst (bs.map boxT)) :: s4 :: .sh (.int (n % bs.length)) :: tail) = _
  refine (fSet_eq (t := .lst ((stepB pf bs n).map boxT)) ?_).trans rfl
  have es : (stepB pf bs n).map boxT = (pre.map boxT ++ (pf b (n / bs.length)).map boxT) ++ post.map boxT := by
    unfold stepB
    dsimp only
    rw [e1, e2, e3, List.map_append, List.map_append]
  rw [es]
  refine (f2_eq ((f2_eq (d := .lst (pre.map boxT)) ?_ (fCall_eq (t := .lst ((pf b (n / bs.length)).map boxT)) (fCons_eq (d := boxT b) ?_ (fCons_eq (d := .int (n / bs.length)) ?_ rfl)) ?_)).trans (gCat_small (noLs_boxes _) (noLs_boxes _) ?_)) (e := .lst (post.map boxT)) ?_).trans (gCat_small ?_ (noLs_boxes _) ?_)
  · refine (fSl_eq rfl rfl (fPart_eq rfl)).trans ?_
    rw [gSlL_to (noLs_boxes _) hm.1, ← List.map_take, e2]
  · refine (f2_eq rfl rfl).trans (gIx_at hm.1 ?_)
    rw [List.getElem?_map, List.getElem?_eq_getElem hlt]
    rw [List.getD_eq_getElem?_getD, List.getElem?_eq_getElem hlt] at e1
    rw [← e1]
    rfl
  · refine (f2_eq (hfn _) rfl).trans ?_
    rw [hlT]
    exact gDiv_p (by omega) (by omega)
  · rw [hp]; rfl
  · simp only [List.length_map]; omega
  · refine (fSl_eq rfl (fPart_eq rfl) rfl).trans ?_
    show gSlL _ (some (n % bs.length + 1)) none = _
    rw [gSlL_from (noLs_boxes _) (by omega), ← List.map_drop, show (n % (bs.length : Int) + 1).toNat = (n % bs.length).toNat + 1 by omega, e3]
  · rw [noLs_append, noLs_boxes, noLs_boxes]; rfl
  · simp only [List.length_append, List.length_map]; omega
end Mx

namespace Mx
open PySem PySem.Spec L2 Fx Bx
open PyProof.Rows hiding St
theorem stepB_len {pf : Box → Int → List Box} (P : PartsOk pf) {bs : List Box} (n : Int) (hne : bs ≠ []) : stepB pf bs n ≠ [] ∧ (stepB pf bs n).length ≤ bs.length + 4 := by
  obtain ⟨pre, b, post, e, hl, hlt, e1, e2, e3⟩ := stepB_split bs n hne
  have es : stepB pf bs n = pre ++ pf b (n / bs.length) ++ post := by
    unfold stepB
    dsimp only
    rw [e1, e2, e3]
  have hn := P.ne b (n / bs.length)
  have : bs.length = pre.length + (post.length + 1) := by
    conv => lhs; rw [e]
    simp
  rw [es]
  refine ⟨fun q => ?_, ?_⟩
  · rw [List.append_eq_nil_iff, List.append_eq_nil_iff] at q
    exact hn.1 q.1.2
  · simp only [List.length_append]; omega
theorem boxes_loop {α : Type} (inj : α → T) (num : α → Int) {pm : List T → Option Res} {pf : Box → Int → List Box} (hp : ∀ b n, pm [boxT b, .int n] = some (.ok (.lst ((pf b n).map boxT)))) (P : PartsOk pf) {fn : Ev → Option T} {s0 s1 s2 : Sl} {tail : Ev} :
    ∀ (xs : List α) (bs : List Box) (s4 s5 : Sl), (∀ x ∈ xs, ∀ bs s5, fn (s0 :: s1 :: s2 :: .sh (.lst bs) :: .sh (inj x) :: s5 :: tail) = some (.int (num x))) → bs ≠ [] → bs.length + 4 * xs.length ≤ 1000 →
    ∃ s4' s5', loopF (b1 4) (fSeq (fSet 5 (f2 gMod fn (fC gLen (fCons (fVar 3) fNil))))
      (fSet 3 (f2 gCat (f2 gCat (fSl gSlL (fVar 3) fNoP (fPart (fVar 5))) (fCall pm (fCons (f2 gIx (fVar 3) (fVar 5)) (fCons (f2 gDiv fn (fC gLen (fCons (fVar 3) fNil))) fNil)))) (fSl gSlL (fVar 3) (fPart (f2 gAdd (fVar 5) (fK (.int 1)))) fNoP)))) (xs.map inj)
      (s0 :: s1 :: s2 :: .sh (.lst (bs.map boxT)) :: s4 :: s5 :: tail) = some (.nx (s0 :: s1 :: s2 :: .sh (.lst (((xs.map num).foldl (stepB pf) bs).map boxT)) :: s4' :: s5' :: tail))
  | [], bs, s4, s5, _, _, _ => ⟨s4, s5, rfl⟩
  | x :: xs, bs, s4, s5, hfn, hne, hl => by
    rw [List.length_cons] at hl
    have hs := stepB_len P (num x) hne
    obtain ⟨s4', s5', h⟩ := boxes_loop inj num hp P xs (stepB pf bs (num x)) (.sh (inj x)) (.sh (.int (num x % bs.length))) (fun y hy => hfn y (List.mem_cons_of_mem _ hy)) hs.1 (by omega)
    refine ⟨s4', s5', ?_⟩
    rw [List.map_cons, List.map_cons, List.foldl_cons]
    have st := step_eq hp P (s0 := s0) (s1 := s1) (s2 := s2) (s4 := .sh (inj x)) (s5 := s5) (tail := tail) (n := num x) (bs := bs) (fun s5' => hfn x List.mem_cons_self _ s5') hne (by omega)
    unfold loopF
    show (match (match fSeq _ _ (s0 :: s1 :: s2 :: .sh (.lst (bs.map boxT)) :: .sh (inj x) :: s5 :: tail) with | some (.nx e2) => _ | some (.ct e2) => _ | some (.bk e2) => _ | o => o) with | r => r) = _
    rw [st]
    exact h
/-- the boxes that some numbers part -/
def boxesOf (pf : Box → Int → List Box) (R C : Int) (ns : List Int) : List Box := ns.foldl (stepB pf) [(0, 0, R, C)]
theorem boxesOf_ok {pf : Box → Int → List Box} (P : PartsOk pf) {R C : Int} (hR : 1 ≤ R) (hC : 1 ≤ C) (ns : List Int) : Tiles R C (boxesOf pf R C ns) ∧ boxesOf pf R C ns ≠ [] ∧ (boxesOf pf R C ns).length ≤ 1 + 4 * ns.length := by
  have key : ∀ (ns : List Int) (bs : List Box), Tiles R C bs → bs ≠ [] → Tiles R C (ns.foldl (stepB pf) bs) ∧ ns.foldl (stepB pf) bs ≠ [] ∧ (ns.foldl (stepB pf) bs).length ≤ bs.length + 4 * ns.length := by
    intro ns
    induction ns with
    | nil => intro bs h1 h2; exact ⟨h1, h2, Nat.le_refl _⟩
    | cons n ns ih =>
      intro bs h1 h2
      obtain ⟨a, b, c⟩ := h1.step P h2 n
      obtain ⟨d, e, f⟩ := ih _ a b
      refine ⟨d, e, ?_⟩
      rw [List.foldl_cons, List.length_cons]
      omega
  exact key ns _ (tiles_one hR hC) (List.cons_ne_nil _ _)
/-- for k in range(s, len(script), 2) -/
def nums (s : Nat) (ns : List Int) : List Int := (List.range ((ns.length + 1 - s) / 2)).map fun k => ns.getD (s + 2 * k) 0
theorem rng3_ok : ∀ s < 7, ∀ l < 64, RgC (s : Nat) (l : Nat) 2 ((l + 1 - s) / 2) := by
  unfold RgC
  decide +kernel
theorem fRng3_eq {s : Nat} {ns : List Int} {fs : Ev → Option (List T)} {ev : Ev} (hs : s < 7) (hl : ns.length ≤ 63) (h : fs ev = some [.int (s : Nat), .int (ns.length : Nat), .int 2]) : fRng3 fs ev = some ((List.range ((ns.length + 1 - s) / 2)).map fun (k : Nat) => T.int ((s : Int) + (k : Int) * 2)) := by
  have hr := rng3_ok s hs ns.length (by omega)
  have e : (Builtin.Range.rangeSize (s : Nat) (ns.length : Nat) 2).toNat = (ns.length + 1 - s) / 2 := by
    rw [hr.2.2.2]; omega
  unfold fRng3
  rw [h]
  dsimp only
  rw [e, if_pos hr]
  rfl
theorem gIx_nums {s k : Nat} {ns : List Int} (hk : k < (ns.length + 1 - s) / 2) : gIx (.scr ns) (.int ((s : Int) + (k : Int) * 2)) = some (.int (ns.getD (s + 2 * k) 0)) := by
  have hlt : s + 2 * k < ns.length := by omega
  refine gIx_scr (by omega) ?_
  rw [show ((s : Int) + (k : Int) * 2).toNat = s + 2 * k by omega, List.getElem?_eq_getElem hlt, List.getD_eq_getElem?_getD, List.getElem?_eq_getElem hlt]
  rfl
/-- a cell -/
abbrev Ls := List (List Nat)
abbrev Cell := Box × Ls
def cellT (c : Cell) : T := .tup [.int c.1.1, .int c.1.2.1, .int c.1.2.2.1, .int c.1.2.2.2, .str (txt c.2)]
theorem noL_cell (c : Cell) : noL (cellT c) = true := rfl
theorem noLs_cells (cs : List Cell) : noLs (cs.map cellT) = true := mem_map_noL noL_cell
/-- for k, box in enumerate(boxes): box + (text,) -/
theorem enum_boxes {ft : Ev → Option T} {fi : Ev → Option (List T)} {ev : Ev} {vs : List Nat} {bs : List Box} {tx : Nat → Ls} {i j : Nat} (hi : fi ev = some [.lst (bs.map boxT)]) (hl : bs.length ≤ 1000)
    (hv : ∀ (k : Nat) (b : Box), k < bs.length → fVar j (((wipeE ev vs).set i (.sh (.int k))).set j (.sh (boxT b))) = some (boxT b)) (h : ∀ (k : Nat) (b : Box), k < bs.length → ft (((wipeE ev vs).set i (.sh (.int k))).set j (.sh (boxT b))) = some (.str (txt (tx k)))) :
    fComp (fEnum fi) (b2 i j) fYes (f2 gAdd (fVar j) (fC gTup (fCons ft fNil))) vs ev = some (.lst ((bs.zipIdx.map fun p => (p.1, tx p.2)).map cellT)) := by
  have e : fEnum fi ev = some (bs.zipIdx.map fun p => T.tup [.int (p.2 : Nat), boxT p.1]) := by
    unfold fEnum
    rw [hi]
    dsimp only
    congr 1
    rw [List.mapIdx_eq_zipIdx_map, List.zipIdx_map, List.map_map]
    rfl
  rw [List.map_map]
  refine fComp_eq e (compF_yes (fun p : Box × Nat => T.tup [.int (p.2 : Nat), boxT p.1]) (cellT ∘ fun p => (p.1, tx p.2)) _ fun p hp => ⟨_, rfl, ?_⟩) (mem_map_noL fun _ => rfl) (by rw [List.length_map, List.length_zipIdx]; exact small_k (by omega))
  obtain ⟨b, k⟩ := p
  have hk : k < bs.length := by
    have := (List.mem_zipIdx hp).2.1
    omega
  refine (f2_eq (hv k b hk) ((fC_eq (fCons_eq (h k b hk) rfl)).trans (gTup_small (ts := [.str (txt (tx k))]) (show 1 ≤ 100000 by decide)))).trans ?_
  obtain ⟨r, c, hh, w⟩ := b
  refine (show gAdd (.tup [.int r, .int c, .int hh, .int w]) (.tup [.str (txt (tx k))]) = if (true && true && decide (4 + 1 ≤ sizeLine)) = true then some (.tup [.int r, .int c, .int hh, .int w, .str (txt (tx k))]) else none from rfl).trans (if_pos ?_)
  rw [decide_eq_true (small_k (by decide))]
  rfl
theorem zip_fst {bs : List Box} {tx : Nat → Ls} : (bs.zipIdx.map fun p => ((p.1, tx p.2) : Cell)).map Prod.fst = bs := by
  rw [List.map_map]
  exact List.zipIdx_map_fst 0 bs
end Mx
namespace Mx
open PySem PySem.Spec L2 Fx Bx
open PyProof.Rows hiding St
/-- a loop that goes on and changes a state -/
theorem loopF_fold {α β γ : Type} (inj : α → T) (st : β → γ → Ev) (step : β → α → β) (I : β → Prop) {b : T → Ev → Option Ev} {F : Ev → Option Out} : ∀ (xs : List α) (z : β) (s : γ), I z →
    (∀ x ∈ xs, ∀ z s, I z → ∃ e1, b (inj x) (st z s) = some e1 ∧ I (step z x) ∧ ∃ s', F e1 = some (.nx (st (step z x) s'))) → ∃ s', loopF b F (xs.map inj) (st z s) = some (.nx (st (xs.foldl step z) s')) ∧ I (xs.foldl step z)
  | [], z, s, hz, _ => ⟨s, rfl, hz⟩
  | x :: xs, z, s, hz, h => by
    obtain ⟨e1, h1, hi, s', h2⟩ := h x List.mem_cons_self z s hz
    obtain ⟨s2, h3, h4⟩ := loopF_fold inj st step I xs (step z x) s' hi fun y hy => h y (List.mem_cons_of_mem _ hy)
    refine ⟨s2, ?_, h4⟩
    rw [List.map_cons, List.foldl_cons]
    unfold loopF
    rw [h1]
    dsimp only
    rw [h2]
    exact h3
theorem gMax_ii (i j : Int) : gMax [.int i, .int j] = some (.int (if j > i then j else i)) := rfl
/-! ### == of what a table holds -/
theorem canLay_str {l : List Nat} (h : ∀ c ∈ l, c ≤ 127) : (PyData.str (ofL l)).canLay0 = true := by
  show (ofL l).cps.all (fun c => decide (c < 0x110000)) = true
  rw [← Array.all_toList]
  exact List.all_eq_true.mpr fun c hc => decide_eq_true (by have := h c hc; omega)
theorem GoodLs.small {ls : Ls} (g : GoodLs ls) : ∀ c ∈ TL.joinL [10] ls, c ≤ 127 := by
  have key : ∀ ls : Ls, (∀ p ∈ ls, ∀ c ∈ p, okC c) → ∀ c ∈ TL.joinL [10] ls, c ≤ 127 := by
    intro ls
    induction ls with
    | nil => intro _ c hc; cases hc
    | cons p r ih =>
      intro h c hc
      cases r with
      | nil =>
        have := h p List.mem_cons_self c hc
        unfold okC at this
        omega
      | cons q r =>
        have e : TL.joinL [10] (p :: q :: r) = p ++ ([10] ++ TL.joinL [10] (q :: r)) := rfl
        rw [e] at hc
        rcases List.mem_append.mp hc with hc | hc
        · have := h p List.mem_cons_self c hc
          unfold okC at this
          omega
        · rcases List.mem_append.mp hc with hc | hc
          · have := List.mem_singleton.mp hc
            omega
          · exact ih (fun p hp => h p (List.mem_cons_of_mem _ hp)) c hc
  exact key ls fun p hp => (g.ok p hp).1
theorem canLay_cells {cs : List Cell} (h : ∀ c ∈ cs, GoodLs c.2) : PyData.canLayAll0 (toPs (cs.map cellT)) = true ∧ PyData.depthAll (toPs (cs.map cellT)) ≤ 1 := by
  induction cs with
  | nil => exact ⟨rfl, Nat.zero_le _⟩
  | cons c cs ih =>
    obtain ⟨h1, h2⟩ := ih fun d hd => h d (List.mem_cons_of_mem _ hd)
    have hc := canLay_str (h c List.mem_cons_self).small
    refine ⟨?_, ?_⟩
    · show ((true && (true && (true && (true && (PyData.canLay0 (.str (txt c.2)) && true))))) && PyData.canLayAll0 (toPs (cs.map cellT))) = true
      rw [h1, show PyData.canLay0 (.str (txt c.2)) = true from hc]
      rfl
    · show max 1 (PyData.depthAll (toPs (cs.map cellT))) ≤ 1
      omega
theorem cells_self {cs : List Cell} (h : ∀ c ∈ cs, GoodLs c.2) : gEqB (.lst (cs.map cellT)) (.lst (cs.map cellT)) = some true := by
  obtain ⟨h1, h2⟩ := canLay_cells h
  have hs : SeqAt.shaped (toP (.lst (cs.map cellT))) = true := by
    show (PyData.canLayAll0 (toPs (cs.map cellT)) && decide (PyData.depthAll (toPs (cs.map cellT)) + 1 ≤ 64)) = true
    rw [h1, decide_eq_true (by omega)]
    rfl
  show (if _ then _ else _) = _
  rw [hs, if_pos (show (true && true) = true from rfl)]
  congr 1
  exact SeqAt.eqv_refl _ (SeqAt.canLay_of_shaped hs)
/-! ### sorted by corner -/
def leCell (a b : Cell) : Bool := leC (cellT a) (cellT b)
def sortCells (cs : List Cell) : List Cell := cs.mergeSort leCell
theorem isC_cell (c : Cell) : isC (cellT c) = true := rfl
theorem gSortC_cells {cs : List Cell} (h : cs.length ≤ 100000) : gSortC (.lst (cs.map cellT)) = some (.lst ((sortCells cs).map cellT)) := by
  unfold gSortC
  dsimp only
  rw [noLs_cells, List.all_map, show cs.all (isC ∘ cellT) = true from List.all_eq_true.mpr (fun c _ => isC_cell c), List.length_map, decide_eq_true (small_k h)]
  show some (T.lst ((cs.map cellT).mergeSort leC)) = _
  unfold sortCells
  rw [List.map_mergeSort (r := leCell) (s := leC) (f := cellT) (fun _ _ _ _ => rfl)]
theorem sort_perm (cs : List Cell) : (sortCells cs).Perm cs := List.mergeSort_perm _ _
theorem sort_mem {cs : List Cell} {c : Cell} : c ∈ sortCells cs ↔ c ∈ cs := (sort_perm cs).mem_iff
theorem sort_len (cs : List Cell) : (sortCells cs).length = cs.length := (sort_perm cs).length_eq
theorem sort_tiles {R C : Int} {cs : List Cell} (h : Tiles R C (cs.map Prod.fst)) : Tiles R C ((sortCells cs).map Prod.fst) := by
  have p := (sort_perm cs).map Prod.fst
  exact ⟨fun b hb => h.ok b (p.mem_iff.mp hb), fun i j h1 h2 h3 h4 => (p.countP_eq _).trans (h.one i j h1 h2 h3 h4)⟩
noncomputable def textOf (n : Int) : Ls := Classical.choose (text_eq n)
theorem textOf_eq (n : Int) : m_law_text [.int n] = some (.ok (.str (txt (textOf n)))) := (Classical.choose_spec (text_eq n)).1
theorem textOf_good (n : Int) : GoodLs (textOf n) := (Classical.choose_spec (text_eq n)).2
/-- a table's cells as the laws make them -/
structure CellsOk (R C : Int) (cs : List Cell) : Prop where
  tiles : Tiles R C (cs.map Prod.fst)
  good : ∀ c ∈ cs, GoodLs c.2
  len : cs.length ≤ 400
  ne : cs ≠ []
theorem CellsOk.sort {R C : Int} {cs : List Cell} (h : CellsOk R C cs) : CellsOk R C (sortCells cs) :=
  ⟨sort_tiles h.tiles, fun c hc => h.good c (sort_mem.mp hc), by rw [sort_len]; exact h.len, fun e => h.ne (List.length_eq_zero_iff.mp (by rw [← sort_len, e]; rfl))⟩
end Mx

/-! where the lines stand -/
namespace Mx
open PySem PySem.Spec L2 Fx Bx
open PyProof.Rows hiding St
def mx (i j : Int) : Int := if j > i then j else i
theorem gMax_mx (i j : Int) : gMax [.int i, .int j] = some (.int (mx i j)) := rfl
/-- from, to, room -/
abbrev Eg := Int × Int × Int
def endT (e : Eg) : T := .tup [.int e.1, .int e.2.1, .int e.2.2]
def placeStep (ps : List Int) (at_ : Int) (p : Int) (e : Eg) : Int := if e.2.1 = at_ then mx p (ps.getD e.1.toNat 0 + e.2.2) else p
def placedF (ends : List Eg) : Nat → List Int
  | 0 => [0]
  | n + 1 => placedF ends n ++ [ends.foldl (placeStep (placedF ends n) ((n : Int) + 1)) ((placedF ends n).getD n 0 + 2)]
theorem placedF_len (ends : List Eg) : ∀ n, (placedF ends n).length = n + 1
  | 0 => rfl
  | n + 1 => by
    show (placedF ends n ++ [_]).length = _
    rw [List.length_append, placedF_len ends n]
    rfl
/-- the place of the i-th line -/
def placeP (ends : List Eg) (i : Nat) : Int := (placedF ends i).getD i 0
theorem placedF_pre (ends : List Eg) (i : Nat) : ∀ n, i ≤ n → (placedF ends n).getD i 0 = placeP ends i
  | 0, h => by rw [show i = 0 by omega]; rfl
  | n + 1, h => by
    by_cases e : i = n + 1
    · rw [e]; rfl
    · rw [← placedF_pre ends i n (by omega)]
      show (placedF ends n ++ [_]).getD i 0 = _
      rw [List.getD_eq_getElem?_getD, List.getElem?_append_left (by rw [placedF_len]; omega), ← List.getD_eq_getElem?_getD]
theorem placeP_zero (ends : List Eg) : placeP ends 0 = 0 := rfl
def EndsOk (ends : List Eg) : Prop := ∀ e ∈ ends, 0 ≤ e.1 ∧ e.1 < e.2.1
theorem foldl_congr {α β : Type} {f g : β → α → β} : ∀ (xs : List α) (z : β), (∀ x ∈ xs, ∀ z, f z x = g z x) → xs.foldl f z = xs.foldl g z
  | [], _, _ => rfl
  | x :: xs, z, h => by
    rw [List.foldl_cons, List.foldl_cons, h x List.mem_cons_self, foldl_congr xs _ fun y hy => h y (List.mem_cons_of_mem _ hy)]
theorem placeP_succ {ends : List Eg} (h : EndsOk ends) (n : Nat) : placeP ends (n + 1) = ends.foldl (fun p e => if e.2.1 = (n : Int) + 1 then mx p (placeP ends e.1.toNat + e.2.2) else p) (placeP ends n + 2) := by
  show (placedF ends n ++ [_]).getD (n + 1) 0 = _
  rw [List.getD_eq_getElem?_getD, List.getElem?_append_right (by rw [placedF_len]; omega), placedF_len, Nat.sub_self]
  show List.foldl _ _ _ = _
  refine foldl_congr _ _ fun e he z => ?_
  unfold placeStep
  by_cases q : e.2.1 = (n : Int) + 1
  · rw [if_pos q, if_pos q, placedF_pre ends _ n (by have := h e he; omega)]
  · rw [if_neg q, if_neg q]
theorem placedF_map (ends : List Eg) (n : Nat) : placedF ends n = (List.range (n + 1)).map (placeP ends) := by
  apply List.ext_getElem?
  intro i
  rw [List.getElem?_map]
  by_cases h : i < n + 1
  · rw [List.getElem?_range h]
    show _ = some (placeP ends i)
    rw [← placedF_pre ends i n (by omega), List.getD_eq_getElem?_getD, List.getElem?_eq_getElem (by rw [placedF_len]; exact h)]
    rfl
  · rw [List.getElem?_eq_none (by rw [placedF_len]; omega), List.getElem?_eq_none (by rw [List.length_range]; omega)]
    rfl
theorem atT_int {ps : List Int} {i : Int} (h0 : 0 ≤ i) (h1 : i < ps.length) : Fx.atT (ps.map .int) i = some (.int (ps.getD i.toNat 0)) := by
  unfold Fx.atT
  rw [List.length_map, ixN_ev, if_pos h0, if_pos h1]
  show (ps.map T.int)[i.toNat]? = _
  rw [List.getElem?_map, List.getD_eq_getElem?_getD, List.getElem?_eq_getElem (by omega)]
  rfl
theorem gIx_ints {ps : List Int} {i : Int} (h0 : 0 ≤ i) (h1 : i < ps.length) : gIx (.lst (ps.map .int)) (.int i) = some (.int (ps.getD i.toNat 0)) := atT_int h0 h1
theorem noLs_intsT (ps : List Int) : noLs (ps.map T.int) = true := mem_map_noL fun _ => rfl
theorem fApp_eq {i : Nat} {f : Ev → Option T} {ev : Ev} {ts : List T} {t : T} (h1 : ev[i]? = some (.ow ts)) (h2 : f ev = some t) (h3 : noL t = true) (h4 : ts.length < 100000) : fApp i f ev = some (.nx (ev.set i (.ow (ts ++ [t])))) := by
  unfold fApp
  rw [h1, h2]
  dsimp only
  rw [h3, decide_eq_true (Nat.lt_of_lt_of_le h4 (by decide))]
  rfl
theorem fFrz_eq {i : Nat} {F : Ev → Option Out} {ev : Ev} {ts : List T} (h1 : ev[i]? = some (.ow ts)) : fFrz i F ev = F (ev.set i (.sh (.lst ts))) := by
  unfold fFrz
  rw [h1]
theorem range_split {n : Nat} {d r : List Nat} {x : Nat} (h : List.range n = d ++ x :: r) : x = d.length ∧ d = List.range x ∧ x < n := by
  have h1 : (List.range n)[d.length]? = some x := by rw [h, List.getElem?_append_right (Nat.le_refl _), Nat.sub_self]; rfl
  have hlt : d.length < n := by
    have := (List.getElem?_eq_some_iff.mp h1).1
    rw [List.length_range] at this
    exact this
  rw [List.getElem?_range hlt] at h1
  have hx : d.length = x := Option.some.inj h1
  refine ⟨hx.symm, ?_, by omega⟩
  have h2 : (List.range n).take d.length = d := by rw [h, List.take_left]
  rw [List.take_range, Nat.min_eq_left (Nat.le_of_lt hlt)] at h2
  rw [← hx, h2]
/-- a loop over 0, 1, ..: the state behind the k-th turn is told -/
theorem loopF_upto {γ : Type} (inj : Nat → T) (st : Nat → γ → Ev) {b : T → Ev → Option Ev} {F : Ev → Option Out} (N : Nat) (s : γ) (h : ∀ k, k < N → ∀ s, ∃ e1, b (inj k) (st k s) = some e1 ∧ ∃ s', F e1 = some (.nx (st (k + 1) s'))) :
    ∃ s', loopF b F ((List.range N).map inj) (st 0 s) = some (.nx (st N s')) := by
  have key : ∀ (m k : Nat) (s : γ), k + m = N → ∃ s', loopF b F ((List.range' k m).map inj) (st k s) = some (.nx (st N s')) := by
    intro m
    induction m with
    | zero => intro k s e; rw [show k = N by omega]; exact ⟨s, rfl⟩
    | succ m ih =>
      intro k s e
      obtain ⟨e1, h1, s', h2⟩ := h k (by omega) s
      obtain ⟨s2, h3⟩ := ih (k + 1) s' (by omega)
      refine ⟨s2, ?_⟩
      rw [List.range'_succ, List.map_cons]
      unfold loopF
      rw [h1]
      dsimp only
      rw [h2]
      exact h3
  rw [List.range_eq_range']
  exact key N 0 s (by omega)
theorem fIxL_ow {i : Nat} {f : Ev → Option T} {ev : Ev} {ps : List Int} {j : Int} (h1 : ev[i]? = some (.ow (ps.map .int))) (h2 : f ev = some (.int j)) (h0 : 0 ≤ j) (h3 : j < ps.length) : fIxL (fOw i) f ev = some (.int (ps.getD j.toNat 0)) := by
  unfold fIxL fOw
  rw [h1, h2]
  exact atT_int h0 h3
theorem placed_turn {ends : List Eg} (h : EndsOk ends) (N : Nat) (k : Nat) (hk : k < 1000) (a b c : Sl) :
    ∃ b' c', (fSeq (fSet 4 (f2 gAdd (fIxL (fOw 2) (f2 gSub (fVar 3) (fK (.int 1)))) (fK (.int 2))))
    (fSeq (fFor (fItems (fVar 1)) (b1 5)
    (fIf (fTest (f2 gEq (f2 gIx (fVar 5) (fK (.int 1))) (fVar 3)))
    (fSet 4 (fC gMax (fCons (fVar 4) (fCons (f2 gAdd (fIxL (fOw 2) (f2 gIx (fVar 5) (fK (.int 0)))) (f2 gIx (fVar 5) (fK (.int 2)))) fNil))))
    fSkip))
    (fApp 2 (fVar 4)))) [.sh (.int N), .sh (.lst (ends.map endT)), .ow ((placedF ends k).map .int), .sh (.int (1 + (k : Int))), b, c] = some (.nx [.sh (.int N), .sh (.lst (ends.map endT)), .ow ((placedF ends (k + 1)).map .int), .sh (.int (1 + (k : Int))), b', c']) := by
  have hl := placedF_len ends k
  have h1 : fIxL (fOw 2) (f2 gSub (fVar 3) (fK (.int 1))) [.sh (.int N), .sh (.lst (ends.map endT)), .ow ((placedF ends k).map .int), .sh (.int (1 + (k : Int))), b, c] = some (.int ((placedF ends k).getD k 0)) := by
    have := fIxL_ow (i := 2) (f := f2 gSub (fVar 3) (fK (.int 1))) (ev := [.sh (.int N), .sh (.lst (ends.map endT)), .ow ((placedF ends k).map .int), .sh (.int (1 + (k : Int))), b, c]) (ps := placedF ends k) (j := 1 + (k : Int) - 1) rfl rfl (by omega) (by omega)
    rw [show (1 + (k : Int) - 1).toNat = k by omega] at this
    exact this
  obtain ⟨c', hloop, _⟩ := loopF_fold endT (fun (p : Int) (c : Sl) => [.sh (.int N), .sh (.lst (ends.map endT)), .ow ((placedF ends k).map .int), .sh (.int (1 + (k : Int))), .sh (.int p), c]) (placeStep (placedF ends k) ((k : Int) + 1)) (fun _ => True) (b := b1 5)
    (F := fIf (fTest (f2 gEq (f2 gIx (fVar 5) (fK (.int 1))) (fVar 3))) (fSet 4 (fC gMax (fCons (fVar 4) (fCons (f2 gAdd (fIxL (fOw 2) (f2 gIx (fVar 5) (fK (.int 0)))) (f2 gIx (fVar 5) (fK (.int 2)))) fNil)))) fSkip)
    ends ((placedF ends k).getD k 0 + 2) c trivial fun e he p c _ => ⟨_, rfl, trivial, .sh (endT e), by
      have hok := h e he
      show fIf _ _ _ [.sh (.int N), .sh (.lst (ends.map endT)), .ow ((placedF ends k).map .int), .sh (.int (1 + (k : Int))), .sh (.int p), .sh (endT e)] = _
      unfold placeStep
      by_cases q : e.2.1 = (k : Int) + 1
      · rw [if_pos q]
        refine (if_eqT (i := e.2.1) (j := 1 + (k : Int)) rfl rfl (by omega)).trans ?_
        refine (fSet_eq ((fC_eq (fCons_eq rfl (fCons_eq ((f2_eq (fIxL_ow (ps := placedF ends k) (j := e.1) rfl rfl hok.1 (by omega)) rfl).trans rfl) rfl))).trans rfl)).trans rfl
      · rw [if_neg q]
        exact (if_eqF (i := e.2.1) (j := 1 + (k : Int)) rfl rfl (by omega)).trans rfl⟩
  refine ⟨.sh (.int (ends.foldl (placeStep (placedF ends k) ((k : Int) + 1)) ((placedF ends k).getD k 0 + 2))), c', ?_⟩
  refine (fSeq_nx (fSet_eq ((f2_eq h1 rfl).trans rfl))).trans ?_
  refine (fSeq_nx ((fFor_eq rfl).trans hloop)).trans ?_
  refine (fApp_eq rfl rfl rfl (by rw [List.length_map]; omega)).trans ?_
  show some (Out.nx [_, _, .ow ((placedF ends k).map T.int ++ [.int _]), _, _, _]) = _
  rw [show (placedF ends (k + 1)).map T.int = (placedF ends k).map T.int ++ [.int (ends.foldl (placeStep (placedF ends k) ((k : Int) + 1)) ((placedF ends k).getD k 0 + 2))] by
    show List.map _ (placedF ends k ++ [_]) = _
    rw [List.map_append]; rfl]
theorem placed_eq {ends : List Eg} (h : EndsOk ends) (N : Nat) (hN : N ≤ 1000) : m_placed [.int N, .lst (ends.map endT)] = some (.ok (.lst ((placedF ends N).map .int))) := by
  refine runP_rt rfl ?_
  show body_placed [.sh (.int N), .sh (.lst (ends.map endT)), .un, .un, .un, .un] = _
  unfold body_placed
  refine (fSeq_nx rfl).trans ?_
  obtain ⟨⟨a, b, c⟩, hloop⟩ := loopF_upto (γ := Sl × Sl × Sl) (fun i : Nat => T.int (1 + (i : Nat))) (fun k s => [.sh (.int N), .sh (.lst (ends.map endT)), .ow ((placedF ends k).map .int), s.1, s.2.1, s.2.2]) (b := b1 3) N (.un, .un, .un) fun k hk s => ⟨_, rfl, by
    obtain ⟨b', c', e⟩ := placed_turn h N k (by omega) s.1 s.2.1 s.2.2
    exact ⟨(_, b', c'), e⟩⟩
  have hd : fRng2 (fCons (fK (.int 1)) (fCons (f2 gAdd (fVar 0) (fK (.int 1))) fNil)) [.sh (.int N), .sh (.lst (ends.map endT)), .ow ([0].map .int), .un, .un, .un] = some (irange 1 N) := by
    have := fRng2_eq (fs := fCons (fK (.int 1)) (fCons (f2 gAdd (fVar 0) (fK (.int 1))) fNil)) (ev := [.sh (.int N), .sh (.lst (ends.map endT)), .ow ([0].map .int), .un, .un, .un]) (i := 1) (j := (N : Int) + 1) rfl (by omega) (by omega) (by omega) (by omega)
    rw [show ((N : Int) + 1 - 1).toNat = N by omega] at this
    exact this
  refine (fSeq_nx ((fFor_eq hd).trans hloop)).trans ?_
  refine (fFrz_eq rfl).trans ?_
  exact fRet_eq rfl
end Mx

/-! longest lines, numbers of lines -/
namespace Mx
open PySem PySem.Spec L2 Fx Bx
open PyProof.Rows hiding St
theorem count_split (x : Str) : Txt.count x nl + 1 = ((linesF x).length : Nat) := by
  have h1 : nl.length = 1 := by decide +kernel
  have hk := TL.kind_ok (x := x) (y := nl) (by decide +kernel)
  by_cases h0 : x.length = 0
  · have e : x = ofL [] := by
      apply TL.ext_tl
      rw [TL.len_tl] at h0
      exact List.length_eq_zero_iff.mp h0
    rw [e]
    decide +kernel
  unfold linesF Txt.split Txt.count
  rw [decide_eq_false (show ¬ x.length < nl.length by omega), decide_eq_false hk, if_neg (by simp)]
  by_cases c2 : (Builtin.Str.occurrences x nl 0 x.length (x.length + 1)).isEmpty = true
  · rw [if_pos c2, List.isEmpty_iff.mp c2]; rfl
  · rw [if_neg c2]
    unfold Builtin.Str.partsBetween
    simp
theorem count_txt {ls : Ls} (g : GoodLs ls) : gCount (.str (txt ls)) [.str (Str.ofString "\n")] = some (.int ((ls.length : Int) - 1)) := by
  have h := count_split (txt ls)
  rw [g.lines, List.length_map] at h
  show some (T.int (Txt.count (txt ls) nl)) = _
  rw [show Txt.count (txt ls) nl = (ls.length : Int) - 1 by omega]
theorem GoodLs.tlen {ls : Ls} (g : GoodLs ls) : (txt ls).length ≤ 200 := by rw [len_txt]; exact g.len
theorem GoodLs.each {ls : Ls} (g : GoodLs ls) : ls.length ≤ 201 ∧ ∀ p ∈ ls, p.length ≤ 200 := by
  have h1 := g.len
  have h2 := (joinL_len ls).2 g.ne
  have h3 : ∀ p ∈ ls, p.length ≤ (ls.map List.length).sum := by
    intro p hp
    have : ∀ (l : List Nat) (x : Nat), x ∈ l → x ≤ l.sum := by
      intro l
      induction l with
      | nil => intro x hx; cases hx
      | cons y l ih =>
        intro x hx
        rw [List.sum_cons]
        rcases List.mem_cons.mp hx with e | hx
        · omega
        · have := ih x hx; omega
    exact this _ _ (List.mem_map.mpr ⟨p, hp, rfl⟩)
  have h4 : 1 ≤ ls.length := List.length_pos_iff.mpr g.ne
  refine ⟨by omega, fun p hp => ?_⟩
  have := h3 p hp
  omega
theorem lines_eq {a : Str} (h : a.length ≤ 50000) : m_lines_of [.str a] = some (.fr (.lst ((linesF a).map .str))) :=
  runP_rf rfl (by
    show fRetF (fM gSplit (fVar 0) (fCons (fK (.str "\n")) fNil)) [.sh (.str a)] = _
    unfold fRetF
    rw [(fM_eq rfl rfl).trans (gSplit_nl (small_k (by omega)))]
    rfl)
def lensL (ls : Ls) : List Int := ls.map fun l => (l.length : Int)
def longF (ls : Ls) : Int := most (lensL ls)
theorem lines_txt_eq {ls : Ls} (g : GoodLs ls) : m_lines_of [.str (txt ls)] = some (.fr (.lst (ls.map fun l => .str (ofL l)))) := by
  rw [lines_eq (by have := g.tlen; omega), g.lines, List.map_map]
  rfl
theorem longest_eq {ls : Ls} (g : GoodLs ls) : m_longest [.str (txt ls)] = some (.ok (.int (longF ls))) := by
  refine runP_rt rfl ?_
  show body_longest [.sh (.str (txt ls)), .un] = _
  unfold body_longest
  have he := g.each
  refine fRet_eq ((fC_eq (fCons_eq (fComp_map (fun l : List Nat => T.str (ofL l)) (xs := ls) (g := fun l => .int (l.length : Int)) ?_ (fun p hp => ?_) (fun _ => rfl) (by omega)) rfl)).trans ?_)
  · unfold fItems
    rw [fCallN_eq rfl (lines_txt_eq g)]
  · refine (fC_eq rfl).trans ?_
    have h1 := he.2 p hp
    show gLen [.str (ofL p)] = _
    unfold gLen
    dsimp only
    rw [if_pos (small_k (by rw [len_ofL]; omega)), len_ofL]
  · show (intsOf (ls.map fun p => T.int (p.length : Int))).bind _ = _
    rw [show (ls.map fun p => T.int (p.length : Int)) = (lensL ls).map T.int by unfold lensL; rw [List.map_map]; rfl, intsOf_map]
    show (lensL ls).max?.map T.int = _
    rw [most_max]
    · rfl
    · intro e
      exact g.ne (List.map_eq_nil_iff.mp e)
    · intro n hn
      obtain ⟨p, _, rfl⟩ := List.mem_map.mp hn
      omega
theorem most_mx (ns : List Int) : most ns = ns.foldl mx 0 := rfl
theorem signs_eq {ls : Ls} (g : GoodLs ls) : m_law_signs [.str (txt ls)] = some (.ok (.int (longF ls))) := by
  have he := g.each
  refine runP_rt rfl ?_
  show body_law_signs [.sh (.str (txt ls)), .un, .un] = _
  unfold body_law_signs
  refine (fSeq_nx rfl).trans ?_
  have hd : fItems (fM gSplit (fVar 0) (fCons (fK (.str "\n")) fNil)) [.sh (.str (txt ls)), .sh (.int 0), .un] = some (ls.map fun l => .str (ofL l)) := by
    unfold fItems
    rw [(fM_eq rfl rfl).trans (gSplit_nl (small_k (by have := g.tlen; omega))), g.lines, List.map_map]
    rfl
  obtain ⟨c, hloop, _⟩ := loopF_fold (fun l : List Nat => T.str (ofL l)) (fun (z : Int) (c : Sl) => [.sh (.str (txt ls)), .sh (.int z), c]) (fun z l => mx z (l.length : Int)) (fun _ => True) (b := b1 2) (F := fSet 1 (fC gMax (fCons (fVar 1) (fCons (fC gLen (fCons (fVar 2) fNil)) fNil)))) ls 0 .un trivial fun l hl z c _ => ⟨_, rfl, trivial, _, by
      have h1 := he.2 l hl
      refine (fSet_eq ((fC_eq (fCons_eq rfl (fCons_eq (d := .int (l.length : Int)) ((fC_eq rfl).trans ?_) rfl))).trans rfl)).trans rfl
      show gLen [.str (ofL l)] = _
      unfold gLen
      dsimp only
      rw [if_pos (small_k (by rw [len_ofL]; omega)), len_ofL]⟩
  refine (fSeq_nx ((fFor_eq hd).trans hloop)).trans ?_
  refine (fRet_eq rfl).trans ?_
  rw [show longF ls = ls.foldl (fun z l => mx z (l.length : Int)) 0 by unfold longF lensL; rw [most_mx, List.foldl_map]]
theorem len_lines {ls : Ls} (g : GoodLs ls) {ev : Ev} {f : Ev → Option T} (h : f ev = some (.str (txt ls))) : fC gLen (fCons (fCallN m_lines_of (fCons f fNil)) fNil) ev = some (.int (ls.length : Int)) := by
  refine (fC_eq (fCons_eq (fCallN_eq (fCons_eq h rfl) (lines_txt_eq g)) rfl)).trans ?_
  show some (T.int (List.length _ : Nat)) = _
  rw [List.length_map]
/-! ### across, down -/
def endX (c : Cell) : Eg := (c.1.2.1, c.1.2.1 + c.1.2.2.2, longF c.2 + 3)
def endY (c : Cell) : Eg := (c.1.1, c.1.1 + c.1.2.2.1, (c.2.length : Int) + 2)
theorem CellsOk.ends {R C : Int} {cs : List Cell} (h : CellsOk R C cs) : EndsOk (cs.map endX) ∧ EndsOk (cs.map endY) := by
  refine ⟨fun e he => ?_, fun e he => ?_⟩
  · obtain ⟨c, hc, rfl⟩ := List.mem_map.mp he
    have := h.tiles.ok c.1 (List.mem_map.mpr ⟨c, hc, rfl⟩)
    have h1 := this.c
    have h2 := this.w
    exact ⟨h1, by show c.1.2.1 < c.1.2.1 + c.1.2.2.2; omega⟩
  · obtain ⟨c, hc, rfl⟩ := List.mem_map.mp he
    have := h.tiles.ok c.1 (List.mem_map.mpr ⟨c, hc, rfl⟩)
    have h1 := this.r
    have h2 := this.h
    exact ⟨h1, by show c.1.1 < c.1.1 + c.1.2.2.1; omega⟩
def tableT (R C : Int) (cs : List Cell) : T := .tup [.int R, .int C, .lst (cs.map cellT)]
theorem across_eq {R : Int} {C : Nat} {cs : List Cell} (g : ∀ c ∈ cs, GoodLs c.2) (he : EndsOk (cs.map endX)) (hl : cs.length ≤ 1000) (hC : C ≤ 1000) : m_across [tableT R C cs] = some (.ok (.lst ((placedF (cs.map endX) C).map .int))) := by
  refine runP_rt rfl ?_
  show body_across [.sh (tableT R C cs), .un] = _
  unfold body_across
  refine fRet_eq (fCall_eq (fCons_eq (d := .int C) rfl (fCons_eq (fComp_map cellT (xs := cs) (g := fun c => endT (endX c)) rfl (fun c hc => ?_) (fun _ => rfl) (by omega)) rfl)) ?_)
  · show fC gTup _ [.sh (tableT R C cs), .sh (cellT c)] = _
    have h1 : fCall m_longest (fCons (f2 gIx (fVar 1) (fK (.int 4))) fNil) [.sh (tableT R C cs), .sh (cellT c)] = some (.int (longF c.2)) := fCall_eq rfl (by rw [longest_eq (g c hc)]; rfl)
    exact (fC_eq (fCons_eq rfl (fCons_eq rfl (fCons_eq ((f2_eq h1 rfl).trans rfl) rfl)))).trans rfl
  · rw [show cs.map (fun c => endT (endX c)) = (cs.map endX).map endT by rw [List.map_map]; rfl, placed_eq he C hC]
    rfl
theorem down_eq {R : Nat} {C : Int} {cs : List Cell} (g : ∀ c ∈ cs, GoodLs c.2) (he : EndsOk (cs.map endY)) (hl : cs.length ≤ 1000) (hR : R ≤ 1000) : m_down [tableT R C cs] = some (.ok (.lst ((placedF (cs.map endY) R).map .int))) := by
  refine runP_rt rfl ?_
  show body_down [.sh (tableT R C cs), .un] = _
  unfold body_down
  refine fRet_eq (fCall_eq (fCons_eq (d := .int R) rfl (fCons_eq (fComp_map cellT (xs := cs) (g := fun c => endT (endY c)) rfl (fun c hc => ?_) (fun _ => rfl) (by omega)) rfl)) ?_)
  · show fC gTup _ [.sh (tableT R C cs), .sh (cellT c)] = _
    exact (fC_eq (fCons_eq rfl (fCons_eq rfl (fCons_eq ((f2_eq (len_lines (g c hc) rfl) rfl).trans rfl) rfl)))).trans rfl
  · rw [show cs.map (fun c => endT (endY c)) = (cs.map endY).map endT by rw [List.map_map]; rfl, placed_eq he R hR]
    rfl
end Mx

/-! good texts -/
namespace Mx
open PySem PySem.Spec L2 Fx Bx
open PyProof.Rows hiding St
/-- a loop that only looks: the first item that p names ends it with o -/
theorem loopF_any {α γ : Type} (inj : α → T) (st : γ → Ev) (p : α → Bool) (o : Out) (ho : (∃ t, o = .rt t) ∨ ∃ c e, o = .ex c e) {b : T → Ev → Option Ev} {F : Ev → Option Out} : ∀ (xs : List α) (s : γ),
    (∀ x ∈ xs, ∀ s, ∃ e1, b (inj x) (st s) = some e1 ∧ ((p x = false ∧ ∃ s', F e1 = some (.nx (st s'))) ∨ (p x = true ∧ F e1 = some o))) →
    (xs.any p = false ∧ ∃ s', loopF b F (xs.map inj) (st s) = some (.nx (st s'))) ∨ (xs.any p = true ∧ loopF b F (xs.map inj) (st s) = some o)
  | [], s, _ => .inl ⟨rfl, s, rfl⟩
  | x :: xs, s, h => by
    obtain ⟨e1, h1, h2⟩ := h x List.mem_cons_self s
    rw [List.any_cons, List.map_cons]
    unfold loopF
    rw [h1]
    dsimp only
    rcases h2 with ⟨hp, s', h2⟩ | ⟨hp, h2⟩
    · rw [hp, h2, Bool.false_or]
      exact loopF_any inj st p o ho xs s' fun y hy => h y (List.mem_cons_of_mem _ hy)
    · rw [hp, h2, Bool.true_or]
      refine .inr ⟨rfl, ?_⟩
      rcases ho with ⟨t, rfl⟩ | ⟨c, e, rfl⟩ <;> rfl
def signsL : List Nat := TL.tl (Str.ofString " !\"#$&'()*+,-./0123456789:;<=>?@ABCDEFGHIJKLMNOPQRSTUVWXYZ[\\]^_`abcdefghijklmnopqrstuvwxyz{|}~")
theorem signs_all : signsL.all (fun c => decide (32 ≤ c) && decide (c ≤ 126) && decide (c ≠ 37)) = true := by decide +kernel
theorem signs_each : ∀ c < 127, (32 ≤ c ∧ c ≠ 37) → c ∈ signsL := by decide +kernel
instance (c : Nat) : Decidable (okC c) := by unfold okC; infer_instance
theorem signs_iff (c : Nat) : c ∈ signsL ↔ okC c := by
  unfold okC
  constructor
  · intro h
    have := List.all_eq_true.mp signs_all c h
    simpa [and_assoc] using this
  · intro h
    exact signs_each c (by omega) ⟨h.1, h.2.2⟩
def okS (c : Nat) : Bool := decide (c = 10) || (decide (32 ≤ c) && decide (c ≤ 126) && decide (c ≠ 37))
theorem okS_iff (c : Nat) : okS c = true ↔ c = 10 ∨ okC c := by
  unfold okS okC
  simp [and_assoc]
theorem ends_one (l : List Nat) (d : Nat) : Txt.endswith (ofL l) (ofL [d]) = decide (l.getLast? = some d) := by
  unfold Txt.endswith
  rw [StrLaws.subAt_eq]
  have h1 : (ofL [d]).length = 1 := rfl
  rw [h1, len_ofL]
  show (decide (0 + 1 ≤ l.length) && ((l.drop (l.length - 1)).take 1 == [d])) = _
  rcases List.eq_nil_or_concat l with rfl | ⟨l, x, rfl⟩
  · rfl
  · rw [List.concat_eq_append, List.length_append, List.length_singleton, Nat.add_sub_cancel, List.drop_left, List.getLast?_append]
    by_cases e : x = d
    · subst e; simp
    · simp [e]
def linesL (l : List Nat) : List (List Nat) := TL.spl [10] 0 [] l
theorem lines_spl (l : List Nat) : linesF (ofL l) = (linesL l).map ofL := by
  apply TL.map_tl_inj
  have h := TL.split_spl (ofL l) nl (by rw [nl_tl]; decide) (TL.kind_ok (by decide +kernel))
  rw [nl_tl, tl_ofL] at h
  rw [List.map_map, show (TL.tl ∘ ofL) = (id : List Nat → List Nat) from funext fun l => tl_ofL l, List.map_id]
  exact h
/-- a text's signs, one by one -/
def goodB (l : List Nat) : Bool := decide (l.length ≤ 200) && l.all okS && (linesL l).all (fun p => decide (p.getLast? ≠ some 32)) && decide (l.getLast? ≠ some 10)
theorem good_eq (l : List Nat) (hl : l.length ≤ 50000) : m_is_good [.str (ofL l)] = some (.ok (.bl (goodB l))) := by
  have hlen : fC gLen (fCons (fVar 0) fNil) [.sh (.str (ofL l)), .un, .un] = some (.int (l.length : Nat)) := by
    refine (fC_eq rfl).trans ?_
    show gLen [.str (ofL l)] = _
    unfold gLen
    dsimp only
    rw [if_pos (small_k (by rw [len_ofL]; omega)), len_ofL]
  have key : ∃ o, body_is_good [.sh (.str (ofL l)), .un, .un] = some o ∧ o = .rt (.bl (goodB l)) := by
    refine ⟨_, ?_, rfl⟩
    unfold body_is_good goodB
    by_cases h1 : l.length ≤ 200
    · have hgt : gGt (.int (l.length : Nat)) (.int 200) = some (.bl false) := by
        show some (T.bl (decide ((200 : Int) < (l.length : Nat)))) = _
        rw [decide_eq_false (by omega)]
      refine (fSeq_nx ((fIf_f ((fOr_f rfl).trans (fTest_eq ((f2_eq hlen rfl).trans hgt)))).trans rfl)).trans ?_
      rw [decide_eq_true h1, Bool.true_and]
      have hsg : fSigns (fVar 0) [.sh (.str (ofL l)), .un, .un] = some (l.map fun c => T.str ⟨#[c]⟩) := rfl
      have h2 := loopF_any (fun c : Nat => T.str ⟨#[c]⟩) (fun s : Sl => [.sh (.str (ofL l)), s, .un]) (fun c => !okS c) (.rt (.bl false)) (.inl ⟨_, rfl⟩) (b := b1 1) (F := lp1_is_good) l .un fun c hc s => ⟨_, rfl, by
        show (_ ∧ ∃ s', lp1_is_good [.sh (.str (ofL l)), .sh (.str ⟨#[c]⟩), .un] = _) ∨ (_ ∧ lp1_is_good [.sh (.str (ofL l)), .sh (.str ⟨#[c]⟩), .un] = _)
        unfold lp1_is_good
        have e1 : fTest (f2 gNe (fVar 1) (fK (.str "\n"))) [.sh (.str (ofL l)), .sh (.str ⟨#[c]⟩), .un] = some (!decide (c = 10)) := by
          refine fTest_eq ((f2_eq rfl rfl).trans ?_)
          show some (T.bl (!decide ((⟨#[c]⟩ : Str) = Str.ofString "\n"))) = _
          have : ((⟨#[c]⟩ : Str) = Str.ofString "\n") ↔ c = 10 := by
            rw [show Str.ofString "\n" = ⟨#[10]⟩ by decide +kernel]
            simp
          rw [decide_eq_decide.mpr this]
        have e2 : fTest (f2 gNotInS (fVar 1) (fK (.str " !\"#$&'()*+,-./0123456789:;<=>?@ABCDEFGHIJKLMNOPQRSTUVWXYZ[\\]^_`abcdefghijklmnopqrstuvwxyz{|}~"))) [.sh (.str (ofL l)), .sh (.str ⟨#[c]⟩), .un] = some (!decide (okC c)) := by
          refine fTest_eq ((f2_eq rfl rfl).trans ?_)
          show some (T.bl (!decide (c ∈ signsL))) = _
          rw [decide_eq_decide.mpr (signs_iff c)]
        by_cases q : c = 10
        · refine .inl ⟨by rw [show okS c = true from (okS_iff c).mpr (.inl q)]; rfl, .sh (.str ⟨#[c]⟩), ?_⟩
          rw [decide_eq_true q] at e1
          exact (fIf_f ((fAnd_f e1).trans rfl)).trans rfl
        · rw [decide_eq_false q] at e1
          by_cases q2 : okC c
          · refine .inl ⟨by rw [show okS c = true from (okS_iff c).mpr (.inr q2)]; rfl, .sh (.str ⟨#[c]⟩), ?_⟩
            rw [decide_eq_true q2] at e2
            exact (fIf_f ((fAnd_t e1).trans e2)).trans rfl
          · refine .inr ⟨?_, ?_⟩
            · cases h : okS c with
              | false => rfl
              | true => exact absurd ((okS_iff c).mp h) (by simp [q, q2])
            · rw [decide_eq_false q2] at e2
              exact (fIf_t ((fAnd_t e1).trans e2)).trans rfl⟩
      rw [List.all_eq_not_any_not (l := l)]
      rcases h2 with ⟨ha, s1, h2⟩ | ⟨ha, h2⟩
      · rw [ha]
        refine (fSeq_nx ((fFor_eq hsg).trans h2)).trans ?_
        have hli : fItems (fCallN m_lines_of (fCons (fVar 0) fNil)) [.sh (.str (ofL l)), s1, .un] = some ((linesL l).map fun p => T.str (ofL p)) := by
          unfold fItems
          rw [fCallN_eq rfl (lines_eq (by rw [len_ofL]; exact hl)), lines_spl, List.map_map]
          rfl
        have h3 := loopF_any (fun p : List Nat => T.str (ofL p)) (fun s : Sl => [.sh (.str (ofL l)), s1, s]) (fun p => !decide (p.getLast? ≠ some 32)) (.rt (.bl false)) (.inl ⟨_, rfl⟩) (b := b1 2) (F := lp2_is_good) (linesL l) .un fun p hp s => ⟨_, rfl, by
          show (_ ∧ ∃ s', lp2_is_good [.sh (.str (ofL l)), s1, .sh (.str (ofL p))] = _) ∨ (_ ∧ lp2_is_good [.sh (.str (ofL l)), s1, .sh (.str (ofL p))] = _)
          unfold lp2_is_good
          have e1 : fTest (fM gEndswith (fVar 2) (fCons (fK (.str " ")) fNil)) [.sh (.str (ofL l)), s1, .sh (.str (ofL p))] = some (decide (p.getLast? = some 32)) := by
            refine fTest_eq ((fM_eq rfl rfl).trans ?_)
            show some (T.bl (Txt.endswith (ofL p) (Str.ofString " "))) = _
            rw [show Str.ofString " " = ofL [32] by decide +kernel, ends_one]
          by_cases q : p.getLast? = some 32
          · rw [decide_eq_true q] at e1
            exact .inr ⟨by simp [q], (fIf_t e1).trans rfl⟩
          · rw [decide_eq_false q] at e1
            exact .inl ⟨by simp [q], _, (fIf_f e1).trans rfl⟩⟩
        rw [List.all_eq_not_any_not (l := linesL l)]
        rcases h3 with ⟨hb, s2, h3⟩ | ⟨hb, h3⟩
        · rw [hb]
          refine (fSeq_nx ((fFor_eq hli).trans h3)).trans ?_
          refine fRet_eq ?_
          have e1 : fM gEndswith (fVar 0) (fCons (fK (.str "\n")) fNil) [.sh (.str (ofL l)), s1, s2] = some (.bl (decide (l.getLast? = some 10))) := by
            refine (fM_eq rfl rfl).trans ?_
            show some (T.bl (Txt.endswith (ofL l) (Str.ofString "\n"))) = _
            rw [show Str.ofString "\n" = ofL [10] by decide +kernel, ends_one]
          unfold fNotV
          rw [e1]
          simp
        · rw [hb]
          refine (fSeq_rt ((fFor_eq hli).trans h3)).trans ?_
          simp
      · rw [ha]
        refine (fSeq_rt ((fFor_eq hsg).trans h2)).trans ?_
        simp
    · have hgt : gGt (.int (l.length : Nat)) (.int 200) = some (.bl true) := by
        show some (T.bl (decide ((200 : Int) < (l.length : Nat)))) = _
        rw [decide_eq_true (by omega)]
      refine (fSeq_rt ((fIf_t ((fOr_f rfl).trans (fTest_eq ((f2_eq hlen rfl).trans hgt)))).trans rfl)).trans ?_
      rw [decide_eq_false h1]
      simp
  obtain ⟨o, h1, rfl⟩ := key
  exact (runP_ev rfl).trans (by show outP (body_is_good [.sh (.str (ofL l)), .un, .un]) = _; rw [h1]; rfl)
end Mx

/-! owner, and the laws' own look for a square -/
namespace Mx
open PySem PySem.Spec L2 Fx Bx
open PyProof.Rows hiding St
theorem loopF_find {α : Type} (inj : α → T) (p : α → Bool) (st : Sl → Ev) {b : T → Ev → Option Ev} {F : Ev → Option Out} : ∀ (xs : List α) (s : Sl), (∀ x ∈ xs, ∀ s, ∃ e1, b (inj x) (st s) = some e1 ∧ F e1 = if p x = true then some (.rt (inj x)) else some (.nx (st (.sh (inj x))))) →
    ∃ s', loopF b F (xs.map inj) (st s) = match xs.find? p with | some x => some (.rt (inj x)) | none => some (.nx (st s'))
  | [], s, _ => ⟨s, rfl⟩
  | x :: xs, s, h => by
    obtain ⟨e1, h1, h2⟩ := h x List.mem_cons_self s
    rw [List.map_cons, List.find?_cons]
    unfold loopF
    rw [h1]
    dsimp only
    rw [h2]
    by_cases hp : p x = true
    · rw [if_pos hp, hp]
      exact ⟨s, rfl⟩
    · rw [if_neg hp, Bool.eq_false_iff.mpr hp]
      exact loopF_find inj p st xs _ fun y hy => h y (List.mem_cons_of_mem _ hy)
def hasC (i j : Int) (c : Cell) : Bool := has i j c.1
theorem look_test {i j : Int} {c : Cell} {s0 s1 s2 : Sl} (h1 : s1 = .sh (.int i)) (h2 : s2 = .sh (.int j)) : fAnd (fTest (fChain gLe gLt (f2 gIx (fVar 3) (fK (.int 0))) (fVar 1) (f2 gAdd (f2 gIx (fVar 3) (fK (.int 0))) (f2 gIx (fVar 3) (fK (.int 2))))))
    (fTest (fChain gLe gLt (f2 gIx (fVar 3) (fK (.int 1))) (fVar 2) (f2 gAdd (f2 gIx (fVar 3) (fK (.int 1))) (f2 gIx (fVar 3) (fK (.int 3)))))) [s0, s1, s2, .sh (cellT c)] = some (hasC i j c) := by
  subst h1 h2
  obtain ⟨⟨r, k, h, w⟩, ls⟩ := c
  have e1 : fChain gLe gLt (f2 gIx (fVar 3) (fK (.int 0))) (fVar 1) (f2 gAdd (f2 gIx (fVar 3) (fK (.int 0))) (f2 gIx (fVar 3) (fK (.int 2)))) [s0, .sh (.int i), .sh (.int j), .sh (cellT ((r, k, h, w), ls))] = some (.bl (decide (r ≤ i) && decide (i < r + h))) := by
    show (match gLe (.int r) (.int i) with | some (.bl true) => gLt (.int i) (.int (r + h)) | some (.bl false) => some (.bl false) | _ => none) = _
    show (match (some (T.bl (decide (r ≤ i))) : Option T) with | some (.bl true) => some (T.bl (decide (i < r + h))) | some (.bl false) => some (.bl false) | _ => none) = _
    cases decide (r ≤ i) <;> rfl
  have e2 : fChain gLe gLt (f2 gIx (fVar 3) (fK (.int 1))) (fVar 2) (f2 gAdd (f2 gIx (fVar 3) (fK (.int 1))) (f2 gIx (fVar 3) (fK (.int 3)))) [s0, .sh (.int i), .sh (.int j), .sh (cellT ((r, k, h, w), ls))] = some (.bl (decide (k ≤ j) && decide (j < k + w))) := by
    show (match gLe (.int k) (.int j) with | some (.bl true) => gLt (.int j) (.int (k + w)) | some (.bl false) => some (.bl false) | _ => none) = _
    show (match (some (T.bl (decide (k ≤ j))) : Option T) with | some (.bl true) => some (T.bl (decide (j < k + w))) | some (.bl false) => some (.bl false) | _ => none) = _
    cases decide (k ≤ j) <;> rfl
  rw [fAnd_ev, fTest_ev, fTest_ev, e1, e2]
  show (if _ = true then some _ else some false) = some (decide _)
  by_cases q1 : r ≤ i <;> by_cases q2 : i < r + h <;> by_cases q3 : k ≤ j <;> by_cases q4 : j < k + w <;> simp [q1, q2, q3, q4]
theorem owner_eq (cs : List Cell) (tb : T) (h2 : gIx tb (.int 2) = some (.lst (cs.map cellT))) (i j : Int) : m_owner [tb, .int i, .int j] = match cs.find? (hasC i j) with | some c => some (.ok (cellT c)) | none => some (.ex "NoSquare") := by
  obtain ⟨s', hl⟩ := loopF_find cellT (hasC i j) (fun s => [.sh tb, .sh (.int i), .sh (.int j), s]) (b := b1 3) (F := lp1_owner) cs .un (fun c _ s => ⟨[.sh tb, .sh (.int i), .sh (.int j), .sh (cellT c)], rfl, (fIf_ev).trans (by rw [look_test rfl rfl]; cases hasC i j c <;> rfl)⟩)
  unfold m_owner
  refine (runB_ev rfl).trans ?_
  show outR _ (body_owner [.sh tb, .sh (.int i), .sh (.int j), .un]) = _
  unfold body_owner
  rw [fSeq_ev, fIf_ev]
  have e : fAnd (fTest (fCall m_is_whole (fCons (fVar 1) fNil))) (fTest (fCall m_is_whole (fCons (fVar 2) fNil))) [.sh tb, .sh (.int i), .sh (.int j), .un] = some true := rfl
  rw [e, Option.bind_some, if_pos rfl]
  have ef : fFor (fItems (f2 gIx (fVar 0) (fK (.int 2)))) (b1 3) lp1_owner [.sh tb, .sh (.int i), .sh (.int j), .un] = loopF (b1 3) lp1_owner (cs.map cellT) [.sh tb, .sh (.int i), .sh (.int j), .un] :=
    fFor_eq (by unfold fItems; rw [show f2 gIx (fVar 0) (fK (.int 2)) [.sh tb, .sh (.int i), .sh (.int j), .un] = gIx tb (.int 2) from rfl, h2])
  rw [ef, hl]
  cases cs.find? (hasC i j) <;> rfl
theorem owner_bad (tb a b : T) (h : m_is_whole [a] = some (.ok (.bl false)) ∨ ∃ j, a = .int j ∧ m_is_whole [b] = some (.ok (.bl false))) : m_owner [tb, a, b] = some (.ex "NoSquare") := by
  unfold m_owner
  refine (runB_ev rfl).trans ?_
  show outR _ (body_owner [.sh tb, .sh a, .sh b, .un]) = _
  unfold body_owner
  rw [fSeq_ev, fIf_ev]
  have e : fAnd (fTest (fCall m_is_whole (fCons (fVar 1) fNil))) (fTest (fCall m_is_whole (fCons (fVar 2) fNil))) [.sh tb, .sh a, .sh b, .un] = some false := by
    rcases h with h | ⟨j, rfl, h⟩
    · rw [fAnd_ev, fTest_ev, show fCall m_is_whole (fCons (fVar 1) fNil) [.sh tb, .sh a, .sh b, .un] = val (m_is_whole [a]) from rfl, h]
      rfl
    · rw [fAnd_ev, fTest_ev, fTest_ev, show fCall m_is_whole (fCons (fVar 2) fNil) [.sh tb, .sh (.int j), .sh b, .un] = val (m_is_whole [b]) from rfl, h]
      rfl
  rw [e]
  rfl
theorem Tiles.find {R C : Int} {cs : List Cell} (ts : Tiles R C (cs.map Prod.fst)) {i j : Int} (h1 : 0 ≤ i) (h2 : i < R) (h3 : 0 ≤ j) (h4 : j < C) : ∃ c ∈ cs, cs.find? (hasC i j) = some c ∧ hasC i j c = true := by
  have h := ts.one i j h1 h2 h3 h4
  rw [List.countP_map] at h
  cases e : cs.find? (hasC i j) with
  | some c => exact ⟨c, List.mem_of_find?_eq_some e, rfl, List.find?_some e⟩
  | none =>
    rw [List.find?_eq_none] at e
    have : cs.countP (has i j ∘ Prod.fst) = 0 := List.countP_eq_zero.mpr fun c hc => e c hc
    omega
theorem Tiles.miss {R C : Int} {cs : List Cell} (ts : Tiles R C (cs.map Prod.fst)) {i j : Int} (h : i < 0 ∨ R ≤ i ∨ j < 0 ∨ C ≤ j) : cs.find? (hasC i j) = none := by
  rw [List.find?_eq_none]
  intro c hc hh
  obtain ⟨h1, h2, h3, h4⟩ := has_iff.mp hh
  have ok := ts.ok c.1 (List.mem_map_of_mem hc)
  have := ok.r; have := ok.c; have := ok.rh; have := ok.cw
  omega
theorem over_eq (cs : List Cell) (i j : Int) : m_law_over [.lst (cs.map cellT), .int i, .int j] = match cs.find? (hasC i j) with | some c => some (.ok (cellT c)) | none => some (.ok .non) := by
  obtain ⟨s', hl⟩ := loopF_find cellT (hasC i j) (fun s => [.sh (.lst (cs.map cellT)), .sh (.int i), .sh (.int j), s]) (b := b1 3) (F := lp1_law_over) cs .un (fun c _ s => ⟨[.sh (.lst (cs.map cellT)), .sh (.int i), .sh (.int j), .sh (cellT c)], rfl, (fIf_ev).trans (by rw [look_test rfl rfl]; cases hasC i j c <;> rfl)⟩)
  unfold m_law_over
  refine (runP_ev rfl).trans ?_
  show outP (body_law_over [.sh (.lst (cs.map cellT)), .sh (.int i), .sh (.int j), .un]) = _
  unfold body_law_over
  rw [fSeq_ev]
  have ef : fFor (fItems (fVar 0)) (b1 3) lp1_law_over [.sh (.lst (cs.map cellT)), .sh (.int i), .sh (.int j), .un] = loopF (b1 3) lp1_law_over (cs.map cellT) [.sh (.lst (cs.map cellT)), .sh (.int i), .sh (.int j), .un] := fFor_eq rfl
  rw [ef, hl]
  cases cs.find? (hasC i j) <;> rfl
theorem cell_is_eq (c : Cell) : m_law_cell_is [cellT c, cellT c] = some (.ok (.bl true)) := by
  obtain ⟨⟨r, k, h, w⟩, ls⟩ := c
  unfold m_law_cell_is
  refine (runP_ev rfl).trans ?_
  unfold body_law_cell_is
  rw [fSeq_ev]
  have e0 : fIf (fOr (fNot (fTest (f1 (gIs qTuple) (fVar 0)))) (fOr (fTest (f2 gNe (fC gLen (fCons (fVar 0) fNil)) (fK (.int 5)))) (fNot (fTest (f1 (gIs qStr) (f2 gIx (fVar 0) (fK (.int 4)))))))) (fRet (fK (.bl false))) fSkip [.sh (cellT ((r, k, h, w), ls)), .sh (cellT ((r, k, h, w), ls)), .un] =
    some (.nx [.sh (cellT ((r, k, h, w), ls)), .sh (cellT ((r, k, h, w), ls)), .un]) := rfl
  have e1 : ∃ s, fFor (fRng1 (fCons (fK (.int 4)) fNil)) (b1 2) lp1_law_cell_is [.sh (cellT ((r, k, h, w), ls)), .sh (cellT ((r, k, h, w), ls)), .un] = some (.nx [.sh (cellT ((r, k, h, w), ls)), .sh (cellT ((r, k, h, w), ls)), s]) := by
    have hn : ∀ i : Int, gNe (.int i) (.int i) = some (.bl false) := fun i => by simp
    have ht : ∀ (n : Nat) (i : Int) (s : Sl), gIx (cellT ((r, k, h, w), ls)) (.int (n : Nat)) = some (.int i) → lp1_law_cell_is [.sh (cellT ((r, k, h, w), ls)), .sh (cellT ((r, k, h, w), ls)), .sh (.int (n : Nat))] = some (.nx [.sh (cellT ((r, k, h, w), ls)), .sh (cellT ((r, k, h, w), ls)), .sh (.int (n : Nat))]) := fun n i s hi => by
      unfold lp1_law_cell_is
      have e2 : f2 gIx (fVar 0) (fVar 2) [.sh (cellT ((r, k, h, w), ls)), .sh (cellT ((r, k, h, w), ls)), .sh (.int (n : Nat))] = some (.int i) := hi
      have e3 : f2 gIx (fVar 1) (fVar 2) [.sh (cellT ((r, k, h, w), ls)), .sh (cellT ((r, k, h, w), ls)), .sh (.int (n : Nat))] = some (.int i) := hi
      exact (fIf_f ((fOr_f ((fNot_eq (fTest_eq (fCall_eq (fCons_eq e2 rfl) rfl))).trans rfl)).trans (fTest_eq ((f2_eq e2 e3).trans (hn i))))).trans rfl
    refine ⟨.sh (.int 3), (fFor_eq (ds := irange 0 4) rfl).trans ?_⟩
    have er : irange 0 4 = [.int (0 : Nat), .int (1 : Nat), .int (2 : Nat), .int (3 : Nat)] := rfl
    rw [er]
    have hs : ∀ (n : Nat) (i : Int) (s : Sl) (ts : List T), gIx (cellT ((r, k, h, w), ls)) (.int (n : Nat)) = some (.int i) → loopF (b1 2) lp1_law_cell_is (.int (n : Nat) :: ts) [.sh (cellT ((r, k, h, w), ls)), .sh (cellT ((r, k, h, w), ls)), s] = loopF (b1 2) lp1_law_cell_is ts [.sh (cellT ((r, k, h, w), ls)), .sh (cellT ((r, k, h, w), ls)), .sh (.int (n : Nat))] := fun n i s ts hi => by
      conv => lhs; unfold loopF
      rw [show b1 2 (.int (n : Nat)) [.sh (cellT ((r, k, h, w), ls)), .sh (cellT ((r, k, h, w), ls)), s] = some [.sh (cellT ((r, k, h, w), ls)), .sh (cellT ((r, k, h, w), ls)), .sh (.int (n : Nat))] from rfl]
      dsimp only
      rw [ht n i s hi]
    rw [hs 0 r _ _ rfl, hs 1 k _ _ rfl, hs 2 h _ _ rfl, hs 3 w _ _ rfl]
    rfl
  obtain ⟨s, e1⟩ := e1
  show outP ((fIf _ _ _ [.sh (cellT ((r, k, h, w), ls)), .sh (cellT ((r, k, h, w), ls)), .un]).bind _) = _
  rw [e0, Option.bind_some, thenF_nx, fSeq_ev, e1, Option.bind_some, thenF_nx, fRet_ev]
  show outP ((gEq (.str (txt ls)) (.str (txt ls))).bind _) = _
  simp
end Mx

/-! cells sorted by their corners -/
namespace Mx
open PySem PySem.Spec L2 Fx Bx
open PyProof.Rows hiding St
theorem leCell_iff {a b : Cell} : leCell a b = true ↔ (a.1.1 < b.1.1 ∨ (a.1.1 = b.1.1 ∧ a.1.2.1 ≤ b.1.2.1)) := decide_eq_true_iff
def Srt (cs : List Cell) : Prop := cs.Pairwise fun a b => leCell a b = true
def Dist (cs : List Cell) : Prop := cs.Pairwise fun a b => ¬ (a.1.1 = b.1.1 ∧ a.1.2.1 = b.1.2.1)
theorem srt_sort (cs : List Cell) : Srt (sortCells cs) := List.pairwise_mergeSort (fun a b c h1 h2 => by rw [leCell_iff] at *; omega) (fun a b => by rw [Bool.or_eq_true, leCell_iff, leCell_iff]; omega) cs
theorem sort_srt {cs : List Cell} (h : Srt cs) : sortCells cs = cs := List.mergeSort_of_pairwise h
theorem Dist.perm {xs ys : List Cell} (p : xs.Perm ys) (h : Dist xs) : Dist ys := p.pairwise h fun h e => h ⟨e.1.symm, e.2.symm⟩
theorem Dist.inj {xs : List Cell} (h : Dist xs) {a b : Cell} (ha : a ∈ xs) (hb : b ∈ xs) (e1 : a.1.1 = b.1.1) (e2 : a.1.2.1 = b.1.2.1) : a = b := by
  induction xs with
  | nil => cases ha
  | cons x r ih =>
    obtain ⟨h1, h2⟩ := List.pairwise_cons.mp h
    rcases List.mem_cons.mp ha with q | ha'
    · rcases List.mem_cons.mp hb with p | hb'
      · rw [q, p]
      · subst q; exact absurd ⟨e1, e2⟩ (h1 _ hb')
    · rcases List.mem_cons.mp hb with p | hb'
      · subst p; exact absurd ⟨e1.symm, e2.symm⟩ (h1 _ ha')
      · exact ih h2 ha' hb'
theorem eq_of_perm {xs ys : List Cell} (hx : Srt xs) (hy : Srt ys) (d : Dist xs) (p : xs.Perm ys) : xs = ys := by
  refine List.Perm.eq_of_pairwise (le := fun a b => leCell a b = true) (fun a b ha hb h1 h2 => ?_) hx hy p
  rw [leCell_iff] at h1 h2
  exact d.inj ha (p.mem_iff.mpr hb) (by omega) (by omega)
theorem sort_of_perm {xs ys : List Cell} (d : Dist xs) (p : xs.Perm ys) : sortCells xs = sortCells ys :=
  eq_of_perm (srt_sort xs) (srt_sort ys) (d.perm (sort_perm xs).symm) ((sort_perm xs).trans (p.trans (sort_perm ys).symm))
theorem Tiles.dist {R C : Int} {cs : List Cell} (ts : Tiles R C (cs.map Prod.fst)) : Dist cs := by
  refine List.pairwise_iff_forall_sublist.mpr fun {a b} hs e => ?_
  have hsub : [a.1, b.1].Sublist (cs.map Prod.fst) := hs.map Prod.fst
  have ha := ts.ok a.1 (hsub.subset List.mem_cons_self)
  have hb := ts.ok b.1 (hsub.subset (List.mem_cons_of_mem _ List.mem_cons_self))
  have := ha.r; have := ha.c; have := ha.h; have := ha.w; have := ha.rh; have := ha.cw; have := hb.h; have := hb.w
  have h1 := ts.one a.1.1 a.1.2.1 (by omega) (by omega) (by omega) (by omega)
  have h2 := hsub.countP_le (p := has a.1.1 a.1.2.1)
  rw [countP_2, if_pos (has_iff.mpr (by omega)), if_pos (has_iff.mpr (by omega))] at h2
  omega
theorem CellsOk.dist {R C : Int} {cs : List Cell} (ok : CellsOk R C cs) : Dist cs := ok.tiles.dist
/-- by a number, one after the other -/
theorem filter_step {α : Type} (key : α → Int) (n : Nat) : ∀ {xs : List α}, xs.Pairwise (fun a b => key a ≤ key b) → xs.filter (fun x => decide (key x < (n : Int) + 1)) = xs.filter (fun x => decide (key x < n)) ++ xs.filter (fun x => decide (key x = n))
  | [], _ => rfl
  | a :: r, h => by
    obtain ⟨h1, h2⟩ := List.pairwise_cons.mp h
    have ih := filter_step key n h2
    rcases Int.lt_trichotomy (key a) n with q | q | q
    · rw [List.filter_cons_of_pos (by simp; omega), List.filter_cons_of_pos (by simp; omega), List.filter_cons_of_neg (by simp; omega), ih]
      rfl
    · have e : r.filter (fun x => decide (key x < n)) = [] := List.filter_eq_nil_iff.mpr fun x hx => by have := h1 x hx; simp; omega
      rw [List.filter_cons_of_pos (by simp; omega), List.filter_cons_of_neg (by simp; omega), List.filter_cons_of_pos (by simp; omega), ih, e]
      rfl
    · have e : ∀ x ∈ r, ¬ key x ≤ n := fun x hx => by have := h1 x hx; omega
      rw [List.filter_cons_of_neg (by simp; omega), List.filter_cons_of_neg (by simp; omega), List.filter_cons_of_neg (by simp; omega), ih]
theorem bucket {α : Type} (key : α → Int) {xs : List α} (h : xs.Pairwise fun a b => key a ≤ key b) (h0 : ∀ x ∈ xs, 0 ≤ key x) : ∀ n : Nat, (List.range n).flatMap (fun (k : Nat) => xs.filter fun x => decide (key x = (k : Int))) = xs.filter fun x => decide (key x < n)
  | 0 => by
    symm
    exact List.filter_eq_nil_iff.mpr fun x hx => by have := h0 x hx; simp; omega
  | n + 1 => by
    rw [List.range_succ, List.flatMap_append, bucket key h h0 n]
    show _ ++ (_ ++ []) = _
    rw [List.append_nil, show (((n + 1 : Nat) : Int)) = (n : Int) + 1 from by omega, filter_step key n h]
/-! ### turned -/
def flipC (c : Cell) : Cell := ((c.1.2.1, c.1.1, c.1.2.2.2, c.1.2.2.1), c.2)
theorem flip_flip (c : Cell) : flipC (flipC c) = c := rfl
def tabT (R C : Int) (cs : List Cell) : T := .tup [.int R, .int C, .lst (cs.map cellT)]
theorem gTupN_cells (R C : Int) (cs : List Cell) : gTupN [.int R, .int C] (.lst (cs.map cellT)) = some (tabT R C cs) := by
  unfold gTupN
  rw [show noLs [.int R, .int C] = true from rfl]
  rfl
theorem turned_eq {R C : Int} {cs : List Cell} (hl : cs.length ≤ 1000) : m_turned [tabT R C cs] = some (.fr (tabT C R (sortCells (cs.map flipC)))) := by
  unfold m_turned
  refine (runP_ev rfl).trans ?_
  show outP (body_turned [.sh (tabT R C cs), .un, .un]) = _
  unfold body_turned
  rw [fSeq_ev]
  have e1 : fSet 1 (fComp (fItems (f2 gIx (fVar 0) (fK (.int 2)))) (b1 2) fYes (fC gTup (fCons (f2 gIx (fVar 2) (fK (.int 1))) (fCons (f2 gIx (fVar 2) (fK (.int 0))) (fCons (f2 gIx (fVar 2) (fK (.int 3))) (fCons (f2 gIx (fVar 2) (fK (.int 2))) (fCons (f2 gIx (fVar 2) (fK (.int 4))) fNil)))))) [2]) [.sh (tabT R C cs), .un, .un] = some (.nx [.sh (tabT R C cs), .sh (.lst ((cs.map flipC).map cellT)), .un]) := by
    rw [List.map_map]
    exact fSet_eq (fComp_map cellT (by rfl) (fun c _ => (fC_eq rfl).trans (gTup_small (by simp))) (fun c => rfl) (by omega))
  rw [e1, Option.bind_some, thenF_nx, fRetF_ev]
  have e2 : fTupN (fCons (f2 gIx (fVar 0) (fK (.int 1))) (fCons (f2 gIx (fVar 0) (fK (.int 0))) fNil)) (f1 gSortC (fVar 1)) [.sh (tabT R C cs), .sh (.lst ((cs.map flipC).map cellT)), .un] = some (tabT C R (sortCells (cs.map flipC))) := by
    unfold fTupN
    rw [show fCons (f2 gIx (fVar 0) (fK (.int 1))) (fCons (f2 gIx (fVar 0) (fK (.int 0))) fNil) [.sh (tabT R C cs), .sh (.lst ((cs.map flipC).map cellT)), .un] = some [.int C, .int R] from rfl,
      show f1 gSortC (fVar 1) [.sh (tabT R C cs), .sh (.lst ((cs.map flipC).map cellT)), .un] = gSortC (.lst ((cs.map flipC).map cellT)) from rfl, gSortC_cells (by rw [List.length_map]; omega)]
    exact gTupN_cells _ _ _
  rw [e2]
  rfl
/-! ### the laws' own look at a table -/
theorem gNe_ii {i : Int} : gNe (.int i) (.int i) = some (.bl false) := by simp
theorem gNe_ss {a : Str} : gNe (.str a) (.str a) = some (.bl false) := by simp
theorem loop4 (st : Sl → Ev) {b : T → Ev → Option Ev} {F : Ev → Option Out} (s : Sl) (h : ∀ k : Nat, k < 4 → ∀ s, ∃ e1, b (.int (k : Nat)) (st s) = some e1 ∧ ∃ s', F e1 = some (.nx (st s'))) : ∃ s', loopF b F (irange 0 4) (st s) = some (.nx (st s')) := by
  obtain ⟨s', h2⟩ := loopF_upto (γ := Sl) (fun k => T.int (0 + (k : Nat))) (fun _ s => st s) (b := b) (F := F) 4 s (fun k hk s => by rw [Int.zero_add]; exact h k hk s)
  exact ⟨s', h2⟩
theorem is_turn (tb t1 t2 t3 : T) (c : Cell) (s6 : Sl) : ∃ s6', lp2_law_is [.sh tb, .sh t1, .sh t2, .sh t3, .sh (cellT c), .sh (cellT c), s6] = some (.nx [.sh tb, .sh t1, .sh t2, .sh t3, .sh (cellT c), .sh (cellT c), s6']) := by
  obtain ⟨⟨r, k, h, w⟩, ls⟩ := c
  obtain ⟨s', hl⟩ := loop4 (fun s => [.sh tb, .sh t1, .sh t2, .sh t3, .sh (cellT ((r, k, h, w), ls)), .sh (cellT ((r, k, h, w), ls)), s]) (b := b1 6) (F := lp1_law_is) s6 fun n hn s => by
    refine ⟨[.sh tb, .sh t1, .sh t2, .sh t3, .sh (cellT ((r, k, h, w), ls)), .sh (cellT ((r, k, h, w), ls)), .sh (.int (n : Nat))], rfl, .sh (.int (n : Nat)), ?_⟩
    have hi : ∃ i, gIx (cellT ((r, k, h, w), ls)) (.int (n : Nat)) = some (.int i) := by
      rcases (show n = 0 ∨ n = 1 ∨ n = 2 ∨ n = 3 by omega) with rfl | rfl | rfl | rfl
      · exact ⟨r, rfl⟩
      · exact ⟨k, rfl⟩
      · exact ⟨h, rfl⟩
      · exact ⟨w, rfl⟩
    obtain ⟨i, hi⟩ := hi
    have e2 : f2 gIx (fVar 4) (fVar 6) [.sh tb, .sh t1, .sh t2, .sh t3, .sh (cellT ((r, k, h, w), ls)), .sh (cellT ((r, k, h, w), ls)), .sh (.int (n : Nat))] = some (.int i) := hi
    have e3 : f2 gIx (fVar 5) (fVar 6) [.sh tb, .sh t1, .sh t2, .sh t3, .sh (cellT ((r, k, h, w), ls)), .sh (cellT ((r, k, h, w), ls)), .sh (.int (n : Nat))] = some (.int i) := hi
    exact (fIf_f ((fOr_f ((fNot_eq (fTest_eq (fCall_eq (fCons_eq e2 rfl) rfl))).trans rfl)).trans (fTest_eq ((f2_eq e2 e3).trans gNe_ii)))).trans rfl
  refine ⟨s', ?_⟩
  unfold lp2_law_is
  refine (fSeq_nx ((fIf_f ((fOr_f rfl).trans ((fOr_f rfl).trans ((fOr_f rfl).trans (fTest_eq ((f2_eq (d := .str (txt ls)) (e := .str (txt ls)) rfl rfl).trans gNe_ss)))))).trans rfl)).trans ?_
  exact (fFor_eq (ds := irange 0 4) rfl).trans hl
theorem is_eq (R C : Int) (cs : List Cell) : m_law_is [tabT R C cs, .int R, .int C, .lst (cs.map cellT)] = some (.ok (.bl true)) := by
  unfold m_law_is
  refine (runP_ev rfl).trans ?_
  show outP (body_law_is [.sh (tabT R C cs), .sh (.int R), .sh (.int C), .sh (.lst (cs.map cellT)), .un, .un, .un]) = _
  unfold body_law_is
  refine (congrArg outP (fSeq_nx ((fIf_f ((fOr_f rfl).trans ((fOr_f rfl).trans ((fOr_f rfl).trans rfl)))).trans rfl))).trans ?_
  refine (congrArg outP (fSeq_nx ((fIf_f ((fOr_f (fTest_eq ((f2_eq (d := .int R) (e := .int R) rfl rfl).trans gNe_ii))).trans ((fOr_f (fTest_eq ((f2_eq (d := .int C) (e := .int C) rfl rfl).trans gNe_ii))).trans
    ((fOr_f rfl).trans (fTest_eq ((f2_eq (d := .int (cs.map cellT).length) (e := .int (cs.map cellT).length) rfl rfl).trans gNe_ii)))))).trans rfl))).trans ?_
  have hz : fZip (fCons (f2 gIx (fVar 0) (fK (.int 2))) (fCons (fVar 3) fNil)) [.sh (tabT R C cs), .sh (.int R), .sh (.int C), .sh (.lst (cs.map cellT)), .un, .un, .un] = some (cs.map fun c => T.tup [cellT c, cellT c]) := by
    show some (List.zipWith (fun t u => T.tup [t, u]) (cs.map cellT) (cs.map cellT)) = _
    rw [List.zipWith_map_left, List.zipWith_map_right, List.zipWith_self]
  obtain ⟨s', hl, _⟩ := loopF_fold (β := Unit) (γ := Sl × Sl × Sl) (fun c : Cell => T.tup [cellT c, cellT c]) (fun _ s => [.sh (tabT R C cs), .sh (.int R), .sh (.int C), .sh (.lst (cs.map cellT)), s.1, s.2.1, s.2.2]) (fun _ _ => ()) (fun _ => True) (b := b2 4 5) (F := lp2_law_is) cs () (.un, .un, .un) trivial
    fun c _ _ s _ => by
      obtain ⟨s6', h⟩ := is_turn (tabT R C cs) (.int R) (.int C) (.lst (cs.map cellT)) c s.2.2
      exact ⟨_, rfl, trivial, (.sh (cellT c), .sh (cellT c), s6'), h⟩
  refine (congrArg outP (fSeq_nx ((fFor_eq hz).trans hl))).trans ?_
  rfl
end Mx

/-! lists of lists, a square at a time; how many cells lie over each square -/
namespace Mx
open PySem PySem.Spec L2 Fx Bx
open PyProof.Rows hiding St
def bdT (R C : Nat) (f : Nat → Nat → T) : List (List T) := (List.range R).map fun i => (List.range C).map fun j => f i j
def upd2 (f : Nat → Nat → T) (a b : Nat) (v : T) : Nat → Nat → T := fun i j => if i = a ∧ j = b then v else f i j
theorem range_map_set {α : Type} (n k : Nat) (g : Nat → α) (v : α) : ((List.range n).map g).set k v = (List.range n).map fun i => if i = k then v else g i := by
  apply List.ext_getElem?
  intro i
  rw [List.getElem?_set, List.length_map, List.length_range, List.getElem?_map, List.getElem?_map]
  by_cases hi : i < n
  · rw [List.getElem?_range hi]
    by_cases hk : k = i
    · subst hk
      rw [if_pos rfl, if_pos hi]
      show _ = some (if k = k then v else g k)
      rw [if_pos rfl]
    · rw [if_neg hk]
      show _ = some (if i = k then v else g i)
      rw [if_neg (fun e => hk e.symm)]
      rfl
  · rw [List.getElem?_eq_none (by rw [List.length_range]; omega)]
    by_cases hk : k = i
    · subst hk
      rw [if_pos rfl, if_neg hi]
      rfl
    · rw [if_neg hk]
      rfl
theorem bd_row {R C a : Nat} {f : Nat → Nat → T} (h : a < R) : (bdT R C f)[a]? = some ((List.range C).map (f a)) := by
  unfold bdT
  rw [List.getElem?_map, List.getElem?_range h]
  rfl
theorem row_at {C b : Nat} {g : Nat → T} (h : b < C) : ((List.range C).map g)[b]? = some (g b) := by
  rw [List.getElem?_map, List.getElem?_range h]
  rfl
theorem bd_len (R C : Nat) (f : Nat → Nat → T) : (bdT R C f).length = R := by unfold bdT; rw [List.length_map, List.length_range]
theorem bd_set {R C a b : Nat} {f : Nat → Nat → T} {v : T} : (bdT R C f).set a (((List.range C).map (f a)).set b v) = bdT R C (upd2 f a b v) := by
  unfold bdT
  rw [range_map_set, range_map_set]
  refine List.map_congr_left fun i _ => ?_
  by_cases h : i = a
  · subst h
    rw [if_pos rfl]
    refine List.map_congr_left fun j _ => ?_
    unfold upd2
    by_cases hj : j = b
    · rw [if_pos hj, if_pos ⟨rfl, hj⟩]
    · rw [if_neg hj, if_neg fun q => hj q.2]
  · rw [if_neg h]
    refine List.map_congr_left fun j _ => ?_
    unfold upd2
    rw [if_neg fun q => h q.1]
theorem ixN_nat {n a : Nat} (h : a < n) : ixN n ((a : Nat) : Int) = some a := by
  rw [ixN_ev, if_pos (by omega), if_pos (by omega)]
  rfl
theorem fPut2_bd {k : Nat} {fj fk g : Ev → Option T} {ev : Ev} {s : Sl} {R C : Nat} {f : Nat → Nat → T} {v : T} {a b : Nat} (hs : ev[k]? = some s) (ho : obOf s = some (bdT R C f)) (hv : g ev = some v) (ha : fj ev = some (.int (a : Nat))) (hb : fk ev = some (.int (b : Nat)))
    (hn : noL v = true) (h1 : a < R) (h2 : b < C) : fPut2 k fj fk g ev = some (.nx (ev.set k (obTo s (bdT R C (upd2 f a b v))))) := by
  unfold fPut2
  rw [hs, hv, ha, hb]
  dsimp only
  rw [ho]
  dsimp only
  rw [if_pos hn, bd_len, ixN_nat h1, Option.bind_some, bd_row h1, Option.bind_some, List.length_map, List.length_range, ixN_nat h2]
  show some (Out.nx (ev.set k (obTo s ((bdT R C f).set a (((List.range C).map (f a)).set b v))))) = _
  rw [bd_set]
theorem fRow_bd {k : Nat} {fj fk : Ev → Option T} {ev : Ev} {R C : Nat} {f : Nat → Nat → T} {a b : Nat} (hs : ev[k]? = some (.ob (bdT R C f))) (ha : fj ev = some (.int (a : Nat))) (hb : fk ev = some (.int (b : Nat))) (h1 : a < R) (h2 : b < C) : fIxL (fRow k fj) fk ev = some (f a b) := by
  unfold fIxL fRow
  rw [hs, ha]
  dsimp only
  rw [bd_len, ixN_nat h1, Option.bind_some, bd_row h1, hb]
  dsimp only
  unfold Fx.atT
  rw [List.length_map, List.length_range, ixN_nat h2, Option.bind_some, row_at h2]
theorem rowsF_rep {b : T → Ev → Option Ev} {f : Ev → Option T} {ev : Ev} {r : List T} (hn : noLs r = true) : ∀ (ts : List T), (∀ t ∈ ts, ∃ e1, b t ev = some e1 ∧ f e1 = some (.lst r)) → rowsF b f ev ts = some (List.replicate ts.length r)
  | [], _ => rfl
  | t :: ts, h => by
    obtain ⟨e1, h1, h2⟩ := h t List.mem_cons_self
    unfold rowsF
    rw [h1]
    dsimp only
    rw [h2]
    dsimp only
    rw [if_pos hn, rowsF_rep hn ts fun u hu => h u (List.mem_cons_of_mem _ hu)]
    rfl
theorem fRows_bd {R C : Nat} {fi : Ev → Option (List T)} {i : Nat} {f : Ev → Option T} {vs : List Nat} {ev : Ev} {t : T} (hi : fi ev = some (irange 0 R)) (hf : ∀ k : Nat, f ((wipeE ev vs).set i (.sh (.int (k : Nat)))) = some (.lst (List.replicate C t))) (hn : noL t = true) (hR : R ≤ 100000) :
    fRows fi (b1 i) f vs ev = some (bdT R C fun _ _ => t) := by
  have hnl : noLs (List.replicate C t) = true := noLs_of fun u hu => by rw [(List.mem_replicate.mp hu).2]; exact hn
  have h := rowsF_rep (b := b1 i) (f := f) (ev := wipeE ev vs) hnl (irange 0 R) fun u hu => by
    obtain ⟨k, _, rfl⟩ := List.mem_map.mp hu
    refine ⟨_, rfl, ?_⟩
    rw [Int.zero_add]
    exact hf k
  have hl : (irange 0 R).length = R := by rw [irange_map, List.length_map, List.length_range]
  unfold fRows
  rw [hi]
  dsimp only
  rw [h]
  dsimp only
  rw [List.length_replicate, hl, if_pos (small_k hR)]
  congr 1
  unfold bdT
  have e : ∀ (n : Nat) {α : Type} (x : α), (List.range n).map (fun _ => x) = List.replicate n x := fun n α x => by rw [List.map_const', List.length_range]
  dsimp only
  rw [e C t, e R]
theorem rep_one {α : Type} (t : α) : ∀ n : Nat, (List.replicate n [t]).flatten = List.replicate n t
  | 0 => rfl
  | n + 1 => by rw [List.replicate_succ, List.flatten_cons, rep_one t n, List.replicate_succ]; rfl
/-! ### counts_of -/
def cntT (R C : Nat) (F : Nat → Nat → Int) : List (List T) := bdT R C fun i j => .int (F i j)
theorem cnt_congr {R C : Nat} {F G : Nat → Nat → Int} (h : ∀ i j, i < R → j < C → F i j = G i j) : cntT R C F = cntT R C G := by
  unfold cntT bdT
  refine List.map_congr_left fun i hi => List.map_congr_left fun j hj => ?_
  exact congrArg T.int (h i j (List.mem_range.mp hi) (List.mem_range.mp hj))
theorem cnt_upd {R C : Nat} {F : Nat → Nat → Int} {a b : Nat} {v : Int} : bdT R C (upd2 (fun i j => .int (F i j)) a b (.int v)) = cntT R C fun i j => if i = a ∧ j = b then v else F i j := by
  unfold cntT
  congr 1
  funext i j
  dsimp only [upd2]
  by_cases h : i = a ∧ j = b
  · rw [if_pos h, if_pos h]
  · rw [if_neg h, if_neg h]
/-- squares told once more -/
def more (F : Nat → Nat → Int) (p : Nat → Nat → Prop) [∀ i j, Decidable (p i j)] : Nat → Nat → Int := fun i j => if p i j then F i j + 1 else F i j
theorem ev_ob {a b c : Sl} {rest : Ev} {x y : List (List T)} (h : x = y) : some (Out.nx (a :: b :: c :: Sl.ob x :: rest)) = some (Out.nx (a :: b :: c :: Sl.ob y :: rest)) := by rw [h]
theorem cnt1 {R C : Nat} {F : Nat → Nat → Int} {a b c d : Sl} {i j : Nat} (hi : i < R) (hj : j < C) : lp1_counts_of [a, b, c, .ob (cntT R C F), d, .sh (.int (i : Nat)), .sh (.int (j : Nat))] =
    some (.nx [a, b, c, .ob (cntT R C (more F fun i' j' => i' = i ∧ j' = j)), d, .sh (.int (i : Nat)), .sh (.int (j : Nat))]) := by
  unfold lp1_counts_of
  refine (fPut2_bd (s := .ob (cntT R C F)) (R := R) (C := C) (f := fun i j => .int (F i j)) (a := i) (b := j) (v := .int (F i j + 1)) rfl rfl ?_ rfl rfl rfl hi hj).trans ?_
  · exact (f2_eq (fRow_bd (R := R) (C := C) (f := fun i j => .int (F i j)) (a := i) (b := j) rfl rfl rfl hi hj) rfl).trans rfl
  · rw [cnt_upd]
    refine ev_ob (cnt_congr fun i' j' _ _ => ?_)
    unfold more
    by_cases h : i' = i ∧ j' = j
    · rw [if_pos h, if_pos h, h.1, h.2]
    · rw [if_neg h, if_neg h]
theorem irange_at (lo n : Nat) : irange ((lo : Nat) : Int) n = (List.range n).map fun (k : Nat) => T.int ((lo + k : Nat) : Int) := by
  rw [irange_map]
  refine List.map_congr_left fun k _ => ?_
  rw [Int.natCast_add]
theorem fRng2_nat {fs : Ev → Option (List T)} {ev : Ev} {lo n : Nat} (h : fs ev = some [.int (lo : Nat), .int ((lo : Int) + (n : Int))]) (h1 : lo + n ≤ 1000000) : fRng2 fs ev = some ((List.range n).map fun (k : Nat) => T.int ((lo + k : Nat) : Int)) := by
  unfold fRng2
  rw [h]
  dsimp only
  rw [if_pos ⟨by omega, by omega, by omega, by omega⟩, show ((lo : Int) + (n : Int) - (lo : Int)).toNat = n by omega, irange_at]
def cellN (r k h w : Nat) (ls : Ls) : Cell := (((r : Int), (k : Int), (h : Int), (w : Int)), ls)
theorem cnt2 {R C : Nat} {F : Nat → Nat → Int} {a b c s : Sl} {r k h w i : Nat} {ls : Ls} (hi : i < R) (hk : k + w ≤ C) (hC : C ≤ 1000) :
    ∃ s', lp2_counts_of [a, b, c, .ob (cntT R C F), .sh (cellT (cellN r k h w ls)), .sh (.int (i : Nat)), s] =
    some (.nx [a, b, c, .ob (cntT R C (more F fun i' j' => i' = i ∧ k ≤ j' ∧ j' < k + w)), .sh (cellT (cellN r k h w ls)), .sh (.int (i : Nat)), s']) := by
  obtain ⟨s', hl⟩ := loopF_upto (γ := Sl) (fun (n : Nat) => T.int ((k + n : Nat) : Int)) (fun n s => [a, b, c, .ob (cntT R C (more F fun i' j' => i' = i ∧ k ≤ j' ∧ j' < k + n)), .sh (cellT (cellN r k h w ls)), .sh (.int (i : Nat)), s]) (b := b1 6) (F := lp1_counts_of) w s fun n hn s => by
    refine ⟨_, rfl, .sh (.int ((k + n : Nat) : Int)), (cnt1 hi (by omega)).trans ?_⟩
    refine ev_ob (cnt_congr fun i' j' _ _ => ?_)
    unfold more
    by_cases h1 : i' = i ∧ j' = k + n
    · rw [if_pos h1, if_neg (by omega), if_pos (by omega)]
    · rw [if_neg h1]
      by_cases h2 : i' = i ∧ k ≤ j' ∧ j' < k + n
      · rw [if_pos h2, if_pos (by omega)]
      · rw [if_neg h2, if_neg (by omega)]
  refine ⟨s', ?_⟩
  unfold lp2_counts_of
  refine (fFor_eq (fRng2_nat (lo := k) (n := w) rfl (by omega))).trans ?_
  have e0 : cntT R C (more F fun i' j' => i' = i ∧ k ≤ j' ∧ j' < k + 0) = cntT R C F := cnt_congr fun i' j' _ _ => by unfold more; rw [if_neg (by omega)]
  rw [e0] at hl
  exact hl
theorem cnt3 {R C : Nat} {F : Nat → Nat → Int} {a b c s5 s6 : Sl} {r k h w : Nat} {ls : Ls} (hr : r + h ≤ R) (hk : k + w ≤ C) (hR : R ≤ 1000) (hC : C ≤ 1000) :
    ∃ s5' s6', lp3_counts_of [a, b, c, .ob (cntT R C F), .sh (cellT (cellN r k h w ls)), s5, s6] =
    some (.nx [a, b, c, .ob (cntT R C (more F fun i j => hasC i j (cellN r k h w ls) = true)), .sh (cellT (cellN r k h w ls)), s5', s6']) := by
  obtain ⟨s', hl⟩ := loopF_upto (γ := Sl × Sl) (fun (n : Nat) => T.int ((r + n : Nat) : Int)) (fun n s => [a, b, c, .ob (cntT R C (more F fun i j => r ≤ i ∧ i < r + n ∧ k ≤ j ∧ j < k + w)), .sh (cellT (cellN r k h w ls)), s.1, s.2]) (b := b1 5) (F := lp2_counts_of) h (s5, s6) fun n hn s => by
    obtain ⟨s', h1⟩ := cnt2 (F := more F fun i j => r ≤ i ∧ i < r + n ∧ k ≤ j ∧ j < k + w) (a := a) (b := b) (c := c) (s := s.2) (r := r) (h := h) (ls := ls) (i := r + n) (R := R) (C := C) (k := k) (w := w) (by omega) hk hC
    refine ⟨_, rfl, (.sh (.int ((r + n : Nat) : Int)), s'), h1.trans ?_⟩
    refine ev_ob (cnt_congr fun i' j' _ _ => ?_)
    unfold more
    by_cases h1 : i' = r + n ∧ k ≤ j' ∧ j' < k + w
    · rw [if_pos h1, if_neg (by omega), if_pos (by omega)]
    · rw [if_neg h1]
      by_cases h2 : r ≤ i' ∧ i' < r + n ∧ k ≤ j' ∧ j' < k + w
      · rw [if_pos h2, if_pos (by omega)]
      · rw [if_neg h2, if_neg (by omega)]
  refine ⟨s'.1, s'.2, ?_⟩
  unfold lp3_counts_of
  refine (fFor_eq (fRng2_nat (lo := r) (n := h) rfl (by omega))).trans ?_
  have e0 : cntT R C (more F fun i j => r ≤ i ∧ i < r + 0 ∧ k ≤ j ∧ j < k + w) = cntT R C F := cnt_congr fun i' j' _ _ => by unfold more; rw [if_neg (by omega)]
  dsimp only at hl
  rw [e0] at hl
  rw [hl]
  refine ev_ob (cnt_congr fun i' j' _ _ => ?_)
  unfold more
  have : hasC (i' : Int) (j' : Int) (cellN r k h w ls) = true ↔ r ≤ i' ∧ i' < r + h ∧ k ≤ j' ∧ j' < k + w := by
    unfold hasC
    rw [has_iff]
    show (((r : Nat) : Int) ≤ i' ∧ (i' : Int) < (r : Int) + (h : Int) ∧ (k : Int) ≤ j' ∧ (j' : Int) < (k : Int) + (w : Int)) ↔ _
    omega
  by_cases h2 : r ≤ i' ∧ i' < r + h ∧ k ≤ j' ∧ j' < k + w
  · rw [if_pos h2, if_pos (this.mpr h2)]
  · rw [if_neg h2, if_neg fun q => h2 (this.mp q)]
def cnt (cs : List Cell) (i j : Nat) : Int := ((cs.countP (hasC i j) : Nat) : Int)
theorem counts_eq {R C : Nat} {cs : List Cell} (hR : R ≤ 1000) (hC : C ≤ 1000) (h : ∀ c ∈ cs, BoxOk R C c.1) : m_counts_of [.int (R : Nat), .int (C : Nat), .lst (cs.map cellT)] = some (.ok (.lst ((cntT R C (cnt cs)).map .lst))) := by
  unfold m_counts_of
  rw [runP_ev (n := 3) rfl]
  show outP (body_counts_of [.sh (.int R), .sh (.int C), .sh (.lst (cs.map cellT)), .un, .un, .un, .un]) = _
  unfold body_counts_of
  have e1 : fSetOb 3 (fRows (fRng1 (fCons (fVar 0) fNil)) (b1 5) (f2 gRep (fC gLst (fCons (fK (.int 0)) fNil)) (fVar 1)) [5]) [.sh (.int R), .sh (.int C), .sh (.lst (cs.map cellT)), .un, .un, .un, .un] =
      some (.nx [.sh (.int R), .sh (.int C), .sh (.lst (cs.map cellT)), .ob (cntT R C fun _ _ => 0), .un, .un, .un]) := by
    unfold fSetOb
    rw [fRows_bd (R := R) (C := C) (t := .int 0) (by rw [fRng1_eq (j := (R : Nat)) rfl (by omega) (by omega), Int.toNat_natCast]) (fun k => ?_) rfl (by omega)]
    · rfl
    · refine (f2_eq (d := .lst [.int 0]) (e := .int (C : Nat)) rfl rfl).trans ?_
      unfold gRep
      dsimp only
      rw [if_pos]
      · rw [Int.toNat_natCast]
        rw [rep_one]
      · rw [show noLs [T.int 0] = true from rfl, decide_eq_true (by omega), decide_eq_true (by omega), decide_eq_true (small_k (by rw [Int.toNat_natCast]; simp; omega))]
        rfl
  refine (congrArg outP (fSeq_nx e1)).trans ?_
  obtain ⟨s', hl, _⟩ := loopF_fold (β := Nat → Nat → Int) (γ := Sl × Sl × Sl) cellT (fun F s => [.sh (.int R), .sh (.int C), .sh (.lst (cs.map cellT)), .ob (cntT R C F), s.1, s.2.1, s.2.2]) (fun F c => more F fun i j => hasC i j c = true) (fun _ => True) (b := b1 4) (F := lp3_counts_of) cs (fun _ _ => 0) (.un, .un, .un) trivial
    fun c hc F s _ => by
      obtain ⟨⟨r, k, h', w⟩, ls⟩ := c
      have hb := h _ hc
      have := hb.r; have := hb.c; have := hb.h; have := hb.w; have := hb.rh; have := hb.cw
      dsimp only at *
      obtain ⟨r, rfl⟩ := Int.eq_ofNat_of_zero_le (a := r) (by omega)
      obtain ⟨k, rfl⟩ := Int.eq_ofNat_of_zero_le (a := k) (by omega)
      obtain ⟨h', rfl⟩ := Int.eq_ofNat_of_zero_le (a := h') (by omega)
      obtain ⟨w, rfl⟩ := Int.eq_ofNat_of_zero_le (a := w) (by omega)
      obtain ⟨s5', s6', h1⟩ := cnt3 (R := R) (C := C) (F := F) (a := .sh (.int R)) (b := .sh (.int C)) (c := .sh (.lst (cs.map cellT))) (s5 := s.2.1) (s6 := s.2.2) (r := r) (k := k) (h := h') (w := w) (ls := ls) (by omega) (by omega) hR hC
      exact ⟨_, rfl, trivial, (_, s5', s6'), h1⟩
  refine (congrArg outP (fSeq_nx ((fFor_eq rfl).trans hl))).trans ?_
  have hfold : ∀ (cs : List Cell) (F : Nat → Nat → Int), cntT R C (cs.foldl (fun F c => more F fun i j => hasC i j c = true) F) = cntT R C fun i j => F i j + cnt cs i j := by
    intro cs
    induction cs with
    | nil => intro F; exact cnt_congr fun i j _ _ => by show F i j = F i j + ((0 : Nat) : Int); omega
    | cons c cs ih =>
      intro F
      rw [List.foldl_cons, ih]
      refine cnt_congr fun i j _ _ => ?_
      unfold cnt more
      rw [List.countP_cons]
      by_cases q : hasC i j c = true
      · rw [if_pos q, if_pos q]; omega
      · rw [if_neg q, if_neg q]; omega
  rw [hfold]
  have e0 : (cntT R C fun i j => 0 + cnt cs i j) = cntT R C (cnt cs) := cnt_congr fun i j _ _ => by omega
  rw [e0]
  rfl
end Mx

/-! made -/
namespace Mx
open PySem PySem.Spec L2 Fx Bx
open PyProof.Rows hiding St
theorem joinL_last (p : List Nat) : ∀ ls : List (List Nat), ∃ x, TL.joinL [10] (ls ++ [p]) = x ++ p
  | [] => ⟨[], rfl⟩
  | q :: r => by
    obtain ⟨x, h⟩ := joinL_last p r
    cases r with
    | nil => exact ⟨q ++ [10], by show q ++ ([10] ++ p) = _; rw [List.append_assoc]⟩
    | cons s r =>
      refine ⟨q ++ ([10] ++ x), ?_⟩
      show q ++ ([10] ++ TL.joinL [10] (s :: r ++ [p])) = _
      rw [h, List.append_assoc, List.append_assoc]
theorem joinL_mem : ∀ {ls : Ls} {c : Nat}, c ∈ TL.joinL [10] ls → c = 10 ∨ ∃ p ∈ ls, c ∈ p
  | [], c, h => nomatch h
  | [p], c, h => .inr ⟨p, List.mem_cons_self, h⟩
  | p :: q :: r, c, h => by
    have e : TL.joinL [10] (p :: q :: r) = p ++ ([10] ++ TL.joinL [10] (q :: r)) := rfl
    rw [e] at h
    rcases List.mem_append.mp h with h | h
    · exact .inr ⟨p, List.mem_cons_self, h⟩
    · rcases List.mem_append.mp h with h | h
      · exact .inl (List.mem_singleton.mp h)
      · rcases joinL_mem h with h | ⟨s, hs, h⟩
        · exact .inl h
        · exact .inr ⟨s, List.mem_cons_of_mem _ hs, h⟩
theorem linesL_join {ls : Ls} (g : GoodLs ls) : linesL (TL.joinL [10] ls) = ls := by
  have h1 := lines_spl (TL.joinL [10] ls)
  have h2 := g.lines
  rw [show txt ls = ofL (TL.joinL [10] ls) from rfl, h1] at h2
  have h3 := congrArg (List.map TL.tl) h2
  rw [List.map_map, List.map_map, show (TL.tl ∘ ofL) = (id : List Nat → List Nat) from funext fun l => tl_ofL l, List.map_id, List.map_id] at h3
  exact h3
theorem GoodLs.goodB {ls : Ls} (g : GoodLs ls) : goodB (TL.joinL [10] ls) = true := by
  unfold Mx.goodB
  rw [linesL_join g, decide_eq_true g.len, Bool.true_and, Bool.and_eq_true, Bool.and_eq_true]
  refine ⟨⟨List.all_eq_true.mpr fun c hc => ?_, List.all_eq_true.mpr fun p hp => decide_eq_true (g.ok p hp).2⟩, decide_eq_true fun h => ?_⟩
  · rw [okS_iff]
    rcases joinL_mem hc with h | ⟨p, hp, h⟩
    · exact .inl h
    · exact .inr ((g.ok p hp).1 c h)
  · rcases g.last with rfl | hl
    · cases h
    · rcases List.eq_nil_or_concat ls with rfl | ⟨r, p, rfl⟩
      · cases h
      · rw [List.concat_eq_append] at h hl
        obtain ⟨x, e⟩ := joinL_last p r
        rw [List.getLast?_append] at hl
        have hp : p ≠ [] := fun q => hl (by rw [q]; rfl)
        rw [e, List.getLast?_append, List.getLast?_eq_some_getLast hp] at h
        have h2 : p.getLast hp = 10 := by simpa using h
        have h3 := (g.ok p (by simp)).1 10 (by rw [← h2]; exact List.getLast_mem hp)
        unfold okC at h3
        omega
theorem good_ls {ls : Ls} (g : GoodLs ls) : m_is_good [.str (txt ls)] = some (.ok (.bl true)) := by
  rw [show txt ls = ofL (TL.joinL [10] ls) from rfl, good_eq _ (by have := g.len; omega), g.goodB]
/-! ### need_size -/
theorem isWhole_int (i : Int) : m_is_whole [.int i] = some (.ok (.bl true)) := rfl
def BadNum (t : T) : Prop := m_is_whole [t] = some (.ok (.bl false)) ∨ ∃ z, t = .int z ∧ (z < 1 ∨ 20 < z)
theorem size_turn_ok {a b s : Sl} {z : Int} (h : 1 ≤ z ∧ z ≤ 20) : lp1_need_size [a, b, .sh (.int z)] = some (.nx [a, b, .sh (.int z)]) := by
  unfold lp1_need_size
  refine (fIf_f ((fOr_f rfl).trans ((fOr_f (fTest_eq (b := false) ?_)).trans (fTest_eq (b := false) ?_)))).trans rfl
  · show some (T.bl (decide (z < 1))) = _
    rw [decide_eq_false (by omega)]
  · show some (T.bl (decide (z > 20))) = _
    rw [decide_eq_false (by omega)]
theorem size_turn_bad {a b : Sl} {t : T} (h : BadNum t) : lp1_need_size [a, b, .sh t] = some (.ex "BadSize" [a, b, .sh t]) := by
  unfold lp1_need_size
  refine (fIf_t ?_).trans rfl
  rcases h with h | ⟨z, rfl, h⟩
  · refine fOr_t ((fNot_eq (b := false) (fTest_eq (fCall_eq rfl ?_))).trans rfl)
    show val (m_is_whole [t]) = _
    rw [h]; rfl
  · rw [fOr_f rfl]
    by_cases h1 : z < 1
    · refine fOr_t (fTest_eq ?_)
      show some (T.bl (decide (z < 1))) = _
      rw [decide_eq_true h1]
    · refine (fOr_f (fTest_eq (b := false) ?_)).trans (fTest_eq ?_)
      · show some (T.bl (decide (z < 1))) = _
        rw [decide_eq_false h1]
      · show some (T.bl (decide (z > 20))) = _
        rw [decide_eq_true (by omega)]
theorem size_body (a b : T) : body_need_size [.sh a, .sh b, .un] = loopF (b1 2) lp1_need_size [a, b] [.sh a, .sh b, .un] := by
  unfold body_need_size
  exact fFor_eq (by unfold fTup; rw [show fC gTup (fCons (fVar 0) (fCons (fVar 1) fNil)) [.sh a, .sh b, .un] = gTup [a, b] from rfl, gTup_small (by simp)])
theorem size_ok {R C : Int} (hR : 1 ≤ R ∧ R ≤ 20) (hC : 1 ≤ C ∧ C ≤ 20) : m_need_size [.int R, .int C] = some (.ok .non) := by
  unfold m_need_size
  rw [runB_ev (n := 2) rfl]
  show outR _ (body_need_size [.sh (.int R), .sh (.int C), .un]) = _
  rw [size_body]
  unfold loopF
  rw [show b1 2 (.int R) [.sh (.int R), .sh (.int C), .un] = some [.sh (.int R), .sh (.int C), .sh (.int R)] from rfl]
  dsimp only
  rw [size_turn_ok (s := .un) hR]
  dsimp only
  unfold loopF
  rw [show b1 2 (.int C) [.sh (.int R), .sh (.int C), .sh (.int R)] = some [.sh (.int R), .sh (.int C), .sh (.int C)] from rfl]
  dsimp only
  rw [size_turn_ok (s := .un) hC]
  rfl
theorem size_bad {a b : T} (h : BadNum a ∨ ∃ R, a = .int R ∧ (1 ≤ R ∧ R ≤ 20) ∧ BadNum b) : m_need_size [a, b] = some (.ex "BadSize") := by
  unfold m_need_size
  rw [runB_ev (n := 2) rfl]
  show outR _ (body_need_size [.sh a, .sh b, .un]) = _
  rw [size_body]
  unfold loopF
  rw [show b1 2 a [.sh a, .sh b, .un] = some [.sh a, .sh b, .sh a] from rfl]
  dsimp only
  rcases h with h | ⟨R, rfl, hR, h⟩
  · rw [size_turn_bad h]
    rfl
  · rw [size_turn_ok (s := .un) hR]
    dsimp only
    unfold loopF
    rw [show b1 2 b [.sh (.int R), .sh b, .sh (.int R)] = some [.sh (.int R), .sh b, .sh b] from rfl]
    dsimp only
    rw [size_turn_bad h]
    rfl
/-! ### lies_in -/
def wholeB : T → Bool
  | .int _ => true
  | _ => false
theorem isWhole_eq (t : T) : m_is_whole [t] = some (.ok (.bl (wholeB t))) := by cases t <;> rfl
def inB (R C : Int) (b : Box) : Bool := decide (0 ≤ b.1 ∧ 0 ≤ b.2.1 ∧ 1 ≤ b.2.2.1 ∧ 1 ≤ b.2.2.2 ∧ b.1 + b.2.2.1 ≤ R ∧ b.2.1 + b.2.2.2 ≤ C)
theorem inB_iff {R C : Int} {b : Box} : inB R C b = true ↔ BoxOk R C b := by
  unfold inB
  rw [decide_eq_true_iff]
  exact ⟨fun ⟨h1, h2, h3, h4, h5, h6⟩ => ⟨h1, h2, h3, h4, h5, h6⟩, fun ⟨h1, h2, h3, h4, h5, h6⟩ => ⟨h1, h2, h3, h4, h5, h6⟩⟩
def liesB (R C : Int) (a b c d : T) : Bool := match a, b, c, d with
  | .int a, .int b, .int c, .int d => inB R C (a, b, c, d)
  | _, _, _, _ => false
theorem liesB_int (R C a b c d : Int) : liesB R C (.int a) (.int b) (.int c) (.int d) = inB R C (a, b, c, d) := rfl
theorem liesB_bad {R C : Int} {a b c d : T} (h : wholeB a = false ∨ wholeB b = false ∨ wholeB c = false ∨ wholeB d = false) : liesB R C a b c d = false := by
  unfold liesB
  split
  · rcases h with h | h | h | h <;> cases h
  · rfl
theorem whole_int' {t : T} (h : wholeB t = true) : ∃ i, t = .int i := by
  cases t <;> first | exact ⟨_, rfl⟩ | cases h
theorem lies_tail (t : T) (R C a b c d : Int) (s : Sl) (h0 : gIx t (.int 0) = some (.int a)) (h1 : gIx t (.int 1) = some (.int b)) (h2 : gIx t (.int 2) = some (.int c)) (h3 : gIx t (.int 3) = some (.int d)) : fSeq (fIf (fOr (fTest (f2 gLt (f2 gIx (fVar 0) (fK (.int 0))) (fK (.int 0)))) (fOr (fTest (f2 gLt (f2 gIx (fVar 0) (fK (.int 1))) (fK (.int 0)))) (fOr (fTest (f2 gLt (f2 gIx (fVar 0) (fK (.int 2))) (fK (.int 1)))) (fTest (f2 gLt (f2 gIx (fVar 0) (fK (.int 3))) (fK (.int 1)))))))
  (fRet (fK (.bl false)))
  fSkip)
  (fRet (fAndV (f2 gLe (f2 gAdd (f2 gIx (fVar 0) (fK (.int 0))) (f2 gIx (fVar 0) (fK (.int 2)))) (fVar 1)) (f2 gLe (f2 gAdd (f2 gIx (fVar 0) (fK (.int 1))) (f2 gIx (fVar 0) (fK (.int 3)))) (fVar 2)))) [.sh t, .sh (.int R), .sh (.int C), s] = some (.rt (.bl (inB R C (a, b, c, d)))) := by
  have g0 : f2 gIx (fVar 0) (fK (.int 0)) [.sh t, .sh (.int R), .sh (.int C), s] = some (.int a) := h0
  have g1 : f2 gIx (fVar 0) (fK (.int 1)) [.sh t, .sh (.int R), .sh (.int C), s] = some (.int b) := h1
  have g2 : f2 gIx (fVar 0) (fK (.int 2)) [.sh t, .sh (.int R), .sh (.int C), s] = some (.int c) := h2
  have g3 : f2 gIx (fVar 0) (fK (.int 3)) [.sh t, .sh (.int R), .sh (.int C), s] = some (.int d) := h3
  have t0 : fTest (f2 gLt (f2 gIx (fVar 0) (fK (.int 0))) (fK (.int 0))) [.sh t, .sh (.int R), .sh (.int C), s] = some (decide (a < 0)) := fTest_eq ((f2_eq g0 rfl).trans rfl)
  have t1 : fTest (f2 gLt (f2 gIx (fVar 0) (fK (.int 1))) (fK (.int 0))) [.sh t, .sh (.int R), .sh (.int C), s] = some (decide (b < 0)) := fTest_eq ((f2_eq g1 rfl).trans rfl)
  have t2 : fTest (f2 gLt (f2 gIx (fVar 0) (fK (.int 2))) (fK (.int 1))) [.sh t, .sh (.int R), .sh (.int C), s] = some (decide (c < 1)) := fTest_eq ((f2_eq g2 rfl).trans rfl)
  have t3 : fTest (f2 gLt (f2 gIx (fVar 0) (fK (.int 3))) (fK (.int 1))) [.sh t, .sh (.int R), .sh (.int C), s] = some (decide (d < 1)) := fTest_eq ((f2_eq g3 rfl).trans rfl)
  have u1 : f2 gLe (f2 gAdd (f2 gIx (fVar 0) (fK (.int 0))) (f2 gIx (fVar 0) (fK (.int 2)))) (fVar 1) [.sh t, .sh (.int R), .sh (.int C), s] = some (.bl (decide (a + c ≤ R))) := (f2_eq ((f2_eq g0 g2).trans rfl) rfl).trans rfl
  have u2 : f2 gLe (f2 gAdd (f2 gIx (fVar 0) (fK (.int 1))) (f2 gIx (fVar 0) (fK (.int 3)))) (fVar 2) [.sh t, .sh (.int R), .sh (.int C), s] = some (.bl (decide (b + d ≤ C))) := (f2_eq ((f2_eq g1 g3).trans rfl) rfl).trans rfl
  have w : fRet (fAndV (f2 gLe (f2 gAdd (f2 gIx (fVar 0) (fK (.int 0))) (f2 gIx (fVar 0) (fK (.int 2)))) (fVar 1)) (f2 gLe (f2 gAdd (f2 gIx (fVar 0) (fK (.int 1))) (f2 gIx (fVar 0) (fK (.int 3)))) (fVar 2))) [.sh t, .sh (.int R), .sh (.int C), s] = some (.rt (.bl (decide (a + c ≤ R) && decide (b + d ≤ C)))) := by
    rw [fRet_ev, fAndV_ev, u1, u2]
    cases decide (a + c ≤ R) <;> rfl
  rw [fSeq_ev, fIf_ev, fOr_ev, fOr_ev, fOr_ev, t0, t1, t2, t3]
  have e : inB R C (a, b, c, d) = (!decide (a < 0) && (!decide (b < 0) && (!decide (c < 1) && (!decide (d < 1) && (decide (a + c ≤ R) && decide (b + d ≤ C)))))) := by
    rw [Bool.eq_iff_iff, inB_iff]
    simp only [Bool.and_eq_true, Bool.not_eq_true', decide_eq_true_eq, decide_eq_false_iff_not]
    exact ⟨fun ⟨h1, h2, h3, h4, h5, h6⟩ => by dsimp only at *; omega, fun h => by constructor <;> dsimp only <;> omega⟩
  rw [e]
  cases decide (a < 0) <;> cases decide (b < 0) <;> cases decide (c < 1) <;> cases decide (d < 1) <;> first | rfl | exact w
theorem lies_loop (t : T) (R C : Int) (ts : List T) (s : Sl) : (ts.all wholeB = true ∧ ∃ s', loopF (b1 3) lp1_lies_in ts [.sh t, .sh (.int R), .sh (.int C), s] = some (.nx [.sh t, .sh (.int R), .sh (.int C), s'])) ∨
    (ts.all wholeB = false ∧ loopF (b1 3) lp1_lies_in ts [.sh t, .sh (.int R), .sh (.int C), s] = some (.rt (.bl false))) := by
  have h := loopF_any (id : T → T) (fun s => [.sh t, .sh (.int R), .sh (.int C), s]) (fun x => !wholeB x) (.rt (.bl false)) (.inl ⟨_, rfl⟩) (b := b1 3) (F := lp1_lies_in) ts s fun x _ s => by
    refine ⟨[.sh t, .sh (.int R), .sh (.int C), .sh x], rfl, ?_⟩
    have e : fNot (fTest (fCall m_is_whole (fCons (fVar 3) fNil))) [.sh t, .sh (.int R), .sh (.int C), .sh x] = some (!wholeB x) := fNot_eq (fTest_eq (fCall_eq rfl (by show val (m_is_whole [x]) = _; rw [isWhole_eq]; rfl)))
    unfold lp1_lies_in
    cases hx : wholeB x with
    | true =>
      rw [hx] at e
      exact .inl ⟨rfl, .sh x, (fIf_f e).trans rfl⟩
    | false =>
      rw [hx] at e
      exact .inr ⟨rfl, (fIf_t e).trans rfl⟩
  rw [List.map_id] at h
  have ha : ∀ ts : List T, ts.any (fun x => !wholeB x) = !(ts.all wholeB) := fun ts => by
    induction ts with
    | nil => rfl
    | cons x r ih => rw [List.any_cons, List.all_cons, ih, Bool.not_and]
  rw [ha] at h
  rcases h with ⟨h1, h2⟩ | ⟨h1, h2⟩
  · refine .inl ⟨?_, h2⟩
    cases q : ts.all wholeB
    · rw [q] at h1; cases h1
    · rfl
  · refine .inr ⟨?_, h2⟩
    cases q : ts.all wholeB
    · rfl
    · rw [q] at h1; cases h1
theorem lies_eq (R C : Int) (p0 p1 p2 p3 p4 : T) : m_lies_in [.tup [p0, p1, p2, p3, p4], .int R, .int C] = some (.ok (.bl (liesB R C p0 p1 p2 p3))) := by
  unfold m_lies_in
  rw [runP_ev (n := 3) rfl]
  show outP (body_lies_in [.sh (.tup [p0, p1, p2, p3, p4]), .sh (.int R), .sh (.int C), .un]) = _
  unfold body_lies_in
  rw [fSeq_ev]
  have ef : fFor (fTup (fSl gSl (fVar 0) fNoP (fPart (fK (.int 4))))) (b1 3) lp1_lies_in [.sh (.tup [p0, p1, p2, p3, p4]), .sh (.int R), .sh (.int C), .un] = loopF (b1 3) lp1_lies_in [p0, p1, p2, p3] [.sh (.tup [p0, p1, p2, p3, p4]), .sh (.int R), .sh (.int C), .un] := fFor_eq rfl
  rw [ef]
  rcases lies_loop (.tup [p0, p1, p2, p3, p4]) R C [p0, p1, p2, p3] .un with ⟨ha, s', h⟩ | ⟨ha, h⟩
  · rw [h, Option.bind_some, thenF_nx]
    simp only [List.all_cons, List.all_nil, Bool.and_true, Bool.and_eq_true] at ha
    obtain ⟨a, rfl⟩ := whole_int' ha.1
    obtain ⟨b, rfl⟩ := whole_int' ha.2.1
    obtain ⟨c, rfl⟩ := whole_int' ha.2.2.1
    obtain ⟨d, rfl⟩ := whole_int' ha.2.2.2
    rw [lies_tail _ R C a b c d s' rfl rfl rfl rfl]
    rfl
  · rw [h, liesB_bad]
    · rfl
    · simp only [List.all_cons, List.all_nil, Bool.and_true] at ha
      cases q0 : wholeB p0 <;> cases q1 : wholeB p1 <;> cases q2 : wholeB p2 <;> cases q3 : wholeB p3 <;> simp [q0, q1, q2, q3] at ha ⊢
/-! ### need_cells -/
def goodT : T → Bool
  | .str s => goodB (TL.tl s)
  | _ => false
def SmallT : T → Prop
  | .str s => s.length ≤ 50000
  | _ => True
theorem isGood_eq {t : T} (h : SmallT t) : m_is_good [t] = some (.ok (.bl (goodT t))) := by
  cases t with
  | str s =>
    have hs : (TL.tl s).length ≤ 50000 := by
      have h1 := len_ofL (TL.tl s)
      rw [ofL_tl] at h1
      rw [← h1]
      exact h
    have := good_eq (TL.tl s) hs
    rw [ofL_tl] at this
    exact this
  | _ => rfl
/-- what one item brings: none, BadCell or BadText -/
def itemR (R C : Int) : T → Option Str
  | .tup [a, b, c, d, e] => if liesB R C a b c d = true then (if goodT e = true then none else some "BadText") else some "BadCell"
  | _ => some "BadCell"
def SmallI : T → Prop
  | .tup [_, _, _, _, e] => SmallT e
  | _ => True
theorem item_turn {R C : Int} {s2 : Sl} (x : T) (h : SmallI x) : lp1_need_cells [.sh (.int R), .sh (.int C), s2, .sh x] = match itemR R C x with | none => some (.nx [.sh (.int R), .sh (.int C), s2, .sh x]) | some c => some (.ex c [.sh (.int R), .sh (.int C), s2, .sh x]) := by
  unfold lp1_need_cells
  by_cases h5 : ∃ a b c d e, x = .tup [a, b, c, d, e]
  · obtain ⟨a, b, c, d, e, rfl⟩ := h5
    have hl : fTest (fCall m_lies_in (fCons (fVar 3) (fCons (fVar 0) (fCons (fVar 1) fNil)))) [.sh (.int R), .sh (.int C), s2, .sh (.tup [a, b, c, d, e])] = some (liesB R C a b c d) := fTest_eq (fCall_eq rfl (by show val (m_lies_in [.tup [a, b, c, d, e], .int R, .int C]) = _; rw [lies_eq]; rfl))
    have hg : fTest (fCall m_is_good (fCons (f2 gIx (fVar 3) (fK (.int 4))) fNil)) [.sh (.int R), .sh (.int C), s2, .sh (.tup [a, b, c, d, e])] = some (goodT e) := fTest_eq (fCall_eq (fCons_eq (d := e) rfl rfl) (by rw [isGood_eq h]; rfl))
    rw [show itemR R C (.tup [a, b, c, d, e]) = (if liesB R C a b c d = true then (if goodT e = true then (none : Option Str) else some ("BadText" : Str)) else some ("BadCell" : Str) : Option Str) from rfl]
    cases q : liesB R C a b c d with
    | false =>
      rw [if_neg (by decide)]
      exact (fSeq_ev).trans (by rw [fIf_t ((fOr_f rfl).trans ((fOr_f rfl).trans ((fNot_eq hl).trans (by rw [q]; rfl))))]; rfl)
    | true =>
      rw [if_pos rfl]
      refine (fSeq_nx ((fIf_f ((fOr_f rfl).trans ((fOr_f rfl).trans ((fNot_eq hl).trans (by rw [q]; rfl))))).trans rfl)).trans ?_
      cases qg : goodT e with
      | false => rw [if_neg (by decide)]; exact (fIf_t ((fNot_eq hg).trans (by rw [qg]; rfl))).trans rfl
      | true => rw [if_pos rfl]; exact (fIf_f ((fNot_eq hg).trans (by rw [qg]; rfl))).trans rfl
  · have hr : itemR R C x = some "BadCell" := by
      unfold itemR
      split
      · exact absurd ⟨_, _, _, _, _, rfl⟩ h5
      · rfl
    rw [hr]
    refine (fSeq_ev).trans ?_
    have ht : fOr (fNot (fTest (f1 (gIs qTuple) (fVar 3)))) (fOr (fTest (f2 gNe (fC gLen (fCons (fVar 3) fNil)) (fK (.int 5)))) (fNot (fTest (fCall m_lies_in (fCons (fVar 3) (fCons (fVar 0) (fCons (fVar 1) fNil))))))) [.sh (.int R), .sh (.int C), s2, .sh x] = some true := by
      cases x with
      | tup ts =>
        have hn : ts.length ≠ 5 := fun e => h5 (by
          match ts, e with
          | [a, b, c, d, e], _ => exact ⟨a, b, c, d, e, rfl⟩)
        refine (fOr_f rfl).trans (fOr_t (fTest_eq ((f2_eq (d := .int (ts.length : Nat)) (e := .int 5) rfl rfl).trans ?_)))
        have : (ts.length : Int) ≠ 5 := by omega
        simp [this]
      | _ => rfl
    rw [fIf_t ht]
    rfl
theorem need_cells_eq {R C : Int} (xs : List T) (h : ∀ x ∈ xs, SmallI x) : m_need_cells [.int R, .int C, .lst xs] = some (match xs.findSome? (itemR R C) with | none => .ok .non | some c => .ex c) := by
  have hl : ∀ (xs : List T) (t : Sl) (s : Sl), (∀ x ∈ xs, SmallI x) → ∃ s', loopF (b1 3) lp1_need_cells xs [.sh (.int R), .sh (.int C), t, s] = match xs.findSome? (itemR R C) with | none => some (.nx [.sh (.int R), .sh (.int C), t, s']) | some c => some (.ex c [.sh (.int R), .sh (.int C), t, s']) := by
    intro xs t
    induction xs with
    | nil => intro s _; exact ⟨s, rfl⟩
    | cons x xs ih =>
      intro s hh
      have ht := item_turn (R := R) (C := C) (s2 := t) x (hh x List.mem_cons_self)
      obtain ⟨s', h2⟩ := ih (.sh x) fun y hy => hh y (List.mem_cons_of_mem _ hy)
      unfold loopF
      rw [show b1 3 x [.sh (.int R), .sh (.int C), t, s] = some [.sh (.int R), .sh (.int C), t, .sh x] from rfl]
      dsimp only
      rw [ht, List.findSome?_cons]
      cases itemR R C x with
      | none => exact ⟨s', h2⟩
      | some c => exact ⟨.sh x, rfl⟩
  unfold m_need_cells
  rw [runB_ev (n := 3) rfl]
  show outR _ (body_need_cells [.sh (.int R), .sh (.int C), .sh (.lst xs), .un]) = _
  unfold body_need_cells
  obtain ⟨s', h2⟩ := hl xs (.sh (.lst xs)) .un h
  rw [fFor_eq (ds := xs) rfl, h2]
  cases xs.findSome? (itemR R C) <;> rfl
/-- good cells -/
structure Good (R C : Int) (c : Cell) : Prop where
  box : BoxOk R C c.1
  text : GoodLs c.2
theorem item_good {R C : Int} {c : Cell} (h : Good R C c) : itemR R C (cellT c) = none ∧ SmallI (cellT c) := by
  obtain ⟨⟨r, k, hh, w⟩, ls⟩ := c
  refine ⟨?_, ?_⟩
  · show (if liesB R C (.int r) (.int k) (.int hh) (.int w) = true then (if goodT (.str (txt ls)) = true then (none : Option Str) else some ("BadText" : Str)) else some ("BadCell" : Str) : Option Str) = none
    rw [liesB_int, if_pos (inB_iff.mpr h.box), if_pos]
    show goodB (TL.tl (txt ls)) = true
    rw [show TL.tl (txt ls) = TL.joinL [10] ls from tl_ofL _]
    exact h.text.goodB
  · show (txt ls).length ≤ 50000
    rw [len_txt]
    have := h.text.len
    dsimp only at this
    omega
theorem need_cells_good {R C : Int} {cs : List Cell} (h : ∀ c ∈ cs, Good R C c) : m_need_cells [.int R, .int C, .lst (cs.map cellT)] = some (.ok .non) := by
  rw [need_cells_eq _ fun x hx => by
    obtain ⟨c, hc, rfl⟩ := List.mem_map.mp hx
    exact (item_good (h c hc)).2]
  rw [List.findSome?_eq_none_iff.mpr fun x hx => by
    obtain ⟨c, hc, rfl⟩ := List.mem_map.mp hx
    exact (item_good (h c hc)).1]
/-! ### made -/
theorem max_ints {ns : List Int} (h : ns ≠ []) : ∃ m, gMax [.lst (ns.map .int)] = some (.int m) ∧ m ∈ ns ∧ ∀ n ∈ ns, n ≤ m := by
  cases e : ns.max? with
  | none => exact absurd (List.max?_eq_none_iff.mp e) h
  | some m =>
    have h2 := List.max?_eq_some_iff.mp e
    refine ⟨m, ?_, h2.1, h2.2⟩
    show (intsOf (ns.map .int)).bind (fun ns => ns.max?.map T.int) = _
    rw [intsOf_map, Option.bind_some, e]
    rfl
theorem min_ints {ns : List Int} (h : ns ≠ []) : ∃ m, gMin [.lst (ns.map .int)] = some (.int m) ∧ m ∈ ns ∧ ∀ n ∈ ns, m ≤ n := by
  cases e : ns.min? with
  | none => exact absurd (List.min?_eq_none_iff.mp e) h
  | some m =>
    have h2 := List.min?_eq_some_iff.mp e
    refine ⟨m, ?_, h2.1, h2.2⟩
    show (intsOf (ns.map .int)).bind (fun ns => ns.min?.map T.int) = _
    rw [intsOf_map, Option.bind_some, e]
    rfl
theorem range_ne {n : Nat} {α : Type} {f : Nat → α} (h : 1 ≤ n) : (List.range n).map f ≠ [] := fun e => by
  have := congrArg List.length e
  rw [List.length_map, List.length_range] at this
  simp at this
  omega
theorem cntT_map (R C : Nat) (F : Nat → Nat → Int) : (cntT R C F).map T.lst = (List.range R).map fun i => T.lst (((List.range C).map (F i)).map .int) := by
  unfold cntT bdT
  rw [List.map_map]
  refine List.map_congr_left fun i _ => ?_
  show T.lst _ = _
  rw [List.map_map]
  rfl
theorem ext_rows (g : List T → Option T) (q : Int → Int → Prop) (hq : ∀ a b c, q a b → q b c → q a c)
    (hg : ∀ ns : List Int, ns ≠ [] → ∃ m, g [.lst (ns.map .int)] = some (.int m) ∧ m ∈ ns ∧ ∀ n ∈ ns, q n m) {R C : Nat} (hR : 1 ≤ R ∧ R ≤ 1000) (hC : 1 ≤ C) (F : Nat → Nat → Int) (a b c : Sl) :
    ∃ m, fC g (fCons (fComp (fItems (fVar 3)) (b1 4) fYes (fC g (fCons (fVar 4) fNil)) [4]) fNil) [a, b, c, .sh (.lst ((cntT R C F).map .lst)), .un] = some (.int m) ∧ (∃ i j, i < R ∧ j < C ∧ m = F i j) ∧ ∀ i j, i < R → j < C → q (F i j) m := by
  have hrow : ∀ i : Nat, ∃ m, g [.lst (((List.range C).map (F i)).map .int)] = some (.int m) ∧ m ∈ (List.range C).map (F i) ∧ ∀ n ∈ (List.range C).map (F i), q n m := fun i => hg _ (range_ne hC)
  let row : Nat → Int := fun i => Classical.choose (hrow i)
  have hr : ∀ i, g [.lst (((List.range C).map (F i)).map .int)] = some (.int (row i)) ∧ row i ∈ (List.range C).map (F i) ∧ ∀ n ∈ (List.range C).map (F i), q n (row i) := fun i => Classical.choose_spec (hrow i)
  obtain ⟨m, h1, h2, h3⟩ := hg ((List.range R).map row) (range_ne hR.1)
  refine ⟨m, ?_, ?_, fun i j hi hj => ?_⟩
  · refine (fC_eq (fCons_eq (d := .lst (((List.range R).map row).map .int)) ?_ rfl)).trans h1
    rw [List.map_map]
    refine fComp_map (fun i : Nat => T.lst (((List.range C).map (F i)).map .int)) (xs := List.range R) (g := T.int ∘ row) ?_ (fun i _ => ?_) (fun _ => rfl) (by rw [List.length_range]; omega)
    · rw [← cntT_map]; rfl
    · exact (fC_eq (fCons_eq (d := .lst (((List.range C).map (F i)).map .int)) rfl rfl)).trans (hr i).1
  · obtain ⟨i, hi, rfl⟩ := List.mem_map.mp h2
    obtain ⟨j, hj, e⟩ := List.mem_map.mp (hr i).2.1
    exact ⟨i, j, List.mem_range.mp hi, List.mem_range.mp hj, e.symm⟩
  · exact hq _ _ _ ((hr i).2.2 _ (List.mem_map.mpr ⟨j, List.mem_range.mpr hj, rfl⟩)) (h3 _ (List.mem_map.mpr ⟨i, List.mem_range.mpr hi, rfl⟩))
/-- what made does with cells that are all good -/
theorem made_good {R C : Nat} {cs : List Cell} (hR : 1 ≤ R ∧ R ≤ 20) (hC : 1 ≤ C ∧ C ≤ 20) (h : ∀ c ∈ cs, Good R C c) (hl : cs.length ≤ 100000) (b1' b2' : Bool) (hb1 : b1' = true ↔ ∃ i j, i < R ∧ j < C ∧ 1 < cnt cs i j) (hb2 : b2' = true ↔ ∃ i j, i < R ∧ j < C ∧ cnt cs i j < 1) :
    m_made [.int (R : Nat), .int (C : Nat), .lst (cs.map cellT)] = some (if b1' = true then .ex "Shared" else if b2' = true then .ex "Bare" else .fr (tabT R C (sortCells cs))) := by
  unfold m_made
  rw [runB_ev (n := 3) rfl]
  show outR _ (body_made [.sh (.int R), .sh (.int C), .sh (.lst (cs.map cellT)), .un, .un]) = _
  unfold body_made
  have d1 : fCallDrop m_need_size (fCons (fVar 0) (fCons (fVar 1) fNil)) [.sh (.int R), .sh (.int C), .sh (.lst (cs.map cellT)), .un, .un] = some (.nx [.sh (.int R), .sh (.int C), .sh (.lst (cs.map cellT)), .un, .un]) := by
    show (match m_need_size [.int R, .int C] with | some (.ok _) => _ | some (.fr _) => _ | some (.ex c) => _ | none => none) = _
    rw [size_ok (by omega) (by omega)]
  have d2 : fCallDrop m_need_cells (fCons (fVar 0) (fCons (fVar 1) (fCons (fVar 2) fNil))) [.sh (.int R), .sh (.int C), .sh (.lst (cs.map cellT)), .un, .un] = some (.nx [.sh (.int R), .sh (.int C), .sh (.lst (cs.map cellT)), .un, .un]) := by
    show (match m_need_cells [.int R, .int C, .lst (cs.map cellT)] with | some (.ok _) => _ | some (.fr _) => _ | some (.ex c) => _ | none => none) = _
    rw [need_cells_good h]
  refine (congrArg (outR 3) (fSeq_nx d1)).trans ?_
  refine (congrArg (outR 3) (fSeq_nx d2)).trans ?_
  refine (congrArg (outR 3) (fSeq_nx (fSet_eq (t := .lst ((cntT R C (cnt cs)).map .lst)) (fCall_eq rfl (by show val (m_counts_of [.int R, .int C, .lst (cs.map cellT)]) = _; rw [counts_eq (by omega) (by omega) fun c hc => (h c hc).box]; rfl))))).trans ?_
  show outR 3 (fSeq _ _ [.sh (.int R), .sh (.int C), .sh (.lst (cs.map cellT)), .sh (.lst ((cntT R C (cnt cs)).map .lst)), .un]) = _
  obtain ⟨mx, hm1, ⟨i1, j1, hi1, hj1, he1⟩, hm2⟩ := ext_rows gMax (fun a b => a ≤ b) (fun _ _ _ => Int.le_trans) (fun ns hn => max_ints hn) (R := R) (C := C) (by omega) hC.1 (cnt cs) (.sh (.int R)) (.sh (.int C)) (.sh (.lst (cs.map cellT)))
  obtain ⟨mn, hn1, ⟨i2, j2, hi2, hj2, he2⟩, hn2⟩ := ext_rows gMin (fun a b => b ≤ a) (fun _ _ _ h1 h2 => Int.le_trans h2 h1) (fun ns hn => min_ints hn) (R := R) (C := C) (by omega) hC.1 (cnt cs) (.sh (.int R)) (.sh (.int C)) (.sh (.lst (cs.map cellT)))
  have e1 : decide (mx > 1) = b1' := by
    rw [Bool.eq_iff_iff, decide_eq_true_iff, hb1]
    exact ⟨fun q => ⟨i1, j1, hi1, hj1, by omega⟩, fun ⟨i, j, hi, hj, q⟩ => by have := hm2 i j hi hj; omega⟩
  have e2 : decide (mn < 1) = b2' := by
    rw [Bool.eq_iff_iff, decide_eq_true_iff, hb2]
    exact ⟨fun q => ⟨i2, j2, hi2, hj2, by omega⟩, fun ⟨i, j, hi, hj, q⟩ => by have := hn2 i j hi hj; omega⟩
  have t1 : fTest (f2 gGt (fC gMax (fCons (fComp (fItems (fVar 3)) (b1 4) fYes (fC gMax (fCons (fVar 4) fNil)) [4]) fNil)) (fK (.int 1))) [.sh (.int R), .sh (.int C), .sh (.lst (cs.map cellT)), .sh (.lst ((cntT R C (cnt cs)).map .lst)), .un] = some b1' := by
    rw [← e1]
    exact fTest_eq ((f2_eq hm1 rfl).trans rfl)
  have t2 : fTest (f2 gLt (fC gMin (fCons (fComp (fItems (fVar 3)) (b1 4) fYes (fC gMin (fCons (fVar 4) fNil)) [4]) fNil)) (fK (.int 1))) [.sh (.int R), .sh (.int C), .sh (.lst (cs.map cellT)), .sh (.lst ((cntT R C (cnt cs)).map .lst)), .un] = some b2' := by
    rw [← e2]
    exact fTest_eq ((f2_eq hn1 rfl).trans rfl)
  rw [fSeq_ev, fIf_ev, t1, Option.bind_some]
  cases b1' with
  | true => rfl
  | false =>
    rw [if_neg (by decide), if_neg (by decide), fSkip_ev, Option.bind_some, thenF_nx, fSeq_ev, fIf_ev, t2, Option.bind_some]
    cases b2' with
    | true => rfl
    | false =>
      rw [if_neg (by decide), if_neg (by decide), fSkip_ev, Option.bind_some, thenF_nx, fRetF_ev]
      have e3 : fTupN (fCons (fVar 0) (fCons (fVar 1) fNil)) (f1 gSortC (fVar 2)) [.sh (.int R), .sh (.int C), .sh (.lst (cs.map cellT)), .sh (.lst ((cntT R C (cnt cs)).map .lst)), .un] = some (tabT R C (sortCells cs)) := by
        unfold fTupN
        rw [show fCons (fVar 0) (fCons (fVar 1) fNil) [.sh (.int R), .sh (.int C), .sh (.lst (cs.map cellT)), .sh (.lst ((cntT R C (cnt cs)).map .lst)), .un] = some [.int R, .int C] from rfl,
          show f1 gSortC (fVar 2) [.sh (.int R), .sh (.int C), .sh (.lst (cs.map cellT)), .sh (.lst ((cntT R C (cnt cs)).map .lst)), .un] = gSortC (.lst (cs.map cellT)) from rfl, gSortC_cells hl]
        exact gTupN_cells _ _ _
      rw [e3]
      rfl
theorem cnt_tiles {R C : Nat} {cs : List Cell} (t : Tiles R C (cs.map Prod.fst)) {i j : Nat} (hi : i < R) (hj : j < C) : cnt cs i j = 1 := by
  have := t.one i j (by omega) (by omega) (by omega) (by omega)
  rw [List.countP_map] at this
  unfold cnt
  rw [show cs.countP (hasC i j) = cs.countP (has i j ∘ Prod.fst) from rfl, this]
  rfl
theorem made_ok {R C : Nat} {cs : List Cell} (hR : 1 ≤ R ∧ R ≤ 20) (hC : 1 ≤ C ∧ C ≤ 20) (ok : CellsOk R C cs) : m_made [.int (R : Nat), .int (C : Nat), .lst (cs.map cellT)] = some (.fr (tabT R C (sortCells cs))) := by
  rw [made_good hR hC (fun c hc => ⟨ok.tiles.ok c.1 (List.mem_map_of_mem hc), ok.good c hc⟩) (by have := ok.len; omega) false false
    ⟨fun h => (by cases h), fun ⟨i, j, hi, hj, h⟩ => by rw [cnt_tiles ok.tiles hi hj] at h; omega⟩ ⟨fun h => (by cases h), fun ⟨i, j, hi, hj, h⟩ => by rw [cnt_tiles ok.tiles hi hj] at h; omega⟩]
  rfl
end Mx

namespace K04
open PySem PySem.Spec L2 Fx
open PyProof.Rows hiding St
open Bx
def topS (i : Nat) : Stmt := PySem.Challenge.pw_boxtable_k04_made_refused.main.body.getD i (.Pass ⟨0, 0, 0, 0⟩)
abbrev s_lines_of : Stmt := topS 13
abbrev s_is_good : Stmt := topS 14
abbrev s_is_whole : Stmt := topS 17
abbrev s_need_size : Stmt := topS 18
abbrev s_lies_in : Stmt := topS 19
abbrev s_need_cells : Stmt := topS 20
abbrev s_counts_of : Stmt := topS 21
abbrev s_corner : Stmt := topS 22
abbrev s_made : Stmt := topS 23
abbrev s_law_at : Stmt := topS 25
abbrev s_law_line : Stmt := topS 26
abbrev s_law_size : Stmt := topS 27
abbrev s_law_parts : Stmt := topS 28
abbrev s_law_cells : Stmt := topS 29
abbrev s_law_bad_cell : Stmt := topS 30
abbrev s_law_bad_text : Stmt := topS 31
abbrev s_law_outcome : Stmt := topS 32
abbrev s_law_spoilt : Stmt := topS 33
abbrev s_law_moved : Stmt := topS 34
abbrev s_law : Stmt := topS 35
abbrev n_lines_of : List Str := ["text"]
theorem sc_lines_of : FnScope n_lines_of ["text"] (defScope s_lines_of) := ⟨rfl, rfl, rfl, by decide +kernel, rfl, by decide +kernel, by decide +kernel⟩
abbrev n_is_good : List Str := ["text", "sign", "line"]
theorem sc_is_good : FnScope n_is_good ["text"] (defScope s_is_good) := ⟨rfl, rfl, rfl, by decide +kernel, rfl, by decide +kernel, by decide +kernel⟩
abbrev n_is_whole : List Str := ["number"]
theorem sc_is_whole : FnScope n_is_whole ["number"] (defScope s_is_whole) := ⟨rfl, rfl, rfl, by decide +kernel, rfl, by decide +kernel, by decide +kernel⟩
abbrev n_need_size : List Str := ["rows", "columns", "number"]
theorem sc_need_size : FnScope n_need_size ["rows", "columns"] (defScope s_need_size) := ⟨rfl, rfl, rfl, by decide +kernel, rfl, by decide +kernel, by decide +kernel⟩
abbrev n_lies_in : List Str := ["part", "rows", "columns", "number"]
theorem sc_lies_in : FnScope n_lies_in ["part", "rows", "columns"] (defScope s_lies_in) := ⟨rfl, rfl, rfl, by decide +kernel, rfl, by decide +kernel, by decide +kernel⟩
abbrev n_need_cells : List Str := ["rows", "columns", "cells", "cell"]
theorem sc_need_cells : FnScope n_need_cells ["rows", "columns", "cells"] (defScope s_need_cells) := ⟨rfl, rfl, rfl, by decide +kernel, rfl, by decide +kernel, by decide +kernel⟩
abbrev n_counts_of : List Str := ["rows", "columns", "cells", "found", "cell", "row", "column"]
theorem sc_counts_of : FnScope n_counts_of ["rows", "columns", "cells"] (defScope s_counts_of) := ⟨rfl, rfl, rfl, by decide +kernel, rfl, by decide +kernel, by decide +kernel⟩
abbrev n_corner : List Str := ["cell"]
theorem sc_corner : FnScope n_corner ["cell"] (defScope s_corner) := ⟨rfl, rfl, rfl, by decide +kernel, rfl, by decide +kernel, by decide +kernel⟩
abbrev n_made : List Str := ["rows", "columns", "cells", "counts", "row"]
theorem sc_made : FnScope n_made ["rows", "columns", "cells"] (defScope s_made) := ⟨rfl, rfl, rfl, by decide +kernel, rfl, by decide +kernel, by decide +kernel⟩
abbrev n_law_at : List Str := ["_law_script", "_law_k"]
theorem sc_law_at : FnScope n_law_at ["_law_script", "_law_k"] (defScope s_law_at) := ⟨rfl, rfl, rfl, by decide +kernel, rfl, by decide +kernel, by decide +kernel⟩
abbrev n_law_line : List Str := ["_law_number", "_law_size_here", "_law_some", "_law_k"]
theorem sc_law_line : FnScope n_law_line ["_law_number", "_law_size_here"] (defScope s_law_line) := ⟨rfl, rfl, rfl, by decide +kernel, rfl, by decide +kernel, by decide +kernel⟩
abbrev n_law_size : List Str := ["_law_number"]
theorem sc_law_size : FnScope n_law_size ["_law_number"] (defScope s_law_size) := ⟨rfl, rfl, rfl, by decide +kernel, rfl, by decide +kernel, by decide +kernel⟩
abbrev n_law_parts : List Str := ["_law_box", "_law_number", "_law_more", "_law_cut"]
theorem sc_law_parts : FnScope n_law_parts ["_law_box", "_law_number"] (defScope s_law_parts) := ⟨rfl, rfl, rfl, by decide +kernel, rfl, by decide +kernel, by decide +kernel⟩
abbrev n_law_cells : List Str := ["_law_script", "_law_rows", "_law_columns", "_law_boxes", "_law_k", "_law_at_here", "_law_box"]
theorem sc_law_cells : FnScope n_law_cells ["_law_script", "_law_rows", "_law_columns"] (defScope s_law_cells) := ⟨rfl, rfl, rfl, by decide +kernel, rfl, by decide +kernel, by decide +kernel⟩
abbrev n_law_bad_cell : List Str := ["_law_cell", "_law_number", "_law_more", "_law_at_here", "_law_least", "_law_odd", "_law_bad"]
theorem sc_law_bad_cell : FnScope n_law_bad_cell ["_law_cell", "_law_number"] (defScope s_law_bad_cell) := ⟨rfl, rfl, rfl, by decide +kernel, rfl, by decide +kernel, by decide +kernel⟩
abbrev n_law_bad_text : List Str := ["_law_cell", "_law_number", "_law_bad"]
theorem sc_law_bad_text : FnScope n_law_bad_text ["_law_cell", "_law_number"] (defScope s_law_bad_text) := ⟨rfl, rfl, rfl, by decide +kernel, rfl, by decide +kernel, by decide +kernel⟩
abbrev n_law_outcome : List Str := ["_law_rows", "_law_columns", "_law_cells_here", "_law_found", "e"]
theorem sc_law_outcome : FnScope n_law_outcome ["_law_rows", "_law_columns", "_law_cells_here"] (defScope s_law_outcome) := ⟨rfl, rfl, rfl, by decide +kernel, rfl, by decide +kernel, by decide +kernel⟩
abbrev n_law_spoilt : List Str := ["_law_cells_here", "_law_way", "_law_number", "_law_at_here", "_law_other", "_law_more", "_law_one", "_law_first", "_law_found", "_law_bad"]
theorem sc_law_spoilt : FnScope n_law_spoilt ["_law_cells_here", "_law_way", "_law_number"] (defScope s_law_spoilt) := ⟨rfl, rfl, rfl, by decide +kernel, rfl, by decide +kernel, by decide +kernel⟩
abbrev n_law_moved : List Str := ["_law_cells_here", "_law_rows", "_law_columns", "_law_number", "_law_at_here", "_law_more", "_law_one", "_law_found", "_law_squares", "_law_cell", "_law_k", "_law_square"]
theorem sc_law_moved : FnScope n_law_moved ["_law_cells_here", "_law_rows", "_law_columns", "_law_number"] (defScope s_law_moved) := ⟨rfl, rfl, rfl, by decide +kernel, rfl, by decide +kernel, by decide +kernel⟩
abbrev n_law : List Str := ["_law_script", "_law_rows", "_law_columns", "_law_cells_here", "_law_way", "_law_bad", "_law_due", "_law_spoilt_here", "_law_kept"]
theorem sc_law : FnScope n_law ["_law_script"] (defScope s_law) := ⟨rfl, rfl, rfl, by decide +kernel, rfl, by decide +kernel, by decide +kernel⟩
theorem kd_corner : KeyDef s_corner "cell" := ⟨⟨_, _, _, _, _, _, _, _, _, _, _, rfl⟩, fun _ _ _ _ _ _ _ _ _ => rfl, rfl, rfl, rfl, rfl, by decide⟩
/-- where each def stands -/
structure Ad where
  a_lines_of : Addr
  d_lines_of : FuncData
  a_is_good : Addr
  d_is_good : FuncData
  a_is_whole : Addr
  d_is_whole : FuncData
  a_need_size : Addr
  d_need_size : FuncData
  a_lies_in : Addr
  d_lies_in : FuncData
  a_need_cells : Addr
  d_need_cells : FuncData
  a_counts_of : Addr
  d_counts_of : FuncData
  a_corner : Addr
  d_corner : FuncData
  a_made : Addr
  d_made : FuncData
  a_law_at : Addr
  d_law_at : FuncData
  a_law_line : Addr
  d_law_line : FuncData
  a_law_size : Addr
  d_law_size : FuncData
  a_law_parts : Addr
  d_law_parts : FuncData
  a_law_cells : Addr
  d_law_cells : FuncData
  a_law_bad_cell : Addr
  d_law_bad_cell : FuncData
  a_law_bad_text : Addr
  d_law_bad_text : FuncData
  a_law_outcome : Addr
  d_law_outcome : FuncData
  a_law_spoilt : Addr
  d_law_spoilt : FuncData
  a_law_moved : Addr
  d_law_moved : FuncData
  a_law : Addr
  d_law : FuncData
  c_TableError : Addr
  c_BadSize : Addr
  c_BadCell : Addr
  c_BadText : Addr
  c_Shared : Addr
  c_Bare : Addr
  c_NoSquare : Addr
  c_Cut : Addr
  c_NoDrawing : Addr
/-- what the top has left -/
structure Txt (K : PySem.W.Frag) (mg : Str → Option Value) (A : Ad) : Prop where
  n_ValueError : mg "ValueError" = none
  n_len : mg "len" = none
  n_max : mg "max" = none
  n_min : mg "min" = none
  n_abs : mg "abs" = none
  n_int : mg "int" = none
  n_str : mg "str" = none
  n_list : mg "list" = none
  n_range : mg "range" = none
  n_enumerate : mg "enumerate" = none
  n_isinstance : mg "isinstance" = none
  n_sorted : mg "sorted" = none
  n_bool : mg "bool" = none
  n_tuple : mg "tuple" = none
  c_MOST : ∃ tk, mg "MOST" = some (.int 200 tk)
  c_SIGNS : ∃ tk, mg "SIGNS" = some (.str " !\"#$&'()*+,-./0123456789:;<=>?@ABCDEFGHIJKLMNOPQRSTUVWXYZ[\\]^_`abcdefghijklmnopqrstuvwxyz{|}~" tk)
  c_MOST_LINES : ∃ tk, mg "MOST_LINES" = some (.int 20 tk)
  g_lines_of : mg "lines_of" = some (.ref A.a_lines_of)
  F_lines_of : Fun K "lines_of" "lines_of" s_lines_of A.a_lines_of A.d_lines_of
  b_lines_of : Binds K A.d_lines_of ["text"] []
  g_is_good : mg "is_good" = some (.ref A.a_is_good)
  F_is_good : Fun K "is_good" "is_good" s_is_good A.a_is_good A.d_is_good
  b_is_good : Binds K A.d_is_good ["text"] []
  g_is_whole : mg "is_whole" = some (.ref A.a_is_whole)
  F_is_whole : Fun K "is_whole" "is_whole" s_is_whole A.a_is_whole A.d_is_whole
  b_is_whole : Binds K A.d_is_whole ["number"] []
  g_need_size : mg "need_size" = some (.ref A.a_need_size)
  F_need_size : Fun K "need_size" "need_size" s_need_size A.a_need_size A.d_need_size
  b_need_size : Binds K A.d_need_size ["rows", "columns"] []
  g_lies_in : mg "lies_in" = some (.ref A.a_lies_in)
  F_lies_in : Fun K "lies_in" "lies_in" s_lies_in A.a_lies_in A.d_lies_in
  b_lies_in : Binds K A.d_lies_in ["part", "rows", "columns"] []
  g_need_cells : mg "need_cells" = some (.ref A.a_need_cells)
  F_need_cells : Fun K "need_cells" "need_cells" s_need_cells A.a_need_cells A.d_need_cells
  b_need_cells : Binds K A.d_need_cells ["rows", "columns", "cells"] []
  g_counts_of : mg "counts_of" = some (.ref A.a_counts_of)
  F_counts_of : Fun K "counts_of" "counts_of" s_counts_of A.a_counts_of A.d_counts_of
  b_counts_of : Binds K A.d_counts_of ["rows", "columns", "cells"] []
  g_corner : mg "corner" = some (.ref A.a_corner)
  F_corner : Fun K "corner" "corner" s_corner A.a_corner A.d_corner
  b_corner : Binds K A.d_corner ["cell"] []
  g_made : mg "made" = some (.ref A.a_made)
  F_made : Fun K "made" "made" s_made A.a_made A.d_made
  b_made : Binds K A.d_made ["rows", "columns", "cells"] []
  g_law_at : mg "_law_at" = some (.ref A.a_law_at)
  F_law_at : Fun K "_law_at" "_law_at" s_law_at A.a_law_at A.d_law_at
  b_law_at : Binds K A.d_law_at ["_law_script", "_law_k"] []
  g_law_line : mg "_law_line" = some (.ref A.a_law_line)
  F_law_line : Fun K "_law_line" "_law_line" s_law_line A.a_law_line A.d_law_line
  b_law_line : Binds K A.d_law_line ["_law_number", "_law_size_here"] []
  g_law_size : mg "_law_size" = some (.ref A.a_law_size)
  F_law_size : Fun K "_law_size" "_law_size" s_law_size A.a_law_size A.d_law_size
  b_law_size : Binds K A.d_law_size ["_law_number"] []
  g_law_parts : mg "_law_parts" = some (.ref A.a_law_parts)
  F_law_parts : Fun K "_law_parts" "_law_parts" s_law_parts A.a_law_parts A.d_law_parts
  b_law_parts : Binds K A.d_law_parts ["_law_box", "_law_number"] []
  g_law_cells : mg "_law_cells" = some (.ref A.a_law_cells)
  F_law_cells : Fun K "_law_cells" "_law_cells" s_law_cells A.a_law_cells A.d_law_cells
  b_law_cells : Binds K A.d_law_cells ["_law_script", "_law_rows", "_law_columns"] []
  g_law_bad_cell : mg "_law_bad_cell" = some (.ref A.a_law_bad_cell)
  F_law_bad_cell : Fun K "_law_bad_cell" "_law_bad_cell" s_law_bad_cell A.a_law_bad_cell A.d_law_bad_cell
  b_law_bad_cell : Binds K A.d_law_bad_cell ["_law_cell", "_law_number"] []
  g_law_bad_text : mg "_law_bad_text" = some (.ref A.a_law_bad_text)
  F_law_bad_text : Fun K "_law_bad_text" "_law_bad_text" s_law_bad_text A.a_law_bad_text A.d_law_bad_text
  b_law_bad_text : Binds K A.d_law_bad_text ["_law_cell", "_law_number"] []
  g_law_outcome : mg "_law_outcome" = some (.ref A.a_law_outcome)
  F_law_outcome : Fun K "_law_outcome" "_law_outcome" s_law_outcome A.a_law_outcome A.d_law_outcome
  b_law_outcome : Binds K A.d_law_outcome ["_law_rows", "_law_columns", "_law_cells_here"] []
  g_law_spoilt : mg "_law_spoilt" = some (.ref A.a_law_spoilt)
  F_law_spoilt : Fun K "_law_spoilt" "_law_spoilt" s_law_spoilt A.a_law_spoilt A.d_law_spoilt
  b_law_spoilt : Binds K A.d_law_spoilt ["_law_cells_here", "_law_way", "_law_number"] []
  g_law_moved : mg "_law_moved" = some (.ref A.a_law_moved)
  F_law_moved : Fun K "_law_moved" "_law_moved" s_law_moved A.a_law_moved A.d_law_moved
  b_law_moved : Binds K A.d_law_moved ["_law_cells_here", "_law_rows", "_law_columns", "_law_number"] []
  g_law : mg "law" = some (.ref A.a_law)
  F_law : Fun K "law" "law" s_law A.a_law A.d_law
  b_law : Binds K A.d_law ["_law_script"] []
  g_TableError : mg "TableError" = some (.ref A.c_TableError)
  x_TableError : PySem.W.excIn K A.c_TableError [.type "ValueError", .type "Exception", .type "BaseException", .type "object"] "ValueError.__new__" = true
  k_TableError : PySem.W.keepIn K (.ref A.c_TableError) = true
  s_TableError : PySem.W.subIn K (.ref A.c_TableError) (.type "BaseException") = some true
  t_TableError : PySem.W.typeIn K (.ref A.c_TableError) = some (.type "type")
  g_BadSize : mg "BadSize" = some (.ref A.c_BadSize)
  x_BadSize : PySem.W.excIn K A.c_BadSize [.type "ValueError", .type "Exception", .type "BaseException", .type "object"] "ValueError.__new__" = true
  k_BadSize : PySem.W.keepIn K (.ref A.c_BadSize) = true
  s_BadSize : PySem.W.subIn K (.ref A.c_BadSize) (.type "BaseException") = some true
  t_BadSize : PySem.W.typeIn K (.ref A.c_BadSize) = some (.type "type")
  g_BadCell : mg "BadCell" = some (.ref A.c_BadCell)
  x_BadCell : PySem.W.excIn K A.c_BadCell [.type "ValueError", .type "Exception", .type "BaseException", .type "object"] "ValueError.__new__" = true
  k_BadCell : PySem.W.keepIn K (.ref A.c_BadCell) = true
  s_BadCell : PySem.W.subIn K (.ref A.c_BadCell) (.type "BaseException") = some true
  t_BadCell : PySem.W.typeIn K (.ref A.c_BadCell) = some (.type "type")
  g_BadText : mg "BadText" = some (.ref A.c_BadText)
  x_BadText : PySem.W.excIn K A.c_BadText [.type "ValueError", .type "Exception", .type "BaseException", .type "object"] "ValueError.__new__" = true
  k_BadText : PySem.W.keepIn K (.ref A.c_BadText) = true
  s_BadText : PySem.W.subIn K (.ref A.c_BadText) (.type "BaseException") = some true
  t_BadText : PySem.W.typeIn K (.ref A.c_BadText) = some (.type "type")
  g_Shared : mg "Shared" = some (.ref A.c_Shared)
  x_Shared : PySem.W.excIn K A.c_Shared [.type "ValueError", .type "Exception", .type "BaseException", .type "object"] "ValueError.__new__" = true
  k_Shared : PySem.W.keepIn K (.ref A.c_Shared) = true
  s_Shared : PySem.W.subIn K (.ref A.c_Shared) (.type "BaseException") = some true
  t_Shared : PySem.W.typeIn K (.ref A.c_Shared) = some (.type "type")
  g_Bare : mg "Bare" = some (.ref A.c_Bare)
  x_Bare : PySem.W.excIn K A.c_Bare [.type "ValueError", .type "Exception", .type "BaseException", .type "object"] "ValueError.__new__" = true
  k_Bare : PySem.W.keepIn K (.ref A.c_Bare) = true
  s_Bare : PySem.W.subIn K (.ref A.c_Bare) (.type "BaseException") = some true
  t_Bare : PySem.W.typeIn K (.ref A.c_Bare) = some (.type "type")
  g_NoSquare : mg "NoSquare" = some (.ref A.c_NoSquare)
  x_NoSquare : PySem.W.excIn K A.c_NoSquare [.type "ValueError", .type "Exception", .type "BaseException", .type "object"] "ValueError.__new__" = true
  k_NoSquare : PySem.W.keepIn K (.ref A.c_NoSquare) = true
  s_NoSquare : PySem.W.subIn K (.ref A.c_NoSquare) (.type "BaseException") = some true
  t_NoSquare : PySem.W.typeIn K (.ref A.c_NoSquare) = some (.type "type")
  g_Cut : mg "Cut" = some (.ref A.c_Cut)
  x_Cut : PySem.W.excIn K A.c_Cut [.type "ValueError", .type "Exception", .type "BaseException", .type "object"] "ValueError.__new__" = true
  k_Cut : PySem.W.keepIn K (.ref A.c_Cut) = true
  s_Cut : PySem.W.subIn K (.ref A.c_Cut) (.type "BaseException") = some true
  t_Cut : PySem.W.typeIn K (.ref A.c_Cut) = some (.type "type")
  g_NoDrawing : mg "NoDrawing" = some (.ref A.c_NoDrawing)
  x_NoDrawing : PySem.W.excIn K A.c_NoDrawing [.type "ValueError", .type "Exception", .type "BaseException", .type "object"] "ValueError.__new__" = true
  k_NoDrawing : PySem.W.keepIn K (.ref A.c_NoDrawing) = true
  s_NoDrawing : PySem.W.subIn K (.ref A.c_NoDrawing) (.type "BaseException") = some true
  t_NoDrawing : PySem.W.typeIn K (.ref A.c_NoDrawing) = some (.type "type")
  cl : ∀ c ∈ (["BadSize", "BadCell", "BadText", "Shared", "Bare"] : List Str), ClsX K mg c (["TableError", "BadSize", "BadCell", "BadText", "Shared", "Bare", "NoSquare", "Cut", "NoDrawing"] : List Str)
section
variable {P : Program} {w : World} {K : PySem.W.Frag} {mg : Str → Option Value} {base : Heap} {Ad0 : Ad}
set_option maxHeartbeats 1000000 in
theorem ok_lines_of (Tx : Txt K mg Ad0) : FnOk P w K mg base CX0 1 Ad0.a_lines_of Ad0.d_lines_of ["text"] (SpR K mg m_lines_of) := by
  exact fn_ok Tx.F_lines_of sc_lines_of 1 1 rfl rfl fun cdv A outer s H E hr =>
  (fs_one (fs_retF (fn_m PySem.F.slot_str_split PySem.F.type_str_split mt_split md_split g_split_str (fe_var 0) (fa_cons fe_str fa_nil))))
set_option maxHeartbeats 1000000 in
theorem ok_is_good (Tx : Txt K mg Ad0) : FnOk P w K mg base CX0 2 Ad0.a_is_good Ad0.d_is_good ["text"] (SpR K mg m_is_good) := by
  obtain ⟨_, e_MOST⟩ := Tx.c_MOST
  obtain ⟨_, e_SIGNS⟩ := Tx.c_SIGNS
  exact fn_ok Tx.F_is_good sc_is_good 1 3 rfl rfl fun cdv A outer s H E hr =>
  (fs_cons (fs_if (PW.pt (fw_or (ft_not (ft_val (fe_isi (ty := "str") kit_str PyProof.Rows.boot_str Tx.n_isinstance Tx.n_str (fe_var 0)))) (fw_or1 (ft_gt (fe_callB call_len cd_len rfl Tx.n_len PySem.boot_len (fa_cons (fe_var 0) fa_nil)) (fe_globI rfl e_MOST)))))
  (fs_one (fs_ret fe_bl))
  fs_nil)
  (fs_cons (fs_for PassesOwn.never rfl (fi_str (fe_var 0)) (pg_name (i := 1) sc_is_good.nd rfl (by first | exact Or.inl rfl | exact Or.inr rfl)) (tg_1 1)
  (fs_one (fs_if (PW.pt (fw_and (ft_ne hr.units (fe_var 1) fe_str) (fw_and1 (ft_notInS (fe_var 1) (fe_globS rfl e_SIGNS)))))
  (fs_one (fs_ret fe_bl))
  fs_nil)))
  (fs_cons (fs_for PassesOwn.never rfl (fi_list (fe_of (fn_call (ok_lines_of Tx) (hr.mono (by decide)) Tx.g_lines_of Tx.F_lines_of.kp Tx.b_lines_of pass0 (fa_cons (fe_var 0) fa_nil)))) (pg_name (i := 2) sc_is_good.nd rfl (by first | exact Or.inl rfl | exact Or.inr rfl)) (tg_1 2)
  (fs_one (fs_if (ft_val (fe_m PySem.F.slot_str_endswith PySem.F.type_str_endswith mt_endswith md_endswith g_endswith_str (fe_var 2) (fa_cons fe_str fa_nil)))
  (fs_one (fs_ret fe_bl))
  fs_nil)))
  (fs_one (fs_ret (fe_not (fe_m PySem.F.slot_str_endswith PySem.F.type_str_endswith mt_endswith md_endswith g_endswith_str (fe_var 0) (fa_cons fe_str fa_nil))))))))
set_option maxHeartbeats 1000000 in
theorem ok_is_whole (Tx : Txt K mg Ad0) : FnOk P w K mg base CX0 1 Ad0.a_is_whole Ad0.d_is_whole ["number"] (SpR K mg m_is_whole) := by
  exact fn_ok Tx.F_is_whole sc_is_whole 1 1 rfl rfl fun cdv A outer s H E hr =>
  (fs_one (fs_ret (fe_and (fe_isi (ty := "int") kit_int PyProof.Rows.boot_int Tx.n_isinstance Tx.n_int (fe_var 0)) (fe_one (fe_not (fe_isi (ty := "bool") kit_bool PyProof.Rows.boot_bool Tx.n_isinstance Tx.n_bool (fe_var 0)))))))
set_option maxHeartbeats 1000000 in
theorem ok_need_size (Tx : Txt K mg Ad0) : FnOk P w K mg base (L2.CX P w) 2 Ad0.a_need_size Ad0.d_need_size ["rows", "columns"] (SpR K mg m_need_size) := by
  obtain ⟨_, e_MOST_LINES⟩ := Tx.c_MOST_LINES
  exact fn_okX Tx.F_need_size sc_need_size 2 3 rfl rfl fun cdv A outer s H E hr =>
  (fs_one (fs_for (passes_of rfl) rfl (fi_tup (fe_tup (fa_cons (fe_var 0) (fa_cons (fe_var 1) fa_nil)))) (pg_name (i := 2) sc_need_size.nd rfl (by first | exact Or.inl rfl | exact Or.inr rfl)) (tg_1 2)
  (fs_one (fs_if (PW.pt (fw_or (ft_not (ft_val (fe_call (ok_is_whole Tx) (hr.mono (by decide)) Tx.g_is_whole Tx.F_is_whole.kp Tx.b_is_whole pass0 (fa_cons (fe_var 2) fa_nil)))) (fw_or (ft_lt (fe_var 2) fe_int) (fw_or1 (ft_gt (fe_var 2) (fe_globI rfl e_MOST_LINES))))))
  (fs_one (fs_raise rfl (takes_of rfl rfl rfl rfl) Tx.x_BadSize Tx.g_BadSize rfl Tx.k_BadSize (raises_own Tx.s_BadSize Tx.t_BadSize)))
  fs_nil))))
set_option maxHeartbeats 1000000 in
theorem ok_lies_in (Tx : Txt K mg Ad0) : FnOk P w K mg base CX0 2 Ad0.a_lies_in Ad0.d_lies_in ["part", "rows", "columns"] (SpR K mg m_lies_in) := by
  exact fn_ok Tx.F_lies_in sc_lies_in 3 4 rfl rfl fun cdv A outer s H E hr =>
  (fs_cons (fs_for PassesOwn.never rfl (fi_tup (fe_sl (fe_var 0) fo_none (fo_some fe_int))) (pg_name (i := 3) sc_lies_in.nd rfl (by first | exact Or.inl rfl | exact Or.inr rfl)) (tg_1 3)
  (fs_one (fs_if (ft_not (ft_val (fe_call (ok_is_whole Tx) (hr.mono (by decide)) Tx.g_is_whole Tx.F_is_whole.kp Tx.b_is_whole pass0 (fa_cons (fe_var 3) fa_nil))))
  (fs_one (fs_ret fe_bl))
  fs_nil)))
  (fs_cons (fs_if (PW.pt (fw_or (ft_lt (fe_ix (fe_var 0) fe_int) fe_int) (fw_or (ft_lt (fe_ix (fe_var 0) fe_int) fe_int) (fw_or (ft_lt (fe_ix (fe_var 0) fe_int) fe_int) (fw_or1 (ft_lt (fe_ix (fe_var 0) fe_int) fe_int))))))
  (fs_one (fs_ret fe_bl))
  fs_nil)
  (fs_one (fs_ret (fe_and (fe_le (fe_add (fe_ix (fe_var 0) fe_int) (fe_ix (fe_var 0) fe_int)) (fe_var 1)) (fe_one (fe_le (fe_add (fe_ix (fe_var 0) fe_int) (fe_ix (fe_var 0) fe_int)) (fe_var 2))))))))
set_option maxHeartbeats 1000000 in
theorem ok_need_cells (Tx : Txt K mg Ad0) : FnOk P w K mg base (L2.CX P w) 3 Ad0.a_need_cells Ad0.d_need_cells ["rows", "columns", "cells"] (SpR K mg m_need_cells) := by
  exact fn_okX Tx.F_need_cells sc_need_cells 3 4 rfl rfl fun cdv A outer s H E hr =>
  (fs_one (fs_for (passes_of rfl) rfl (fi_list (fe_var 2)) (pg_name (i := 3) sc_need_cells.nd rfl (by first | exact Or.inl rfl | exact Or.inr rfl)) (tg_1 3)
  (fs_cons (fs_if (PW.pt (fw_or (ft_not (ft_val (fe_isi (ty := "tuple") kit_tuple PyProof.Rows.boot_tuple Tx.n_isinstance Tx.n_tuple (fe_var 3)))) (fw_or (ft_ne hr.units (fe_callB call_len cd_len rfl Tx.n_len PySem.boot_len (fa_cons (fe_var 3) fa_nil)) fe_int) (fw_or1 (ft_not (ft_val (fe_call (ok_lies_in Tx) (hr.mono (by decide)) Tx.g_lies_in Tx.F_lies_in.kp Tx.b_lies_in pass0 (fa_cons (fe_var 3) (fa_cons (fe_var 0) (fa_cons (fe_var 1) fa_nil))))))))))
  (fs_one (fs_raise rfl (takes_of rfl rfl rfl rfl) Tx.x_BadCell Tx.g_BadCell rfl Tx.k_BadCell (raises_own Tx.s_BadCell Tx.t_BadCell)))
  fs_nil)
  (fs_one (fs_if (ft_not (ft_val (fe_call (ok_is_good Tx) (hr.mono (by decide)) Tx.g_is_good Tx.F_is_good.kp Tx.b_is_good pass0 (fa_cons (fe_ix (fe_var 3) fe_int) fa_nil))))
  (fs_one (fs_raise rfl (takes_of rfl rfl rfl rfl) Tx.x_BadText Tx.g_BadText rfl Tx.k_BadText (raises_own Tx.s_BadText Tx.t_BadText)))
  fs_nil)))))
set_option maxHeartbeats 1000000 in
theorem ok_counts_of (Tx : Txt K mg Ad0) : FnOk P w K mg base CX0 1 Ad0.a_counts_of Ad0.d_counts_of ["rows", "columns", "cells"] (SpR K mg m_counts_of) := by
  exact fn_ok Tx.F_counts_of sc_counts_of 3 7 rfl rfl fun cdv A outer s H E hr =>
  (fs_cons (fs_setOb (own := [("row", 5)]) 3 rfl sc_counts_of.nd (tg_1 5) (by decide) (fi_range1 Tx.n_range (fa_cons (fe_var 0) fa_nil)) (blkOk_by (N := n_counts_of) (sc := defScope s_counts_of) (by decide +kernel)) (fun _ _ _ _ _ => (pg_name (i := 5) sc_counts_of.nd rfl (by first | exact Or.inl rfl | exact Or.inr rfl))) (fun _ _ _ _ _ => (fn_rep (fe_of (fn_lst (fa_cons fe_int fa_nil))) (fe_var 1))))
  (fs_cons (fs_for PassesOwn.never rfl (fi_list (fe_var 2)) (pg_name (i := 4) sc_counts_of.nd rfl (by first | exact Or.inl rfl | exact Or.inr rfl)) (tg_1 4)
  (fs_one (fs_for PassesOwn.never rfl (fi_range2 Tx.n_range (fa_cons (fe_ix (fe_var 4) fe_int) (fa_cons (fe_add (fe_ix (fe_var 4) fe_int) (fe_ix (fe_var 4) fe_int)) fa_nil))) (pg_name (i := 5) sc_counts_of.nd rfl (by first | exact Or.inl rfl | exact Or.inr rfl)) (tg_1 5)
  (fs_one (fs_for PassesOwn.never rfl (fi_range2 Tx.n_range (fa_cons (fe_ix (fe_var 4) fe_int) (fa_cons (fe_add (fe_ix (fe_var 4) fe_int) (fe_ix (fe_var 4) fe_int)) fa_nil))) (pg_name (i := 6) sc_counts_of.nd rfl (by first | exact Or.inl rfl | exact Or.inr rfl)) (tg_1 6)
  (fs_one (fs_put2 3 (fe_var 5) (fe_var 6) (fe_add (fe_ixL (fl_row 3 (fe_var 5)) (fe_var 6)) fe_int))))))))
  (fs_one (fs_frzS 3 (fs_ret (fe_var 3))))))
set_option maxHeartbeats 1000000 in
theorem ok_corner (Tx : Txt K mg Ad0) : FnOk P w K mg base CX0 1 Ad0.a_corner Ad0.d_corner ["cell"] (SpR K mg m_corner) := by
  exact fn_ok Tx.F_corner sc_corner 1 1 rfl rfl fun cdv A outer s H E hr =>
  (fs_one (fs_ret (fe_tup (fa_cons (fe_ix (fe_var 0) fe_int) (fa_cons (fe_ix (fe_var 0) fe_int) fa_nil)))))
set_option maxHeartbeats 1000000 in
theorem ok_made (Tx : Txt K mg Ad0) : FnOk P w K mg base (L2.CX P w) 4 Ad0.a_made Ad0.d_made ["rows", "columns", "cells"] (SpR K mg m_made) := by
  exact fn_okX Tx.F_made sc_made 3 5 rfl rfl fun cdv A outer s H E hr =>
  (fs_cons (fs_callDrop (ok_need_size Tx) (takes_of rfl rfl rfl rfl) (hr.mono (by decide)) Tx.g_need_size Tx.F_need_size.kp Tx.b_need_size (fa_cons (fe_var 0) (fa_cons (fe_var 1) fa_nil)))
  (fs_cons (fs_callDrop (ok_need_cells Tx) (takes_of rfl rfl rfl rfl) (hr.mono (by decide)) Tx.g_need_cells Tx.F_need_cells.kp Tx.b_need_cells (fa_cons (fe_var 0) (fa_cons (fe_var 1) (fa_cons (fe_var 2) fa_nil))))
  (fs_cons (fs_set 3 sc_made.nd (fe_call (ok_counts_of Tx) (hr.mono (by decide)) Tx.g_counts_of Tx.F_counts_of.kp Tx.b_counts_of pass0 (fa_cons (fe_var 0) (fa_cons (fe_var 1) (fa_cons (fe_var 2) fa_nil)))))
  (fs_cons (fs_if (ft_gt (fe_callB ((cr_max rfl).or (call_max2 rfl)) cd_max rfl Tx.n_max PyProof.Rows.boot_max (fa_cons (fe_of (fn_comp (own := [("row", 4)]) rfl sc_made.nd (tg_1 4) (by decide) (fi_list (fe_var 3)) (blkOk_by (N := n_made) (sc := defScope s_made) (by decide +kernel)) (fun _ _ _ _ _ => (pg_name (i := 4) sc_made.nd rfl (by first | exact Or.inl rfl | exact Or.inr rfl))) (fun _ _ _ _ _ => ft_yes) (fun _ _ _ _ _ => (fe_callB ((cr_max rfl).or (call_max2 rfl)) cd_max rfl Tx.n_max PyProof.Rows.boot_max (fa_cons (fe_var 4) fa_nil))))) fa_nil)) fe_int)
  (fs_one (fs_raise rfl (takes_of rfl rfl rfl rfl) Tx.x_Shared Tx.g_Shared rfl Tx.k_Shared (raises_own Tx.s_Shared Tx.t_Shared)))
  fs_nil)
  (fs_cons (fs_if (ft_lt (fe_callB ((cr_min rfl).or (call_min2 rfl)) cd_min rfl Tx.n_min PyProof.Rows.boot_min (fa_cons (fe_of (fn_comp (own := [("row", 4)]) rfl sc_made.nd (tg_1 4) (by decide) (fi_list (fe_var 3)) (blkOk_by (N := n_made) (sc := defScope s_made) (by decide +kernel)) (fun _ _ _ _ _ => (pg_name (i := 4) sc_made.nd rfl (by first | exact Or.inl rfl | exact Or.inr rfl))) (fun _ _ _ _ _ => ft_yes) (fun _ _ _ _ _ => (fe_callB ((cr_min rfl).or (call_min2 rfl)) cd_min rfl Tx.n_min PyProof.Rows.boot_min (fa_cons (fe_var 4) fa_nil))))) fa_nil)) fe_int)
  (fs_one (fs_raise rfl (takes_of rfl rfl rfl rfl) Tx.x_Bare Tx.g_Bare rfl Tx.k_Bare (raises_own Tx.s_Bare Tx.t_Bare)))
  fs_nil)
  (fs_one (fs_retF (fn_tup (fan_cons (fe_var 0) (fan_cons (fe_var 1) (fan_one (fn_sortC hr kd_corner Tx.F_corner Tx.n_sorted Tx.g_corner (fe_var 2)))))))))))))
set_option maxHeartbeats 1000000 in
theorem ok_law_at (Tx : Txt K mg Ad0) : FnOk P w K mg base CX0 1 Ad0.a_law_at Ad0.d_law_at ["_law_script", "_law_k"] (SpR K mg m_law_at) := by
  exact fn_ok Tx.F_law_at sc_law_at 2 2 rfl rfl fun cdv A outer s H E hr =>
  (fs_cons (fs_if (ft_lt (fe_var 1) (fe_callB call_len cd_len rfl Tx.n_len PySem.boot_len (fa_cons (fe_var 0) fa_nil)))
  (fs_one (fs_ret (fe_ix (fe_var 0) (fe_var 1))))
  fs_nil)
  (fs_one (fs_ret fe_int)))
set_option maxHeartbeats 1000000 in
theorem ok_law_line (Tx : Txt K mg Ad0) : FnOk P w K mg base CX0 1 Ad0.a_law_line Ad0.d_law_line ["_law_number", "_law_size_here"] (SpR K mg m_law_line) := by
  exact fn_ok Tx.F_law_line sc_law_line 2 4 rfl rfl fun cdv A outer s H E hr =>
  (fs_cons (fs_set 2 sc_law_line.nd fe_str)
  (fs_cons (fs_set 2 sc_law_line.nd (fe_add (fe_var 2) fe_str))
  (fs_one (fs_ret (fe_m PySem.F.slot_str_rstrip PySem.F.type_str_rstrip mt_rstripChars md_rstrip g_rstrip_str (fe_m PySem.F.slot_str_join PySem.F.type_str_join mt_join md_join g_join_str fe_str (fa_cons (fe_of (fn_comp (own := [("_law_k", 3)]) rfl sc_law_line.nd (tg_1 3) (by decide) (fi_range1 Tx.n_range (fa_cons (fe_var 1) fa_nil)) (blkOk_by (N := n_law_line) (sc := defScope s_law_line) (by decide +kernel)) (fun _ _ _ _ _ => (pg_name (i := 3) sc_law_line.nd rfl (by first | exact Or.inl rfl | exact Or.inr rfl))) (fun _ _ _ _ _ => ft_yes) (fun _ _ _ _ _ => (fe_ix (fe_var 2) (fe_mod (fe_add (fe_var 0) (fe_mul (fe_var 3) (fe_add fe_int (fe_mod (fe_div (fe_var 0) fe_int) fe_int)))) fe_int))))) fa_nil)) (fa_cons fe_str fa_nil))))))
set_option maxHeartbeats 1000000 in
theorem ok_law_size (Tx : Txt K mg Ad0) : FnOk P w K mg base CX0 1 Ad0.a_law_size Ad0.d_law_size ["_law_number"] (SpR K mg m_law_size_2) := by
  exact fn_ok Tx.F_law_size sc_law_size 1 1 rfl rfl fun cdv A outer s H E hr =>
  (fs_cons (fs_if (ft_eq hr.units (fe_mod (fe_var 0) fe_int) fe_int)
  (fs_one (fs_ret (fe_add fe_int (fe_mod (fe_div (fe_var 0) fe_int) fe_int))))
  fs_nil)
  (fs_one (fs_ret (fe_add fe_int (fe_mod (fe_div (fe_var 0) fe_int) fe_int)))))
set_option maxHeartbeats 1000000 in
theorem ok_law_parts (Tx : Txt K mg Ad0) : FnOk P w K mg base CX0 1 Ad0.a_law_parts Ad0.d_law_parts ["_law_box", "_law_number"] (SpR K mg m_law_parts_2) := by
  exact fn_ok Tx.F_law_parts sc_law_parts 2 4 rfl rfl fun cdv A outer s H E hr =>
  (fs_cons (fs_set 2 sc_law_parts.nd (fe_div (fe_var 1) fe_int))
  (fs_cons (fs_if (PW.pt (fw_and (ft_eq hr.units (fe_mod (fe_var 1) fe_int) fe_int) (fw_and1 (ft_gt (fe_ix (fe_var 0) fe_int) fe_int))))
  (fs_cons (fs_set 3 sc_law_parts.nd (fe_add fe_int (fe_mod (fe_var 2) (fe_sub (fe_ix (fe_var 0) fe_int) fe_int))))
  (fs_one (fs_ret (fe_of (fn_lst (fa_cons (fe_tup (fa_cons (fe_ix (fe_var 0) fe_int) (fa_cons (fe_ix (fe_var 0) fe_int) (fa_cons (fe_var 3) (fa_cons (fe_ix (fe_var 0) fe_int) fa_nil))))) (fa_cons (fe_tup (fa_cons (fe_add (fe_ix (fe_var 0) fe_int) (fe_var 3)) (fa_cons (fe_ix (fe_var 0) fe_int) (fa_cons (fe_sub (fe_ix (fe_var 0) fe_int) (fe_var 3)) (fa_cons (fe_ix (fe_var 0) fe_int) fa_nil))))) fa_nil)))))))
  fs_nil)
  (fs_cons (fs_if (PW.pt (fw_and (ft_eq hr.units (fe_mod (fe_var 1) fe_int) fe_int) (fw_and1 (ft_gt (fe_ix (fe_var 0) fe_int) fe_int))))
  (fs_cons (fs_set 3 sc_law_parts.nd (fe_add fe_int (fe_mod (fe_var 2) (fe_sub (fe_ix (fe_var 0) fe_int) fe_int))))
  (fs_one (fs_ret (fe_of (fn_lst (fa_cons (fe_tup (fa_cons (fe_ix (fe_var 0) fe_int) (fa_cons (fe_ix (fe_var 0) fe_int) (fa_cons (fe_ix (fe_var 0) fe_int) (fa_cons (fe_var 3) fa_nil))))) (fa_cons (fe_tup (fa_cons (fe_ix (fe_var 0) fe_int) (fa_cons (fe_add (fe_ix (fe_var 0) fe_int) (fe_var 3)) (fa_cons (fe_ix (fe_var 0) fe_int) (fa_cons (fe_sub (fe_ix (fe_var 0) fe_int) (fe_var 3)) fa_nil))))) fa_nil)))))))
  fs_nil)
  (fs_one (fs_ret (fe_of (fn_lst (fa_cons (fe_var 0) fa_nil))))))))
set_option maxHeartbeats 1000000 in
theorem ok_law_cells (Tx : Txt K mg Ad0) : FnOk P w K mg base CX0 2 Ad0.a_law_cells Ad0.d_law_cells ["_law_script", "_law_rows", "_law_columns"] (SpR K mg m_law_cells_2) := by
  exact fn_ok Tx.F_law_cells sc_law_cells 3 7 rfl rfl fun cdv A outer s H E hr =>
  (fs_cons (fs_set 3 sc_law_cells.nd (fe_of (fn_lst (fa_cons (fe_tup (fa_cons fe_int (fa_cons fe_int (fa_cons (fe_var 1) (fa_cons (fe_var 2) fa_nil))))) fa_nil))))
  (fs_cons (fs_for PassesOwn.never rfl (fi_range3 Tx.n_range (fa_cons fe_int (fa_cons (fe_callB call_len cd_len rfl Tx.n_len PySem.boot_len (fa_cons (fe_var 0) fa_nil)) (fa_cons fe_int fa_nil)))) (pg_name (i := 4) sc_law_cells.nd rfl (by first | exact Or.inl rfl | exact Or.inr rfl)) (tg_1 4)
  (fs_cons (fs_set 5 sc_law_cells.nd (fe_mod (fe_ix (fe_var 0) (fe_var 4)) (fe_callB call_len cd_len rfl Tx.n_len PySem.boot_len (fa_cons (fe_var 3) fa_nil))))
  (fs_one (fs_set 3 sc_law_cells.nd (fe_of (fn_cat (fe_of (fn_cat (fe_of (fn_sl (fe_var 3) fo_none (fo_some (fe_var 5)))) (fe_call (ok_law_parts Tx) (hr.mono (by decide)) Tx.g_law_parts Tx.F_law_parts.kp Tx.b_law_parts pass0 (fa_cons (fe_ix (fe_var 3) (fe_var 5)) (fa_cons (fe_div (fe_ix (fe_var 0) (fe_var 4)) (fe_callB call_len cd_len rfl Tx.n_len PySem.boot_len (fa_cons (fe_var 3) fa_nil))) fa_nil))))) (fe_of (fn_sl (fe_var 3) (fo_some (fe_add (fe_var 5) fe_int)) fo_none))))))))
  (fs_one (fs_ret (fe_of (fn_comp (own := [("_law_k", 4), ("_law_box", 6)]) rfl sc_law_cells.nd (tg_2 4 6) (by decide) (fi_enum Tx.n_enumerate (fa_cons (fe_var 3) fa_nil)) (blkOk_by (N := n_law_cells) (sc := defScope s_law_cells) (by decide +kernel)) (fun _ _ _ _ _ => (pg_tup rfl (pgs_cons (pg_name (i := 4) sc_law_cells.nd rfl (by first | exact Or.inl rfl | exact Or.inr rfl)) (pgs_cons (pg_name (i := 6) sc_law_cells.nd rfl (by first | exact Or.inl rfl | exact Or.inr rfl)) pgs_nil)))) (fun _ _ _ _ _ => ft_yes) (fun _ _ _ _ _ => (fe_add (fe_var 6) (fe_tup (fa_cons (fe_call (ok_law_line Tx) (hr.mono (by decide)) Tx.g_law_line Tx.F_law_line.kp Tx.b_law_line pass0 (fa_cons (fe_div (fe_call (ok_law_at Tx) (hr.mono (by decide)) Tx.g_law_at Tx.F_law_at.kp Tx.b_law_at pass0 (fa_cons (fe_var 0) (fa_cons (fe_add fe_int (fe_mul fe_int (fe_var 4))) fa_nil))) fe_int) (fa_cons (fe_mod (fe_var 4) fe_int) fa_nil))) fa_nil))))))))))
set_option maxHeartbeats 1000000 in
theorem ok_law_bad_cell (Tx : Txt K mg Ad0) : FnOk P w K mg base CX0 1 Ad0.a_law_bad_cell Ad0.d_law_bad_cell ["_law_cell", "_law_number"] (SpR K mg m_law_bad_cell) := by
  exact fn_ok Tx.F_law_bad_cell sc_law_bad_cell 2 7 rfl rfl fun cdv A outer s H E hr =>
  (fs_cons (fs_set 2 sc_law_bad_cell.nd (fe_div (fe_var 1) fe_int))
  (fs_cons (fs_if (ft_lt (fe_mod (fe_var 1) fe_int) fe_int)
  (fs_cons (fs_set 3 sc_law_bad_cell.nd (fe_mod (fe_var 1) fe_int))
  (fs_cons (fs_set 4 sc_law_bad_cell.nd (fe_ix (fe_lst (fa_cons (fe_neg fe_int) (fa_cons (fe_neg fe_int) (fa_cons fe_int (fa_cons fe_int fa_nil))))) (fe_var 3)))
  (fs_cons (fs_set 5 sc_law_bad_cell.nd (fe_ix (fe_lst (fa_cons fe_str (fa_cons fe_non (fa_cons fe_bl (fa_cons fe_bl fa_nil))))) (fe_mod (fe_div (fe_var 2) fe_int) fe_int)))
  (fs_cons (fs_set 6 sc_law_bad_cell.nd (fe_ix (fe_lst (fa_cons (fe_var 4) (fa_cons (fe_add fe_int (fe_mod (fe_div (fe_callB call_abs cd_abs rfl Tx.n_abs (by decide +kernel) (fa_cons (fe_var 2) fa_nil)) fe_int) (fe_pow fe_int fe_int))) (fa_cons (fe_var 4) (fa_cons (fe_var 5) (fa_cons fe_int (fa_cons (fe_sub (fe_var 4) (fe_mod (fe_div (fe_var 2) fe_int) fe_int)) fa_nil))))))) (fe_mod (fe_var 2) fe_int)))
  (fs_one (fs_ret (fe_add (fe_add (fe_sl (fe_var 0) fo_none (fo_some (fe_var 3))) (fe_tup (fa_cons (fe_var 6) fa_nil))) (fe_sl (fe_var 0) (fo_some (fe_add (fe_var 3) fe_int)) fo_none))))))))
  fs_nil)
  (fs_one (fs_ret (fe_ix (fe_lst (fa_cons (fe_callTy call_list_of cd_listA rfl Tx.n_list PyProof.Rows.boot_list (fa_cons (fe_var 0) fa_nil)) (fa_cons (fe_sl (fe_var 0) fo_none (fo_some fe_int)) (fa_cons (fe_add (fe_var 0) (fe_tup (fa_cons fe_int fa_nil))) (fa_cons fe_str (fa_cons fe_non (fa_cons (fe_tup fa_nil) fa_nil))))))) (fe_mod (fe_var 2) fe_int))))))
set_option maxHeartbeats 1000000 in
theorem ok_law_bad_text (Tx : Txt K mg Ad0) : FnOk P w K mg base CX0 1 Ad0.a_law_bad_text Ad0.d_law_bad_text ["_law_cell", "_law_number"] (SpR K mg m_law_bad_text) := by
  exact fn_ok Tx.F_law_bad_text sc_law_bad_text 2 3 rfl rfl fun cdv A outer s H E hr =>
  (fs_cons (fs_set 2 sc_law_bad_text.nd (fe_lst (fa_cons (fe_mod (fe_var 1) (fe_pow fe_int fe_int)) (fa_cons fe_non (fa_cons (fe_add (fe_ix (fe_var 0) fe_int) fe_str) (fa_cons (fe_add fe_str (fe_ix (fe_var 0) fe_int)) (fa_cons (fe_add (fe_ix (fe_var 0) fe_int) fe_str) (fa_cons fe_str (fa_cons (fe_add (fe_ix (fe_var 0) fe_int) fe_str) fa_nil)))))))))
  (fs_cons (fs_set 2 sc_law_bad_text.nd (fe_catA (fe_var 2) (fe_lst (fa_cons (fe_repS fe_str (fe_add fe_int (fe_mod (fe_div (fe_var 1) fe_int) fe_int))) (fa_cons (fe_lst (fa_cons (fe_ix (fe_var 0) fe_int) fa_nil)) fa_nil)))))
  (fs_one (fs_ret (fe_add (fe_sl (fe_var 0) fo_none (fo_some fe_int)) (fe_tup (fa_cons (fe_ix (fe_var 2) (fe_mod (fe_var 1) fe_int)) fa_nil)))))))
set_option maxHeartbeats 1000000 in
theorem ok_law_outcome (Tx : Txt K mg Ad0) : FnOk P w K mg base CX0 5 Ad0.a_law_outcome Ad0.d_law_outcome ["_law_rows", "_law_columns", "_law_cells_here"] (SpR K mg m_law_outcome) := by
  exact fn_ok Tx.F_law_outcome sc_law_outcome 3 5 rfl rfl fun cdv A outer s H E hr =>
  (fs_cons (fs_set 3 sc_law_outcome.nd fe_str)
  (fs_cons (fs_tryAs (cs := ["BadSize", "BadCell", "BadText", "Shared", "Bare"]) 4 rfl rfl sc_law_outcome.nd takes0 ⟨rfl, by decide, Or.inl Tx.g_TableError⟩ (fun W pn xe tk _ => (fs_one (fs_callDrop (ok_made Tx) tk (hr.mono (by decide)) Tx.g_made Tx.F_made.kp Tx.b_made (fa_cons (fe_var 0) (fa_cons (fe_var 1) (fa_cons (fe_var 2) fa_nil)))))) (cls_all Tx.cl ["BadSize", "BadCell", "BadText", "Shared", "Bare"] Tx.g_TableError (by decide) (by decide)) fun c hcl A hA a oe pn hz hf => have hc : c ∈ (["BadSize", "BadCell", "BadText", "Shared", "Bare"] : List Str) := incl_of (by decide) hcl
  (fs_cons (fs_set 3 sc_law_outcome.nd (fe_ix (fe_of (fn_lst (fa_cons fe_str (fa_cons fe_str fa_nil)))) (fe_callTy call_int1 cd_int rfl Tx.n_int PyProof.Rows.boot_int (fa_cons (fe_not (fe_isV 4 (Tx.cl c hc) hA hz hf Tx.n_isinstance Tx.n_ValueError)) fa_nil))))
  (fs_cons (fs_if (ft_val (fe_isC 4 (Tx.cl c hc) hA hz hf Tx.n_isinstance Tx.g_BadSize))
  (fs_one (fs_set 3 sc_law_outcome.nd (fe_add (fe_var 3) fe_str)))
  fs_nil)
  (fs_cons (fs_if (ft_val (fe_isC 4 (Tx.cl c hc) hA hz hf Tx.n_isinstance Tx.g_BadCell))
  (fs_one (fs_set 3 sc_law_outcome.nd (fe_add (fe_var 3) fe_str)))
  fs_nil)
  (fs_cons (fs_if (ft_val (fe_isC 4 (Tx.cl c hc) hA hz hf Tx.n_isinstance Tx.g_BadText))
  (fs_one (fs_set 3 sc_law_outcome.nd (fe_add (fe_var 3) fe_str)))
  fs_nil)
  (fs_cons (fs_if (ft_val (fe_isC 4 (Tx.cl c hc) hA hz hf Tx.n_isinstance Tx.g_Shared))
  (fs_one (fs_set 3 sc_law_outcome.nd (fe_add (fe_var 3) fe_str)))
  fs_nil)
  (fs_cons (fs_if (ft_val (fe_isC 4 (Tx.cl c hc) hA hz hf Tx.n_isinstance Tx.g_Bare))
  (fs_one (fs_set 3 sc_law_outcome.nd (fe_add (fe_var 3) fe_str)))
  fs_nil)
  (fs_one (fs_if (PW.pt (fw_or (ft_val (fe_isC 4 (Tx.cl c hc) hA hz hf Tx.n_isinstance Tx.g_NoSquare)) (fw_or (ft_val (fe_isC 4 (Tx.cl c hc) hA hz hf Tx.n_isinstance Tx.g_Cut)) (fw_or1 (ft_val (fe_isC 4 (Tx.cl c hc) hA hz hf Tx.n_isinstance Tx.g_NoDrawing))))))
  (fs_one (fs_set 3 sc_law_outcome.nd (fe_add (fe_var 3) fe_str)))
  fs_nil)))))))))
  (fs_one (fs_ret (fe_var 3)))))
set_option maxHeartbeats 1000000 in
theorem ok_law_spoilt (Tx : Txt K mg Ad0) : FnOk P w K mg base CX0 2 Ad0.a_law_spoilt Ad0.d_law_spoilt ["_law_cells_here", "_law_way", "_law_number"] (SpR K mg m_law_spoilt) := by
  exact fn_ok Tx.F_law_spoilt sc_law_spoilt 3 10 rfl rfl fun cdv A outer s H E hr =>
  (fs_cons (fs_set 3 sc_law_spoilt.nd (fe_mod (fe_var 2) (fe_callB call_len cd_len rfl Tx.n_len PySem.boot_len (fa_cons (fe_var 0) fa_nil))))
  (fs_cons (fs_set 4 sc_law_spoilt.nd (fe_mod (fe_div (fe_var 2) (fe_callB call_len cd_len rfl Tx.n_len PySem.boot_len (fa_cons (fe_var 0) fa_nil))) (fe_callB call_len cd_len rfl Tx.n_len PySem.boot_len (fa_cons (fe_var 0) fa_nil))))
  (fs_cons (fs_set 5 sc_law_spoilt.nd (fe_div (fe_div (fe_var 2) (fe_callB call_len cd_len rfl Tx.n_len PySem.boot_len (fa_cons (fe_var 0) fa_nil))) (fe_callB call_len cd_len rfl Tx.n_len PySem.boot_len (fa_cons (fe_var 0) fa_nil))))
  (fs_cons (fs_if (ft_eq hr.units (fe_var 1) fe_int)
  (fs_cons (fs_set 6 sc_law_spoilt.nd (fe_ix (fe_var 0) (fe_var 3)))
  (fs_cons (fs_if (ft_eq hr.units (fe_mod (fe_var 2) fe_int) fe_int)
  (fs_one (fs_set 6 sc_law_spoilt.nd (fe_call (ok_law_bad_text Tx) (hr.mono (by decide)) Tx.g_law_bad_text Tx.F_law_bad_text.kp Tx.b_law_bad_text pass0 (fa_cons (fe_var 6) (fa_cons (fe_div (fe_var 5) fe_int) fa_nil)))))
  fs_nil)
  (fs_one (fs_ret (fe_tup (fa_cons (fe_catA (fe_catA (fe_slA (fe_var 0) fo_none (fo_some (fe_var 3))) (fe_lst (fa_cons (fe_call (ok_law_bad_cell Tx) (hr.mono (by decide)) Tx.g_law_bad_cell Tx.F_law_bad_cell.kp Tx.b_law_bad_cell pass0 (fa_cons (fe_var 6) (fa_cons (fe_var 5) fa_nil))) fa_nil))) (fe_slA (fe_var 0) (fo_some (fe_add (fe_var 3) fe_int)) fo_none)) (fa_cons fe_str fa_nil)))))))
  fs_nil)
  (fs_cons (fs_if (ft_eq hr.units (fe_var 1) fe_int)
  (fs_one (fs_ret (fe_tup (fa_cons (fe_catA (fe_catA (fe_slA (fe_var 0) fo_none (fo_some (fe_var 3))) (fe_lst (fa_cons (fe_call (ok_law_bad_text Tx) (hr.mono (by decide)) Tx.g_law_bad_text Tx.F_law_bad_text.kp Tx.b_law_bad_text pass0 (fa_cons (fe_ix (fe_var 0) (fe_var 3)) (fa_cons (fe_var 5) fa_nil))) fa_nil))) (fe_slA (fe_var 0) (fo_some (fe_add (fe_var 3) fe_int)) fo_none)) (fa_cons fe_str fa_nil)))))
  fs_nil)
  (fs_cons (fs_if (ft_eq hr.units (fe_var 1) fe_int)
  (fs_one (fs_ret (fe_tup (fa_cons (fe_catA (fe_catA (fe_slA (fe_var 0) fo_none (fo_some (fe_var 4))) (fe_lst (fa_cons (fe_ix (fe_var 0) (fe_var 3)) fa_nil))) (fe_slA (fe_var 0) (fo_some (fe_var 4)) fo_none)) (fa_cons fe_str fa_nil)))))
  fs_nil)
  (fs_cons (fs_if (ft_eq hr.units (fe_var 1) fe_int)
  (fs_one (fs_ret (fe_tup (fa_cons (fe_catA (fe_slA (fe_var 0) fo_none (fo_some (fe_var 3))) (fe_slA (fe_var 0) (fo_some (fe_add (fe_var 3) fe_int)) fo_none)) (fa_cons fe_str fa_nil)))))
  fs_nil)
  (fs_cons (fs_if (PW.pt (fw_and (ft_eq hr.units (fe_var 1) fe_int) (fw_and1 (ft_ne hr.units (fe_var 3) (fe_var 4)))))
  (fs_one (fs_ret (fe_tup (fa_cons (fe_catA (fe_catA (fe_slA (fe_var 0) fo_none (fo_some (fe_var 4))) (fe_lst (fa_cons (fe_ix (fe_var 0) (fe_var 3)) fa_nil))) (fe_slA (fe_var 0) (fo_some (fe_add (fe_var 4) fe_int)) fo_none)) (fa_cons fe_str fa_nil)))))
  fs_nil)
  (fs_cons (fs_if (PW.pt (fw_and (ft_eq hr.units (fe_var 1) fe_int) (fw_and1 (ft_ne hr.units (fe_var 3) (fe_var 4)))))
  (fs_cons (fs_set 7 sc_law_spoilt.nd (fe_callB ((cr_min rfl).or (call_min2 rfl)) cd_min rfl Tx.n_min PyProof.Rows.boot_min (fa_cons (fe_var 3) (fa_cons (fe_var 4) fa_nil))))
  (fs_cons (fs_set 8 sc_law_spoilt.nd (fe_catA (fe_catA (fe_slA (fe_var 0) fo_none (fo_some (fe_var 3))) (fe_lst (fa_cons (fe_call (ok_law_bad_text Tx) (hr.mono (by decide)) Tx.g_law_bad_text Tx.F_law_bad_text.kp Tx.b_law_bad_text pass0 (fa_cons (fe_ix (fe_var 0) (fe_var 3)) (fa_cons (fe_var 5) fa_nil))) fa_nil))) (fe_slA (fe_var 0) (fo_some (fe_add (fe_var 3) fe_int)) fo_none)))
  (fs_cons (fs_set 8 sc_law_spoilt.nd (fe_catA (fe_catA (fe_slA (fe_var 8) fo_none (fo_some (fe_var 4))) (fe_lst (fa_cons (fe_call (ok_law_bad_cell Tx) (hr.mono (by decide)) Tx.g_law_bad_cell Tx.F_law_bad_cell.kp Tx.b_law_bad_cell pass0 (fa_cons (fe_ix (fe_var 0) (fe_var 4)) (fa_cons (fe_div (fe_var 5) fe_int) fa_nil))) fa_nil))) (fe_slA (fe_var 8) (fo_some (fe_add (fe_var 4) fe_int)) fo_none)))
  (fs_one (fs_ret (fe_tup (fa_cons (fe_var 8) (fa_cons (fe_ix (fe_lst (fa_cons fe_str (fa_cons fe_str fa_nil))) (fe_callTy call_int1 cd_int rfl Tx.n_int PyProof.Rows.boot_int (fa_cons (fe_eq hr.units (fe_var 7) (fe_var 4)) fa_nil))) fa_nil))))))))
  fs_nil)
  (fs_cons (fs_if (ft_eq hr.units (fe_var 1) fe_int)
  (fs_cons (fs_set 9 sc_law_spoilt.nd (fe_ix (fe_lst (fa_cons (fe_call (ok_law_bad_text Tx) (hr.mono (by decide)) Tx.g_law_bad_text Tx.F_law_bad_text.kp Tx.b_law_bad_text pass0 (fa_cons (fe_ix (fe_var 0) (fe_var 3)) (fa_cons (fe_div (fe_var 5) fe_int) fa_nil))) (fa_cons (fe_call (ok_law_bad_cell Tx) (hr.mono (by decide)) Tx.g_law_bad_cell Tx.F_law_bad_cell.kp Tx.b_law_bad_cell pass0 (fa_cons (fe_ix (fe_var 0) (fe_var 3)) (fa_cons (fe_div (fe_var 5) fe_int) fa_nil))) fa_nil))) (fe_mod (fe_var 5) fe_int)))
  (fs_cons (fs_set 8 sc_law_spoilt.nd (fe_catA (fe_catA (fe_slA (fe_var 0) fo_none (fo_some (fe_var 3))) (fe_lst (fa_cons (fe_var 9) fa_nil))) (fe_slA (fe_var 0) (fo_some (fe_add (fe_var 3) fe_int)) fo_none)))
  (fs_cons (fs_if (ft_eq hr.units (fe_mod (fe_div (fe_var 5) fe_int) fe_int) fe_int)
  (fs_one (fs_ret (fe_tup (fa_cons (fe_catA (fe_var 8) (fe_lst (fa_cons (fe_ix (fe_var 0) (fe_var 4)) fa_nil))) (fa_cons (fe_ix (fe_lst (fa_cons fe_str (fa_cons fe_str fa_nil))) (fe_mod (fe_var 5) fe_int)) fa_nil)))))
  fs_nil)
  (fs_one (fs_ret (fe_tup (fa_cons (fe_catA (fe_lst (fa_cons (fe_ix (fe_var 0) (fe_var 4)) fa_nil)) (fe_var 8)) (fa_cons (fe_ix (fe_lst (fa_cons fe_str (fa_cons fe_str fa_nil))) (fe_mod (fe_var 5) fe_int)) fa_nil))))))))
  fs_nil)
  (fs_one (fs_ret (fe_tup (fa_cons (fe_catA (fe_catA (fe_slA (fe_var 0) fo_none (fo_some (fe_var 3))) (fe_lst (fa_cons (fe_call (ok_law_bad_cell Tx) (hr.mono (by decide)) Tx.g_law_bad_cell Tx.F_law_bad_cell.kp Tx.b_law_bad_cell pass0 (fa_cons (fe_ix (fe_var 0) (fe_var 3)) (fa_cons (fe_var 5) fa_nil))) fa_nil))) (fe_slA (fe_var 0) (fo_some (fe_add (fe_var 3) fe_int)) fo_none)) (fa_cons fe_str fa_nil)))))))))))))))
set_option maxHeartbeats 1000000 in
theorem ok_law_moved (Tx : Txt K mg Ad0) : FnOk P w K mg base CX0 1 Ad0.a_law_moved Ad0.d_law_moved ["_law_cells_here", "_law_rows", "_law_columns", "_law_number"] (SpR K mg m_law_moved) := by
  exact fn_ok Tx.F_law_moved sc_law_moved 4 12 rfl rfl fun cdv A outer s H E hr =>
  (fs_cons (fs_set 4 sc_law_moved.nd (fe_mod (fe_var 3) (fe_callB call_len cd_len rfl Tx.n_len PySem.boot_len (fa_cons (fe_var 0) fa_nil))))
  (fs_cons (fs_set 5 sc_law_moved.nd (fe_div (fe_var 3) (fe_callB call_len cd_len rfl Tx.n_len PySem.boot_len (fa_cons (fe_var 0) fa_nil))))
  (fs_cons (fs_setOw 6 sc_law_moved.nd (fn_callTy call_list_of cn_list rfl Tx.n_list PyProof.Rows.boot_list (fa_cons (fe_ix (fe_var 0) (fe_var 4)) fa_nil)))
  (fs_cons (fs_put 6 (fe_mod (fe_var 5) fe_int) (fe_add (fe_ixL (fl_ow 6) (fe_mod (fe_var 5) fe_int)) (fe_ix (fe_of (fn_lst (fa_cons fe_int (fa_cons (fe_neg fe_int) fa_nil)))) (fe_mod (fe_div (fe_var 5) fe_int) fe_int))))
  (fs_cons (fs_set 7 sc_law_moved.nd (fe_of (fn_cat (fe_of (fn_cat (fe_of (fn_sl (fe_var 0) fo_none (fo_some (fe_var 4)))) (fe_of (fn_lst (fa_cons (fe_tup (fa_cons (fe_ixL (fl_ow 6) fe_int) (fa_cons (fe_ixL (fl_ow 6) fe_int) (fa_cons (fe_ixL (fl_ow 6) fe_int) (fa_cons (fe_ixL (fl_ow 6) fe_int) (fa_cons (fe_ixL (fl_ow 6) fe_int) fa_nil)))))) fa_nil))))) (fe_of (fn_sl (fe_var 0) (fo_some (fe_add (fe_var 4) fe_int)) fo_none)))))
  (fs_cons (fs_if (PW.pt (fw_or (ft_lt (fe_callB ((cr_min rfl).or (call_min2 rfl)) cd_min rfl Tx.n_min PyProof.Rows.boot_min (fa_cons (fe_ixL (fl_ow 6) fe_int) (fa_cons (fe_ixL (fl_ow 6) fe_int) fa_nil))) fe_int) (fw_or (ft_lt (fe_callB ((cr_min rfl).or (call_min2 rfl)) cd_min rfl Tx.n_min PyProof.Rows.boot_min (fa_cons (fe_ixL (fl_ow 6) fe_int) (fa_cons (fe_ixL (fl_ow 6) fe_int) fa_nil))) fe_int) (fw_or (ft_gt (fe_add (fe_ixL (fl_ow 6) fe_int) (fe_ixL (fl_ow 6) fe_int)) (fe_var 1)) (fw_or1 (ft_gt (fe_add (fe_ixL (fl_ow 6) fe_int) (fe_ixL (fl_ow 6) fe_int)) (fe_var 2)))))))
  (fs_one (fs_ret (fe_tup (fa_cons (fe_var 7) (fa_cons fe_str fa_nil)))))
  fs_nil)
  (fs_cons (fs_setDk 8 sc_law_moved.nd)
  (fs_cons (fs_for PassesOwn.never rfl (fi_list (fe_var 7)) (pg_name (i := 9) sc_law_moved.nd rfl (by first | exact Or.inl rfl | exact Or.inr rfl)) (tg_1 9)
  (fs_one (fs_for PassesOwn.never rfl (fi_range1 Tx.n_range (fa_cons (fe_mul (fe_ix (fe_var 9) fe_int) (fe_ix (fe_var 9) fe_int)) fa_nil)) (pg_name (i := 10) sc_law_moved.nd rfl (by first | exact Or.inl rfl | exact Or.inr rfl)) (tg_1 10)
  (fs_cons (fs_set 11 sc_law_moved.nd (fe_tup (fa_cons (fe_add (fe_ix (fe_var 9) fe_int) (fe_div (fe_var 10) (fe_ix (fe_var 9) fe_int))) (fa_cons (fe_add (fe_ix (fe_var 9) fe_int) (fe_mod (fe_var 10) (fe_ix (fe_var 9) fe_int))) fa_nil))))
  (fs_cons (fs_if (ft_inD hr.units 8 (fe_var 11))
  (fs_one (fs_ret (fe_tup (fa_cons (fe_var 7) (fa_cons fe_str fa_nil)))))
  fs_nil)
  (fs_one (fs_putD hr.units 8 (fe_var 11) fe_bl)))))))
  (fs_one (fs_ret (fe_tup (fa_cons (fe_var 7) (fa_cons (fe_ix (fe_of (fn_lst (fa_cons fe_str (fa_cons fe_str fa_nil)))) (fe_callTy call_int1 cd_int rfl Tx.n_int PyProof.Rows.boot_int (fa_cons (fe_lt (fe_lenD Tx.n_len 8) (fe_mul (fe_var 1) (fe_var 2))) fa_nil))) fa_nil)))))))))))))
set_option maxHeartbeats 1000000 in
theorem ok_law (Tx : Txt K mg Ad0) : FnOk P w K mg base CX0 6 Ad0.a_law Ad0.d_law ["_law_script"] (SpR K mg m_law_K04) := by
  exact fn_ok Tx.F_law sc_law 1 9 rfl rfl fun cdv A outer s H E hr =>
  (fs_cons (fs_set 1 sc_law.nd (fe_call (ok_law_size Tx) (hr.mono (by decide)) Tx.g_law_size Tx.F_law_size.kp Tx.b_law_size pass0 (fa_cons (fe_call (ok_law_at Tx) (hr.mono (by decide)) Tx.g_law_at Tx.F_law_at.kp Tx.b_law_at pass0 (fa_cons (fe_var 0) (fa_cons fe_int fa_nil))) fa_nil)))
  (fs_cons (fs_set 2 sc_law.nd (fe_call (ok_law_size Tx) (hr.mono (by decide)) Tx.g_law_size Tx.F_law_size.kp Tx.b_law_size pass0 (fa_cons (fe_call (ok_law_at Tx) (hr.mono (by decide)) Tx.g_law_at Tx.F_law_at.kp Tx.b_law_at pass0 (fa_cons (fe_var 0) (fa_cons fe_int fa_nil))) fa_nil)))
  (fs_cons (fs_set 3 sc_law.nd (fe_call (ok_law_cells Tx) (hr.mono (by decide)) Tx.g_law_cells Tx.F_law_cells.kp Tx.b_law_cells pass0 (fa_cons (fe_var 0) (fa_cons (fe_var 1) (fa_cons (fe_var 2) fa_nil)))))
  (fs_cons (fs_set 4 sc_law.nd (fe_mod (fe_call (ok_law_at Tx) (hr.mono (by decide)) Tx.g_law_at Tx.F_law_at.kp Tx.b_law_at pass0 (fa_cons (fe_var 0) (fa_cons fe_int fa_nil))) fe_int))
  (fs_cons (fs_set 5 sc_law.nd (fe_ix (fe_lst (fa_cons fe_int (fa_cons fe_int (fa_cons (fe_neg fe_int) (fa_cons fe_bl (fa_cons fe_str (fa_cons fe_non (fa_cons fe_int (fa_cons (fe_neg fe_int) (fa_cons fe_bl fa_nil)))))))))) (fe_mod (fe_call (ok_law_at Tx) (hr.mono (by decide)) Tx.g_law_at Tx.F_law_at.kp Tx.b_law_at pass0 (fa_cons (fe_var 0) (fa_cons fe_int fa_nil))) fe_int)))
  (fs_cons (fs_set 6 sc_law.nd fe_str)
  (fs_cons (fs_if (ft_eq hr.units (fe_var 4) fe_int)
  (fs_one (fs_set 1 sc_law.nd (fe_var 5)))
  (fs_one (fs_if (ft_eq hr.units (fe_var 4) fe_int)
  (fs_one (fs_set 2 sc_law.nd (fe_var 5)))
  (fs_one (fs_if (ft_gt (fe_var 4) fe_int)
  (fs_cons (fs_set 7 sc_law.nd (fe_call (ok_law_moved Tx) (hr.mono (by decide)) Tx.g_law_moved Tx.F_law_moved.kp Tx.b_law_moved pass0 (fa_cons (fe_var 3) (fa_cons (fe_var 1) (fa_cons (fe_var 2) (fa_cons (fe_call (ok_law_at Tx) (hr.mono (by decide)) Tx.g_law_at Tx.F_law_at.kp Tx.b_law_at pass0 (fa_cons (fe_var 0) (fa_cons fe_int fa_nil))) fa_nil))))))
  (fs_cons (fs_set 3 sc_law.nd (fe_ix (fe_var 7) fe_int))
  (fs_one (fs_set 6 sc_law.nd (fe_ix (fe_var 7) fe_int)))))
  (fs_cons (fs_set 7 sc_law.nd (fe_call (ok_law_spoilt Tx) (hr.mono (by decide)) Tx.g_law_spoilt Tx.F_law_spoilt.kp Tx.b_law_spoilt pass0 (fa_cons (fe_var 3) (fa_cons (fe_var 4) (fa_cons (fe_call (ok_law_at Tx) (hr.mono (by decide)) Tx.g_law_at Tx.F_law_at.kp Tx.b_law_at pass0 (fa_cons (fe_var 0) (fa_cons fe_int fa_nil))) fa_nil)))))
  (fs_cons (fs_set 3 sc_law.nd (fe_ix (fe_var 7) fe_int))
  (fs_one (fs_set 6 sc_law.nd (fe_ix (fe_var 7) fe_int))))))))))
  (fs_cons (fs_if (ft_eq hr.units (fe_var 4) fe_int)
  (fs_cons (fs_set 1 sc_law.nd (fe_var 5))
  (fs_one (fs_set 6 sc_law.nd fe_str)))
  fs_nil)
  (fs_cons (fs_set 8 sc_law.nd (fe_callTy call_list_of cd_listA rfl Tx.n_list PyProof.Rows.boot_list (fa_cons (fe_var 3) fa_nil)))
  (fs_one (fs_ret (fe_and (fe_eq hr.units (fe_call (ok_law_outcome Tx) (hr.mono (by decide)) Tx.g_law_outcome Tx.F_law_outcome.kp Tx.b_law_outcome pass0 (fa_cons (fe_var 1) (fa_cons (fe_var 2) (fa_cons (fe_var 3) fa_nil)))) (fe_var 6)) (fe_one (fe_eq hr.units (fe_var 3) (fe_var 8)))))))))))))))
end
end K04

namespace K04
open PySem PySem.Spec L2 Fx Bx Mx
open PyProof.Rows hiding St
/-! ### sizes, parts, cells -/
def szG (n : Int) : Int := if n % 9 = 1 then 1 + n / 9 % 20 else 1 + n / 9 % 5
theorem szG_eq (n : Int) : m_law_size_2 [.int n] = some (.ok (.int (szG n))) := by
  unfold m_law_size_2 szG
  refine (runP_ev rfl).trans ?_
  unfold body_law_size_2
  by_cases h : n % 9 = 1 <;> simp [h]
theorem szG_ok (n : Int) : 1 ≤ szG n ∧ szG n ≤ 20 := by
  unfold szG
  have h1 := mod_ok (n / 9) 20 (by decide)
  have h2 := mod_ok (n / 9) 5 (by decide)
  split <;> omega
def partsG (b : Box) (n : Int) : List Box :=
  let (r, c, h, w) := b
  if n % 2 = 0 ∧ 1 < h then [(r, c, 1 + n / 2 % (h - 1), w), (r + (1 + n / 2 % (h - 1)), c, h - (1 + n / 2 % (h - 1)), w)]
  else if n % 2 = 1 ∧ 1 < w then [(r, c, h, 1 + n / 2 % (w - 1)), (r, c + (1 + n / 2 % (w - 1)), h, w - (1 + n / 2 % (w - 1)))]
  else [(r, c, h, w)]
theorem partsG_eq (b : Box) (n : Int) : m_law_parts_2 [boxT b, .int n] = some (.ok (.lst ((partsG b n).map boxT))) := by
  obtain ⟨r, c, h, w⟩ := b
  unfold m_law_parts_2 partsG boxT
  refine (runP_ev rfl).trans ?_
  unfold body_law_parts_2
  dsimp only
  have e0 : 0 ≤ n % 2 := Int.emod_nonneg _ (by decide)
  have e4 : n % 2 < 2 := Int.emod_lt_of_pos _ (by decide)
  by_cases h1 : 1 < h <;> by_cases w1 : 1 < w <;>
    rcases (show n % 2 = 0 ∨ n % 2 = 1 by omega) with e | e <;>
    first | omega | (simp [e, h1, w1, show 0 < h - 1 ↔ 1 < h by omega, show 0 < w - 1 ↔ 1 < w by omega]; done)
theorem partsG_ok : PartsOk partsG where
  ok := by
    rintro R C ⟨r, c, h, w⟩ n ⟨h1, h2, h3, h4, h5, h6⟩ p hp
    dsimp only at h1 h2 h3 h4 h5 h6
    unfold partsG at hp
    dsimp only at hp
    split at hp
    · rename_i q
      have q1 := mod_ok (n / 2) (h - 1) (by omega)
      simp only [List.mem_cons, List.not_mem_nil, or_false] at hp
      rcases hp with rfl | rfl <;> constructor <;> dsimp only <;> omega
    · split at hp
      · rename_i q
        have q1 := mod_ok (n / 2) (w - 1) (by omega)
        simp only [List.mem_cons, List.not_mem_nil, or_false] at hp
        rcases hp with rfl | rfl <;> constructor <;> dsimp only <;> omega
      · rw [List.mem_singleton.mp hp]
        exact ⟨h1, h2, h3, h4, h5, h6⟩
  one := by
    rintro R C ⟨r, c, h, w⟩ n i j ⟨h1, h2, h3, h4, h5, h6⟩
    dsimp only at h1 h2 h3 h4 h5 h6
    unfold partsG
    dsimp only
    split
    · rename_i q
      have q1 := mod_ok (n / 2) (h - 1) (by omega)
      rw [countP_2]
      simp only [ite_has]
      generalize n / 2 % (h - 1) = m at q1
      by_cases c1 : r ≤ i ∧ i < r + h ∧ c ≤ j ∧ j < c + w
      · by_cases c2 : i < r + (1 + m)
        · rw [if_pos c1, if_pos (by omega), if_neg (by omega)]
        · rw [if_pos c1, if_neg (by omega), if_pos (by omega)]
      · rw [if_neg c1, if_neg (by omega), if_neg (by omega)]
    · split
      · rename_i q
        have q1 := mod_ok (n / 2) (w - 1) (by omega)
        rw [countP_2]
        simp only [ite_has]
        generalize n / 2 % (w - 1) = m at q1
        by_cases c1 : r ≤ i ∧ i < r + h ∧ c ≤ j ∧ j < c + w
        · by_cases c2 : j < c + (1 + m)
          · rw [if_pos c1, if_pos (by omega), if_neg (by omega)]
          · rw [if_pos c1, if_neg (by omega), if_pos (by omega)]
        · rw [if_neg c1, if_neg (by omega), if_neg (by omega)]
      · rw [List.countP_cons, List.countP_nil, Nat.zero_add]
  ne := by
    rintro ⟨r, c, h, w⟩ n
    unfold partsG
    dsimp only
    repeat' split
    all_goals simp
/-- a law's cell: of one line -/
structure Cells4 (R C : Int) (cs : List Cell) : Prop where
  ok : CellsOk R C cs
  one : ∀ c ∈ cs, ∃ l : List Nat, c.2 = [l] ∧ (∀ x ∈ l, okC x) ∧ l.length ≤ 6
theorem cells_eq {ns : List Int} {R C : Int} (hl : ns.length ≤ 63) (hR : 1 ≤ R) (hC : 1 ≤ C) : ∃ cs : List Cell, m_law_cells_2 [.scr ns, .int R, .int C] = some (.ok (.lst (cs.map cellT))) ∧ Cells4 R C cs := by
  obtain ⟨ht, hne, hlen⟩ := boxesOf_ok partsG_ok hR hC (nums 5 ns)
  have hn : (nums 5 ns).length ≤ 31 := by unfold nums; rw [List.length_map, List.length_range]; omega
  let tx : Nat → Ls := fun k => [lineF (ns.getD (6 + 2 * k) 0 / 7) ((k : Int) % 7).toNat]
  let cs : List Cell := (boxesOf partsG R C (nums 5 ns)).zipIdx.map fun p => (p.1, tx p.2)
  have hcl : cs.length = (boxesOf partsG R C (nums 5 ns)).length := by show (List.map _ _).length = _; rw [List.length_map, List.length_zipIdx]
  have h6 : ∀ k : Nat, ((k : Int) % 7).toNat ≤ 6 := fun k => by have := mod_ok (k : Int) 7 (by decide); omega
  have ok : CellsOk R C cs := ⟨by rw [show cs.map Prod.fst = _ from zip_fst (tx := tx)]; exact ht, fun c hc => by
    obtain ⟨p, _, rfl⟩ := List.mem_map.mp hc
    refine good_one (lineF_ok _ _) ?_
    have h1 := lineF_len (ns.getD (6 + 2 * p.2) 0 / 7) (((p.2 : Nat) : Int) % 7).toNat
    have h2 := h6 p.2
    omega, by omega, fun e => hne (List.length_eq_zero_iff.mp (by rw [← hcl, e]; rfl))⟩
  refine ⟨cs, runP_rt rfl ?_, ok, fun c hc => ?_⟩
  · show body_law_cells_2 [.sh (.scr ns), .sh (.int R), .sh (.int C), .un, .un, .un, .un] = _
    unfold body_law_cells_2
    refine (fSeq_nx (fSet_eq (t := .lst ([(0, 0, R, C)].map boxT)) rfl)).trans ?_
    have hd := fRng3_eq (s := 5) (ns := ns) (fs := fCons (fK (.int 5)) (fCons (fC gLen (fCons (fVar 0) fNil)) (fCons (fK (.int 2)) fNil))) (ev := [.sh (.scr ns), .sh (.int R), .sh (.int C), .sh (.lst ([(0, 0, R, C)].map boxT)), .un, .un, .un]) (by decide) hl rfl
    obtain ⟨s4, s5, hloop⟩ := boxes_loop (fun k : Nat => T.int (((5 : Nat) : Int) + (k : Int) * 2)) (fun k => ns.getD (5 + 2 * k) 0) (fun b n => partsG_eq b n) partsG_ok (fn := f2 gIx (fVar 0) (fVar 4)) (s0 := .sh (.scr ns)) (s1 := .sh (.int R)) (s2 := .sh (.int C)) (tail := [.un])
      (List.range ((ns.length + 1 - 5) / 2)) [(0, 0, R, C)] .un .un (fun k hk bs s5 => gIx_nums (List.mem_range.mp hk)) (List.cons_ne_nil _ _) (by rw [List.length_range]; simp; omega)
    refine (fSeq_nx ((fFor_eq hd).trans hloop)).trans ?_
    have hb : ((List.range ((ns.length + 1 - 5) / 2)).map fun k => ns.getD (5 + 2 * k) 0).foldl (stepB partsG) [(0, 0, R, C)] = boxesOf partsG R C (nums 5 ns) := rfl
    rw [hb]
    refine fRet_eq ?_
    refine (enum_boxes (tx := tx) rfl (by omega) (fun k b _ => rfl) (fun k b hk => ?_)).trans rfl
    refine (call_line (n := ns.getD (6 + 2 * k) 0 / 7) (k := (k : Int) % 7) (fCons_eq ((f2_eq (d := .int (ns.getD (6 + 2 * k) 0)) (fCall_eq (t := .int (ns.getD (6 + 2 * k) 0)) (fCons_eq rfl (fCons_eq ((f2_eq rfl ((f2_eq rfl rfl).trans (gMul_s (by omega) (by omega)))).trans rfl) rfl)) ?_) rfl).trans (gDiv_p (by decide) (by decide))) (fCons_eq ((f2_eq rfl rfl).trans (gMod_p (by decide))) rfl)) (mod_ok _ 7 (by decide)).1 (by have := mod_ok (k : Int) 7 (by decide); omega)).trans ?_
    · rw [show ((6 : Int) + 2 * (k : Int)) = ((6 + 2 * k : Nat) : Int) by omega, at_eq]; rfl
    · rfl
  · obtain ⟨p, _, rfl⟩ := List.mem_map.mp hc
    refine ⟨_, rfl, (lineF_ok _ _).1, ?_⟩
    have h1 := lineF_len (ns.getD (6 + 2 * p.2) 0 / 7) (((p.2 : Nat) : Int) % 7).toNat
    have h2 := h6 p.2
    omega
end K04

namespace K04
open PySem PySem.Spec L2 Fx Bx Mx
open PyProof.Rows hiding St
/-! ### shapes, and == of a thing with itself -/
def Sk (k : Nat) (t : T) : Prop := (toP t).canLay0 = true ∧ (toP t).depth ≤ k
theorem Sk.up {k m : Nat} {t : T} (h : Sk k t) (hm : k ≤ m) : Sk m t := ⟨h.1, Nat.le_trans h.2 hm⟩
theorem sk_all {k : Nat} : ∀ {ts : List T}, (∀ t ∈ ts, Sk k t) → PyData.canLayAll0 (toPs ts) = true ∧ PyData.depthAll (toPs ts) ≤ k
  | [], _ => ⟨rfl, Nat.zero_le _⟩
  | t :: ts, h => by
    obtain ⟨h1, h2⟩ := sk_all (ts := ts) fun u hu => h u (List.mem_cons_of_mem _ hu)
    obtain ⟨h3, h4⟩ := h t List.mem_cons_self
    refine ⟨?_, ?_⟩
    · show ((toP t).canLay0 && PyData.canLayAll0 (toPs ts)) = true
      rw [h1, h3]; rfl
    · show max (toP t).depth (PyData.depthAll (toPs ts)) ≤ k
      omega
theorem sk_tup {k : Nat} {ts : List T} (h : ∀ t ∈ ts, Sk k t) : Sk (k + 1) (.tup ts) := by
  obtain ⟨h1, h2⟩ := sk_all h
  exact ⟨h1, Nat.succ_le_succ h2⟩
theorem sk_lst {k : Nat} {ts : List T} (h : ∀ t ∈ ts, Sk k t) : Sk (k + 1) (.lst ts) := by
  obtain ⟨h1, h2⟩ := sk_all h
  exact ⟨h1, Nat.succ_le_succ h2⟩
theorem sk_int (i : Int) : Sk 0 (.int i) := ⟨rfl, Nat.le_refl _⟩
theorem sk_bl (b : Bool) : Sk 0 (.bl b) := ⟨rfl, Nat.le_refl _⟩
theorem sk_non : Sk 0 .non := ⟨rfl, Nat.le_refl _⟩
theorem sk_str {l : List Nat} (h : ∀ c ∈ l, c ≤ 127) : Sk 0 (.str (ofL l)) := ⟨canLay_str h, Nat.le_refl _⟩
theorem self_eq {ts : List T} (h : ∀ t ∈ ts, Sk 3 t) : gEqB (.lst ts) (.lst ts) = some true := by
  obtain ⟨h1, h2⟩ := sk_lst h
  have hs : SeqAt.shaped (toP (.lst ts)) = true := by
    show ((toP (.lst ts)).canLay0 && decide ((toP (.lst ts)).depth ≤ 64)) = true
    rw [h1, decide_eq_true (by omega)]
    rfl
  show (if _ then _ else _) = _
  rw [hs, if_pos (show (true && true) = true from rfl)]
  congr 1
  exact SeqAt.eqv_refl _ (SeqAt.canLay_of_shaped hs)
/-! ### what made refuses -/
theorem made_size {a b xs : T} (h : m_need_size [a, b] = some (.ex "BadSize")) : m_made [a, b, xs] = some (.ex "BadSize") := by
  unfold m_made
  rw [runB_ev (n := 3) rfl]
  show outR _ (body_made [.sh a, .sh b, .sh xs, .un, .un]) = _
  unfold body_made
  have d1 : fCallDrop m_need_size (fCons (fVar 0) (fCons (fVar 1) fNil)) [.sh a, .sh b, .sh xs, .un, .un] = some (.ex "BadSize" [.sh a, .sh b, .sh xs, .un, .un]) := by
    show (match m_need_size [a, b] with | some (.ok _) => _ | some (.fr _) => _ | some (.ex c) => _ | none => none) = _
    rw [h]
  rw [fSeq_ev, d1]
  rfl
theorem made_item {R C : Int} (hR : 1 ≤ R ∧ R ≤ 20) (hC : 1 ≤ C ∧ C ≤ 20) {xs : List T} {c : Str} (h : xs.findSome? (itemR R C) = some c) (hs : ∀ x ∈ xs, SmallI x) : m_made [.int R, .int C, .lst xs] = some (.ex c) := by
  unfold m_made
  rw [runB_ev (n := 3) rfl]
  show outR _ (body_made [.sh (.int R), .sh (.int C), .sh (.lst xs), .un, .un]) = _
  unfold body_made
  have d1 : fCallDrop m_need_size (fCons (fVar 0) (fCons (fVar 1) fNil)) [.sh (.int R), .sh (.int C), .sh (.lst xs), .un, .un] = some (.nx [.sh (.int R), .sh (.int C), .sh (.lst xs), .un, .un]) := by
    show (match m_need_size [.int R, .int C] with | some (.ok _) => _ | some (.fr _) => _ | some (.ex c) => _ | none => none) = _
    rw [size_ok hR hC]
  have d2 : fCallDrop m_need_cells (fCons (fVar 0) (fCons (fVar 1) (fCons (fVar 2) fNil))) [.sh (.int R), .sh (.int C), .sh (.lst xs), .un, .un] = some (.ex c [.sh (.int R), .sh (.int C), .sh (.lst xs), .un, .un]) := by
    show (match m_need_cells [.int R, .int C, .lst xs] with | some (.ok _) => _ | some (.fr _) => _ | some (.ex c) => _ | none => none) = _
    rw [need_cells_eq xs hs, h]
  refine (congrArg (outR 3) (fSeq_nx d1)).trans ?_
  rw [fSeq_ev, d2]
  rfl
/-! ### the outcome's name -/
inductive Nm : Str → Str → Prop
  | size : Nm "BadSize" "size"
  | cell : Nm "BadCell" "cell"
  | text : Nm "BadText" "text"
  | shared : Nm "Shared" "shared"
  | bare : Nm "Bare" "bare"
theorem isE_ev {a : Addr} {b : Bool} {s0 s1 s2 s3 : Sl} : fIsE 4 a b [s0, s1, s2, s3, .exc a] = some (.bl b) := if_pos rfl
theorem outcome_ex {a b xs : T} {c d : Str} (hc : Nm c d) (h : m_made [a, b, xs] = some (.ex c)) : m_law_outcome [a, b, xs] = some (.ok (.str d)) := by
  unfold m_law_outcome
  refine (runP_ev rfl).trans ?_
  show outP (body_law_outcome [.sh a, .sh b, .sh xs, .un, .un]) = _
  unfold body_law_outcome
  refine (congrArg outP (fSeq_nx (fSet_eq (t := .str "made") rfl))).trans ?_
  show outP (fSeq _ _ [.sh a, .sh b, .sh xs, .sh (.str "made"), .un]) = _
  rw [fSeq_ev]
  have e0 : fCallDrop m_made (fCons (fVar 0) (fCons (fVar 1) (fCons (fVar 2) fNil))) [.sh a, .sh b, .sh xs, .sh (.str "made"), .un] = some (.ex c [.sh a, .sh b, .sh xs, .sh (.str "made"), .un]) := by
    show (match m_made [a, b, xs] with | some (.ok _) => _ | some (.fr _) => _ | some (.ex c) => _ | none => none) = _
    rw [h]
  unfold fTryAs
  rw [e0]
  dsimp only
  have hin : c ∈ (["BadSize", "BadCell", "BadText", "Shared", "Bare"] : List Str) := by cases hc <;> decide
  have key : ∀ x : Addr, Option.bind ((fSeq (fSet 3 (f2 gIx (fC gLst (fCons (fK (.str "")) (fCons (fK (.str "no value error ")) fNil))) (fC gInt (fCons (fNotV (fIsE 4 x true)) fNil))))
      (fSeq (fIf (fTest (fIsE 4 x (subX c "BadSize"))) (fSet 3 (f2 gAdd (fVar 3) (fK (.str "size")))) fSkip)
      (fSeq (fIf (fTest (fIsE 4 x (subX c "BadCell"))) (fSet 3 (f2 gAdd (fVar 3) (fK (.str "cell")))) fSkip)
      (fSeq (fIf (fTest (fIsE 4 x (subX c "BadText"))) (fSet 3 (f2 gAdd (fVar 3) (fK (.str "text")))) fSkip)
      (fSeq (fIf (fTest (fIsE 4 x (subX c "Shared"))) (fSet 3 (f2 gAdd (fVar 3) (fK (.str "shared")))) fSkip)
      (fSeq (fIf (fTest (fIsE 4 x (subX c "Bare"))) (fSet 3 (f2 gAdd (fVar 3) (fK (.str "bare")))) fSkip)
      (fIf (fOr (fTest (fIsE 4 x (subX c "NoSquare"))) (fOr (fTest (fIsE 4 x (subX c "Cut"))) (fTest (fIsE 4 x (subX c "NoDrawing"))))) (fSet 3 (f2 gAdd (fVar 3) (fK (.str "another")))) fSkip)))))))
      [.sh a, .sh b, .sh xs, .sh (.str "made"), .exc x]) (clr 4) = some (.nx [.sh a, .sh b, .sh xs, .sh (.str d), .un]) := by
    intro x
    have e1 : fSet 3 (f2 gIx (fC gLst (fCons (fK (.str "")) (fCons (fK (.str "no value error ")) fNil))) (fC gInt (fCons (fNotV (fIsE 4 x true)) fNil))) [.sh a, .sh b, .sh xs, .sh (.str "made"), .exc x] = some (.nx [.sh a, .sh b, .sh xs, .sh (.str ""), .exc x]) := by
      refine fSet_eq (t := .str "") ((f2_eq (d := .lst [.str "", .str "no value error "]) (e := .int 0) rfl ((fC_eq (fCons_eq (d := .bl false) ?_ rfl)).trans rfl)).trans rfl)
      unfold fNotV
      rw [isE_ev]
      rfl
    rw [fSeq_nx e1]
    have htT : ∀ (u k w : Str), gAdd (.str u) (.str k) = some (.str w) → fIf (fTest (fIsE 4 x true)) (fSet 3 (f2 gAdd (fVar 3) (fK (.str k)))) fSkip [.sh a, .sh b, .sh xs, .sh (.str u), .exc x] = some (.nx [.sh a, .sh b, .sh xs, .sh (.str w), .exc x]) := fun u k w hw =>
      (fIf_t (fTest_eq isE_ev)).trans ((fSet_eq ((f2_eq rfl rfl).trans hw)).trans rfl)
    have htF : ∀ (u k : Str), fIf (fTest (fIsE 4 x false)) (fSet 3 (f2 gAdd (fVar 3) (fK (.str k)))) fSkip [.sh a, .sh b, .sh xs, .sh (.str u), .exc x] = some (.nx [.sh a, .sh b, .sh xs, .sh (.str u), .exc x]) := fun u k =>
      (fIf_f (fTest_eq isE_ev)).trans rfl
    have hlast : ∀ (u : Str) (b1 b2 b3 : Bool), b1 = false → b2 = false → b3 = false → fIf (fOr (fTest (fIsE 4 x b1)) (fOr (fTest (fIsE 4 x b2)) (fTest (fIsE 4 x b3)))) (fSet 3 (f2 gAdd (fVar 3) (fK (.str "another")))) fSkip [.sh a, .sh b, .sh xs, .sh (.str u), .exc x] = some (.nx [.sh a, .sh b, .sh xs, .sh (.str u), .exc x]) := fun u b1 b2 b3 h1 h2 h3 => by
      subst h1 h2 h3
      exact (fIf_f ((fOr_f (fTest_eq isE_ev)).trans ((fOr_f (fTest_eq isE_ev)).trans (fTest_eq isE_ev)))).trans rfl
    cases hc with
    | size =>
      rw [show subX "BadSize" "BadSize" = true from by decide, show subX "BadSize" "BadCell" = false from by decide, show subX "BadSize" "BadText" = false from by decide, show subX "BadSize" "Shared" = false from by decide, show subX "BadSize" "Bare" = false from by decide, show subX "BadSize" "NoSquare" = false from by decide, show subX "BadSize" "Cut" = false from by decide, show subX "BadSize" "NoDrawing" = false from by decide]
      rw [fSeq_nx (htT "" "size" "size" ((gAdd_str (small_k (by decide))).trans (congrArg (fun z => some (T.str z)) (by decide +kernel)))), fSeq_nx (htF "size" "cell"), fSeq_nx (htF "size" "text"), fSeq_nx (htF "size" "shared"), fSeq_nx (htF "size" "bare")]
      rw [hlast _ _ _ _ rfl rfl rfl]
      rfl
    | cell =>
      rw [show subX "BadCell" "BadSize" = false from by decide, show subX "BadCell" "BadCell" = true from by decide, show subX "BadCell" "BadText" = false from by decide, show subX "BadCell" "Shared" = false from by decide, show subX "BadCell" "Bare" = false from by decide, show subX "BadCell" "NoSquare" = false from by decide, show subX "BadCell" "Cut" = false from by decide, show subX "BadCell" "NoDrawing" = false from by decide]
      rw [fSeq_nx (htF "" "size"), fSeq_nx (htT "" "cell" "cell" ((gAdd_str (small_k (by decide))).trans (congrArg (fun z => some (T.str z)) (by decide +kernel)))), fSeq_nx (htF "cell" "text"), fSeq_nx (htF "cell" "shared"), fSeq_nx (htF "cell" "bare")]
      rw [hlast _ _ _ _ rfl rfl rfl]
      rfl
    | text =>
      rw [show subX "BadText" "BadSize" = false from by decide, show subX "BadText" "BadCell" = false from by decide, show subX "BadText" "BadText" = true from by decide, show subX "BadText" "Shared" = false from by decide, show subX "BadText" "Bare" = false from by decide, show subX "BadText" "NoSquare" = false from by decide, show subX "BadText" "Cut" = false from by decide, show subX "BadText" "NoDrawing" = false from by decide]
      rw [fSeq_nx (htF "" "size"), fSeq_nx (htF "" "cell"), fSeq_nx (htT "" "text" "text" ((gAdd_str (small_k (by decide))).trans (congrArg (fun z => some (T.str z)) (by decide +kernel)))), fSeq_nx (htF "text" "shared"), fSeq_nx (htF "text" "bare")]
      rw [hlast _ _ _ _ rfl rfl rfl]
      rfl
    | shared =>
      rw [show subX "Shared" "BadSize" = false from by decide, show subX "Shared" "BadCell" = false from by decide, show subX "Shared" "BadText" = false from by decide, show subX "Shared" "Shared" = true from by decide, show subX "Shared" "Bare" = false from by decide, show subX "Shared" "NoSquare" = false from by decide, show subX "Shared" "Cut" = false from by decide, show subX "Shared" "NoDrawing" = false from by decide]
      rw [fSeq_nx (htF "" "size"), fSeq_nx (htF "" "cell"), fSeq_nx (htF "" "text"), fSeq_nx (htT "" "shared" "shared" ((gAdd_str (small_k (by decide))).trans (congrArg (fun z => some (T.str z)) (by decide +kernel)))), fSeq_nx (htF "shared" "bare")]
      rw [hlast _ _ _ _ rfl rfl rfl]
      rfl
    | bare =>
      rw [show subX "Bare" "BadSize" = false from by decide, show subX "Bare" "BadCell" = false from by decide, show subX "Bare" "BadText" = false from by decide, show subX "Bare" "Shared" = false from by decide, show subX "Bare" "Bare" = true from by decide, show subX "Bare" "NoSquare" = false from by decide, show subX "Bare" "Cut" = false from by decide, show subX "Bare" "NoDrawing" = false from by decide]
      rw [fSeq_nx (htF "" "size"), fSeq_nx (htF "" "cell"), fSeq_nx (htF "" "text"), fSeq_nx (htF "" "shared"), fSeq_nx (htT "" "bare" "bare" ((gAdd_str (small_k (by decide))).trans (congrArg (fun z => some (T.str z)) (by decide +kernel))))]
      rw [hlast _ _ _ _ rfl rfl rfl]
      rfl
  rw [if_pos hin, tryOut_eq (o := .nx [.sh a, .sh b, .sh xs, .sh (.str d), .un]) fun x => ?_]
  · rfl
  · exact key x
theorem outcome_fr {a b xs t : T} (h : m_made [a, b, xs] = some (.fr t)) : m_law_outcome [a, b, xs] = some (.ok (.str "made")) := by
  unfold m_law_outcome
  refine (runP_ev rfl).trans ?_
  show outP (body_law_outcome [.sh a, .sh b, .sh xs, .un, .un]) = _
  unfold body_law_outcome
  refine (congrArg outP (fSeq_nx (fSet_eq (t := .str "made") rfl))).trans ?_
  show outP (fSeq _ _ [.sh a, .sh b, .sh xs, .sh (.str "made"), .un]) = _
  rw [fSeq_ev]
  have e0 : fCallDrop m_made (fCons (fVar 0) (fCons (fVar 1) (fCons (fVar 2) fNil))) [.sh a, .sh b, .sh xs, .sh (.str "made"), .un] = some (.nx [.sh a, .sh b, .sh xs, .sh (.str "made"), .un]) := by
    show (match m_made [a, b, xs] with | some (.ok _) => _ | some (.fr _) => _ | some (.ex c) => _ | none => none) = _
    rw [h]
  unfold fTryAs
  rw [e0]
  rfl
end K04

namespace K04
open PySem PySem.Spec L2 Fx Bx Mx
open PyProof.Rows hiding St
def itT (b : Box) (e : T) : T := .tup [.int b.1, .int b.2.1, .int b.2.2.1, .int b.2.2.2, e]
theorem val_bad (l z m : Int) (hz : 0 ≤ z) {odd : T} (ho : wholeB odd = false ∧ Sk 0 odd) :
    ∃ v, gIx (.lst [.int l, .int (21 + z), .int l, odd, .int 21, .int (l - m / 6 % 9)]) (.int (m % 6)) = some v ∧ Sk 0 v ∧ (wholeB v = false ∨ ∃ i, v = .int i ∧ (i ≤ l ∨ 21 ≤ i)) := by
  have h6 := mod_ok m 6 (by decide)
  have h9 := mod_ok (m / 6) 9 (by decide)
  generalize m % 6 = k at *
  generalize m / 6 % 9 = q at *
  rcases (show k = 0 ∨ k = 1 ∨ k = 2 ∨ k = 3 ∨ k = 4 ∨ k = 5 by omega) with rfl | rfl | rfl | rfl | rfl | rfl
  · exact ⟨_, rfl, sk_int _, .inr ⟨_, rfl, .inl (Int.le_refl _)⟩⟩
  · exact ⟨_, rfl, sk_int _, .inr ⟨_, rfl, .inr (by omega)⟩⟩
  · exact ⟨_, rfl, sk_int _, .inr ⟨_, rfl, .inl (Int.le_refl _)⟩⟩
  · exact ⟨_, rfl, ho.2, .inl ho.1⟩
  · exact ⟨_, rfl, sk_int _, .inr ⟨_, rfl, .inr (by omega)⟩⟩
  · exact ⟨_, rfl, sk_int _, .inr ⟨_, rfl, .inl (by omega)⟩⟩
theorem odd_bad (k : Int) (h : 0 ≤ k ∧ k < 4) : ∃ v, gIx (.lst [.str "1", .non, .bl true, .bl false]) (.int k) = some v ∧ wholeB v = false ∧ Sk 0 v := by
  rcases (show k = 0 ∨ k = 1 ∨ k = 2 ∨ k = 3 by omega) with rfl | rfl | rfl | rfl
  · exact ⟨_, rfl, rfl, sk_str (l := [49]) (by decide)⟩
  · exact ⟨_, rfl, rfl, sk_non⟩
  · exact ⟨_, rfl, rfl, sk_bl _⟩
  · exact ⟨_, rfl, rfl, sk_bl _⟩
theorem gAbs_i (i : Int) : gAbs [.int i] = some (.int (if i < 0 then -i else i)) := rfl
theorem gLstA_small {ts : List T} (h : ts.length ≤ 100000) : gLstA ts = some (.lst ts) := if_pos (small_k h)
theorem gCatA_small {ts us : List T} (h : ts.length + us.length ≤ 100000) : gCatA (.lst ts) (.lst us) = some (.lst (ts ++ us)) := if_pos (small_k h)
theorem pow60 : gPow (.int 10) (.int 60) = some (.int (10 ^ 60)) := by
  show (if (0 : Int) ≤ 60 ∧ (60 : Int) ≤ 1000000 ∧ (10 : Int).natAbs < 2 ^ 64 then some (T.int (10 ^ (60 : Int).toNat)) else none) = _
  rw [if_pos (by decide)]
  rfl
theorem sk5 {a b c d e : T} (h : Sk 2 a ∧ Sk 2 b ∧ Sk 2 c ∧ Sk 2 d ∧ Sk 2 e) : Sk 3 (.tup [a, b, c, d, e]) := sk_tup fun t ht => by
  simp only [List.mem_cons, List.not_mem_nil, or_false] at ht
  rcases ht with rfl | rfl | rfl | rfl | rfl
  · exact h.1
  · exact h.2.1
  · exact h.2.2.1
  · exact h.2.2.2.1
  · exact h.2.2.2.2
theorem item_bad {R C : Int} {a b c d e : T} (h : liesB R C a b c d = false) : itemR R C (.tup [a, b, c, d, e]) = some "BadCell" := by
  rw [show itemR R C (.tup [a, b, c, d, e]) = (if liesB R C a b c d = true then (if goodT e = true then (none : Option Str) else some ("BadText" : Str)) else some ("BadCell" : Str) : Option Str) from rfl, h]
  rfl
theorem item_text {R C : Int} {a b c d e : T} (h : liesB R C a b c d = true) (hg : goodT e = false) : itemR R C (.tup [a, b, c, d, e]) = some "BadText" := by
  rw [show itemR R C (.tup [a, b, c, d, e]) = (if liesB R C a b c d = true then (if goodT e = true then (none : Option Str) else some ("BadText" : Str)) else some ("BadCell" : Str) : Option Str) from rfl, h, hg]
  rfl
theorem inB_f {R C : Int} {b : Box} (h : ¬ BoxOk R C b) : inB R C b = false := by
  cases q : inB R C b
  · rfl
  · exact absurd (inB_iff.mp q) h
theorem bad_cell {R C : Int} (hR : R ≤ 20) (hC : C ≤ 20) {b : Box} (ok : BoxOk R C b) {e : T} (hs : SmallT e) (he : Sk 2 e) (n : Int) :
    ∃ x, m_law_bad_cell [itT b e, .int n] = some (.ok x) ∧ itemR R C x = some "BadCell" ∧ SmallI x ∧ Sk 3 x := by
  obtain ⟨r, c, h, w⟩ := b
  obtain ⟨k1, k2, k3, k4, k5, k6⟩ := ok
  dsimp only at k1 k2 k3 k4 k5 k6
  have i2 : ∀ i : Int, Sk 2 (.int i) := fun i => (sk_int i).up (by decide)
  have key : ∃ x, body_law_bad_cell [.sh (itT (r, c, h, w) e), .sh (.int n), .un, .un, .un, .un, .un] = some (.rt x) ∧ itemR R C x = some "BadCell" ∧ SmallI x ∧ Sk 3 x := by
    unfold body_law_bad_cell
    rw [fSeq_nx (fSet_eq (t := .int (n / 6)) ((f2_eq rfl rfl).trans (gDiv_p (by decide) (by decide))))]
    show ∃ x, fSeq _ _ [.sh (itT (r, c, h, w) e), .sh (.int n), .sh (.int (n / 6)), .un, .un, .un, .un] = some (.rt x) ∧ _
    have h6 := mod_ok n 6 (by decide)
    have hc : fTest (f2 gLt (f2 gMod (fVar 1) (fK (.int 6))) (fK (.int 4))) [.sh (itT (r, c, h, w) e), .sh (.int n), .sh (.int (n / 6)), .un, .un, .un, .un] = some (decide (n % 6 < 4)) :=
      fTest_eq ((f2_eq ((f2_eq rfl rfl).trans (gMod_p (by decide))) rfl).trans rfl)
    by_cases hlt : n % 6 < 4
    · rw [decide_eq_true hlt] at hc
      obtain ⟨odd, ho1, ho2⟩ := odd_bad (n / 6 / 6 % 4) (mod_ok _ 4 (by decide))
      have habs : 0 ≤ (if n / 6 < 0 then -(n / 6) else n / 6) / 6 % 10 ^ 60 := Int.emod_nonneg _ (by decide)
      have hrun : ∀ (k l : Int) (v : T) (ts : List T), n % 6 = k → gIx (.lst [.int (-1), .int (-1), .int 0, .int 0]) (.int k) = some (.int l) →
          gIx (.lst [.int l, .int (21 + (if n / 6 < 0 then -(n / 6) else n / 6) / 6 % 10 ^ 60), .int l, odd, .int 21, .int (l - n / 6 / 6 % 9)]) (.int (n / 6 % 6)) = some v →
          (fRet (f2 gAdd (f2 gAdd (fSl gSl (fVar 0) fNoP (fPart (fVar 3))) (fC gTup (fCons (fVar 6) fNil))) (fSl gSl (fVar 0) (fPart (f2 gAdd (fVar 3) (fK (.int 1)))) fNoP)) [.sh (itT (r, c, h, w) e), .sh (.int n), .sh (.int (n / 6)), .sh (.int k), .sh (.int l), .sh odd, .sh v] = some (.rt (.tup ts))) →
          body_law_bad_cell [.sh (itT (r, c, h, w) e), .sh (.int n), .un, .un, .un, .un, .un] = some (.rt (.tup ts)) := fun k l v ts hk hl hv hret => by
        unfold body_law_bad_cell
        rw [fSeq_nx (fSet_eq (t := .int (n / 6)) ((f2_eq rfl rfl).trans (gDiv_p (by decide) (by decide))))]
        refine fSeq_rt ((fIf_t hc).trans ?_)
        refine (fSeq_nx (fSet_eq (t := .int k) ((f2_eq rfl rfl).trans ((gMod_p (by decide)).trans (by rw [hk]))))).trans ?_
        refine (fSeq_nx (fSet_eq (t := .int l) ((f2_eq (d := .lst [.int (-1), .int (-1), .int 0, .int 0]) rfl rfl).trans hl))).trans ?_
        refine (fSeq_nx (fSet_eq (t := odd) ((f2_eq (d := .lst [.str "1", .non, .bl true, .bl false]) rfl ((f2_eq ((f2_eq rfl rfl).trans (gDiv_p (by decide) (by decide))) rfl).trans (gMod_p (by decide)))).trans ho1))).trans ?_
        refine (fSeq_nx (fSet_eq (t := v) ((f2_eq ((fC_eq (fCons_eq (d := .int l) rfl (fCons_eq ((f2_eq rfl ((f2_eq ((f2_eq ((fC_eq (fCons_eq rfl rfl)).trans (gAbs_i _)) rfl).trans (gDiv_p (by decide) (by decide))) ((f2_eq rfl rfl).trans pow60)).trans (gMod_p (by decide)))).trans rfl) (fCons_eq (d := .int l) rfl (fCons_eq (d := odd) rfl (fCons_eq rfl (fCons_eq ((f2_eq (d := .int l) rfl ((f2_eq ((f2_eq rfl rfl).trans (gDiv_p (by decide) (by decide))) rfl).trans (gMod_p (by decide)))).trans rfl) rfl))))))).trans (gLstA_small (by simp))) ((f2_eq rfl rfl).trans (gMod_p (by decide)))).trans hv))).trans ?_
        exact hret
      have fin : ∀ x : T, body_law_bad_cell [.sh (itT (r, c, h, w) e), .sh (.int n), .un, .un, .un, .un, .un] = some (.rt x) → fSeq (fIf (fTest (f2 gLt (f2 gMod (fVar 1) (fK (.int 6))) (fK (.int 4))))
          (fSeq (fSet 3 (f2 gMod (fVar 1) (fK (.int 6))))
          (fSeq (fSet 4 (f2 gIx (fC gLstA (fCons (f1 gNeg (fK (.int 1))) (fCons (f1 gNeg (fK (.int 1))) (fCons (fK (.int 0)) (fCons (fK (.int 0)) fNil))))) (fVar 3)))
          (fSeq (fSet 5 (f2 gIx (fC gLstA (fCons (fK (.str "1")) (fCons (fK .non) (fCons (fK (.bl true)) (fCons (fK (.bl false)) fNil))))) (f2 gMod (f2 gDiv (fVar 2) (fK (.int 6))) (fK (.int 4)))))
          (fSeq (fSet 6 (f2 gIx (fC gLstA (fCons (fVar 4) (fCons (f2 gAdd (fK (.int 21)) (f2 gMod (f2 gDiv (fC gAbs (fCons (fVar 2) fNil)) (fK (.int 6))) (f2 gPow (fK (.int 10)) (fK (.int 60))))) (fCons (fVar 4) (fCons (fVar 5) (fCons (fK (.int 21)) (fCons (f2 gSub (fVar 4) (f2 gMod (f2 gDiv (fVar 2) (fK (.int 6))) (fK (.int 9)))) fNil))))))) (f2 gMod (fVar 2) (fK (.int 6)))))
          (fRet (f2 gAdd (f2 gAdd (fSl gSl (fVar 0) fNoP (fPart (fVar 3))) (fC gTup (fCons (fVar 6) fNil))) (fSl gSl (fVar 0) (fPart (f2 gAdd (fVar 3) (fK (.int 1)))) fNoP)))))))
          fSkip)
          (fRet (f2 gIx (fC gLstA (fCons (fC gListA (fCons (fVar 0) fNil)) (fCons (fSl gSl (fVar 0) fNoP (fPart (fK (.int 4)))) (fCons (f2 gAdd (fVar 0) (fC gTup (fCons (fK (.int 0)) fNil))) (fCons (fK (.str "cells")) (fCons (fK .non) (fCons (fC gTup fNil) fNil))))))) (f2 gMod (fVar 2) (fK (.int 6)))))
          [.sh (itT (r, c, h, w) e), .sh (.int n), .sh (.int (n / 6)), .un, .un, .un, .un] = some (.rt x) := fun x hx => by
        unfold body_law_bad_cell at hx
        rw [fSeq_nx (fSet_eq (t := .int (n / 6)) ((f2_eq rfl rfl).trans (gDiv_p (by decide) (by decide))))] at hx
        exact hx
      rcases (show n % 6 = 0 ∨ n % 6 = 1 ∨ n % 6 = 2 ∨ n % 6 = 3 by omega) with hk | hk | hk | hk
      · obtain ⟨v, hv, hsv, hbv⟩ := val_bad (-1) _ (n / 6) habs ho2
        refine ⟨.tup [v, .int c, .int h, .int w, e], fin _ (hrun 0 (-1) v _ hk rfl hv rfl), item_bad ?_, hs, sk5 ⟨hsv.up (by decide), i2 _, i2 _, i2 _, he⟩⟩
        rcases hbv with hb | ⟨i, rfl, hb⟩
        · exact liesB_bad (.inl hb)
        · rw [liesB_int]; exact inB_f fun q => by have := q.r; have := q.rh; dsimp only at *; omega
      · obtain ⟨v, hv, hsv, hbv⟩ := val_bad (-1) _ (n / 6) habs ho2
        refine ⟨.tup [.int r, v, .int h, .int w, e], fin _ (hrun 1 (-1) v _ hk rfl hv rfl), item_bad ?_, hs, sk5 ⟨i2 _, hsv.up (by decide), i2 _, i2 _, he⟩⟩
        rcases hbv with hb | ⟨i, rfl, hb⟩
        · exact liesB_bad (.inr (.inl hb))
        · rw [liesB_int]; exact inB_f fun q => by have := q.c; have := q.cw; dsimp only at *; omega
      · obtain ⟨v, hv, hsv, hbv⟩ := val_bad 0 _ (n / 6) habs ho2
        refine ⟨.tup [.int r, .int c, v, .int w, e], fin _ (hrun 2 0 v _ hk rfl hv rfl), item_bad ?_, hs, sk5 ⟨i2 _, i2 _, hsv.up (by decide), i2 _, he⟩⟩
        rcases hbv with hb | ⟨i, rfl, hb⟩
        · exact liesB_bad (.inr (.inr (.inl hb)))
        · rw [liesB_int]; exact inB_f fun q => by have := q.h; have := q.rh; dsimp only at *; omega
      · obtain ⟨v, hv, hsv, hbv⟩ := val_bad 0 _ (n / 6) habs ho2
        refine ⟨.tup [.int r, .int c, .int h, v, e], fin _ (hrun 3 0 v _ hk rfl hv rfl), item_bad ?_, hs, sk5 ⟨i2 _, i2 _, i2 _, hsv.up (by decide), he⟩⟩
        rcases hbv with hb | ⟨i, rfl, hb⟩
        · exact liesB_bad (.inr (.inr (.inr hb)))
        · rw [liesB_int]; exact inB_f fun q => by have := q.w; have := q.cw; dsimp only at *; omega
    · rw [decide_eq_false hlt] at hc
      rw [fSeq_nx ((fIf_f hc).trans rfl)]
      have hl : ∃ x, gIx (.lst [.lst [.int r, .int c, .int h, .int w, e], .tup [.int r, .int c, .int h, .int w], .tup [.int r, .int c, .int h, .int w, e, .int 0], .str "cells", .non, .tup []]) (.int (n / 6 % 6)) = some x ∧ itemR R C x = some "BadCell" ∧ SmallI x ∧ Sk 3 x := by
        have hm := mod_ok (n / 6) 6 (by decide)
        generalize n / 6 % 6 = k at hm
        rcases (show k = 0 ∨ k = 1 ∨ k = 2 ∨ k = 3 ∨ k = 4 ∨ k = 5 by omega) with rfl | rfl | rfl | rfl | rfl | rfl
        · refine ⟨_, rfl, rfl, trivial, sk_lst fun t ht => ?_⟩
          simp only [List.mem_cons, List.not_mem_nil, or_false] at ht
          rcases ht with rfl | rfl | rfl | rfl | rfl <;> first | exact i2 _ | exact he
        · refine ⟨_, rfl, rfl, trivial, sk_tup fun t ht => ?_⟩
          simp only [List.mem_cons, List.not_mem_nil, or_false] at ht
          rcases ht with rfl | rfl | rfl | rfl <;> exact i2 _
        · refine ⟨_, rfl, rfl, trivial, sk_tup fun t ht => ?_⟩
          simp only [List.mem_cons, List.not_mem_nil, or_false] at ht
          rcases ht with rfl | rfl | rfl | rfl | rfl | rfl <;> first | exact i2 _ | exact he
        · exact ⟨_, rfl, rfl, trivial, (sk_str (l := [99, 101, 108, 108, 115]) (by decide)).up (by decide)⟩
        · exact ⟨_, rfl, rfl, trivial, sk_non.up (by decide)⟩
        · exact ⟨_, rfl, rfl, trivial, (sk_tup (k := 0) (ts := []) fun t ht => nomatch ht).up (by decide)⟩
      obtain ⟨x, hx, hr⟩ := hl
      refine ⟨x, fRet_eq ((f2_eq ((fC_eq (fCons_eq (d := .lst [.int r, .int c, .int h, .int w, e]) rfl (fCons_eq (d := .tup [.int r, .int c, .int h, .int w]) rfl (fCons_eq (d := .tup [.int r, .int c, .int h, .int w, e, .int 0]) rfl (fCons_eq rfl (fCons_eq rfl (fCons_eq (d := .tup []) rfl rfl))))))).trans (gLstA_small (by simp))) ((f2_eq rfl rfl).trans (gMod_p (by decide)))).trans hx), hr⟩
  obtain ⟨x, hx, hr⟩ := key
  exact ⟨x, runP_rt rfl hx, hr⟩
/-! ### bad texts -/
theorem linesL_flat {ls : Ls} (hne : ls ≠ []) (h : ∀ p ∈ ls, 10 ∉ p) : linesL (TL.joinL [10] ls) = ls := by
  have h1 := lines_spl (TL.joinL [10] ls)
  have h2 := lines_txt hne h
  rw [show txt ls = ofL (TL.joinL [10] ls) from rfl, h1] at h2
  have h3 := congrArg (List.map TL.tl) h2
  rw [List.map_map, List.map_map, show (TL.tl ∘ ofL) = (id : List Nat → List Nat) from funext fun l => tl_ofL l, List.map_id, List.map_id] at h3
  exact h3
theorem goodB_sign {l : List Nat} {c : Nat} (h : c ∈ l) (hc : okS c = false) : goodB l = false := by
  unfold goodB
  have : l.all okS = false := by
    cases q : l.all okS
    · rfl
    · have := List.all_eq_true.mp q c h
      rw [hc] at this; cases this
  rw [this, Bool.and_false, Bool.false_and, Bool.false_and]
theorem goodB_long {l : List Nat} (h : 200 < l.length) : goodB l = false := by
  unfold goodB
  rw [decide_eq_false (by omega), Bool.false_and, Bool.false_and, Bool.false_and]
theorem goodB_feed {l : List Nat} (h : l.getLast? = some 10) : goodB l = false := by
  unfold goodB
  have : decide (l.getLast? ≠ some 10) = false := decide_eq_false fun q => q h
  rw [this, Bool.and_false]
theorem goodB_blank {l : List Nat} (h : 10 ∉ l) : goodB (l ++ [32]) = false := by
  unfold goodB
  have e : linesL (l ++ [32]) = [l ++ [32]] := linesL_flat (ls := [l ++ [32]]) (by simp) fun p hp => by
    rw [List.mem_singleton.mp hp]
    simpa using h
  rw [e, show ([l ++ [32]].all fun p => decide (p.getLast? ≠ some 32)) = false by simp, Bool.and_false, Bool.false_and]
theorem gAdd_ofL (a b : List Nat) (h : a.length + b.length ≤ 100000) : gAdd (.str (ofL a)) (.str (ofL b)) = some (.str (ofL (a ++ b))) := by
  rw [gAdd_str]
  · congr 2
    apply TL.ext_tl
    rw [TL.tl_append]
    rfl
  · rw [len_ofL, len_ofL]
    exact small_k h
theorem gRepS_y (k : Int) (h0 : 0 ≤ k) (h1 : k ≤ 1000) : gRepS (.str "y") (.int k) = some (.str (ofL (List.replicate k.toNat 121))) := by
  rw [show (T.str "y") = .str (ofL [121]) from rfl]
  exact if_pos (by omega)
theorem bad_text {b : Box} {l : List Nat} (hok : ∀ x ∈ l, okC x) (hl : l.length ≤ 6) (n : Int) : ∃ e, m_law_bad_text [itT b (.str (ofL l)), .int n] = some (.ok (itT b e)) ∧ goodT e = false ∧ SmallT e ∧ Sk 2 e := by
  have h10 : 10 ∉ l := fun h => by have := hok 10 h; unfold okC at this; omega
  have h127 : ∀ x ∈ l, x ≤ 127 := fun x hx => by have := hok x hx; unfold okC at this; omega
  have hm := mod_ok n 9 (by decide)
  have h40 := mod_ok (n / 9) 40 (by decide)
  have hy := gRepS_y (201 + n / 9 % 40) (by omega) (by omega)
  have sml : ∀ m : List Nat, m.length ≤ 1000 → SmallT (.str (ofL m)) := fun m h => by
    show (ofL m).length ≤ 50000
    rw [len_ofL]; omega
  have ss : ∀ m : List Nat, (∀ x ∈ m, x ≤ 127) → Sk 2 (.str (ofL m)) := fun m h => (sk_str h).up (by decide)
  have hsel : ∃ e, gIx (.lst [.int (n % 10 ^ 60), .non, .str (ofL (l ++ [9])), .str (ofL ([9] ++ l)), .str (ofL (l ++ [32])), .str (ofL [97, 32, 10, 98]), .str (ofL (l ++ [10])), .str (ofL (List.replicate (201 + n / 9 % 40).toNat 121)), .lst [.str (ofL l)]]) (.int (n % 9)) = some e ∧ goodT e = false ∧ SmallT e ∧ Sk 2 e := by
    generalize n % 9 = k at hm
    have hin : ∀ (m : List Nat), goodB m = false → goodT (.str (ofL m)) = false := fun m h => by
      show goodB (TL.tl (ofL m)) = false
      rw [tl_ofL]; exact h
    rcases (show k = 0 ∨ k = 1 ∨ k = 2 ∨ k = 3 ∨ k = 4 ∨ k = 5 ∨ k = 6 ∨ k = 7 ∨ k = 8 by omega) with rfl | rfl | rfl | rfl | rfl | rfl | rfl | rfl | rfl
    · exact ⟨_, rfl, rfl, trivial, (sk_int _).up (by decide)⟩
    · exact ⟨_, rfl, rfl, trivial, sk_non.up (by decide)⟩
    · exact ⟨_, rfl, hin _ (goodB_sign (c := 9) (by simp) (by decide)), sml _ (by simp; omega), ss _ fun x hx => by
        rcases List.mem_append.mp hx with h | h
        · exact h127 x h
        · rw [List.mem_singleton.mp h]; decide⟩
    · exact ⟨_, rfl, hin _ (goodB_sign (c := 9) (by simp) (by decide)), sml _ (by simp; omega), ss _ fun x hx => by
        rcases List.mem_append.mp hx with h | h
        · rw [List.mem_singleton.mp h]; decide
        · exact h127 x h⟩
    · exact ⟨_, rfl, hin _ (goodB_blank h10), sml _ (by simp; omega), ss _ fun x hx => by
        rcases List.mem_append.mp hx with h | h
        · exact h127 x h
        · rw [List.mem_singleton.mp h]; decide⟩
    · exact ⟨_, rfl, hin _ (by decide +kernel), sml _ (by decide), ss _ (by decide)⟩
    · exact ⟨_, rfl, hin _ (goodB_feed (by simp)), sml _ (by simp; omega), ss _ fun x hx => by
        rcases List.mem_append.mp hx with h | h
        · exact h127 x h
        · rw [List.mem_singleton.mp h]; decide⟩
    · exact ⟨_, rfl, hin _ (goodB_long (by rw [List.length_replicate]; omega)), sml _ (by rw [List.length_replicate]; omega), ss _ fun x hx => by rw [(List.mem_replicate.mp hx).2]; decide⟩
    · refine ⟨_, rfl, rfl, trivial, (sk_lst (k := 0) fun t ht => ?_).up (by decide)⟩
      rw [List.mem_singleton.mp ht]
      exact sk_str h127
  obtain ⟨e, he, hr⟩ := hsel
  refine ⟨e, runP_rt rfl ?_, hr⟩
  obtain ⟨r, c, h, w⟩ := b
  show body_law_bad_text [.sh (itT (r, c, h, w) (.str (ofL l))), .sh (.int n), .un] = _
  unfold body_law_bad_text
  refine (fSeq_nx (fSet_eq (t := .lst [.int (n % 10 ^ 60), .non, .str (ofL (l ++ [9])), .str (ofL ([9] ++ l)), .str (ofL (l ++ [32])), .str (ofL [97, 32, 10, 98]), .str (ofL (l ++ [10]))]) ((fC_eq (fCons_eq ((f2_eq rfl ((f2_eq rfl rfl).trans pow60)).trans (gMod_p (by decide))) (fCons_eq rfl (fCons_eq ((f2_eq (d := .str (ofL l)) rfl rfl).trans (gAdd_ofL l [9] (by simp; omega))) (fCons_eq ((f2_eq (e := .str (ofL l)) rfl rfl).trans (gAdd_ofL [9] l (by simp; omega)))
    (fCons_eq ((f2_eq (d := .str (ofL l)) rfl rfl).trans (gAdd_ofL l [32] (by simp; omega))) (fCons_eq rfl (fCons_eq ((f2_eq (d := .str (ofL l)) rfl rfl).trans (gAdd_ofL l [10] (by simp; omega))) rfl)))))))).trans (gLstA_small (by simp))))).trans ?_
  refine (fSeq_nx (fSet_eq (t := .lst [.int (n % 10 ^ 60), .non, .str (ofL (l ++ [9])), .str (ofL ([9] ++ l)), .str (ofL (l ++ [32])), .str (ofL [97, 32, 10, 98]), .str (ofL (l ++ [10])), .str (ofL (List.replicate (201 + n / 9 % 40).toNat 121)), .lst [.str (ofL l)]]) ((f2_eq rfl ((fC_eq (fCons_eq ((f2_eq rfl ((f2_eq rfl ((f2_eq ((f2_eq rfl rfl).trans (gDiv_p (by decide) (by decide))) rfl).trans (gMod_p (by decide)))).trans rfl)).trans hy) (fCons_eq (d := .lst [.str (ofL l)]) rfl rfl))).trans (gLstA_small (by simp)))).trans ?_))).trans ?_
  · exact (gCatA_small (by simp)).trans rfl
  · exact fRet_eq ((f2_eq (d := .tup [.int r, .int c, .int h, .int w]) (e := .tup [e]) rfl ((fC_eq (fCons_eq ((f2_eq rfl ((f2_eq rfl rfl).trans (gMod_p (by decide)))).trans he) rfl)).trans rfl)).trans rfl)
end K04

namespace K04
open PySem PySem.Spec L2 Fx Bx Mx
open PyProof.Rows hiding St
/-! ### one item put in another's stead -/
def rep (ts : List T) (i : Nat) (x : T) : List T := ts.take i ++ [x] ++ ts.drop (i + 1)
theorem gSlA_to {ts : List T} {i : Int} (h : 0 ≤ i) : gSlA (.lst ts) none (some i) = some (.lst (ts.take i.toNat)) := by
  unfold gSlA
  dsimp only
  rw [cutT_to _ h]
theorem gSlA_from {ts : List T} {i : Int} (h : 0 ≤ i) : gSlA (.lst ts) (some i) none = some (.lst (ts.drop i.toNat)) := by
  unfold gSlA
  dsimp only
  rw [cutT_from _ h]
theorem rep_eq {fa fx fi : Ev → Option T} {ev : Ev} {ts : List T} {i : Int} {x : T} (h1 : fa ev = some (.lst ts)) (h2 : fi ev = some (.int i)) (h3 : fx ev = some x) (h0 : 0 ≤ i) (hl : ts.length ≤ 1000) :
    f2 gCatA (f2 gCatA (fSl gSlA fa fNoP (fPart fi)) (fC gLstA (fCons fx fNil))) (fSl gSlA fa (fPart (f2 gAdd fi (fK (.int 1)))) fNoP) ev = some (.lst (rep ts i.toNat x)) := by
  refine (f2_eq ((f2_eq ((fSl_eq h1 rfl (fPart_eq h2)).trans (gSlA_to h0)) ((fC_eq (fCons_eq h3 rfl)).trans (gLstA_small (by simp)))).trans (gCatA_small ?_)) ((fSl_eq h1 (fPart_eq (i := i + 1) ((f2_eq h2 rfl).trans rfl)) rfl).trans (gSlA_from (by omega)))).trans ((gCatA_small ?_).trans ?_)
  · simp; omega
  · simp; omega
  · rw [show (i + 1).toNat = i.toNat + 1 by omega]; rfl
theorem ins_eq {fa fx fi : Ev → Option T} {ev : Ev} {ts : List T} {i : Int} {x : T} (h1 : fa ev = some (.lst ts)) (h2 : fi ev = some (.int i)) (h3 : fx ev = some x) (h0 : 0 ≤ i) (hl : ts.length ≤ 1000) :
    f2 gCatA (f2 gCatA (fSl gSlA fa fNoP (fPart fi)) (fC gLstA (fCons fx fNil))) (fSl gSlA fa (fPart fi) fNoP) ev = some (.lst (ts.take i.toNat ++ [x] ++ ts.drop i.toNat)) := by
  refine (f2_eq ((f2_eq ((fSl_eq h1 rfl (fPart_eq h2)).trans (gSlA_to h0)) ((fC_eq (fCons_eq h3 rfl)).trans (gLstA_small (by simp)))).trans (gCatA_small ?_)) ((fSl_eq h1 (fPart_eq h2) rfl).trans (gSlA_from h0))).trans (gCatA_small ?_)
  · simp; omega
  · simp; omega
theorem del_eq {fa fi : Ev → Option T} {ev : Ev} {ts : List T} {i : Int} (h1 : fa ev = some (.lst ts)) (h2 : fi ev = some (.int i)) (h0 : 0 ≤ i) (hl : ts.length ≤ 1000) :
    f2 gCatA (fSl gSlA fa fNoP (fPart fi)) (fSl gSlA fa (fPart (f2 gAdd fi (fK (.int 1)))) fNoP) ev = some (.lst (ts.take i.toNat ++ ts.drop (i.toNat + 1))) := by
  refine (f2_eq ((fSl_eq h1 rfl (fPart_eq h2)).trans (gSlA_to h0)) ((fSl_eq h1 (fPart_eq (i := i + 1) ((f2_eq h2 rfl).trans rfl)) rfl).trans (gSlA_from (by omega)))).trans ((gCatA_small ?_).trans ?_)
  · simp; omega
  · rw [show (i + 1).toNat = i.toNat + 1 by omega]
theorem rep_len (ts : List T) {i : Nat} (h : i < ts.length) (x : T) : (rep ts i x).length = ts.length := by unfold rep; simp; omega
theorem rep_mem {ts : List T} {i : Nat} {x y : T} (h : y ∈ rep ts i x) : y = x ∨ y ∈ ts := by
  unfold rep at h
  rcases List.mem_append.mp h with h | h
  · rcases List.mem_append.mp h with h | h
    · exact .inr (List.mem_of_mem_take h)
    · exact .inl (List.mem_singleton.mp h)
  · exact .inr (List.mem_of_mem_drop h)
theorem first_bad {R C : Int} {pre post : List T} {x : T} {c : Str} (hp : ∀ y ∈ pre, itemR R C y = none) (hx : itemR R C x = some c) : (pre ++ [x] ++ post).findSome? (itemR R C) = some c := by
  rw [List.append_assoc, List.findSome?_append, List.findSome?_eq_none_iff.mpr hp]
  show (List.findSome? (itemR R C) (x :: post)) = _
  rw [List.findSome?_cons, hx]
/-! ### how often squares are told -/
theorem ex_bool (p : Prop) : ∃ b : Bool, b = true ↔ p := by
  by_cases h : p
  · exact ⟨true, by simp [h]⟩
  · exact ⟨false, by simp [h]⟩
theorem made_shared {R C : Nat} (hR : 1 ≤ R ∧ R ≤ 20) (hC : 1 ≤ C ∧ C ≤ 20) {cs : List Cell} (h : ∀ c ∈ cs, Good R C c) (hl : cs.length ≤ 100000) {i j : Nat} (hi : i < R) (hj : j < C) (h2 : 1 < cnt cs i j) :
    m_made [.int (R : Nat), .int (C : Nat), .lst (cs.map cellT)] = some (.ex "Shared") := by
  obtain ⟨b2, hb2⟩ := ex_bool (∃ i j, i < R ∧ j < C ∧ cnt cs i j < 1)
  rw [made_good hR hC h hl true b2 ⟨fun _ => ⟨i, j, hi, hj, h2⟩, fun _ => rfl⟩ hb2]
  rfl
theorem made_bare {R C : Nat} (hR : 1 ≤ R ∧ R ≤ 20) (hC : 1 ≤ C ∧ C ≤ 20) {cs : List Cell} (h : ∀ c ∈ cs, Good R C c) (hl : cs.length ≤ 100000) (h1 : ∀ i j, i < R → j < C → cnt cs i j ≤ 1) {i j : Nat} (hi : i < R) (hj : j < C) (h2 : cnt cs i j < 1) :
    m_made [.int (R : Nat), .int (C : Nat), .lst (cs.map cellT)] = some (.ex "Bare") := by
  rw [made_good hR hC h hl false true ⟨fun q => (by cases q), fun ⟨i, j, hi, hj, q⟩ => by have := h1 i j hi hj; omega⟩ ⟨fun _ => ⟨i, j, hi, hj, h2⟩, fun _ => rfl⟩]
  rfl
theorem made_fine {R C : Nat} (hR : 1 ≤ R ∧ R ≤ 20) (hC : 1 ≤ C ∧ C ≤ 20) {cs : List Cell} (h : ∀ c ∈ cs, Good R C c) (hl : cs.length ≤ 100000) (h1 : ∀ i j, i < R → j < C → cnt cs i j = 1) :
    m_made [.int (R : Nat), .int (C : Nat), .lst (cs.map cellT)] = some (.fr (tabT R C (sortCells cs))) := by
  rw [made_good hR hC h hl false false ⟨fun q => (by cases q), fun ⟨i, j, hi, hj, q⟩ => by have := h1 i j hi hj; omega⟩ ⟨fun q => (by cases q), fun ⟨i, j, hi, hj, q⟩ => by have := h1 i j hi hj; omega⟩]
  rfl
/-- the first square of a cell -/
theorem has_corner {R C : Nat} {c : Cell} (h : BoxOk R C c.1) : ∃ i j : Nat, i < R ∧ j < C ∧ hasC i j c = true := by
  obtain ⟨h1, h2, h3, h4, h5, h6⟩ := h
  refine ⟨c.1.1.toNat, c.1.2.1.toNat, by omega, by omega, ?_⟩
  unfold hasC
  rw [has_iff]
  omega
section
variable {R C : Nat} {cs : List Cell}
theorem Cells4.goods (K : Cells4 R C cs) : ∀ c ∈ cs, Good R C c := fun c hc => ⟨K.ok.tiles.ok c.1 (List.mem_map_of_mem hc), K.ok.good c hc⟩
theorem Cells4.items (K : Cells4 R C cs) : ∀ x ∈ cs.map cellT, itemR R C x = none ∧ SmallI x ∧ Sk 3 x := fun x hx => by
  obtain ⟨c, hc, rfl⟩ := List.mem_map.mp hx
  obtain ⟨h1, h2⟩ := item_good (K.goods c hc)
  refine ⟨h1, h2, sk5 ⟨(sk_int _).up (by decide), (sk_int _).up (by decide), (sk_int _).up (by decide), (sk_int _).up (by decide), (sk_str (K.ok.good c hc).small).up (by decide)⟩⟩
theorem Cells4.pick (K : Cells4 R C cs) {i : Int} (h : 0 ≤ i ∧ i < cs.length) : ∃ c, cs[i.toNat]? = some c ∧ c ∈ cs ∧ BoxOk R C c.1 ∧ gIx (.lst (cs.map cellT)) (.int i) = some (cellT c) ∧ ∃ l : List Nat, c.2 = [l] ∧ (∀ x ∈ l, okC x) ∧ l.length ≤ 6 := by
  have hlt : i.toNat < cs.length := by omega
  have hm : cs[i.toNat] ∈ cs := List.getElem_mem hlt
  refine ⟨cs[i.toNat], List.getElem?_eq_getElem hlt, hm, K.ok.tiles.ok _ (List.mem_map_of_mem hm), gIx_at h.1 ?_, K.one _ hm⟩
  rw [List.getElem?_map, List.getElem?_eq_getElem hlt]
  rfl
theorem Cells4.bad (K : Cells4 R C cs) (hR : R ≤ 20) (hC : C ≤ 20) {i : Int} (h : 0 ≤ i ∧ i < cs.length) (n : Int) :
    ∃ x, gIx (.lst (cs.map cellT)) (.int i) = some (cellT (cs.getD i.toNat ((0, 0, 0, 0), []))) ∧ m_law_bad_cell [cellT (cs.getD i.toNat ((0, 0, 0, 0), [])), .int n] = some (.ok x) ∧ itemR R C x = some "BadCell" ∧ SmallI x ∧ Sk 3 x := by
  obtain ⟨c, h1, hm, ok, h2, l, hl, hok, h6⟩ := K.pick h
  obtain ⟨x, hx, hr⟩ := bad_cell (R := R) (C := C) (by omega) (by omega) ok (e := .str (txt c.2)) (show (txt c.2).length ≤ 50000 by rw [len_txt]; have := (K.ok.good c hm).len; omega) ((sk_str (K.ok.good c hm).small).up (by decide)) n
  have e : cs.getD i.toNat ((0, 0, 0, 0), []) = c := by rw [List.getD_eq_getElem?_getD, h1]; rfl
  rw [e]
  exact ⟨x, h2, hx, hr⟩
theorem Cells4.bad2 (K : Cells4 R C cs) (hR : R ≤ 20) (hC : C ≤ 20) {i : Int} (h : 0 ≤ i ∧ i < cs.length) (n m : Int) :
    ∃ y x, m_law_bad_text [cellT (cs.getD i.toNat ((0, 0, 0, 0), [])), .int n] = some (.ok y) ∧ m_law_bad_cell [y, .int m] = some (.ok x) ∧ itemR R C x = some "BadCell" ∧ SmallI x ∧ Sk 3 x := by
  obtain ⟨c, h1, hm, ok, h2, l, hl, hok, h6⟩ := K.pick h
  have e : cs.getD i.toNat ((0, 0, 0, 0), []) = c := by rw [List.getD_eq_getElem?_getD, h1]; rfl
  rw [e]
  obtain ⟨e, he, hg, hs, hk⟩ := bad_text (b := c.1) hok h6 n
  have ec : cellT c = itT c.1 (.str (ofL l)) := by
    show itT c.1 (.str (txt c.2)) = _
    rw [hl]; rfl
  rw [ec]
  obtain ⟨x, hx, hr⟩ := bad_cell (R := R) (C := C) (by omega) (by omega) ok hs hk m
  exact ⟨_, x, he, hx, hr⟩
theorem Cells4.badT (K : Cells4 R C cs) {i : Int} (h : 0 ≤ i ∧ i < cs.length) (n : Int) :
    ∃ y, m_law_bad_text [cellT (cs.getD i.toNat ((0, 0, 0, 0), [])), .int n] = some (.ok y) ∧ itemR R C y = some "BadText" ∧ SmallI y ∧ Sk 3 y := by
  obtain ⟨c, h1, hm, ok, h2, l, hl, hok, h6⟩ := K.pick h
  have e : cs.getD i.toNat ((0, 0, 0, 0), []) = c := by rw [List.getD_eq_getElem?_getD, h1]; rfl
  rw [e]
  obtain ⟨e, he, hg, hs, hk⟩ := bad_text (b := c.1) hok h6 n
  have ec : cellT c = itT c.1 (.str (ofL l)) := by
    show itT c.1 (.str (txt c.2)) = _
    rw [hl]; rfl
  rw [ec]
  refine ⟨_, he, item_text ?_ hg, hs, sk5 ⟨(sk_int _).up (by decide), (sk_int _).up (by decide), (sk_int _).up (by decide), (sk_int _).up (by decide), hk⟩⟩
  rw [liesB_int, inB_iff]
  exact ok
/-- one bad item among good ones -/
theorem Cells4.one_bad (K : Cells4 R C cs) (hR : 1 ≤ R ∧ R ≤ 20) (hC : 1 ≤ C ∧ C ≤ 20) (i : Nat) {x : T} {c : Str} (h1 : itemR R C x = some c) (h2 : SmallI x) (h3 : Sk 3 x) :
    m_made [.int (R : Nat), .int (C : Nat), .lst (rep (cs.map cellT) i x)] = some (.ex c) ∧ ∀ y ∈ rep (cs.map cellT) i x, Sk 3 y := by
  refine ⟨made_item (by omega) (by omega) (first_bad (fun y hy => (K.items y (List.mem_of_mem_take hy)).1) h1) fun y hy => ?_, fun y hy => ?_⟩
  · rcases rep_mem hy with rfl | hy
    · exact h2
    · exact (K.items y hy).2.1
  · rcases rep_mem hy with rfl | hy
    · exact h3
    · exact (K.items y hy).2.2
theorem two_cnt {α : Type} {xs : List α} {p : α → Bool} {i j : Nat} (hij : i < j) {a b : α} (hi : xs[i]? = some a) (hj : xs[j]? = some b) (pa : p a = true) (pb : p b = true) : 2 ≤ xs.countP p := by
  have e := List.take_append_drop j xs
  rw [← e, List.countP_append]
  have h1 : 0 < (xs.take j).countP p := List.countP_pos_iff.mpr ⟨a, List.mem_of_getElem? (i := i) (by rw [List.getElem?_take, if_pos hij, hi]), pa⟩
  have h2 : 0 < (xs.drop j).countP p := List.countP_pos_iff.mpr ⟨b, List.mem_of_getElem? (i := 0) (by rw [List.getElem?_drop]; exact hj), pb⟩
  omega
theorem two_cnt' {α : Type} {xs : List α} {p : α → Bool} {i j : Nat} (hij : i ≠ j) {a b : α} (hi : xs[i]? = some a) (hj : xs[j]? = some b) (pa : p a = true) (pb : p b = true) : 2 ≤ xs.countP p := by
  rcases Nat.lt_or_gt_of_ne hij with h | h
  · exact two_cnt h hi hj pa pb
  · exact two_cnt h hj hi pb pa
end
end K04

namespace K04
open PySem PySem.Spec L2 Fx Bx Mx
open PyProof.Rows hiding St
def spR : Ev → Option Out := (fSeq (fIf (fTest (f2 gEq (fVar 1) (fK (.int 2))))
  (fSeq (fSet 6 (f2 gIx (fVar 0) (fVar 3)))
  (fSeq (fIf (fTest (f2 gEq (f2 gMod (fVar 2) (fK (.int 3))) (fK (.int 1))))
  (fSet 6 (fCall m_law_bad_text (fCons (fVar 6) (fCons (f2 gDiv (fVar 5) (fK (.int 9))) fNil))))
  fSkip)
  (fRet (fC gTup (fCons (f2 gCatA (f2 gCatA (fSl gSlA (fVar 0) fNoP (fPart (fVar 3))) (fC gLstA (fCons (fCall m_law_bad_cell (fCons (fVar 6) (fCons (fVar 5) fNil))) fNil))) (fSl gSlA (fVar 0) (fPart (f2 gAdd (fVar 3) (fK (.int 1)))) fNoP)) (fCons (fK (.str "cell")) fNil))))))
  fSkip)
  (fSeq (fIf (fTest (f2 gEq (fVar 1) (fK (.int 3))))
  (fRet (fC gTup (fCons (f2 gCatA (f2 gCatA (fSl gSlA (fVar 0) fNoP (fPart (fVar 3))) (fC gLstA (fCons (fCall m_law_bad_text (fCons (f2 gIx (fVar 0) (fVar 3)) (fCons (fVar 5) fNil))) fNil))) (fSl gSlA (fVar 0) (fPart (f2 gAdd (fVar 3) (fK (.int 1)))) fNoP)) (fCons (fK (.str "text")) fNil))))
  fSkip)
  (fSeq (fIf (fTest (f2 gEq (fVar 1) (fK (.int 4))))
  (fRet (fC gTup (fCons (f2 gCatA (f2 gCatA (fSl gSlA (fVar 0) fNoP (fPart (fVar 4))) (fC gLstA (fCons (f2 gIx (fVar 0) (fVar 3)) fNil))) (fSl gSlA (fVar 0) (fPart (fVar 4)) fNoP)) (fCons (fK (.str "shared")) fNil))))
  fSkip)
  (fSeq (fIf (fTest (f2 gEq (fVar 1) (fK (.int 5))))
  (fRet (fC gTup (fCons (f2 gCatA (fSl gSlA (fVar 0) fNoP (fPart (fVar 3))) (fSl gSlA (fVar 0) (fPart (f2 gAdd (fVar 3) (fK (.int 1)))) fNoP)) (fCons (fK (.str "bare")) fNil))))
  fSkip)
  (fSeq (fIf (fAnd (fTest (f2 gEq (fVar 1) (fK (.int 6)))) (fTest (f2 gNe (fVar 3) (fVar 4))))
  (fRet (fC gTup (fCons (f2 gCatA (f2 gCatA (fSl gSlA (fVar 0) fNoP (fPart (fVar 4))) (fC gLstA (fCons (f2 gIx (fVar 0) (fVar 3)) fNil))) (fSl gSlA (fVar 0) (fPart (f2 gAdd (fVar 4) (fK (.int 1)))) fNoP)) (fCons (fK (.str "shared")) fNil))))
  fSkip)
  (fSeq (fIf (fAnd (fTest (f2 gEq (fVar 1) (fK (.int 7)))) (fTest (f2 gNe (fVar 3) (fVar 4))))
  (fSeq (fSet 7 (fC gMin (fCons (fVar 3) (fCons (fVar 4) fNil))))
  (fSeq (fSet 8 (f2 gCatA (f2 gCatA (fSl gSlA (fVar 0) fNoP (fPart (fVar 3))) (fC gLstA (fCons (fCall m_law_bad_text (fCons (f2 gIx (fVar 0) (fVar 3)) (fCons (fVar 5) fNil))) fNil))) (fSl gSlA (fVar 0) (fPart (f2 gAdd (fVar 3) (fK (.int 1)))) fNoP)))
  (fSeq (fSet 8 (f2 gCatA (f2 gCatA (fSl gSlA (fVar 8) fNoP (fPart (fVar 4))) (fC gLstA (fCons (fCall m_law_bad_cell (fCons (f2 gIx (fVar 0) (fVar 4)) (fCons (f2 gDiv (fVar 5) (fK (.int 9))) fNil))) fNil))) (fSl gSlA (fVar 8) (fPart (f2 gAdd (fVar 4) (fK (.int 1)))) fNoP)))
  (fRet (fC gTup (fCons (fVar 8) (fCons (f2 gIx (fC gLstA (fCons (fK (.str "text")) (fCons (fK (.str "cell")) fNil))) (fC gInt (fCons (f2 gEq (fVar 7) (fVar 4)) fNil))) fNil)))))))
  fSkip)
  (fSeq (fIf (fTest (f2 gEq (fVar 1) (fK (.int 9))))
  (fSeq (fSet 9 (f2 gIx (fC gLstA (fCons (fCall m_law_bad_text (fCons (f2 gIx (fVar 0) (fVar 3)) (fCons (f2 gDiv (fVar 5) (fK (.int 4))) fNil))) (fCons (fCall m_law_bad_cell (fCons (f2 gIx (fVar 0) (fVar 3)) (fCons (f2 gDiv (fVar 5) (fK (.int 4))) fNil))) fNil))) (f2 gMod (fVar 5) (fK (.int 2)))))
  (fSeq (fSet 8 (f2 gCatA (f2 gCatA (fSl gSlA (fVar 0) fNoP (fPart (fVar 3))) (fC gLstA (fCons (fVar 9) fNil))) (fSl gSlA (fVar 0) (fPart (f2 gAdd (fVar 3) (fK (.int 1)))) fNoP)))
  (fSeq (fIf (fTest (f2 gEq (f2 gMod (f2 gDiv (fVar 5) (fK (.int 2))) (fK (.int 2))) (fK (.int 0))))
  (fRet (fC gTup (fCons (f2 gCatA (fVar 8) (fC gLstA (fCons (f2 gIx (fVar 0) (fVar 4)) fNil))) (fCons (f2 gIx (fC gLstA (fCons (fK (.str "text")) (fCons (fK (.str "cell")) fNil))) (f2 gMod (fVar 5) (fK (.int 2)))) fNil))))
  fSkip)
  (fRet (fC gTup (fCons (f2 gCatA (fC gLstA (fCons (f2 gIx (fVar 0) (fVar 4)) fNil)) (fVar 8)) (fCons (f2 gIx (fC gLstA (fCons (fK (.str "text")) (fCons (fK (.str "cell")) fNil))) (f2 gMod (fVar 5) (fK (.int 2)))) fNil)))))))
  fSkip)
  (fRet (fC gTup (fCons (f2 gCatA (f2 gCatA (fSl gSlA (fVar 0) fNoP (fPart (fVar 3))) (fC gLstA (fCons (fCall m_law_bad_cell (fCons (f2 gIx (fVar 0) (fVar 3)) (fCons (fVar 5) fNil))) fNil))) (fSl gSlA (fVar 0) (fPart (f2 gAdd (fVar 3) (fK (.int 1)))) fNoP)) (fCons (fK (.str "cell")) fNil)))))))))))
def spL : Ev → Option Out := (fRet (fC gTup (fCons (f2 gCatA (f2 gCatA (fSl gSlA (fVar 0) fNoP (fPart (fVar 3))) (fC gLstA (fCons (fCall m_law_bad_cell (fCons (f2 gIx (fVar 0) (fVar 3)) (fCons (fVar 5) fNil))) fNil))) (fSl gSlA (fVar 0) (fPart (f2 gAdd (fVar 3) (fK (.int 1)))) fNoP)) (fCons (fK (.str "cell")) fNil))))
section
variable {R C : Nat} {cs : List Cell}
/-- the state behind the three first rows -/
def spS (cs : List Cell) (way n : Int) : Ev := [.sh (.lst (cs.map cellT)), .sh (.int way), .sh (.int n), .sh (.int (n % cs.length)), .sh (.int (n / cs.length % cs.length)), .sh (.int (n / cs.length / cs.length)), .un, .un, .un, .un]
theorem sp_pre (K : Cells4 R C cs) (way n : Int) {t : T} (h : spR (spS cs way n) = some (.rt t)) : m_law_spoilt [.lst (cs.map cellT), .int way, .int n] = some (.ok t) := by
  have hl := K.ok.len
  have hpos : 0 < cs.length := List.length_pos_iff.mpr K.ok.ne
  have hlen : ∀ ev : Ev, fVar 0 ev = some (.lst (cs.map cellT)) → fC gLen (fCons (fVar 0) fNil) ev = some (.int cs.length) := fun ev he => (fC_eq (fCons_eq he rfl)).trans (by
    show some (T.int (((cs.map cellT).length : Nat) : Int)) = _
    rw [List.length_map])
  refine runP_rt rfl ?_
  show body_law_spoilt [.sh (.lst (cs.map cellT)), .sh (.int way), .sh (.int n), .un, .un, .un, .un, .un, .un, .un] = _
  unfold body_law_spoilt
  refine (fSeq_nx (fSet_eq (t := .int (n % cs.length)) ((f2_eq rfl (hlen _ rfl)).trans (gMod_p (by omega))))).trans ?_
  refine (fSeq_nx (fSet_eq (t := .int (n / cs.length % cs.length)) ((f2_eq ((f2_eq rfl (hlen _ rfl)).trans (gDiv_p (by omega) (by omega))) (hlen _ rfl)).trans (gMod_p (by omega))))).trans ?_
  refine (fSeq_nx (fSet_eq (t := .int (n / cs.length / cs.length)) ((f2_eq ((f2_eq rfl (hlen _ rfl)).trans (gDiv_p (by omega) (by omega))) (hlen _ rfl)).trans (gDiv_p (by omega) (by omega))))).trans ?_
  exact h
theorem call_bt {fa fn : Ev → Option T} {ev : Ev} {x y : T} {n : Int} (h1 : fa ev = some x) (h2 : fn ev = some (.int n)) (h : m_law_bad_text [x, .int n] = some (.ok y)) : fCall m_law_bad_text (fCons fa (fCons fn fNil)) ev = some y :=
  fCall_eq (fCons_eq h1 (fCons_eq h2 rfl)) (by rw [h]; rfl)
theorem call_bc {fa fn : Ev → Option T} {ev : Ev} {x y : T} {n : Int} (h1 : fa ev = some x) (h2 : fn ev = some (.int n)) (h : m_law_bad_cell [x, .int n] = some (.ok y)) : fCall m_law_bad_cell (fCons fa (fCons fn fNil)) ev = some y :=
  fCall_eq (fCons_eq h1 (fCons_eq h2 rfl)) (by rw [h]; rfl)
theorem pair_eq {fa fd : Ev → Option T} {ev : Ev} {x d : T} (h1 : fa ev = some x) (h2 : fd ev = some d) : fRet (fC gTup (fCons fa (fCons fd fNil))) ev = some (.rt (.tup [x, d])) :=
  fRet_eq ((fC_eq (fCons_eq h1 (fCons_eq h2 rfl))).trans (gTup_small (by simp)))
/-- what _law_spoilt must bring -/
def SpOk (R C : Nat) (r : Option Out) : Prop := ∃ (xs : List T) (c d : Str), r = some (.rt (.tup [.lst xs, .str d])) ∧ Nm c d ∧ m_made [.int (R : Nat), .int (C : Nat), .lst xs] = some (.ex c) ∧ ∀ x ∈ xs, Sk 3 x
theorem divI {n k : Int} (h : 0 < k ∧ k ≤ 1000) : gDiv (.int n) (.int k) = some (.int (n / k)) := gDiv_p h.1 (by omega)
theorem ixs {cs : List Cell} {i : Int} (h : 0 ≤ i ∧ i < cs.length) : gIx (.lst (cs.map cellT)) (.int i) = some (cellT (cs.getD i.toNat ((0, 0, 0, 0), []))) := by
  have hlt : i.toNat < cs.length := by omega
  refine gIx_at h.1 ?_
  rw [List.getElem?_map, List.getElem?_eq_getElem hlt, List.getD_eq_getElem?_getD, List.getElem?_eq_getElem hlt]
  rfl
theorem sp_last (K : Cells4 R C cs) (hR : 1 ≤ R ∧ R ≤ 20) (hC : 1 ≤ C ∧ C ≤ 20) (way n : Int) : SpOk R C (spL (spS cs way n)) := by
  have hl := K.ok.len
  have hpos : 0 < cs.length := List.length_pos_iff.mpr K.ok.ne
  have ha := mod_ok n cs.length (by omega)
  obtain ⟨x, hx, hb, hi, hs, hk⟩ := K.bad hR.2 hC.2 ha (n / cs.length / cs.length)
  obtain ⟨hm, hall⟩ := K.one_bad hR hC (n % cs.length).toNat hi hs hk
  refine ⟨_, _, _, ?_, .cell, hm, hall⟩
  unfold spL
  exact pair_eq (rep_eq rfl rfl (call_bc ((f2_eq rfl rfl).trans hx) rfl hb) ha.1 (by rw [List.length_map]; omega)) rfl
theorem sp2 (K : Cells4 R C cs) (hR : 1 ≤ R ∧ R ≤ 20) (hC : 1 ≤ C ∧ C ≤ 20) (n : Int) : SpOk R C (spR (spS cs 2 n)) := by
  have hl := K.ok.len
  have hpos : 0 < cs.length := List.length_pos_iff.mpr K.ok.ne
  have ha := mod_ok n cs.length (by omega)
  have hx := ixs ha
  by_cases h3 : n % 3 = 1
  · obtain ⟨y, x, hy, hb, hi, hs, hk⟩ := K.bad2 hR.2 hC.2 ha (n / cs.length / cs.length / 9) (n / cs.length / cs.length)
    obtain ⟨hm, hall⟩ := K.one_bad hR hC (n % cs.length).toNat hi hs hk
    refine ⟨_, _, _, ?_, .cell, hm, hall⟩
    unfold spR
    refine fSeq_rt ((if_eqT rfl rfl rfl).trans ?_)
    refine (fSeq_nx (fSet_eq ((f2_eq rfl rfl).trans hx))).trans ?_
    refine (fSeq_nx ((if_eqT ((f2_eq rfl rfl).trans (gMod_p (by decide))) rfl h3).trans (fSet_eq (call_bt rfl ((f2_eq rfl rfl).trans (divI (by decide))) hy)))).trans ?_
    exact pair_eq (rep_eq rfl rfl (call_bc rfl rfl hb) ha.1 (by rw [List.length_map]; omega)) rfl
  · obtain ⟨x, hx', hb, hi, hs, hk⟩ := K.bad hR.2 hC.2 ha (n / cs.length / cs.length)
    obtain ⟨hm, hall⟩ := K.one_bad hR hC (n % cs.length).toNat hi hs hk
    refine ⟨_, _, _, ?_, .cell, hm, hall⟩
    unfold spR
    refine fSeq_rt ((if_eqT rfl rfl rfl).trans ?_)
    refine (fSeq_nx (fSet_eq ((f2_eq rfl rfl).trans hx))).trans ?_
    refine (fSeq_nx ((if_eqF ((f2_eq rfl rfl).trans (gMod_p (by decide))) rfl h3).trans rfl)).trans ?_
    exact pair_eq (rep_eq rfl rfl (call_bc rfl rfl hb) ha.1 (by rw [List.length_map]; omega)) rfl
theorem sp3 (K : Cells4 R C cs) (hR : 1 ≤ R ∧ R ≤ 20) (hC : 1 ≤ C ∧ C ≤ 20) (n : Int) : SpOk R C (spR (spS cs 3 n)) := by
  have hl := K.ok.len
  have hpos : 0 < cs.length := List.length_pos_iff.mpr K.ok.ne
  have ha := mod_ok n cs.length (by omega)
  have hx := ixs ha
  obtain ⟨y, hy, hi, hs, hk⟩ := K.badT ha (n / cs.length / cs.length)
  obtain ⟨hm, hall⟩ := K.one_bad hR hC (n % cs.length).toNat hi hs hk
  refine ⟨_, _, _, ?_, .text, hm, hall⟩
  unfold spR
  refine (fSeq_nx ((if_eqF rfl rfl (by decide)).trans rfl)).trans ?_
  refine fSeq_rt ((if_eqT rfl rfl rfl).trans ?_)
  exact pair_eq (rep_eq rfl rfl (call_bt ((f2_eq rfl rfl).trans hx) rfl hy) ha.1 (by rw [List.length_map]; omega)) rfl
theorem goods_sub (K : Cells4 R C cs) {ds : List Cell} (h : ∀ c ∈ ds, c ∈ cs) : (∀ c ∈ ds, Good R C c) ∧ ∀ x ∈ ds.map cellT, Sk 3 x :=
  ⟨fun c hc => K.goods c (h c hc), fun x hx => by
    obtain ⟨c, hc, rfl⟩ := List.mem_map.mp hx
    exact (K.items _ (List.mem_map_of_mem (h c hc))).2.2⟩
theorem cnt_in (K : Cells4 R C cs) (c : Cell) (hc : c ∈ cs) : ∃ i j : Nat, i < R ∧ j < C ∧ hasC i j c = true ∧ cs.countP (hasC i j) = 1 := by
  obtain ⟨i, j, hi, hj, h⟩ := has_corner (K.ok.tiles.ok c.1 (List.mem_map_of_mem hc))
  refine ⟨i, j, hi, hj, h, ?_⟩
  have := cnt_tiles K.ok.tiles hi hj
  unfold Mx.cnt at this
  omega
theorem sp4 (K : Cells4 R C cs) (hR : 1 ≤ R ∧ R ≤ 20) (hC : 1 ≤ C ∧ C ≤ 20) (n : Int) : SpOk R C (spR (spS cs 4 n)) := by
  have hl := K.ok.len
  have hpos : 0 < cs.length := List.length_pos_iff.mpr K.ok.ne
  have ha := mod_ok n cs.length (by omega)
  have ho := mod_ok (n / cs.length) cs.length (by omega)
  have hx := ixs ha
  have hlt : (n % cs.length).toNat < cs.length := by omega
  generalize ec : cs.getD (n % cs.length).toNat ((0, 0, 0, 0), []) = c at hx
  have hm : c ∈ cs := by
    rw [← ec, List.getD_eq_getElem?_getD, List.getElem?_eq_getElem hlt]
    exact List.getElem_mem hlt
  generalize ek : (n / cs.length % cs.length).toNat = k
  have hsub := goods_sub K (ds := cs.take k ++ [c] ++ cs.drop k) fun d hd => by
    rcases List.mem_append.mp hd with hd | hd
    · rcases List.mem_append.mp hd with hd | hd
      · exact List.mem_of_mem_take hd
      · rw [List.mem_singleton.mp hd]; exact hm
    · exact List.mem_of_mem_drop hd
  obtain ⟨i, j, hi, hj, hh, h1⟩ := cnt_in K c hm
  have h2 : 1 < cnt (cs.take k ++ [c] ++ cs.drop k) i j := by
    unfold Mx.cnt
    rw [List.countP_append, List.countP_append, List.countP_cons, List.countP_nil, if_pos hh]
    have e := List.take_append_drop k cs
    rw [← e, List.countP_append] at h1
    omega
  refine ⟨(cs.take k ++ [c] ++ cs.drop k).map cellT, _, _, ?_, .shared, made_shared hR hC hsub.1 (by simp; omega) hi hj h2, hsub.2⟩
  unfold spR
  refine (fSeq_nx ((if_eqF rfl rfl (by decide)).trans rfl)).trans ?_
  refine (fSeq_nx ((if_eqF rfl rfl (by decide)).trans rfl)).trans ?_
  refine fSeq_rt ((if_eqT rfl rfl rfl).trans ?_)
  rw [List.map_append, List.map_append, List.map_take, List.map_drop, ← ek]
  exact pair_eq (ins_eq rfl rfl ((f2_eq rfl rfl).trans hx) ho.1 (by rw [List.length_map]; omega)) rfl
theorem sp5 (K : Cells4 R C cs) (hR : 1 ≤ R ∧ R ≤ 20) (hC : 1 ≤ C ∧ C ≤ 20) (n : Int) : SpOk R C (spR (spS cs 5 n)) := by
  have hl := K.ok.len
  have hpos : 0 < cs.length := List.length_pos_iff.mpr K.ok.ne
  have ha := mod_ok n cs.length (by omega)
  have hlt : (n % cs.length).toNat < cs.length := by omega
  have ea : (n % cs.length).toNat = (n % (cs.length : Int)).toNat := rfl
  generalize ek : (n % cs.length).toNat = k at hlt
  have hm : cs[k] ∈ cs := List.getElem_mem hlt
  have hsplit : cs = cs.take k ++ cs[k] :: cs.drop (k + 1) := by rw [← List.drop_eq_getElem_cons hlt, List.take_append_drop]
  have hsub := goods_sub K (ds := cs.take k ++ cs.drop (k + 1)) fun d hd => by
    rcases List.mem_append.mp hd with hd | hd
    · exact List.mem_of_mem_take hd
    · exact List.mem_of_mem_drop hd
  obtain ⟨i, j, hi, hj, hh, h1⟩ := cnt_in K cs[k] hm
  have hle : ∀ i j : Nat, i < R → j < C → cnt (cs.take k ++ cs.drop (k + 1)) i j ≤ 1 := fun i j hi hj => by
    have h := cnt_tiles K.ok.tiles hi hj
    unfold Mx.cnt at h ⊢
    rw [hsplit, List.countP_append, List.countP_cons] at h
    rw [List.countP_append]
    omega
  have h0 : cnt (cs.take k ++ cs.drop (k + 1)) i j < 1 := by
    unfold Mx.cnt
    have h := h1
    rw [hsplit, List.countP_append, List.countP_cons, if_pos hh] at h
    rw [List.countP_append]
    omega
  refine ⟨(cs.take k ++ cs.drop (k + 1)).map cellT, _, _, ?_, .bare, made_bare hR hC hsub.1 (by simp; omega) hle hi hj h0, hsub.2⟩
  unfold spR
  refine (fSeq_nx ((if_eqF rfl rfl (by decide)).trans rfl)).trans ?_
  refine (fSeq_nx ((if_eqF rfl rfl (by decide)).trans rfl)).trans ?_
  refine (fSeq_nx ((if_eqF rfl rfl (by decide)).trans rfl)).trans ?_
  refine fSeq_rt ((if_eqT rfl rfl rfl).trans ?_)
  rw [List.map_append, List.map_take, List.map_drop, ← ek]
  exact pair_eq (del_eq rfl rfl ha.1 (by rw [List.length_map]; omega)) rfl
theorem and_ne {f g h k : Ev → Option T} {ev : Ev} {w v a o : Int} (h1 : f ev = some (.int w)) (h2 : g ev = some (.int v)) (h3 : h ev = some (.int a)) (h4 : k ev = some (.int o)) : fAnd (fTest (f2 gEq f g)) (fTest (f2 gNe h k)) ev = some (decide (w = v) && decide (a ≠ o)) := by
  have e1 : fTest (f2 gEq f g) ev = some (decide (w = v)) := fTest_eq ((f2_eq h1 h2).trans rfl)
  have e2 : fTest (f2 gNe h k) ev = some (decide (a ≠ o)) := fTest_eq ((f2_eq h3 h4).trans (by
    show some (T.bl (!decide (a = o))) = _
    by_cases q : a = o <;> simp [q]))
  rw [fAnd_ev, e1, Option.bind_some]
  cases decide (w = v)
  · rfl
  · rw [if_pos rfl, e2]; rfl
/-- way 6 and way 7 where both places are one -/
theorem sp_same (K : Cells4 R C cs) (hR : 1 ≤ R ∧ R ≤ 20) (hC : 1 ≤ C ∧ C ≤ 20) (way n : Int) (hw : way = 8 ∨ ((way = 6 ∨ way = 7) ∧ n % cs.length = n / cs.length % cs.length)) : SpOk R C (spR (spS cs way n)) := by
  obtain ⟨xs, c, d, h, hr⟩ := sp_last K hR hC way n
  refine ⟨xs, c, d, ?_, hr⟩
  rw [← h]
  unfold spR
  have hand : ∀ v : Int, v = 6 ∨ v = 7 → (decide (way = v) && decide (n % (cs.length : Int) ≠ n / cs.length % cs.length)) = false := fun v hv => by
    rcases hw with rfl | ⟨_, hq⟩
    · rcases hv with rfl | rfl <;> rfl
    · have : decide (n % (cs.length : Int) ≠ n / cs.length % cs.length) = false := decide_eq_false fun q => q hq
      rw [this, Bool.and_false]
  have w2 : way ≠ 2 := by omega
  have w3 : way ≠ 3 := by omega
  have w4 : way ≠ 4 := by omega
  have w5 : way ≠ 5 := by omega
  have w9 : way ≠ 9 := by omega
  refine (fSeq_nx ((if_eqF rfl rfl w2).trans rfl)).trans ?_
  refine (fSeq_nx ((if_eqF rfl rfl w3).trans rfl)).trans ?_
  refine (fSeq_nx ((if_eqF rfl rfl w4).trans rfl)).trans ?_
  refine (fSeq_nx ((if_eqF rfl rfl w5).trans rfl)).trans ?_
  refine (fSeq_nx ((fIf_f ((and_ne rfl rfl rfl rfl).trans (congrArg some (hand 6 (.inl rfl))))).trans rfl)).trans ?_
  refine (fSeq_nx ((fIf_f ((and_ne rfl rfl rfl rfl).trans (congrArg some (hand 7 (.inr rfl))))).trans rfl)).trans ?_
  refine (fSeq_nx ((if_eqF rfl rfl w9).trans rfl)).trans ?_
  rfl
theorem sp6 (K : Cells4 R C cs) (hR : 1 ≤ R ∧ R ≤ 20) (hC : 1 ≤ C ∧ C ≤ 20) (n : Int) : SpOk R C (spR (spS cs 6 n)) := by
  by_cases hne : n % cs.length = n / cs.length % cs.length
  · exact sp_same K hR hC 6 n (.inr ⟨.inl rfl, hne⟩)
  have hl := K.ok.len
  have hpos : 0 < cs.length := List.length_pos_iff.mpr K.ok.ne
  have ha := mod_ok n cs.length (by omega)
  have ho := mod_ok (n / cs.length) cs.length (by omega)
  have hx := ixs ha
  have hlt : (n % cs.length).toNat < cs.length := by omega
  have hlo : (n / cs.length % cs.length).toNat < cs.length := by omega
  have hnn : (n % cs.length).toNat ≠ (n / cs.length % cs.length).toNat := by omega
  generalize ec : cs.getD (n % cs.length).toNat ((0, 0, 0, 0), []) = c at hx
  have hc : cs[(n % cs.length).toNat]? = some c := by rw [← ec, List.getD_eq_getElem?_getD, List.getElem?_eq_getElem hlt]; rfl
  have hm : c ∈ cs := List.mem_of_getElem? hc
  generalize ek : (n / cs.length % cs.length).toNat = k at hlo hnn
  have hset : cs.take k ++ [c] ++ cs.drop (k + 1) = cs.set k c := by
    rw [List.set_eq_take_append_cons_drop, if_pos hlo, List.append_assoc]
    rfl
  have hsub := goods_sub K (ds := cs.take k ++ [c] ++ cs.drop (k + 1)) fun d hd => by
    rcases List.mem_append.mp hd with hd | hd
    · rcases List.mem_append.mp hd with hd | hd
      · exact List.mem_of_mem_take hd
      · rw [List.mem_singleton.mp hd]; exact hm
    · exact List.mem_of_mem_drop hd
  obtain ⟨i, j, hi, hj, hh, h1⟩ := cnt_in K c hm
  have h2 : 1 < cnt (cs.take k ++ [c] ++ cs.drop (k + 1)) i j := by
    unfold Mx.cnt
    rw [hset]
    have := two_cnt' (xs := cs.set k c) (p := hasC i j) hnn (a := c) (b := c) (by rw [List.getElem?_set_ne (Ne.symm hnn)]; exact hc) (by rw [List.getElem?_set_self hlo]) hh hh
    omega
  refine ⟨(cs.take k ++ [c] ++ cs.drop (k + 1)).map cellT, _, _, ?_, .shared, made_shared hR hC hsub.1 (by simp; omega) hi hj h2, hsub.2⟩
  unfold spR
  refine (fSeq_nx ((if_eqF rfl rfl (by decide)).trans rfl)).trans ?_
  refine (fSeq_nx ((if_eqF rfl rfl (by decide)).trans rfl)).trans ?_
  refine (fSeq_nx ((if_eqF rfl rfl (by decide)).trans rfl)).trans ?_
  refine (fSeq_nx ((if_eqF rfl rfl (by decide)).trans rfl)).trans ?_
  refine fSeq_rt ((fIf_t ((and_ne (w := 6) (v := 6) rfl rfl rfl rfl).trans (by rw [decide_eq_true hne]; rfl))).trans ?_)
  rw [List.map_append, List.map_append, List.map_take, List.map_drop, ← ek]
  exact pair_eq (rep_eq rfl rfl ((f2_eq rfl rfl).trans hx) ho.1 (by rw [List.length_map]; omega)) rfl
theorem int_pick {x y : T} {b : Bool} : ∃ z, gIx (.lst [x, y]) (.int (if b then 1 else 0)) = some z ∧ z = if b then y else x := by
  cases b
  · exact ⟨x, rfl, rfl⟩
  · exact ⟨y, rfl, rfl⟩
theorem rep_set {ts : List T} {i : Nat} (h : i < ts.length) (x : T) : rep ts i x = ts.set i x := by
  rw [List.set_eq_take_append_cons_drop, if_pos h]
  unfold rep
  rw [List.append_assoc]
  rfl
/-- the first bad item, by its place -/
theorem find_at {R C : Int} : ∀ {ys : List T} {i : Nat} {y : T} {c : Str}, ys[i]? = some y → itemR R C y = some c → (∀ j, j < i → ∀ z, ys[j]? = some z → itemR R C z = none) → ys.findSome? (itemR R C) = some c
  | [], i, y, c, h, _, _ => by simp at h
  | x :: xs, 0, y, c, h, hy, _ => by
    have e : x = y := by simpa using h
    rw [List.findSome?_cons, e, hy]
  | x :: xs, i + 1, y, c, h, hy, hn => by
    rw [List.findSome?_cons, hn 0 (Nat.zero_lt_succ _) x rfl]
    exact find_at (i := i) (by simpa using h) hy fun j hj z hz => hn (j + 1) (Nat.succ_lt_succ hj) z (by simpa using hz)
theorem sp7 (K : Cells4 R C cs) (hR : 1 ≤ R ∧ R ≤ 20) (hC : 1 ≤ C ∧ C ≤ 20) (n : Int) : SpOk R C (spR (spS cs 7 n)) := by
  by_cases hne : n % cs.length = n / cs.length % cs.length
  · exact sp_same K hR hC 7 n (.inr ⟨.inr rfl, hne⟩)
  have hl := K.ok.len
  have hpos : 0 < cs.length := List.length_pos_iff.mpr K.ok.ne
  have ha := mod_ok n cs.length (by omega)
  have ho := mod_ok (n / cs.length) cs.length (by omega)
  have hx := ixs ha
  have hx2 := ixs ho
  have hlt : (n % cs.length).toNat < (cs.map cellT).length := by rw [List.length_map]; omega
  have hlo : (n / cs.length % cs.length).toNat < (cs.map cellT).length := by rw [List.length_map]; omega
  have hnn : (n % cs.length).toNat ≠ (n / cs.length % cs.length).toNat := by omega
  obtain ⟨y, hy, hyi, hys, hyk⟩ := K.badT ha (n / cs.length / cs.length)
  obtain ⟨x, _, hb, hxi, hxs, hxk⟩ := K.bad hR.2 hC.2 ho (n / cs.length / cs.length / 9)
  have hmem : ∀ z ∈ rep (rep (cs.map cellT) (n % cs.length).toNat y) (n / cs.length % cs.length).toNat x, SmallI z ∧ Sk 3 z := fun z hz => by
    rcases rep_mem hz with rfl | hz
    · exact ⟨hxs, hxk⟩
    · rcases rep_mem hz with rfl | hz
      · exact ⟨hys, hyk⟩
      · exact ⟨(K.items z hz).2.1, (K.items z hz).2.2⟩
  have hset : rep (rep (cs.map cellT) (n % cs.length).toNat y) (n / cs.length % cs.length).toNat x = ((cs.map cellT).set (n % cs.length).toNat y).set (n / cs.length % cs.length).toNat x := by
    rw [rep_set (by rw [rep_len _ hlt]; exact hlo), rep_set hlt]
  have hgood : ∀ j, j ≠ (n % cs.length).toNat → j ≠ (n / cs.length % cs.length).toNat → ∀ z, (((cs.map cellT).set (n % cs.length).toNat y).set (n / cs.length % cs.length).toNat x)[j]? = some z → itemR R C z = none := fun j h1 h2 z hz => by
    rw [List.getElem?_set_ne (Ne.symm h2), List.getElem?_set_ne (Ne.symm h1)] at hz
    exact (K.items z (List.mem_of_getElem? hz)).1
  have hmin : gMin [.int (n % cs.length), .int (n / cs.length % cs.length)] = some (.int (if n / (cs.length : Int) % cs.length < n % cs.length then n / cs.length % cs.length else n % cs.length)) := rfl
  generalize hmn : (if n / (cs.length : Int) % cs.length < n % cs.length then n / cs.length % cs.length else n % cs.length) = mn at hmin
  obtain ⟨zd, hz1, hz2⟩ := int_pick (x := .str "text") (y := .str "cell") (b := decide (mn = n / (cs.length : Int) % cs.length))
  have hrun : spR (spS cs 7 n) = some (.rt (.tup [.lst (rep (rep (cs.map cellT) (n % cs.length).toNat y) (n / cs.length % cs.length).toNat x), zd])) := by
    unfold spR
    refine (fSeq_nx ((if_eqF rfl rfl (by decide)).trans rfl)).trans ?_
    refine (fSeq_nx ((if_eqF rfl rfl (by decide)).trans rfl)).trans ?_
    refine (fSeq_nx ((if_eqF rfl rfl (by decide)).trans rfl)).trans ?_
    refine (fSeq_nx ((if_eqF rfl rfl (by decide)).trans rfl)).trans ?_
    refine (fSeq_nx ((fIf_f ((and_ne (w := 7) (v := 6) rfl rfl rfl rfl).trans rfl)).trans rfl)).trans ?_
    refine fSeq_rt ((fIf_t ((and_ne (w := 7) (v := 7) rfl rfl rfl rfl).trans (by rw [decide_eq_true hne]; rfl))).trans ?_)
    refine (fSeq_nx (fSet_eq ((fC_eq (fCons_eq rfl (fCons_eq rfl rfl))).trans hmin))).trans ?_
    refine (fSeq_nx (fSet_eq (rep_eq rfl rfl (call_bt ((f2_eq rfl rfl).trans hx) rfl hy) ha.1 (by rw [List.length_map]; omega)))).trans ?_
    refine (fSeq_nx (fSet_eq (rep_eq rfl rfl (call_bc ((f2_eq rfl rfl).trans hx2) ((f2_eq rfl rfl).trans (divI (by decide))) hb) ho.1 (by rw [rep_len _ hlt, List.length_map]; omega)))).trans ?_
    refine pair_eq rfl ((f2_eq (d := .lst [.str "text", .str "cell"]) rfl ((fC_eq (fCons_eq (d := .bl (decide (mn = n / (cs.length : Int) % cs.length))) ((f2_eq rfl rfl).trans rfl) rfl)).trans rfl)).trans hz1)
  by_cases hlt2 : n / (cs.length : Int) % cs.length < n % cs.length
  · rw [if_pos hlt2] at hmn
    rw [← hmn, decide_eq_true rfl] at hz2
    subst hz2
    refine ⟨_, _, _, hrun, .cell, made_item (by omega) (by omega) ?_ (fun z hz => (hmem z hz).1), fun z hz => (hmem z hz).2⟩
    rw [hset]
    refine find_at (i := (n / cs.length % cs.length).toNat) (List.getElem?_set_self (by rw [List.length_set]; exact hlo)) hxi fun j hj z hz => hgood j (by omega) (by omega) z hz
  · rw [if_neg hlt2] at hmn
    rw [← hmn, decide_eq_false hne] at hz2
    subst hz2
    refine ⟨_, _, _, hrun, .text, made_item (by omega) (by omega) ?_ (fun z hz => (hmem z hz).1), fun z hz => (hmem z hz).2⟩
    rw [hset]
    refine find_at (i := (n % cs.length).toNat) (y := y) ?_ hyi fun j hj z hz => hgood j (by omega) (by omega) z hz
    rw [List.getElem?_set_ne (Ne.symm hnn), List.getElem?_set_self hlt]
theorem sp9 (K : Cells4 R C cs) (hR : 1 ≤ R ∧ R ≤ 20) (hC : 1 ≤ C ∧ C ≤ 20) (n : Int) : SpOk R C (spR (spS cs 9 n)) := by
  have hl := K.ok.len
  have hpos : 0 < cs.length := List.length_pos_iff.mpr K.ok.ne
  have ha := mod_ok n cs.length (by omega)
  have ho := mod_ok (n / cs.length) cs.length (by omega)
  have hx := ixs ha
  have hx2 := ixs ho
  have hlt : (n % cs.length).toNat < (cs.map cellT).length := by rw [List.length_map]; omega
  have hlo2 : (n / cs.length % cs.length).toNat < cs.length := by omega
  obtain ⟨y, hy, hyi, hys, hyk⟩ := K.badT ha (n / cs.length / cs.length / 4)
  obtain ⟨x, _, hb, hxi, hxs, hxk⟩ := K.bad hR.2 hC.2 ha (n / cs.length / cs.length / 4)
  have hotm : cellT (cs.getD (n / cs.length % cs.length).toNat ((0, 0, 0, 0), [])) ∈ cs.map cellT := by
    refine List.mem_map_of_mem ?_
    rw [List.getD_eq_getElem?_getD, List.getElem?_eq_getElem hlo2]
    exact List.getElem_mem hlo2
  generalize eot : cellT (cs.getD (n / cs.length % cs.length).toNat ((0, 0, 0, 0), [])) = ot at hotm hx2
  have hoti := K.items ot hotm
  have h2 := mod_ok (n / cs.length / cs.length) 2 (by decide)
  -- the bad one
  obtain ⟨z, c, d, hz1, hz2, hnm, hzi, hzs, hzk⟩ : ∃ z c d, gIx (.lst [y, x]) (.int (n / cs.length / cs.length % 2)) = some z ∧ gIx (.lst [.str "text", .str "cell"]) (.int (n / cs.length / cs.length % 2)) = some (.str d) ∧ Nm c d ∧ itemR R C z = some c ∧ SmallI z ∧ Sk 3 z := by
    generalize n / (cs.length : Int) / cs.length % 2 = k at h2
    rcases (show k = 0 ∨ k = 1 by omega) with rfl | rfl
    · exact ⟨y, _, _, rfl, rfl, .text, hyi, hys, hyk⟩
    · exact ⟨x, _, _, rfl, rfl, .cell, hxi, hxs, hxk⟩
  have hpre : ∀ {t : T}, (fSeq (fIf (fTest (f2 gEq (f2 gMod (f2 gDiv (fVar 5) (fK (.int 2))) (fK (.int 2))) (fK (.int 0))))
      (fRet (fC gTup (fCons (f2 gCatA (fVar 8) (fC gLstA (fCons (f2 gIx (fVar 0) (fVar 4)) fNil))) (fCons (f2 gIx (fC gLstA (fCons (fK (.str "text")) (fCons (fK (.str "cell")) fNil))) (f2 gMod (fVar 5) (fK (.int 2)))) fNil))))
      fSkip)
      (fRet (fC gTup (fCons (f2 gCatA (fC gLstA (fCons (f2 gIx (fVar 0) (fVar 4)) fNil)) (fVar 8)) (fCons (f2 gIx (fC gLstA (fCons (fK (.str "text")) (fCons (fK (.str "cell")) fNil))) (f2 gMod (fVar 5) (fK (.int 2)))) fNil)))))
      [.sh (.lst (cs.map cellT)), .sh (.int 9), .sh (.int n), .sh (.int (n % cs.length)), .sh (.int (n / cs.length % cs.length)), .sh (.int (n / cs.length / cs.length)), .un, .un, .sh (.lst (rep (cs.map cellT) (n % cs.length).toNat z)), .sh z] = some (.rt t) → spR (spS cs 9 n) = some (.rt t) := fun {t} h => by
    unfold spR
    refine (fSeq_nx ((if_eqF rfl rfl (by decide)).trans rfl)).trans ?_
    refine (fSeq_nx ((if_eqF rfl rfl (by decide)).trans rfl)).trans ?_
    refine (fSeq_nx ((if_eqF rfl rfl (by decide)).trans rfl)).trans ?_
    refine (fSeq_nx ((if_eqF rfl rfl (by decide)).trans rfl)).trans ?_
    refine (fSeq_nx ((fIf_f ((and_ne (w := 9) (v := 6) rfl rfl rfl rfl).trans rfl)).trans rfl)).trans ?_
    refine (fSeq_nx ((fIf_f ((and_ne (w := 9) (v := 7) rfl rfl rfl rfl).trans rfl)).trans rfl)).trans ?_
    refine fSeq_rt ((if_eqT rfl rfl rfl).trans ?_)
    refine (fSeq_nx (fSet_eq ((f2_eq ((fC_eq (fCons_eq (call_bt ((f2_eq rfl rfl).trans hx) ((f2_eq rfl rfl).trans (divI (by decide))) hy) (fCons_eq (call_bc ((f2_eq rfl rfl).trans hx) ((f2_eq rfl rfl).trans (divI (by decide))) hb) rfl))).trans (gLstA_small (by simp))) ((f2_eq rfl rfl).trans (gMod_p (by decide)))).trans hz1))).trans ?_
    refine (fSeq_nx (fSet_eq (rep_eq rfl rfl rfl ha.1 (by rw [List.length_map]; omega)))).trans ?_
    exact h
  have hrl := rep_len (cs.map cellT) hlt z
  have hrm : ∀ w ∈ rep (cs.map cellT) (n % cs.length).toNat z, SmallI w ∧ Sk 3 w := fun w hw => by
    rcases rep_mem hw with rfl | hw
    · exact ⟨hzs, hzk⟩
    · exact ⟨(K.items w hw).2.1, (K.items w hw).2.2⟩
  have hfb : ∀ post, (rep (cs.map cellT) (n % cs.length).toNat z ++ post).findSome? (itemR R C) = some c := fun post => by
    unfold rep
    rw [List.append_assoc]
    exact first_bad (fun w hw => (K.items w (List.mem_of_mem_take hw)).1) hzi
  have hd : f2 gIx (fC gLstA (fCons (fK (.str "text")) (fCons (fK (.str "cell")) fNil))) (f2 gMod (fVar 5) (fK (.int 2))) [.sh (.lst (cs.map cellT)), .sh (.int 9), .sh (.int n), .sh (.int (n % cs.length)), .sh (.int (n / cs.length % cs.length)), .sh (.int (n / cs.length / cs.length)), .un, .un, .sh (.lst (rep (cs.map cellT) (n % cs.length).toNat z)), .sh z] = some (.str d) :=
    (f2_eq (d := .lst [.str "text", .str "cell"]) rfl ((f2_eq rfl rfl).trans (gMod_p (by decide)))).trans hz2
  by_cases h20 : n / (cs.length : Int) / cs.length / 2 % 2 = 0
  · refine ⟨_, _, _, hpre (fSeq_rt ((if_eqT ((f2_eq ((f2_eq rfl rfl).trans (divI (by decide))) rfl).trans (gMod_p (by decide))) rfl h20).trans (pair_eq ((f2_eq rfl ((fC_eq (fCons_eq ((f2_eq rfl rfl).trans hx2) rfl)).trans (gLstA_small (by simp)))).trans (gCatA_small (by rw [hrl, List.length_map]; simp; omega))) hd))), hnm, made_item (by omega) (by omega) (hfb _) fun w hw => ?_, fun w hw => ?_⟩
    · rcases List.mem_append.mp hw with hw | hw
      · exact (hrm w hw).1
      · rw [List.mem_singleton.mp hw]; exact hoti.2.1
    · rcases List.mem_append.mp hw with hw | hw
      · exact (hrm w hw).2
      · rw [List.mem_singleton.mp hw]; exact hoti.2.2
  · refine ⟨_, _, _, hpre ((fSeq_nx ((if_eqF ((f2_eq ((f2_eq rfl rfl).trans (divI (by decide))) rfl).trans (gMod_p (by decide))) rfl h20).trans rfl)).trans (pair_eq ((f2_eq ((fC_eq (fCons_eq ((f2_eq rfl rfl).trans hx2) rfl)).trans (gLstA_small (by simp))) rfl).trans (gCatA_small (by rw [hrl, List.length_map]; simp; omega))) hd)), hnm, made_item (by omega) (by omega) ?_ fun w hw => ?_, fun w hw => ?_⟩
    · show List.findSome? _ (ot :: rep (cs.map cellT) (n % cs.length).toNat z) = _
      rw [List.findSome?_cons, hoti.1]
      have := hfb []
      rw [List.append_nil] at this
      exact this
    · rcases List.mem_append.mp hw with hw | hw
      · rw [List.mem_singleton.mp hw]; exact hoti.2.1
      · exact (hrm w hw).1
    · rcases List.mem_append.mp hw with hw | hw
      · rw [List.mem_singleton.mp hw]; exact hoti.2.2
      · exact (hrm w hw).2
theorem spoilt_eq (K : Cells4 R C cs) (hR : 1 ≤ R ∧ R ≤ 20) (hC : 1 ≤ C ∧ C ≤ 20) (way n : Int) (hw : 2 ≤ way ∧ way ≤ 9) : ∃ (xs : List T) (c d : Str), m_law_spoilt [.lst (cs.map cellT), .int way, .int n] = some (.ok (.tup [.lst xs, .str d])) ∧ Nm c d ∧ m_made [.int (R : Nat), .int (C : Nat), .lst xs] = some (.ex c) ∧ ∀ x ∈ xs, Sk 3 x := by
  have h : SpOk R C (spR (spS cs way n)) := by
    rcases (show way = 2 ∨ way = 3 ∨ way = 4 ∨ way = 5 ∨ way = 6 ∨ way = 7 ∨ way = 8 ∨ way = 9 by omega) with rfl | rfl | rfl | rfl | rfl | rfl | rfl | rfl
    · exact sp2 K hR hC n
    · exact sp3 K hR hC n
    · exact sp4 K hR hC n
    · exact sp5 K hR hC n
    · exact sp6 K hR hC n
    · exact sp7 K hR hC n
    · exact sp_same K hR hC 8 n (.inl rfl)
    · exact sp9 K hR hC n
  obtain ⟨xs, c, d, h1, h2⟩ := h
  exact ⟨xs, c, d, sp_pre K way n h1, h2⟩
end
end K04

namespace K04
open PySem PySem.Spec L2 Fx Bx Mx
open PyProof.Rows hiding St
/-! ### squares -/
def sqs (r c h w : Nat) : List (List Int) := (List.range (h * w)).map fun k => [((r + k / w : Nat) : Int), ((c + k % w : Nat) : Int)]
theorem sqs_nodup {r c h w : Nat} (hw : 0 < w) : (sqs r c h w).Nodup := by
  unfold sqs
  rw [List.Nodup, List.pairwise_map]
  refine List.Pairwise.imp ?_ List.nodup_range
  intro a b hab e
  injection e with e1 e2
  injection e2 with e2 _
  refine hab ?_
  have d1 : a / w = b / w := by omega
  have d2 : a % w = b % w := by omega
  rw [← Nat.div_add_mod a w, ← Nat.div_add_mod b w, d1, d2]
theorem mem_sqs {r c h w : Nat} (hw : 0 < w) {x : List Int} : x ∈ sqs r c h w ↔ ∃ i j : Nat, x = [(i : Int), (j : Int)] ∧ r ≤ i ∧ i < r + h ∧ c ≤ j ∧ j < c + w := by
  unfold sqs
  rw [List.mem_map]
  constructor
  · rintro ⟨k, hk, rfl⟩
    have hk := List.mem_range.mp hk
    refine ⟨_, _, rfl, Nat.le_add_right _ _, ?_, Nat.le_add_right _ _, ?_⟩
    · have : k / w < h := Nat.div_lt_of_lt_mul (by rw [Nat.mul_comm]; exact hk)
      omega
    · have := Nat.mod_lt k hw
      omega
  · rintro ⟨i, j, rfl, h1, h2, h3, h4⟩
    have e : ((i - r) * w + (j - c)) / w = i - r := by
      rw [Nat.mul_comm, Nat.mul_add_div hw, Nat.div_eq_of_lt (by omega), Nat.add_zero]
    have e2 : ((i - r) * w + (j - c)) % w = j - c := by
      rw [Nat.mul_comm, Nat.mul_add_mod, Nat.mod_eq_of_lt (by omega)]
    refine ⟨(i - r) * w + (j - c), List.mem_range.mpr ?_, ?_⟩
    · have h5 : (i - r) + 1 ≤ h := by omega
      have h6 := Nat.mul_le_mul_right w h5
      rw [Nat.add_mul, Nat.one_mul] at h6
      omega
    · rw [e, e2, Nat.add_sub_cancel' h1, Nat.add_sub_cancel' h3]
def sqsB (b : Box) : List (List Int) := sqs b.1.toNat b.2.1.toNat b.2.2.1.toNat b.2.2.2.toNat
theorem mem_sqsB {R C : Int} {b : Box} (ok : BoxOk R C b) {x : List Int} : x ∈ sqsB b ↔ ∃ i j : Nat, x = [(i : Int), (j : Int)] ∧ has i j b = true := by
  obtain ⟨r, c, h, w⟩ := b
  obtain ⟨h1, h2, h3, h4, h5, h6⟩ := ok
  dsimp only at h1 h2 h3 h4 h5 h6
  unfold sqsB
  rw [mem_sqs (by dsimp only; omega)]
  constructor
  · rintro ⟨i, j, rfl, q⟩
    refine ⟨i, j, rfl, has_iff.mpr ?_⟩
    dsimp only at q ⊢
    omega
  · rintro ⟨i, j, rfl, q⟩
    have q := has_iff.mp q
    refine ⟨i, j, rfl, ?_⟩
    dsimp only at q ⊢
    omega
theorem count_sqsB {R C : Int} {b : Box} (ok : BoxOk R C b) (i j : Nat) : List.count [(i : Int), (j : Int)] (sqsB b) = if has i j b = true then 1 else 0 := by
  have hn : (sqsB b).Nodup := sqs_nodup (by have := ok.w; omega)
  rw [hn.count]
  have e : ([(i : Int), (j : Int)] ∈ sqsB b) ↔ has i j b = true := by
    rw [mem_sqsB ok]
    constructor
    · rintro ⟨i', j', q, hh⟩
      injection q with q1 q2
      injection q2 with q2 _
      rw [q1, q2]
      exact hh
    · intro hh
      exact ⟨i, j, rfl, hh⟩
  by_cases q : has i j b = true
  · rw [if_pos q, if_pos (e.mpr q)]
  · rw [if_neg q, if_neg fun z => q (e.mp z)]
def allsq (cs : List Cell) : List (List Int) := cs.flatMap fun c => sqsB c.1
theorem count_all {R C : Int} (i j : Nat) : ∀ {cs : List Cell}, (∀ c ∈ cs, BoxOk R C c.1) → List.count [(i : Int), (j : Int)] (allsq cs) = cs.countP (hasC i j)
  | [], _ => rfl
  | c :: cs, h => by
    show List.count _ (sqsB c.1 ++ allsq cs) = _
    rw [List.count_append, count_all i j fun d hd => h d (List.mem_cons_of_mem _ hd), count_sqsB (h c List.mem_cons_self), List.countP_cons, Nat.add_comm]
    rfl
theorem mem_all {R C : Nat} {cs : List Cell} (h : ∀ c ∈ cs, BoxOk R C c.1) {x : List Int} (hx : x ∈ allsq cs) : ∃ i j : Nat, x = [(i : Int), (j : Int)] ∧ i < R ∧ j < C := by
  obtain ⟨c, hc, hx⟩ := List.mem_flatMap.mp hx
  obtain ⟨i, j, rfl, q⟩ := (mem_sqsB (h c hc)).mp hx
  have q := has_iff.mp q
  obtain ⟨h1, h2, h3, h4, h5, h6⟩ := h c hc
  exact ⟨i, j, rfl, by omega, by omega⟩
theorem grid_len (R C : Nat) : (sqs 0 0 R C).length = R * C := by unfold sqs; rw [List.length_map, List.length_range]
/-- told twice -/
theorem not_nodup {R C : Nat} {cs : List Cell} (h : ∀ c ∈ cs, BoxOk R C c.1) (hn : ¬ (allsq cs).Nodup) : ∃ i j : Nat, i < R ∧ j < C ∧ 1 < Mx.cnt cs i j := by
  rw [List.nodup_iff_count] at hn
  obtain ⟨a, ha⟩ := Classical.not_forall.mp hn
  have hm : a ∈ allsq cs := List.count_pos_iff.mp (by omega)
  obtain ⟨i, j, rfl, hi, hj⟩ := mem_all h hm
  refine ⟨i, j, hi, hj, ?_⟩
  rw [count_all i j h] at ha
  unfold Mx.cnt
  omega
theorem nodup_le {R C : Nat} {cs : List Cell} (h : ∀ c ∈ cs, BoxOk R C c.1) (hn : (allsq cs).Nodup) (i j : Nat) : Mx.cnt cs i j ≤ 1 := by
  have := List.nodup_iff_count.mp hn [(i : Int), (j : Int)]
  rw [count_all i j h] at this
  unfold Mx.cnt
  omega
theorem some_bare {R C : Nat} (hC : 0 < C) {cs : List Cell} (h : ∀ c ∈ cs, BoxOk R C c.1) (hl : (allsq cs).length < R * C) : ∃ i j : Nat, i < R ∧ j < C ∧ Mx.cnt cs i j < 1 := by
  refine Classical.byContradiction fun hno => ?_
  have hsub : sqs 0 0 R C ⊆ allsq cs := fun x hx => by
    obtain ⟨i, j, rfl, _, hi, _, hj⟩ := (mem_sqs hC).mp hx
    refine List.count_pos_iff.mp ?_
    rw [count_all i j h]
    have : ¬ Mx.cnt cs i j < 1 := fun q => hno ⟨i, j, by omega, by omega, q⟩
    unfold Mx.cnt at this
    omega
  have := List.Nodup.length_le_of_subset (sqs_nodup hC) hsub
  rw [grid_len] at this
  omega
theorem none_bare {R C : Nat} (hC : 0 < C) {cs : List Cell} (h : ∀ c ∈ cs, BoxOk R C c.1) (hn : (allsq cs).Nodup) (hl : ¬ (allsq cs).length < R * C) (i j : Nat) (hi : i < R) (hj : j < C) : Mx.cnt cs i j = 1 := by
  have hle := nodup_le h hn i j
  refine Classical.byContradiction fun hne => ?_
  have h0 : cs.countP (hasC i j) = 0 := by
    unfold Mx.cnt at hle hne
    omega
  have hnot : [(i : Int), (j : Int)] ∉ allsq cs := by
    rw [← List.count_eq_zero, count_all i j h, h0]
  have hnd : ([(i : Int), (j : Int)] :: allsq cs).Nodup := List.nodup_cons.mpr ⟨hnot, hn⟩
  have hsub : ([(i : Int), (j : Int)] :: allsq cs) ⊆ sqs 0 0 R C := fun x hx => by
    rw [mem_sqs hC]
    rcases List.mem_cons.mp hx with rfl | hx
    · exact ⟨i, j, rfl, by omega, by omega, by omega, by omega⟩
    · obtain ⟨i', j', rfl, h1, h2⟩ := mem_all h hx
      exact ⟨i', j', rfl, by omega, by omega, by omega, by omega⟩
  have := List.Nodup.length_le_of_subset hnd hsub
  rw [grid_len, List.length_cons] at this
  omega
/-! ### the walk over squares -/
theorem loopF_cons {b : T → Ev → Option Ev} {F : Ev → Option Out} {t : T} {ts : List T} {ev e1 : Ev} (h : b t ev = some e1) : loopF b F (t :: ts) ev = (match F e1 with | some (.nx e2) => loopF b F ts e2 | some (.ct e2) => loopF b F ts e2 | some (.bk e2) => some (.nx e2) | o => o) := by
  conv => lhs; unfold loopF
  rw [h] <;> rfl
section
variable {s0 s1 s2 s3 s4 s5 s6 : Sl} {f : T}
theorem inD_eq {ks : List (List Int)} {ns : List Int} {s9 s10 : Sl} : fInD 8 (fVar 11) [s0, s1, s2, s3, s4, s5, s6, .sh f, .dk ks, s9, s10, .sh (.tup (ns.map .int))] = some (decide (ns ∈ ks)) := by
  show (intsOf (ns.map .int)).map _ = _
  rw [intsOf_map]
  rfl
theorem putD_eq {ks : List (List Int)} {ns : List Int} {s9 s10 : Sl} (h : ns ∉ ks) (hl : ks.length < sizeLine) : fPutD 8 (fVar 11) (fK (.bl true)) [s0, s1, s2, s3, s4, s5, s6, .sh f, .dk ks, s9, s10, .sh (.tup (ns.map .int))] = some (.nx [s0, s1, s2, s3, s4, s5, s6, .sh f, .dk (ks ++ [ns]), s9, s10, .sh (.tup (ns.map .int))]) := by
  show (match intsOf (ns.map .int) with | some ms => if ms ∉ ks ∧ ks.length < sizeLine then some (Out.nx ([s0, s1, s2, s3, s4, s5, s6, .sh f, .dk ks, s9, s10, .sh (.tup (ns.map .int))].set 8 (.dk (ks ++ [ms])))) else none | none => none) = _
  rw [intsOf_map]
  dsimp only
  rw [if_pos ⟨h, hl⟩]
  rfl
/-- one square -/
theorem sq_turn {ks : List (List Int)} {c : Cell} {k : Nat} {s11 : Sl} {r cc h w : Nat} (hc : c.1 = ((r : Int), (cc : Int), (h : Int), (w : Int))) (hw : 0 < w) (hw2 : w ≤ 1000) (hl : ks.length ≤ 200000) :
    lp1_law_moved [s0, s1, s2, s3, s4, s5, s6, .sh f, .dk ks, .sh (cellT c), .sh (.int ((0 : Int) + (k : Int))), s11] =
      if [((r + k / w : Nat) : Int), ((cc + k % w : Nat) : Int)] ∈ ks then some (.rt (.tup [f, .str "shared"]))
      else some (.nx [s0, s1, s2, s3, s4, s5, s6, .sh f, .dk (ks ++ [[((r + k / w : Nat) : Int), ((cc + k % w : Nat) : Int)]]), .sh (cellT c), .sh (.int ((0 : Int) + (k : Int))), .sh (.tup ([((r + k / w : Nat) : Int), ((cc + k % w : Nat) : Int)].map .int))]) := by
  obtain ⟨b, ls⟩ := c
  dsimp only at hc
  subst hc
  unfold lp1_law_moved
  have e1 : fSet 11 (fC gTup (fCons (f2 gAdd (f2 gIx (fVar 9) (fK (.int 0))) (f2 gDiv (fVar 10) (f2 gIx (fVar 9) (fK (.int 3))))) (fCons (f2 gAdd (f2 gIx (fVar 9) (fK (.int 1))) (f2 gMod (fVar 10) (f2 gIx (fVar 9) (fK (.int 3))))) fNil)))
      [s0, s1, s2, s3, s4, s5, s6, .sh f, .dk ks, .sh (cellT (((r : Int), (cc : Int), (h : Int), (w : Int)), ls)), .sh (.int ((0 : Int) + (k : Int))), s11] = some (.nx [s0, s1, s2, s3, s4, s5, s6, .sh f, .dk ks, .sh (cellT (((r : Int), (cc : Int), (h : Int), (w : Int)), ls)), .sh (.int ((0 : Int) + (k : Int))), .sh (.tup ([((r + k / w : Nat) : Int), ((cc + k % w : Nat) : Int)].map .int))]) := by
    refine fSet_eq ((fC_eq (fCons_eq ((f2_eq (d := .int (r : Int)) (e := .int (((0 : Int) + (k : Int)) / (w : Int))) rfl ((f2_eq rfl rfl).trans (gDiv_p (by omega) (by omega)))).trans rfl) (fCons_eq ((f2_eq (d := .int (cc : Int)) (e := .int (((0 : Int) + (k : Int)) % (w : Int))) rfl ((f2_eq rfl rfl).trans (gMod_p (by omega)))).trans rfl) rfl))).trans ((gTup_small (by simp)).trans ?_))
    have d1 : (r : Int) + ((0 : Int) + (k : Int)) / (w : Int) = ((r + k / w : Nat) : Int) := by rw [Int.zero_add]; omega
    have d2 : (cc : Int) + ((0 : Int) + (k : Int)) % (w : Int) = ((cc + k % w : Nat) : Int) := by rw [Int.zero_add]; omega
    rw [d1, d2]
    rfl
  rw [fSeq_nx e1, fSeq_ev, fIf_ev, inD_eq, Option.bind_some]
  by_cases hm : [((r + k / w : Nat) : Int), ((cc + k % w : Nat) : Int)] ∈ ks
  · rw [decide_eq_true hm, if_pos rfl, if_pos hm]
    rfl
  · rw [decide_eq_false hm, if_neg (by decide), if_neg hm, fSkip_ev, Option.bind_some, thenF_nx]
    exact putD_eq hm (Nat.lt_of_le_of_lt hl (by decide))
/-- the squares of one cell -/
theorem cell_turn {c : Cell} {r cc h w : Nat} (hc : c.1 = ((r : Int), (cc : Int), (h : Int), (w : Int))) (hw : 0 < w) (hw2 : w ≤ 1000) : ∀ (ms : List Nat) (ks : List (List Int)) (s10 s11 : Sl), ks.Nodup → ks.length + ms.length ≤ 200000 →
    ((ks ++ ms.map fun k => [((r + k / w : Nat) : Int), ((cc + k % w : Nat) : Int)]).Nodup ∧ ∃ s10' s11', loopF (b1 10) lp1_law_moved (ms.map fun (k : Nat) => T.int ((0 : Int) + (k : Int))) [s0, s1, s2, s3, s4, s5, s6, .sh f, .dk ks, .sh (cellT c), s10, s11] =
      some (.nx [s0, s1, s2, s3, s4, s5, s6, .sh f, .dk (ks ++ ms.map fun k => [((r + k / w : Nat) : Int), ((cc + k % w : Nat) : Int)]), .sh (cellT c), s10', s11'])) ∨
    (¬ (ks ++ ms.map fun k => [((r + k / w : Nat) : Int), ((cc + k % w : Nat) : Int)]).Nodup ∧ loopF (b1 10) lp1_law_moved (ms.map fun (k : Nat) => T.int ((0 : Int) + (k : Int))) [s0, s1, s2, s3, s4, s5, s6, .sh f, .dk ks, .sh (cellT c), s10, s11] = some (.rt (.tup [f, .str "shared"])))
  | [], ks, s10, s11, hn, _ => .inl ⟨by rw [List.map_nil, List.append_nil]; exact hn, s10, s11, by rw [List.map_nil, List.map_nil, List.append_nil]; rfl⟩
  | k :: ms, ks, s10, s11, hn, hl => by
    rw [List.length_cons] at hl
    have ht := sq_turn (s0 := s0) (s1 := s1) (s2 := s2) (s3 := s3) (s4 := s4) (s5 := s5) (s6 := s6) (f := f) (ks := ks) (k := k) (s11 := s11) hc hw hw2 (by omega)
    have hstep : loopF (b1 10) lp1_law_moved ((k :: ms).map fun (k : Nat) => T.int ((0 : Int) + (k : Int))) [s0, s1, s2, s3, s4, s5, s6, .sh f, .dk ks, .sh (cellT c), s10, s11] =
        (match lp1_law_moved [s0, s1, s2, s3, s4, s5, s6, .sh f, .dk ks, .sh (cellT c), .sh (.int ((0 : Int) + (k : Int))), s11] with
          | some (.nx e2) => loopF (b1 10) lp1_law_moved (ms.map fun (k : Nat) => T.int ((0 : Int) + (k : Int))) e2 | some (.ct e2) => loopF (b1 10) lp1_law_moved (ms.map fun (k : Nat) => T.int ((0 : Int) + (k : Int))) e2 | some (.bk e2) => some (.nx e2) | o => o) := rfl
    by_cases hm : [((r + k / w : Nat) : Int), ((cc + k % w : Nat) : Int)] ∈ ks
    · rw [if_pos hm] at ht
      refine .inr ⟨fun q => ?_, ?_⟩
      · rw [List.map_cons] at q
        exact (List.nodup_append.mp q).2.2 _ hm _ List.mem_cons_self rfl
      · rw [hstep, ht]
    · rw [if_neg hm] at ht
      have hn2 : (ks ++ [[((r + k / w : Nat) : Int), ((cc + k % w : Nat) : Int)]]).Nodup := by
        rw [List.nodup_append]
        refine ⟨hn, List.nodup_cons.mpr ⟨List.not_mem_nil, List.nodup_nil⟩, fun a ha b hb => ?_⟩
        rw [List.mem_singleton.mp hb]
        intro e
        exact hm (e ▸ ha)
      have ih := cell_turn hc hw hw2 ms (ks ++ [[((r + k / w : Nat) : Int), ((cc + k % w : Nat) : Int)]]) (.sh (.int ((0 : Int) + (k : Int)))) (.sh (.tup ([((r + k / w : Nat) : Int), ((cc + k % w : Nat) : Int)].map .int))) hn2 (by rw [List.length_append, List.length_singleton]; omega)
      rw [List.append_assoc] at ih
      rw [hstep, ht]
      rcases ih with ⟨i1, i2⟩ | ⟨i1, i2⟩
      · exact .inl ⟨i1, i2⟩
      · exact .inr ⟨i1, i2⟩
theorem cells_turn {R C : Nat} (hC : C ≤ 20) (hR : R ≤ 20) : ∀ (cs : List Cell) (ks : List (List Int)) (s9 s10 s11 : Sl), (∀ c ∈ cs, BoxOk R C c.1) → ks.Nodup → ks.length + 400 * cs.length ≤ 200000 →
    ((ks ++ allsq cs).Nodup ∧ ∃ s9' s10' s11', loopF (b1 9) lp2_law_moved (cs.map cellT) [s0, s1, s2, s3, s4, s5, s6, .sh f, .dk ks, s9, s10, s11] = some (.nx [s0, s1, s2, s3, s4, s5, s6, .sh f, .dk (ks ++ allsq cs), s9', s10', s11'])) ∨
    (¬ (ks ++ allsq cs).Nodup ∧ loopF (b1 9) lp2_law_moved (cs.map cellT) [s0, s1, s2, s3, s4, s5, s6, .sh f, .dk ks, s9, s10, s11] = some (.rt (.tup [f, .str "shared"])))
  | [], ks, s9, s10, s11, _, hn, _ => .inl ⟨by show (ks ++ []).Nodup; rw [List.append_nil]; exact hn, s9, s10, s11, by show some _ = some (Out.nx [s0, s1, s2, s3, s4, s5, s6, .sh f, .dk (ks ++ []), s9, s10, s11]); rw [List.append_nil]⟩
  | c :: cs, ks, s9, s10, s11, hb, hn, hl => by
    rw [List.length_cons] at hl
    obtain ⟨⟨r, cc, h, w⟩, ls⟩ := c
    obtain ⟨h1, h2, h3, h4, h5, h6⟩ := hb _ List.mem_cons_self
    dsimp only at h1 h2 h3 h4 h5 h6
    obtain ⟨r, rfl⟩ := Int.eq_ofNat_of_zero_le h1
    obtain ⟨cc, rfl⟩ := Int.eq_ofNat_of_zero_le h2
    obtain ⟨h, rfl⟩ := Int.eq_ofNat_of_zero_le (a := h) (by omega)
    obtain ⟨w, rfl⟩ := Int.eq_ofNat_of_zero_le (a := w) (by omega)
    have hhw : h * w ≤ 400 := Nat.le_trans (Nat.mul_le_mul (show h ≤ 20 by omega) (show w ≤ 20 by omega)) (by decide)
    have ht := cell_turn (s0 := s0) (s1 := s1) (s2 := s2) (s3 := s3) (s4 := s4) (s5 := s5) (s6 := s6) (f := f) (c := (((r : Int), (cc : Int), (h : Int), (w : Int)), ls)) rfl (by omega) (by omega) (List.range (h * w)) ks s10 s11 hn (by rw [List.length_range]; omega)
    have es : ((List.range (h * w)).map fun k => [((r + k / w : Nat) : Int), ((cc + k % w : Nat) : Int)]) = sqsB ((r : Int), (cc : Int), (h : Int), (w : Int)) := rfl
    rw [es] at ht
    have ea : allsq ((((r : Int), (cc : Int), (h : Int), (w : Int)), ls) :: cs) = sqsB ((r : Int), (cc : Int), (h : Int), (w : Int)) ++ allsq cs := rfl
    have ef : lp2_law_moved [s0, s1, s2, s3, s4, s5, s6, .sh f, .dk ks, .sh (cellT (((r : Int), (cc : Int), (h : Int), (w : Int)), ls)), s10, s11] = loopF (b1 10) lp1_law_moved ((List.range (h * w)).map fun (k : Nat) => T.int ((0 : Int) + (k : Int))) [s0, s1, s2, s3, s4, s5, s6, .sh f, .dk ks, .sh (cellT (((r : Int), (cc : Int), (h : Int), (w : Int)), ls)), s10, s11] := by
      unfold lp2_law_moved
      have hm : f2 gMul (f2 gIx (fVar 9) (fK (.int 2))) (f2 gIx (fVar 9) (fK (.int 3))) [s0, s1, s2, s3, s4, s5, s6, .sh f, .dk ks, .sh (cellT (((r : Int), (cc : Int), (h : Int), (w : Int)), ls)), s10, s11] = some (.int ((h : Int) * (w : Int))) := (f2_eq (d := .int (h : Int)) (e := .int (w : Int)) rfl rfl).trans (gMul_s (by omega) (by omega))
      have hj : (h : Int) * (w : Int) = ((h * w : Nat) : Int) := by rw [Int.natCast_mul]
      have hrg := fRng1_eq (fs := fCons (f2 gMul (f2 gIx (fVar 9) (fK (.int 2))) (f2 gIx (fVar 9) (fK (.int 3)))) fNil) (fCons_eq hm rfl) (by rw [hj]; omega) (by rw [hj]; omega)
      rw [fFor_eq hrg, hj, Int.toNat_natCast, irange_map]
    rw [List.map_cons, loopF_cons (e1 := [s0, s1, s2, s3, s4, s5, s6, .sh f, .dk ks, .sh (cellT (((r : Int), (cc : Int), (h : Int), (w : Int)), ls)), s10, s11]) rfl]
    rw [ef, ea, ← List.append_assoc]
    rcases ht with ⟨t1, s10', s11', t2⟩ | ⟨t1, t2⟩
    · rw [t2]
      dsimp only
      refine cells_turn hC hR cs _ _ _ _ (fun d hd => hb d (List.mem_cons_of_mem _ hd)) t1 ?_
      have : (sqsB ((r : Int), (cc : Int), (h : Int), (w : Int))).length = h * w := by rw [← es, List.length_map, List.length_range]
      rw [List.length_append, this]
      omega
    · rw [t2]
      exact .inr ⟨fun q => t1 (List.nodup_append.mp q).1, rfl⟩
end
end K04

namespace K04
open PySem PySem.Spec L2 Fx Bx Mx
open PyProof.Rows hiding St
def boxL (b : Box) (s : T) : List T := [.int b.1, .int b.2.1, .int b.2.2.1, .int b.2.2.2, s]
theorem put_box {s0 s1 s2 s3 s4 : Sl} {b : Box} {s : T} {rest : Ev} (m : Int) : ∃ b' : Box, fPut 6 (f2 gMod (fVar 5) (fK (.int 4))) (f2 gAdd (fIxL (fOw 6) (f2 gMod (fVar 5) (fK (.int 4)))) (f2 gIx (fC gLst (fCons (fK (.int 1)) (fCons (f1 gNeg (fK (.int 1))) fNil))) (f2 gMod (f2 gDiv (fVar 5) (fK (.int 4))) (fK (.int 2)))))
    (s0 :: s1 :: s2 :: s3 :: s4 :: .sh (.int m) :: .ow (boxL b s) :: rest) = some (.nx (s0 :: s1 :: s2 :: s3 :: s4 :: .sh (.int m) :: .ow (boxL b' s) :: rest)) := by
  have h4 := mod_ok m 4 (by decide)
  have h2 := mod_ok (m / 4) 2 (by decide)
  obtain ⟨r, c, h, w⟩ := b
  have e4 : f2 gMod (fVar 5) (fK (.int 4)) (s0 :: s1 :: s2 :: s3 :: s4 :: .sh (.int m) :: .ow (boxL (r, c, h, w) s) :: rest) = some (.int (m % 4)) := (f2_eq rfl rfl).trans (gMod_p (by decide))
  obtain ⟨z, hz⟩ : ∃ z : Int, f2 gIx (fC gLst (fCons (fK (.int 1)) (fCons (f1 gNeg (fK (.int 1))) fNil))) (f2 gMod (f2 gDiv (fVar 5) (fK (.int 4))) (fK (.int 2))) (s0 :: s1 :: s2 :: s3 :: s4 :: .sh (.int m) :: .ow (boxL (r, c, h, w) s) :: rest) = some (.int z) := by
    have e := (f2_eq (g := gIx) (fa := fC gLst (fCons (fK (.int 1)) (fCons (f1 gNeg (fK (.int 1))) fNil))) (d := .lst [.int 1, .int (-1)]) (ev := s0 :: s1 :: s2 :: s3 :: s4 :: .sh (.int m) :: .ow (boxL (r, c, h, w) s) :: rest) rfl ((f2_eq (g := gMod) (fa := f2 gDiv (fVar 5) (fK (.int 4))) (fb := fK (.int 2)) ((f2_eq rfl rfl).trans (gDiv_p (i := m) (by decide) (by decide))) rfl).trans (gMod_p (by decide))))
    rw [e]
    generalize m / 4 % 2 = k at h2
    rcases (show k = 0 ∨ k = 1 by omega) with rfl | rfl
    · exact ⟨_, rfl⟩
    · exact ⟨_, rfl⟩
  have key : ∀ (k : Int) (i : Int) (j : Nat), m % 4 = k → Fx.atT (boxL (r, c, h, w) s) k = some (.int i) → ixN 5 k = some j → fPut 6 (f2 gMod (fVar 5) (fK (.int 4))) (f2 gAdd (fIxL (fOw 6) (f2 gMod (fVar 5) (fK (.int 4)))) (f2 gIx (fC gLst (fCons (fK (.int 1)) (fCons (f1 gNeg (fK (.int 1))) fNil))) (f2 gMod (f2 gDiv (fVar 5) (fK (.int 4))) (fK (.int 2)))))
      (s0 :: s1 :: s2 :: s3 :: s4 :: .sh (.int m) :: .ow (boxL (r, c, h, w) s) :: rest) = some (.nx (s0 :: s1 :: s2 :: s3 :: s4 :: .sh (.int m) :: .ow ((boxL (r, c, h, w) s).set j (.int (i + z))) :: rest)) := fun k i j hk hi hj => by
    have ea : f2 gAdd (fIxL (fOw 6) (f2 gMod (fVar 5) (fK (.int 4)))) (f2 gIx (fC gLst (fCons (fK (.int 1)) (fCons (f1 gNeg (fK (.int 1))) fNil))) (f2 gMod (f2 gDiv (fVar 5) (fK (.int 4))) (fK (.int 2)))) (s0 :: s1 :: s2 :: s3 :: s4 :: .sh (.int m) :: .ow (boxL (r, c, h, w) s) :: rest) = some (.int (i + z)) := by
      refine (f2_eq (d := .int i) ?_ hz).trans rfl
      unfold fIxL
      rw [e4, hk]
      exact hi
    unfold fPut
    rw [ea, e4, hk]
    show (if true = true then (ixN 5 k).map (fun j => Out.nx ((s0 :: s1 :: s2 :: s3 :: s4 :: .sh (.int m) :: .ow (boxL (r, c, h, w) s) :: rest).set 6 (.ow ((boxL (r, c, h, w) s).set j (.int (i + z)))))) else none) = _
    rw [hj]
    rfl
  rcases (show m % 4 = 0 ∨ m % 4 = 1 ∨ m % 4 = 2 ∨ m % 4 = 3 by omega) with hk | hk | hk | hk
  · exact ⟨(r + z, c, h, w), key 0 r 0 hk rfl rfl⟩
  · exact ⟨(r, c + z, h, w), key 1 c 1 hk rfl rfl⟩
  · exact ⟨(r, c, h + z, w), key 2 h 2 hk rfl rfl⟩
  · exact ⟨(r, c, h, w + z), key 3 w 3 hk rfl rfl⟩
def outB (R C : Int) (b : Box) : Bool := decide ((if b.2.1 < b.1 then b.2.1 else b.1) < 0) || (decide ((if b.2.2.2 < b.2.2.1 then b.2.2.2 else b.2.2.1) < 1) || (decide (R < b.1 + b.2.2.1) || decide (C < b.2.1 + b.2.2.2)))
theorem outB_iff {R C : Int} {b : Box} : outB R C b = false ↔ BoxOk R C b := by
  obtain ⟨r, c, h, w⟩ := b
  unfold outB
  simp only [Bool.or_eq_false_iff, decide_eq_false_iff_not]
  constructor
  · rintro ⟨h1, h2, h3, h4⟩
    constructor <;> dsimp only at * <;> (try split at h1) <;> (try split at h2) <;> omega
  · rintro ⟨h1, h2, h3, h4, h5, h6⟩
    dsimp only at *
    refine ⟨?_, ?_, by omega, by omega⟩
    · split <;> omega
    · split <;> omega
section
variable {R C : Nat} {cs : List Cell}
theorem moved_eq (K : Cells4 R C cs) (hR : 1 ≤ R ∧ R ≤ 20) (hC : 1 ≤ C ∧ C ≤ 20) (n : Int) : ∃ (xs : List T) (d : Str), m_law_moved [.lst (cs.map cellT), .int (R : Nat), .int (C : Nat), .int n] = some (.ok (.tup [.lst xs, .str d])) ∧
    m_law_outcome [.int (R : Nat), .int (C : Nat), .lst xs] = some (.ok (.str d)) ∧ ∀ x ∈ xs, Sk 3 x := by
  have hl := K.ok.len
  have hpos : 0 < cs.length := List.length_pos_iff.mpr K.ok.ne
  have ha := mod_ok n cs.length (by omega)
  have hx := ixs ha
  have hlt : (n % cs.length).toNat < cs.length := by omega
  have hlen : ∀ ev : Ev, fVar 0 ev = some (.lst (cs.map cellT)) → fC gLen (fCons (fVar 0) fNil) ev = some (.int cs.length) := fun ev he => (fC_eq (fCons_eq he rfl)).trans (by
    show some (T.int (((cs.map cellT).length : Nat) : Int)) = _
    rw [List.length_map])
  obtain ⟨c, hc, hcm⟩ : ∃ c, cs.getD (n % cs.length).toNat ((0, 0, 0, 0), []) = c ∧ c ∈ cs := ⟨_, rfl, by
    rw [List.getD_eq_getElem?_getD, List.getElem?_eq_getElem hlt]
    exact List.getElem_mem hlt⟩
  rw [hc] at hx
  obtain ⟨b', hput⟩ := put_box (s0 := .sh (.lst (cs.map cellT))) (s1 := .sh (.int R)) (s2 := .sh (.int C)) (s3 := .sh (.int n)) (s4 := .sh (.int (n % cs.length))) (b := c.1) (s := .str (txt c.2)) (rest := [.un, .un, .un, .un, .un]) (n / cs.length)
  -- the list with the moved cell
  let ds : List Cell := cs.take (n % cs.length).toNat ++ [(b', c.2)] ++ cs.drop ((n % cs.length).toNat + 1)
  have hdl : ds.length ≤ 401 := by show List.length (_ ++ _ ++ _) ≤ _; simp; omega
  have hfound : f2 gCat (f2 gCat (fSl gSlL (fVar 0) fNoP (fPart (fVar 4))) (fC gLst (fCons (fC gTup (fCons (fIxL (fOw 6) (fK (.int 0))) (fCons (fIxL (fOw 6) (fK (.int 1))) (fCons (fIxL (fOw 6) (fK (.int 2))) (fCons (fIxL (fOw 6) (fK (.int 3))) (fCons (fIxL (fOw 6) (fK (.int 4))) fNil)))))) fNil))) (fSl gSlL (fVar 0) (fPart (f2 gAdd (fVar 4) (fK (.int 1)))) fNoP)
      [.sh (.lst (cs.map cellT)), .sh (.int R), .sh (.int C), .sh (.int n), .sh (.int (n % cs.length)), .sh (.int (n / cs.length)), .ow (boxL b' (.str (txt c.2))), .un, .un, .un, .un, .un] = some (.lst (ds.map cellT)) := by
    have hone : fC gLst (fCons (fC gTup (fCons (fIxL (fOw 6) (fK (.int 0))) (fCons (fIxL (fOw 6) (fK (.int 1))) (fCons (fIxL (fOw 6) (fK (.int 2))) (fCons (fIxL (fOw 6) (fK (.int 3))) (fCons (fIxL (fOw 6) (fK (.int 4))) fNil)))))) fNil) [.sh (.lst (cs.map cellT)), .sh (.int R), .sh (.int C), .sh (.int n), .sh (.int (n % cs.length)), .sh (.int (n / cs.length)), .ow (boxL b' (.str (txt c.2))), .un, .un, .un, .un, .un] = some (.lst ([(b', c.2)].map cellT)) := rfl
    refine (f2_eq ((f2_eq ((fSl_eq rfl rfl (fPart_eq rfl)).trans (gSlL_to (noLs_cells _) ha.1)) hone).trans (gCat_small ?_ (noLs_cells _) ?_)) ((fSl_eq rfl (fPart_eq (i := n % cs.length + 1) ((f2_eq rfl rfl).trans rfl)) rfl).trans (gSlL_from (noLs_cells _) (by omega)))).trans ((gCat_small ?_ ?_ ?_).trans ?_)
    · rw [← List.map_take]; exact noLs_cells _
    · simp; omega
    · rw [← List.map_take, ← List.map_append]; exact noLs_cells _
    · rw [← List.map_drop]; exact noLs_cells _
    · simp; omega
    · rw [show (n % (cs.length : Int) + 1).toNat = (n % (cs.length : Int)).toNat + 1 by omega, ← List.map_take, ← List.map_drop, ← List.map_append, ← List.map_append]
  have hrep : ds.map cellT = rep (cs.map cellT) (n % cs.length).toNat (cellT (b', c.2)) := by
    show List.map _ (_ ++ _ ++ _) = _
    rw [List.map_append, List.map_append, List.map_take, List.map_drop]
    rfl
  have hsk : ∀ x ∈ ds.map cellT, Sk 3 x := fun x hx => by
    rw [hrep] at hx
    rcases rep_mem hx with rfl | hx
    · exact sk5 ⟨(sk_int _).up (by decide), (sk_int _).up (by decide), (sk_int _).up (by decide), (sk_int _).up (by decide), (sk_str (K.ok.good c hcm).small).up (by decide)⟩
    · exact (K.items x hx).2.2
  have hcond : fOr (fTest (f2 gLt (fC gMin (fCons (fIxL (fOw 6) (fK (.int 0))) (fCons (fIxL (fOw 6) (fK (.int 1))) fNil))) (fK (.int 0)))) (fOr (fTest (f2 gLt (fC gMin (fCons (fIxL (fOw 6) (fK (.int 2))) (fCons (fIxL (fOw 6) (fK (.int 3))) fNil))) (fK (.int 1)))) (fOr (fTest (f2 gGt (f2 gAdd (fIxL (fOw 6) (fK (.int 0))) (fIxL (fOw 6) (fK (.int 2)))) (fVar 1))) (fTest (f2 gGt (f2 gAdd (fIxL (fOw 6) (fK (.int 1))) (fIxL (fOw 6) (fK (.int 3)))) (fVar 2)))))
      [.sh (.lst (cs.map cellT)), .sh (.int R), .sh (.int C), .sh (.int n), .sh (.int (n % cs.length)), .sh (.int (n / cs.length)), .ow (boxL b' (.str (txt c.2))), .sh (.lst (ds.map cellT)), .un, .un, .un, .un] = some (outB R C b') := by
    have c1 : fTest (f2 gLt (fC gMin (fCons (fIxL (fOw 6) (fK (.int 0))) (fCons (fIxL (fOw 6) (fK (.int 1))) fNil))) (fK (.int 0))) [.sh (.lst (cs.map cellT)), .sh (.int R), .sh (.int C), .sh (.int n), .sh (.int (n % cs.length)), .sh (.int (n / cs.length)), .ow (boxL b' (.str (txt c.2))), .sh (.lst (ds.map cellT)), .un, .un, .un, .un] = some (decide ((if b'.2.1 < b'.1 then b'.2.1 else b'.1) < 0)) := rfl
    have c2 : fTest (f2 gLt (fC gMin (fCons (fIxL (fOw 6) (fK (.int 2))) (fCons (fIxL (fOw 6) (fK (.int 3))) fNil))) (fK (.int 1))) [.sh (.lst (cs.map cellT)), .sh (.int R), .sh (.int C), .sh (.int n), .sh (.int (n % cs.length)), .sh (.int (n / cs.length)), .ow (boxL b' (.str (txt c.2))), .sh (.lst (ds.map cellT)), .un, .un, .un, .un] = some (decide ((if b'.2.2.2 < b'.2.2.1 then b'.2.2.2 else b'.2.2.1) < 1)) := rfl
    have c3 : fTest (f2 gGt (f2 gAdd (fIxL (fOw 6) (fK (.int 0))) (fIxL (fOw 6) (fK (.int 2)))) (fVar 1)) [.sh (.lst (cs.map cellT)), .sh (.int R), .sh (.int C), .sh (.int n), .sh (.int (n % cs.length)), .sh (.int (n / cs.length)), .ow (boxL b' (.str (txt c.2))), .sh (.lst (ds.map cellT)), .un, .un, .un, .un] = some (decide ((R : Int) < b'.1 + b'.2.2.1)) := rfl
    have c4 : fTest (f2 gGt (f2 gAdd (fIxL (fOw 6) (fK (.int 1))) (fIxL (fOw 6) (fK (.int 3)))) (fVar 2)) [.sh (.lst (cs.map cellT)), .sh (.int R), .sh (.int C), .sh (.int n), .sh (.int (n % cs.length)), .sh (.int (n / cs.length)), .ow (boxL b' (.str (txt c.2))), .sh (.lst (ds.map cellT)), .un, .un, .un, .un] = some (decide ((C : Int) < b'.2.1 + b'.2.2.2)) := rfl
    rw [fOr_ev, fOr_ev, fOr_ev, c1, c2, c3, c4]
    unfold outB
    generalize decide ((if b'.2.1 < b'.1 then b'.2.1 else b'.1) < 0) = d1
    generalize decide ((if b'.2.2.2 < b'.2.2.1 then b'.2.2.2 else b'.2.2.1) < 1) = d2
    generalize decide ((R : Int) < b'.1 + b'.2.2.1) = d3
    generalize decide ((C : Int) < b'.2.1 + b'.2.2.2) = d4
    cases d1 <;> cases d2 <;> cases d3 <;> cases d4 <;> rfl
  have hpre : ∀ t : T, (fSeq (fIf (fOr (fTest (f2 gLt (fC gMin (fCons (fIxL (fOw 6) (fK (.int 0))) (fCons (fIxL (fOw 6) (fK (.int 1))) fNil))) (fK (.int 0)))) (fOr (fTest (f2 gLt (fC gMin (fCons (fIxL (fOw 6) (fK (.int 2))) (fCons (fIxL (fOw 6) (fK (.int 3))) fNil))) (fK (.int 1)))) (fOr (fTest (f2 gGt (f2 gAdd (fIxL (fOw 6) (fK (.int 0))) (fIxL (fOw 6) (fK (.int 2)))) (fVar 1))) (fTest (f2 gGt (f2 gAdd (fIxL (fOw 6) (fK (.int 1))) (fIxL (fOw 6) (fK (.int 3)))) (fVar 2))))))
      (fRet (fC gTup (fCons (fVar 7) (fCons (fK (.str "cell")) fNil))))
      fSkip)
      (fSeq (fSetDk 8)
      (fSeq (fFor (fItems (fVar 7)) (b1 9) lp2_law_moved)
      (fRet (fC gTup (fCons (fVar 7) (fCons (f2 gIx (fC gLst (fCons (fK (.str "made")) (fCons (fK (.str "bare")) fNil))) (fC gInt (fCons (f2 gLt (fLenD 8) (f2 gMul (fVar 1) (fVar 2))) fNil))) fNil)))))))
      [.sh (.lst (cs.map cellT)), .sh (.int R), .sh (.int C), .sh (.int n), .sh (.int (n % cs.length)), .sh (.int (n / cs.length)), .ow (boxL b' (.str (txt c.2))), .sh (.lst (ds.map cellT)), .un, .un, .un, .un] = some (.rt t) → m_law_moved [.lst (cs.map cellT), .int (R : Nat), .int (C : Nat), .int n] = some (.ok t) := fun t h => by
    refine runP_rt rfl ?_
    show body_law_moved [.sh (.lst (cs.map cellT)), .sh (.int R), .sh (.int C), .sh (.int n), .un, .un, .un, .un, .un, .un, .un, .un] = _
    unfold body_law_moved
    refine (fSeq_nx (fSet_eq (t := .int (n % cs.length)) ((f2_eq rfl (hlen _ rfl)).trans (gMod_p (by omega))))).trans ?_
    refine (fSeq_nx (fSet_eq (t := .int (n / cs.length)) ((f2_eq rfl (hlen _ rfl)).trans (gDiv_p (by omega) (by omega))))).trans ?_
    have eow : fSetOw 6 (fC gList (fCons (f2 gIx (fVar 0) (fVar 4)) fNil)) [.sh (.lst (cs.map cellT)), .sh (.int R), .sh (.int C), .sh (.int n), .sh (.int (n % cs.length)), .sh (.int (n / cs.length)), .un, .un, .un, .un, .un, .un] = some (.nx [.sh (.lst (cs.map cellT)), .sh (.int R), .sh (.int C), .sh (.int n), .sh (.int (n % cs.length)), .sh (.int (n / cs.length)), .ow (boxL c.1 (.str (txt c.2))), .un, .un, .un, .un, .un]) := by
      unfold fSetOw
      rw [show fC gList (fCons (f2 gIx (fVar 0) (fVar 4)) fNil) [.sh (.lst (cs.map cellT)), .sh (.int R), .sh (.int C), .sh (.int n), .sh (.int (n % cs.length)), .sh (.int (n / cs.length)), .un, .un, .un, .un, .un, .un] = some (.lst (boxL c.1 (.str (txt c.2)))) from (fC_eq (fCons_eq ((f2_eq rfl rfl).trans hx) rfl)).trans rfl]
      rfl
    refine (fSeq_nx eow).trans ?_
    refine (fSeq_nx hput).trans ?_
    refine (fSeq_nx (fSet_eq hfound)).trans ?_
    exact h
  by_cases hb : BoxOk R C b'
  · have hob : outB R C b' = false := outB_iff.mpr hb
    have hgood : ∀ d ∈ ds, Good R C d := fun d hd => by
      rcases List.mem_append.mp hd with hd | hd
      · rcases List.mem_append.mp hd with hd | hd
        · exact K.goods d (List.mem_of_mem_take hd)
        · rw [List.mem_singleton.mp hd]; exact ⟨hb, K.ok.good c hcm⟩
      · exact K.goods d (List.mem_of_mem_drop hd)
    have hbox : ∀ d ∈ ds, BoxOk R C d.1 := fun d hd => (hgood d hd).box
    rw [hob] at hcond
    have hturn := cells_turn (s0 := .sh (.lst (cs.map cellT))) (s1 := .sh (.int R)) (s2 := .sh (.int C)) (s3 := .sh (.int n)) (s4 := .sh (.int (n % cs.length))) (s5 := .sh (.int (n / cs.length))) (s6 := .ow (boxL b' (.str (txt c.2)))) (f := .lst (ds.map cellT)) hC.2 hR.2 ds [] .un .un .un hbox List.nodup_nil (by rw [List.length_nil]; omega)
    rw [List.nil_append] at hturn
    have hdk : fSetDk 8 [.sh (.lst (cs.map cellT)), .sh (.int R), .sh (.int C), .sh (.int n), .sh (.int (n % cs.length)), .sh (.int (n / cs.length)), .ow (boxL b' (.str (txt c.2))), .sh (.lst (ds.map cellT)), .un, .un, .un, .un] = some (.nx [.sh (.lst (cs.map cellT)), .sh (.int R), .sh (.int C), .sh (.int n), .sh (.int (n % cs.length)), .sh (.int (n / cs.length)), .ow (boxL b' (.str (txt c.2))), .sh (.lst (ds.map cellT)), .dk [], .un, .un, .un]) := rfl
    rcases hturn with ⟨hn, s9, s10, s11, hrun⟩ | ⟨hn, hrun⟩
    · have hRC : (R : Int) * (C : Int) = ((R * C : Nat) : Int) := by rw [Int.natCast_mul]
      have hlast : ∀ (bb : Bool) (d : Str), decide ((allsq ds).length < R * C) = bb → gIx (.lst [.str "made", .str "bare"]) (.int (if bb then 1 else 0)) = some (.str d) → m_law_moved [.lst (cs.map cellT), .int (R : Nat), .int (C : Nat), .int n] = some (.ok (.tup [.lst (ds.map cellT), .str d])) := fun bb d hbb hd => by
        refine hpre _ ((fSeq_nx ((fIf_f hcond).trans rfl)).trans ((fSeq_nx hdk).trans ((fSeq_nx ((fFor_eq rfl).trans hrun)).trans ?_)))
        refine pair_eq rfl ((f2_eq (d := .lst [.str "made", .str "bare"]) (e := .int (if bb then 1 else 0)) rfl ((fC_eq (fCons_eq (d := .bl bb) ?_ rfl)).trans rfl)).trans hd)
        refine (f2_eq (d := .int ((allsq ds).length : Nat)) (e := .int ((R : Int) * (C : Int))) rfl ((f2_eq rfl rfl).trans (gMul_s (by omega) (by omega)))).trans ?_
        show some (T.bl (decide ((((allsq ds).length : Nat) : Int) < (R : Int) * (C : Int)))) = _
        rw [hRC, ← hbb]
        congr 2
        exact decide_eq_decide.mpr (by omega)
      by_cases hlen2 : (allsq ds).length < R * C
      · obtain ⟨i, j, hi, hj, h0⟩ := some_bare (by omega) hbox hlen2
        exact ⟨ds.map cellT, "bare", hlast true _ (decide_eq_true hlen2) rfl, outcome_ex .bare (made_bare hR hC hgood (by omega) (fun i j _ _ => nodup_le hbox hn i j) hi hj h0), hsk⟩
      · exact ⟨ds.map cellT, "made", hlast false _ (decide_eq_false hlen2) rfl, outcome_fr (made_fine hR hC hgood (by omega) (none_bare (by omega) hbox hn hlen2)), hsk⟩
    · obtain ⟨i, j, hi, hj, h2⟩ := not_nodup hbox hn
      refine ⟨ds.map cellT, "shared", hpre _ ((fSeq_nx ((fIf_f hcond).trans rfl)).trans ((fSeq_nx hdk).trans (fSeq_rt ((fFor_eq rfl).trans hrun)))), outcome_ex .shared (made_shared hR hC hgood (by omega) hi hj h2), hsk⟩
  · have hob : outB R C b' = true := by
      cases q : outB R C b'
      · exact absurd (outB_iff.mp q) hb
      · rfl
    rw [hob] at hcond
    refine ⟨ds.map cellT, "cell", hpre _ (fSeq_rt ((fIf_t hcond).trans (pair_eq rfl rfl))), outcome_ex .cell ?_, hsk⟩
    rw [hrep]
    refine (K.one_bad hR hC _ (item_bad ?_) ?_ (sk5 ⟨(sk_int _).up (by decide), (sk_int _).up (by decide), (sk_int _).up (by decide), (sk_int _).up (by decide), (sk_str (K.ok.good c hcm).small).up (by decide)⟩)).1
    · rw [liesB_int]; exact inB_f hb
    · show (txt c.2).length ≤ 50000
      rw [len_txt]
      have := (K.ok.good c hcm).len
      omega
end
end K04

namespace K04
open PySem PySem.Spec L2 Fx Bx Mx
open PyProof.Rows hiding St
theorem num_bad (k : Int) (h : 0 ≤ k ∧ k < 9) : ∃ v, gIx (.lst [.int 0, .int 21, .int (-1), .bl true, .str "3", .non, .int 1000, .int (-20), .bl false]) (.int k) = some v ∧ BadNum v := by
  rcases (show k = 0 ∨ k = 1 ∨ k = 2 ∨ k = 3 ∨ k = 4 ∨ k = 5 ∨ k = 6 ∨ k = 7 ∨ k = 8 by omega) with rfl | rfl | rfl | rfl | rfl | rfl | rfl | rfl | rfl
  · exact ⟨_, rfl, .inr ⟨0, rfl, by omega⟩⟩
  · exact ⟨_, rfl, .inr ⟨21, rfl, by omega⟩⟩
  · exact ⟨_, rfl, .inr ⟨-1, rfl, by omega⟩⟩
  · exact ⟨_, rfl, .inl rfl⟩
  · exact ⟨_, rfl, .inl rfl⟩
  · exact ⟨_, rfl, .inl rfl⟩
  · exact ⟨_, rfl, .inr ⟨1000, rfl, by omega⟩⟩
  · exact ⟨_, rfl, .inr ⟨-20, rfl, by omega⟩⟩
  · exact ⟨_, rfl, .inl rfl⟩
theorem law_end {xs : List T} {d : Str} {a b s0 s4 s5 s7 s8 : Sl} {R' C' : T} (ha : a = .sh R') (hb : b = .sh C') (h : m_law_outcome [R', C', .lst xs] = some (.ok (.str d))) (hk : ∀ x ∈ xs, Sk 3 x) :
    fSeq (fSet 8 (fC gListA (fCons (fVar 3) fNil)))
      (fRet (fAndV (f2 gEq (fCall m_law_outcome (fCons (fVar 1) (fCons (fVar 2) (fCons (fVar 3) fNil)))) (fVar 6)) (f2 gEq (fVar 3) (fVar 8))))
      [s0, a, b, .sh (.lst xs), s4, s5, .sh (.str d), s7, s8] = some (.rt (.bl true)) := by
  subst ha hb
  refine (fSeq_nx (fSet_eq (t := .lst xs) rfl)).trans ?_
  refine fRet_eq ?_
  refine (fAndV_t ((f2_eq (d := .str d) (e := .str d) (fCall_eq rfl (by rw [h]; rfl)) rfl).trans (gEq_str_self d))).trans ?_
  refine (f2_eq (d := .lst xs) (e := .lst xs) rfl rfl).trans ?_
  rw [gEq_ev, self_eq hk]
  rfl
theorem law_true (ns : List Int) (hl : ns.length ≤ 63) : m_law_K04 [.scr ns] = some (.ok (.bl true)) := by
  have hR := szG_ok (ns.getD 0 0)
  have hC := szG_ok (ns.getD 1 0)
  have eR := szG_eq (ns.getD 0 0)
  have eC := szG_eq (ns.getD 1 0)
  generalize szG (ns.getD 0 0) = R at hR eR
  generalize szG (ns.getD 1 0) = C at hC eC
  obtain ⟨R, rfl⟩ := Int.eq_ofNat_of_zero_le (a := R) (by omega)
  obtain ⟨C, rfl⟩ := Int.eq_ofNat_of_zero_le (a := C) (by omega)
  have hR' : 1 ≤ R ∧ R ≤ 20 := by omega
  have hC' : 1 ≤ C ∧ C ≤ 20 := by omega
  obtain ⟨cs, hcells, K⟩ := cells_eq hl hR.1 hC.1
  have hat : ∀ (k : Nat) (ev : Ev), fVar 0 ev = some (.scr ns) → fCall m_law_at (fCons (fVar 0) (fCons (fK (.int (k : Nat))) fNil)) ev = some (.int (ns.getD k 0)) := fun k ev h => fCall_eq (fCons_eq h (fCons_eq rfl rfl)) (by rw [at_eq]; rfl)
  refine runP_rt rfl ?_
  show body_law_K04 [.sh (.scr ns), .un, .un, .un, .un, .un, .un, .un, .un] = _
  unfold body_law_K04
  refine (fSeq_nx (fSet_eq (fCall_eq (fCons_eq (hat 0 _ rfl) rfl) (by rw [eR]; rfl)))).trans ?_
  refine (fSeq_nx (fSet_eq (fCall_eq (fCons_eq (hat 1 _ rfl) rfl) (by rw [eC]; rfl)))).trans ?_
  refine (fSeq_nx (fSet_eq (t := .lst (cs.map cellT)) (fCall_eq (fCons_eq rfl (fCons_eq rfl (fCons_eq rfl rfl))) (by rw [hcells]; rfl)))).trans ?_
  have hw := mod_ok (ns.getD 2 0) 12 (by decide)
  refine (fSeq_nx (fSet_eq (t := .int (ns.getD 2 0 % 12)) ((f2_eq (hat 2 _ rfl) rfl).trans (gMod_p (by decide))))).trans ?_
  generalize ns.getD 2 0 % 12 = way at hw
  obtain ⟨bad, hbad, hbn⟩ := num_bad (ns.getD 3 0 % 9) (mod_ok _ 9 (by decide))
  refine (fSeq_nx (fSet_eq (t := bad) ((f2_eq (d := .lst [.int 0, .int 21, .int (-1), .bl true, .str "3", .non, .int 1000, .int (-20), .bl false]) rfl ((f2_eq (hat 3 _ rfl) rfl).trans (gMod_p (by decide)))).trans hbad))).trans ?_
  refine (fSeq_nx (fSet_eq (t := .str "size") rfl)).trans ?_
  show fSeq _ _ [.sh (.scr ns), .sh (.int R), .sh (.int C), .sh (.lst (cs.map cellT)), .sh (.int way), .sh bad, .sh (.str "size"), .un, .un] = _
  have h4 : ∀ ev : Ev, fVar 0 ev = some (.scr ns) → fCall m_law_at (fCons (fVar 0) (fCons (fK (.int 4)) fNil)) ev = some (.int (ns.getD 4 0)) := fun ev h => hat 4 ev h
  have hsk : ∀ x ∈ cs.map cellT, Sk 3 x := fun x hx => (K.items x hx).2.2
  by_cases h0 : way = 0
  · subst h0
    refine (fSeq_nx ((if_eqT rfl rfl rfl).trans (fSet_eq (t := bad) rfl))).trans ?_
    refine (fSeq_nx ((if_eqF rfl rfl (by decide)).trans rfl)).trans ?_
    exact law_end rfl rfl (outcome_ex .size (made_size (size_bad (.inl hbn)))) hsk
  by_cases h1 : way = 1
  · subst h1
    refine (fSeq_nx ((if_eqF rfl rfl (by decide)).trans ((if_eqT rfl rfl rfl).trans (fSet_eq (t := bad) rfl)))).trans ?_
    refine (fSeq_nx ((if_eqF rfl rfl (by decide)).trans rfl)).trans ?_
    exact law_end rfl rfl (outcome_ex .size (made_size (size_bad (.inr ⟨R, rfl, hR, hbn⟩)))) hsk
  have hgt : fTest (f2 gGt (fVar 4) (fK (.int 9))) [.sh (.scr ns), .sh (.int R), .sh (.int C), .sh (.lst (cs.map cellT)), .sh (.int way), .sh bad, .sh (.str "size"), .un, .un] = some (decide (9 < way)) := rfl
  by_cases h9 : 9 < way
  · obtain ⟨xs, d, hm, ho, hk⟩ := moved_eq K hR' hC' (ns.getD 4 0)
    rw [decide_eq_true h9] at hgt
    refine (fSeq_nx ((if_eqF rfl rfl h0).trans ((if_eqF rfl rfl h1).trans ((fIf_t hgt).trans
      ((fSeq_nx (fSet_eq (t := .tup [.lst xs, .str d]) (fCall_eq (fCons_eq rfl (fCons_eq rfl (fCons_eq rfl (fCons_eq (h4 _ rfl) rfl)))) (by rw [hm]; rfl)))).trans
        ((fSeq_nx (fSet_eq (t := .lst xs) rfl)).trans (fSet_eq (t := .str d) rfl))))))).trans ?_
    refine (fSeq_nx ((if_eqF rfl rfl (by omega)).trans rfl)).trans ?_
    exact law_end rfl rfl ho hk
  · rw [decide_eq_false h9] at hgt
    obtain ⟨xs, c, d, hs, hnm, hm, hk⟩ := spoilt_eq K hR' hC' way (ns.getD 4 0) (by omega)
    refine (fSeq_nx ((if_eqF rfl rfl h0).trans ((if_eqF rfl rfl h1).trans ((fIf_f hgt).trans
      ((fSeq_nx (fSet_eq (t := .tup [.lst xs, .str d]) (fCall_eq (fCons_eq rfl (fCons_eq rfl (fCons_eq (h4 _ rfl) rfl))) (by rw [hs]; rfl)))).trans
        ((fSeq_nx (fSet_eq (t := .lst xs) rfl)).trans (fSet_eq (t := .str d) rfl))))))).trans ?_
    by_cases h8 : way = 8
    · subst h8
      refine (fSeq_nx ((if_eqT rfl rfl rfl).trans ((fSeq_nx (fSet_eq (t := bad) rfl)).trans (fSet_eq (t := .str "size") rfl)))).trans ?_
      exact law_end rfl rfl (outcome_ex .size (made_size (size_bad (.inl hbn)))) hk
    · refine (fSeq_nx ((if_eqF rfl rfl h8).trans rfl)).trans ?_
      exact law_end rfl rfl (outcome_ex hnm hm) hk
end K04

namespace K04
open PySem PySem.Spec L2 Fx Bx
open PyProof.Rows hiding St
def spLaw (K : PySem.W.Frag) : Sp := fun vs H Q _ => ∃ (a : Addr) (ns : List Int), vs = [.ref a] ∧ SqL K H a (ns.map V.int) ∧ ns.length ≤ 63 ∧ ∀ H', Q (.bl true) H'
theorem ok_the_law {P : Program} {w : World} {K : PySem.W.Frag} {mg : Str → Option Value} {base : Heap} {Ad0 : Ad} (Tx : Txt K mg Ad0) : FnOk P w K mg base CX0 6 Ad0.a_law Ad0.d_law ["_law_script"] (spLaw K) :=
  (ok_law Tx).imp fun vs H Q E ⟨a, ns, e, hS, hl, q⟩ => ⟨H, [.scr ns], _, Ok.refl H, by rw [e]; exact .cons (.scr hS) .nil, law_true ns hl, fun v Hs' H' g r => by cases r; exact q H'⟩
set_option maxHeartbeats 8000000 in
theorem all_mk {l : PySem.W.OpenLaw} {w : World} {K : PySem.W.Frag} {h : Heap} {mg : Str → Option Value} {fa : Addr} (X : K.In h) (G : h.Ns mainGlobals mg) (hfa : mg "law" = some (.ref fa))
    {f0 f1 f2 f3 f4 f5 f6 f7 f8 f9 f10 f11 f12 f13 f14 f15 f16 f17 f18 f19 : Addr} {od0 an0 od1 an1 od2 an2 od3 an3 od4 an4 od5 an5 od6 an6 od7 an7 od8 an8 od9 an9 od10 an10 od11 an11 od12 an12 od13 an13 od14 an14 od15 an15 od16 an16 od17 an17 od18 an18 od19 an19 : Option Addr} {sl0 sl1 sl2 sl3 sl4 sl5 sl6 sl7 sl8 sl9 sl10 sl11 sl12 sl13 sl14 sl15 sl16 sl17 sl18 sl19 : Array (Option Value)} {oc0 kV0 dc0 pm0 cd0 ct0 oc1 kV1 dc1 pm1 cd1 ct1 oc2 kV2 dc2 pm2 cd2 ct2 oc3 kV3 dc3 pm3 cd3 ct3 oc4 kV4 dc4 pm4 cd4 ct4 oc5 kV5 dc5 pm5 cd5 ct5 oc6 kV6 dc6 pm6 cd6 ct6 oc7 kV7 dc7 pm7 cd7 ct7 oc8 kV8 dc8 pm8 cd8 ct8 oc9 kV9 dc9 pm9 cd9 ct9 oc10 kV10 dc10 pm10 cd10 ct10 oc11 kV11 dc11 pm11 cd11 ct11 oc12 kV12 dc12 pm12 cd12 ct12 oc13 kV13 dc13 pm13 cd13 ct13 oc14 kV14 dc14 pm14 cd14 ct14 oc15 kV15 dc15 pm15 cd15 ct15 oc16 kV16 dc16 pm16 cd16 ct16 oc17 kV17 dc17 pm17 cd17 ct17 oc18 kV18 dc18 pm18 cd18 ct18 oc19 kV19 dc19 pm19 cd19 ct19 : Value}
    {tk_MOST tk_SIGNS tk_MOST_LINES : Tok}
    {CTableError CBadSize CBadCell CBadText CShared CBare CNoSquare CCut CNoDrawing : Addr}
    (a0 : PySem.W.nsIn K mainGlobals "lines_of" = some (some (.ref f0)))
    (l0 : K.lookup f0 = some ⟨oc0, od0, .func (PySem.W.fnOf "lines_of" "lines_of" (defArgs s_lines_of) (defBody s_lines_of) (defScope s_lines_of) .none kV0 dc0 pm0 an0 cd0 ct0), sl0⟩)
    (c0 : PySem.W.codeIn K cd0 "lines_of" = true)
    (k0 : PySem.W.keepIn K (.ref f0) = true)
    (a1 : PySem.W.nsIn K mainGlobals "is_good" = some (some (.ref f1)))
    (l1 : K.lookup f1 = some ⟨oc1, od1, .func (PySem.W.fnOf "is_good" "is_good" (defArgs s_is_good) (defBody s_is_good) (defScope s_is_good) .none kV1 dc1 pm1 an1 cd1 ct1), sl1⟩)
    (c1 : PySem.W.codeIn K cd1 "is_good" = true)
    (k1 : PySem.W.keepIn K (.ref f1) = true)
    (a2 : PySem.W.nsIn K mainGlobals "is_whole" = some (some (.ref f2)))
    (l2 : K.lookup f2 = some ⟨oc2, od2, .func (PySem.W.fnOf "is_whole" "is_whole" (defArgs s_is_whole) (defBody s_is_whole) (defScope s_is_whole) .none kV2 dc2 pm2 an2 cd2 ct2), sl2⟩)
    (c2 : PySem.W.codeIn K cd2 "is_whole" = true)
    (k2 : PySem.W.keepIn K (.ref f2) = true)
    (a3 : PySem.W.nsIn K mainGlobals "need_size" = some (some (.ref f3)))
    (l3 : K.lookup f3 = some ⟨oc3, od3, .func (PySem.W.fnOf "need_size" "need_size" (defArgs s_need_size) (defBody s_need_size) (defScope s_need_size) .none kV3 dc3 pm3 an3 cd3 ct3), sl3⟩)
    (c3 : PySem.W.codeIn K cd3 "need_size" = true)
    (k3 : PySem.W.keepIn K (.ref f3) = true)
    (a4 : PySem.W.nsIn K mainGlobals "lies_in" = some (some (.ref f4)))
    (l4 : K.lookup f4 = some ⟨oc4, od4, .func (PySem.W.fnOf "lies_in" "lies_in" (defArgs s_lies_in) (defBody s_lies_in) (defScope s_lies_in) .none kV4 dc4 pm4 an4 cd4 ct4), sl4⟩)
    (c4 : PySem.W.codeIn K cd4 "lies_in" = true)
    (k4 : PySem.W.keepIn K (.ref f4) = true)
    (a5 : PySem.W.nsIn K mainGlobals "need_cells" = some (some (.ref f5)))
    (l5 : K.lookup f5 = some ⟨oc5, od5, .func (PySem.W.fnOf "need_cells" "need_cells" (defArgs s_need_cells) (defBody s_need_cells) (defScope s_need_cells) .none kV5 dc5 pm5 an5 cd5 ct5), sl5⟩)
    (c5 : PySem.W.codeIn K cd5 "need_cells" = true)
    (k5 : PySem.W.keepIn K (.ref f5) = true)
    (a6 : PySem.W.nsIn K mainGlobals "counts_of" = some (some (.ref f6)))
    (l6 : K.lookup f6 = some ⟨oc6, od6, .func (PySem.W.fnOf "counts_of" "counts_of" (defArgs s_counts_of) (defBody s_counts_of) (defScope s_counts_of) .none kV6 dc6 pm6 an6 cd6 ct6), sl6⟩)
    (c6 : PySem.W.codeIn K cd6 "counts_of" = true)
    (k6 : PySem.W.keepIn K (.ref f6) = true)
    (a7 : PySem.W.nsIn K mainGlobals "corner" = some (some (.ref f7)))
    (l7 : K.lookup f7 = some ⟨oc7, od7, .func (PySem.W.fnOf "corner" "corner" (defArgs s_corner) (defBody s_corner) (defScope s_corner) .none kV7 dc7 pm7 an7 cd7 ct7), sl7⟩)
    (c7 : PySem.W.codeIn K cd7 "corner" = true)
    (k7 : PySem.W.keepIn K (.ref f7) = true)
    (a8 : PySem.W.nsIn K mainGlobals "made" = some (some (.ref f8)))
    (l8 : K.lookup f8 = some ⟨oc8, od8, .func (PySem.W.fnOf "made" "made" (defArgs s_made) (defBody s_made) (defScope s_made) .none kV8 dc8 pm8 an8 cd8 ct8), sl8⟩)
    (c8 : PySem.W.codeIn K cd8 "made" = true)
    (k8 : PySem.W.keepIn K (.ref f8) = true)
    (a9 : PySem.W.nsIn K mainGlobals "_law_at" = some (some (.ref f9)))
    (l9 : K.lookup f9 = some ⟨oc9, od9, .func (PySem.W.fnOf "_law_at" "_law_at" (defArgs s_law_at) (defBody s_law_at) (defScope s_law_at) .none kV9 dc9 pm9 an9 cd9 ct9), sl9⟩)
    (c9 : PySem.W.codeIn K cd9 "_law_at" = true)
    (k9 : PySem.W.keepIn K (.ref f9) = true)
    (a10 : PySem.W.nsIn K mainGlobals "_law_line" = some (some (.ref f10)))
    (l10 : K.lookup f10 = some ⟨oc10, od10, .func (PySem.W.fnOf "_law_line" "_law_line" (defArgs s_law_line) (defBody s_law_line) (defScope s_law_line) .none kV10 dc10 pm10 an10 cd10 ct10), sl10⟩)
    (c10 : PySem.W.codeIn K cd10 "_law_line" = true)
    (k10 : PySem.W.keepIn K (.ref f10) = true)
    (a11 : PySem.W.nsIn K mainGlobals "_law_size" = some (some (.ref f11)))
    (l11 : K.lookup f11 = some ⟨oc11, od11, .func (PySem.W.fnOf "_law_size" "_law_size" (defArgs s_law_size) (defBody s_law_size) (defScope s_law_size) .none kV11 dc11 pm11 an11 cd11 ct11), sl11⟩)
    (c11 : PySem.W.codeIn K cd11 "_law_size" = true)
    (k11 : PySem.W.keepIn K (.ref f11) = true)
    (a12 : PySem.W.nsIn K mainGlobals "_law_parts" = some (some (.ref f12)))
    (l12 : K.lookup f12 = some ⟨oc12, od12, .func (PySem.W.fnOf "_law_parts" "_law_parts" (defArgs s_law_parts) (defBody s_law_parts) (defScope s_law_parts) .none kV12 dc12 pm12 an12 cd12 ct12), sl12⟩)
    (c12 : PySem.W.codeIn K cd12 "_law_parts" = true)
    (k12 : PySem.W.keepIn K (.ref f12) = true)
    (a13 : PySem.W.nsIn K mainGlobals "_law_cells" = some (some (.ref f13)))
    (l13 : K.lookup f13 = some ⟨oc13, od13, .func (PySem.W.fnOf "_law_cells" "_law_cells" (defArgs s_law_cells) (defBody s_law_cells) (defScope s_law_cells) .none kV13 dc13 pm13 an13 cd13 ct13), sl13⟩)
    (c13 : PySem.W.codeIn K cd13 "_law_cells" = true)
    (k13 : PySem.W.keepIn K (.ref f13) = true)
    (a14 : PySem.W.nsIn K mainGlobals "_law_bad_cell" = some (some (.ref f14)))
    (l14 : K.lookup f14 = some ⟨oc14, od14, .func (PySem.W.fnOf "_law_bad_cell" "_law_bad_cell" (defArgs s_law_bad_cell) (defBody s_law_bad_cell) (defScope s_law_bad_cell) .none kV14 dc14 pm14 an14 cd14 ct14), sl14⟩)
    (c14 : PySem.W.codeIn K cd14 "_law_bad_cell" = true)
    (k14 : PySem.W.keepIn K (.ref f14) = true)
    (a15 : PySem.W.nsIn K mainGlobals "_law_bad_text" = some (some (.ref f15)))
    (l15 : K.lookup f15 = some ⟨oc15, od15, .func (PySem.W.fnOf "_law_bad_text" "_law_bad_text" (defArgs s_law_bad_text) (defBody s_law_bad_text) (defScope s_law_bad_text) .none kV15 dc15 pm15 an15 cd15 ct15), sl15⟩)
    (c15 : PySem.W.codeIn K cd15 "_law_bad_text" = true)
    (k15 : PySem.W.keepIn K (.ref f15) = true)
    (a16 : PySem.W.nsIn K mainGlobals "_law_outcome" = some (some (.ref f16)))
    (l16 : K.lookup f16 = some ⟨oc16, od16, .func (PySem.W.fnOf "_law_outcome" "_law_outcome" (defArgs s_law_outcome) (defBody s_law_outcome) (defScope s_law_outcome) .none kV16 dc16 pm16 an16 cd16 ct16), sl16⟩)
    (c16 : PySem.W.codeIn K cd16 "_law_outcome" = true)
    (k16 : PySem.W.keepIn K (.ref f16) = true)
    (a17 : PySem.W.nsIn K mainGlobals "_law_spoilt" = some (some (.ref f17)))
    (l17 : K.lookup f17 = some ⟨oc17, od17, .func (PySem.W.fnOf "_law_spoilt" "_law_spoilt" (defArgs s_law_spoilt) (defBody s_law_spoilt) (defScope s_law_spoilt) .none kV17 dc17 pm17 an17 cd17 ct17), sl17⟩)
    (c17 : PySem.W.codeIn K cd17 "_law_spoilt" = true)
    (k17 : PySem.W.keepIn K (.ref f17) = true)
    (a18 : PySem.W.nsIn K mainGlobals "_law_moved" = some (some (.ref f18)))
    (l18 : K.lookup f18 = some ⟨oc18, od18, .func (PySem.W.fnOf "_law_moved" "_law_moved" (defArgs s_law_moved) (defBody s_law_moved) (defScope s_law_moved) .none kV18 dc18 pm18 an18 cd18 ct18), sl18⟩)
    (c18 : PySem.W.codeIn K cd18 "_law_moved" = true)
    (k18 : PySem.W.keepIn K (.ref f18) = true)
    (a19 : PySem.W.nsIn K mainGlobals "law" = some (some (.ref f19)))
    (l19 : K.lookup f19 = some ⟨oc19, od19, .func (PySem.W.fnOf "law" "law" (defArgs s_law) (defBody s_law) (defScope s_law) .none kV19 dc19 pm19 an19 cd19 ct19), sl19⟩)
    (c19 : PySem.W.codeIn K cd19 "law" = true)
    (k19 : PySem.W.keepIn K (.ref f19) = true)
    (z_ValueError : PySem.W.nsIn K mainGlobals "ValueError" = some none)
    (z_len : PySem.W.nsIn K mainGlobals "len" = some none)
    (z_max : PySem.W.nsIn K mainGlobals "max" = some none)
    (z_min : PySem.W.nsIn K mainGlobals "min" = some none)
    (z_abs : PySem.W.nsIn K mainGlobals "abs" = some none)
    (z_int : PySem.W.nsIn K mainGlobals "int" = some none)
    (z_str : PySem.W.nsIn K mainGlobals "str" = some none)
    (z_list : PySem.W.nsIn K mainGlobals "list" = some none)
    (z_range : PySem.W.nsIn K mainGlobals "range" = some none)
    (z_enumerate : PySem.W.nsIn K mainGlobals "enumerate" = some none)
    (z_isinstance : PySem.W.nsIn K mainGlobals "isinstance" = some none)
    (z_sorted : PySem.W.nsIn K mainGlobals "sorted" = some none)
    (z_bool : PySem.W.nsIn K mainGlobals "bool" = some none)
    (z_tuple : PySem.W.nsIn K mainGlobals "tuple" = some none)
    (v_MOST : PySem.W.nsIn K mainGlobals "MOST" = some (some (.int 200 tk_MOST)))
    (v_SIGNS : PySem.W.nsIn K mainGlobals "SIGNS" = some (some (.str " !\"#$&'()*+,-./0123456789:;<=>?@ABCDEFGHIJKLMNOPQRSTUVWXYZ[\\]^_`abcdefghijklmnopqrstuvwxyz{|}~" tk_SIGNS)))
    (v_MOST_LINES : PySem.W.nsIn K mainGlobals "MOST_LINES" = some (some (.int 20 tk_MOST_LINES)))
    (g_TableError : PySem.W.nsIn K mainGlobals "TableError" = some (some (.ref CTableError)))
    (x_TableError : PySem.W.excIn K CTableError [.type "ValueError", .type "Exception", .type "BaseException", .type "object"] "ValueError.__new__" = true)
    (k_TableError : PySem.W.keepIn K (.ref CTableError) = true)
    (s_TableError : PySem.W.subIn K (.ref CTableError) (.type "BaseException") = some true)
    (t_TableError : PySem.W.typeIn K (.ref CTableError) = some (.type "type"))
    (g_BadSize : PySem.W.nsIn K mainGlobals "BadSize" = some (some (.ref CBadSize)))
    (x_BadSize : PySem.W.excIn K CBadSize [.type "ValueError", .type "Exception", .type "BaseException", .type "object"] "ValueError.__new__" = true)
    (k_BadSize : PySem.W.keepIn K (.ref CBadSize) = true)
    (s_BadSize : PySem.W.subIn K (.ref CBadSize) (.type "BaseException") = some true)
    (t_BadSize : PySem.W.typeIn K (.ref CBadSize) = some (.type "type"))
    (g_BadCell : PySem.W.nsIn K mainGlobals "BadCell" = some (some (.ref CBadCell)))
    (x_BadCell : PySem.W.excIn K CBadCell [.type "ValueError", .type "Exception", .type "BaseException", .type "object"] "ValueError.__new__" = true)
    (k_BadCell : PySem.W.keepIn K (.ref CBadCell) = true)
    (s_BadCell : PySem.W.subIn K (.ref CBadCell) (.type "BaseException") = some true)
    (t_BadCell : PySem.W.typeIn K (.ref CBadCell) = some (.type "type"))
    (g_BadText : PySem.W.nsIn K mainGlobals "BadText" = some (some (.ref CBadText)))
    (x_BadText : PySem.W.excIn K CBadText [.type "ValueError", .type "Exception", .type "BaseException", .type "object"] "ValueError.__new__" = true)
    (k_BadText : PySem.W.keepIn K (.ref CBadText) = true)
    (s_BadText : PySem.W.subIn K (.ref CBadText) (.type "BaseException") = some true)
    (t_BadText : PySem.W.typeIn K (.ref CBadText) = some (.type "type"))
    (g_Shared : PySem.W.nsIn K mainGlobals "Shared" = some (some (.ref CShared)))
    (x_Shared : PySem.W.excIn K CShared [.type "ValueError", .type "Exception", .type "BaseException", .type "object"] "ValueError.__new__" = true)
    (k_Shared : PySem.W.keepIn K (.ref CShared) = true)
    (s_Shared : PySem.W.subIn K (.ref CShared) (.type "BaseException") = some true)
    (t_Shared : PySem.W.typeIn K (.ref CShared) = some (.type "type"))
    (g_Bare : PySem.W.nsIn K mainGlobals "Bare" = some (some (.ref CBare)))
    (x_Bare : PySem.W.excIn K CBare [.type "ValueError", .type "Exception", .type "BaseException", .type "object"] "ValueError.__new__" = true)
    (k_Bare : PySem.W.keepIn K (.ref CBare) = true)
    (s_Bare : PySem.W.subIn K (.ref CBare) (.type "BaseException") = some true)
    (t_Bare : PySem.W.typeIn K (.ref CBare) = some (.type "type"))
    (g_NoSquare : PySem.W.nsIn K mainGlobals "NoSquare" = some (some (.ref CNoSquare)))
    (x_NoSquare : PySem.W.excIn K CNoSquare [.type "ValueError", .type "Exception", .type "BaseException", .type "object"] "ValueError.__new__" = true)
    (k_NoSquare : PySem.W.keepIn K (.ref CNoSquare) = true)
    (s_NoSquare : PySem.W.subIn K (.ref CNoSquare) (.type "BaseException") = some true)
    (t_NoSquare : PySem.W.typeIn K (.ref CNoSquare) = some (.type "type"))
    (g_Cut : PySem.W.nsIn K mainGlobals "Cut" = some (some (.ref CCut)))
    (x_Cut : PySem.W.excIn K CCut [.type "ValueError", .type "Exception", .type "BaseException", .type "object"] "ValueError.__new__" = true)
    (k_Cut : PySem.W.keepIn K (.ref CCut) = true)
    (s_Cut : PySem.W.subIn K (.ref CCut) (.type "BaseException") = some true)
    (t_Cut : PySem.W.typeIn K (.ref CCut) = some (.type "type"))
    (g_NoDrawing : PySem.W.nsIn K mainGlobals "NoDrawing" = some (some (.ref CNoDrawing)))
    (x_NoDrawing : PySem.W.excIn K CNoDrawing [.type "ValueError", .type "Exception", .type "BaseException", .type "object"] "ValueError.__new__" = true)
    (k_NoDrawing : PySem.W.keepIn K (.ref CNoDrawing) = true)
    (s_NoDrawing : PySem.W.subIn K (.ref CNoDrawing) (.type "BaseException") = some true)
    (t_NoDrawing : PySem.W.typeIn K (.ref CNoDrawing) = some (.type "type"))
    (sp_c : PySem.W.specialIn K (.builtin "object.__class__") "__get__" = some (some (.builtin "getset_descriptor.__get__")))
    (tk_c : PySem.W.takesIn K (.builtin "object.__class__") = some true)
    (ga_BadSize : PySem.W.findIn K (.ref CBadSize) "__getattribute__" = some (some (.builtin "BaseException.__getattribute__")))
    (gt_BadSize : PySem.W.findIn K (.ref CBadSize) "__getattr__" = some none)
    (gc_BadSize : PySem.W.findIn K (.ref CBadSize) "__class__" = some (some (.builtin "object.__class__")))
    (mo_BadSize : PySem.W.mroIn K CBadSize (.type "object") = some true)
    (sv_BadSize : PySem.W.subIn K (.ref CBadSize) (.type "ValueError") = some true)
    (ga_BadCell : PySem.W.findIn K (.ref CBadCell) "__getattribute__" = some (some (.builtin "BaseException.__getattribute__")))
    (gt_BadCell : PySem.W.findIn K (.ref CBadCell) "__getattr__" = some none)
    (gc_BadCell : PySem.W.findIn K (.ref CBadCell) "__class__" = some (some (.builtin "object.__class__")))
    (mo_BadCell : PySem.W.mroIn K CBadCell (.type "object") = some true)
    (sv_BadCell : PySem.W.subIn K (.ref CBadCell) (.type "ValueError") = some true)
    (ga_BadText : PySem.W.findIn K (.ref CBadText) "__getattribute__" = some (some (.builtin "BaseException.__getattribute__")))
    (gt_BadText : PySem.W.findIn K (.ref CBadText) "__getattr__" = some none)
    (gc_BadText : PySem.W.findIn K (.ref CBadText) "__class__" = some (some (.builtin "object.__class__")))
    (mo_BadText : PySem.W.mroIn K CBadText (.type "object") = some true)
    (sv_BadText : PySem.W.subIn K (.ref CBadText) (.type "ValueError") = some true)
    (ga_Shared : PySem.W.findIn K (.ref CShared) "__getattribute__" = some (some (.builtin "BaseException.__getattribute__")))
    (gt_Shared : PySem.W.findIn K (.ref CShared) "__getattr__" = some none)
    (gc_Shared : PySem.W.findIn K (.ref CShared) "__class__" = some (some (.builtin "object.__class__")))
    (mo_Shared : PySem.W.mroIn K CShared (.type "object") = some true)
    (sv_Shared : PySem.W.subIn K (.ref CShared) (.type "ValueError") = some true)
    (ga_Bare : PySem.W.findIn K (.ref CBare) "__getattribute__" = some (some (.builtin "BaseException.__getattribute__")))
    (gt_Bare : PySem.W.findIn K (.ref CBare) "__getattr__" = some none)
    (gc_Bare : PySem.W.findIn K (.ref CBare) "__class__" = some (some (.builtin "object.__class__")))
    (mo_Bare : PySem.W.mroIn K CBare (.type "object") = some true)
    (sv_Bare : PySem.W.subIn K (.ref CBare) (.type "ValueError") = some true)
    (hd_TableError : PySem.W.hasDictIn K CTableError = true)
    (dd_TableError : PySem.W.subIn K (.ref CTableError) (.ref CTableError) = some true)
    (su_BadSize_TableError : PySem.W.subIn K (.ref CBadSize) (.ref CTableError) = some true)
    (su_BadCell_TableError : PySem.W.subIn K (.ref CBadCell) (.ref CTableError) = some true)
    (su_BadText_TableError : PySem.W.subIn K (.ref CBadText) (.ref CTableError) = some true)
    (su_Shared_TableError : PySem.W.subIn K (.ref CShared) (.ref CTableError) = some true)
    (su_Bare_TableError : PySem.W.subIn K (.ref CBare) (.ref CTableError) = some true)
    (hd_BadSize : PySem.W.hasDictIn K CBadSize = true)
    (dd_BadSize : PySem.W.subIn K (.ref CBadSize) (.ref CBadSize) = some true)
    (su_BadCell_BadSize : PySem.W.subIn K (.ref CBadCell) (.ref CBadSize) = some false)
    (su_BadText_BadSize : PySem.W.subIn K (.ref CBadText) (.ref CBadSize) = some false)
    (su_Shared_BadSize : PySem.W.subIn K (.ref CShared) (.ref CBadSize) = some false)
    (su_Bare_BadSize : PySem.W.subIn K (.ref CBare) (.ref CBadSize) = some false)
    (hd_BadCell : PySem.W.hasDictIn K CBadCell = true)
    (dd_BadCell : PySem.W.subIn K (.ref CBadCell) (.ref CBadCell) = some true)
    (su_BadSize_BadCell : PySem.W.subIn K (.ref CBadSize) (.ref CBadCell) = some false)
    (su_BadText_BadCell : PySem.W.subIn K (.ref CBadText) (.ref CBadCell) = some false)
    (su_Shared_BadCell : PySem.W.subIn K (.ref CShared) (.ref CBadCell) = some false)
    (su_Bare_BadCell : PySem.W.subIn K (.ref CBare) (.ref CBadCell) = some false)
    (hd_BadText : PySem.W.hasDictIn K CBadText = true)
    (dd_BadText : PySem.W.subIn K (.ref CBadText) (.ref CBadText) = some true)
    (su_BadSize_BadText : PySem.W.subIn K (.ref CBadSize) (.ref CBadText) = some false)
    (su_BadCell_BadText : PySem.W.subIn K (.ref CBadCell) (.ref CBadText) = some false)
    (su_Shared_BadText : PySem.W.subIn K (.ref CShared) (.ref CBadText) = some false)
    (su_Bare_BadText : PySem.W.subIn K (.ref CBare) (.ref CBadText) = some false)
    (hd_Shared : PySem.W.hasDictIn K CShared = true)
    (dd_Shared : PySem.W.subIn K (.ref CShared) (.ref CShared) = some true)
    (su_BadSize_Shared : PySem.W.subIn K (.ref CBadSize) (.ref CShared) = some false)
    (su_BadCell_Shared : PySem.W.subIn K (.ref CBadCell) (.ref CShared) = some false)
    (su_BadText_Shared : PySem.W.subIn K (.ref CBadText) (.ref CShared) = some false)
    (su_Bare_Shared : PySem.W.subIn K (.ref CBare) (.ref CShared) = some false)
    (hd_Bare : PySem.W.hasDictIn K CBare = true)
    (dd_Bare : PySem.W.subIn K (.ref CBare) (.ref CBare) = some true)
    (su_BadSize_Bare : PySem.W.subIn K (.ref CBadSize) (.ref CBare) = some false)
    (su_BadCell_Bare : PySem.W.subIn K (.ref CBadCell) (.ref CBare) = some false)
    (su_BadText_Bare : PySem.W.subIn K (.ref CBadText) (.ref CBare) = some false)
    (su_Shared_Bare : PySem.W.subIn K (.ref CShared) (.ref CBare) = some false)
    (hd_NoSquare : PySem.W.hasDictIn K CNoSquare = true)
    (dd_NoSquare : PySem.W.subIn K (.ref CNoSquare) (.ref CNoSquare) = some true)
    (su_BadSize_NoSquare : PySem.W.subIn K (.ref CBadSize) (.ref CNoSquare) = some false)
    (su_BadCell_NoSquare : PySem.W.subIn K (.ref CBadCell) (.ref CNoSquare) = some false)
    (su_BadText_NoSquare : PySem.W.subIn K (.ref CBadText) (.ref CNoSquare) = some false)
    (su_Shared_NoSquare : PySem.W.subIn K (.ref CShared) (.ref CNoSquare) = some false)
    (su_Bare_NoSquare : PySem.W.subIn K (.ref CBare) (.ref CNoSquare) = some false)
    (hd_Cut : PySem.W.hasDictIn K CCut = true)
    (dd_Cut : PySem.W.subIn K (.ref CCut) (.ref CCut) = some true)
    (su_BadSize_Cut : PySem.W.subIn K (.ref CBadSize) (.ref CCut) = some false)
    (su_BadCell_Cut : PySem.W.subIn K (.ref CBadCell) (.ref CCut) = some false)
    (su_BadText_Cut : PySem.W.subIn K (.ref CBadText) (.ref CCut) = some false)
    (su_Shared_Cut : PySem.W.subIn K (.ref CShared) (.ref CCut) = some false)
    (su_Bare_Cut : PySem.W.subIn K (.ref CBare) (.ref CCut) = some false)
    (hd_NoDrawing : PySem.W.hasDictIn K CNoDrawing = true)
    (dd_NoDrawing : PySem.W.subIn K (.ref CNoDrawing) (.ref CNoDrawing) = some true)
    (su_BadSize_NoDrawing : PySem.W.subIn K (.ref CBadSize) (.ref CNoDrawing) = some false)
    (su_BadCell_NoDrawing : PySem.W.subIn K (.ref CBadCell) (.ref CNoDrawing) = some false)
    (su_BadText_NoDrawing : PySem.W.subIn K (.ref CBadText) (.ref CNoDrawing) = some false)
    (su_Shared_NoDrawing : PySem.W.subIn K (.ref CShared) (.ref CNoDrawing) = some false)
    (su_Bare_NoDrawing : PySem.W.subIn K (.ref CBare) (.ref CNoDrawing) = some false)
    : ∃ fd : FuncData, (∀ (s : Shared) (v : Value), BindsTo s fd ⟨[v], []⟩ [("_law_script", v)]) ∧ ∀ base : Heap, K.In base → base.Ns mainGlobals mg → FnOk l.prog w K mg base CX0 6 fa fd ["_law_script"] (spLaw K) := by
  have e := hfa.symm.trans (PySem.W.mg_of X G a19)
  cases e
  have F0 := fun_mk (st := s_lines_of) l0 c0 k0
  have b0 := F0.binds (ps := ["text"]) fun _ _ _ _ _ _ us hl => match us, hl with | [_], _ => rfl
  have F1 := fun_mk (st := s_is_good) l1 c1 k1
  have b1 := F1.binds (ps := ["text"]) fun _ _ _ _ _ _ us hl => match us, hl with | [_], _ => rfl
  have F2 := fun_mk (st := s_is_whole) l2 c2 k2
  have b2 := F2.binds (ps := ["number"]) fun _ _ _ _ _ _ us hl => match us, hl with | [_], _ => rfl
  have F3 := fun_mk (st := s_need_size) l3 c3 k3
  have b3 := F3.binds (ps := ["rows", "columns"]) fun _ _ _ _ _ _ us hl => match us, hl with | [_, _], _ => rfl
  have F4 := fun_mk (st := s_lies_in) l4 c4 k4
  have b4 := F4.binds (ps := ["part", "rows", "columns"]) fun _ _ _ _ _ _ us hl => match us, hl with | [_, _, _], _ => rfl
  have F5 := fun_mk (st := s_need_cells) l5 c5 k5
  have b5 := F5.binds (ps := ["rows", "columns", "cells"]) fun _ _ _ _ _ _ us hl => match us, hl with | [_, _, _], _ => rfl
  have F6 := fun_mk (st := s_counts_of) l6 c6 k6
  have b6 := F6.binds (ps := ["rows", "columns", "cells"]) fun _ _ _ _ _ _ us hl => match us, hl with | [_, _, _], _ => rfl
  have F7 := fun_mk (st := s_corner) l7 c7 k7
  have b7 := F7.binds (ps := ["cell"]) fun _ _ _ _ _ _ us hl => match us, hl with | [_], _ => rfl
  have F8 := fun_mk (st := s_made) l8 c8 k8
  have b8 := F8.binds (ps := ["rows", "columns", "cells"]) fun _ _ _ _ _ _ us hl => match us, hl with | [_, _, _], _ => rfl
  have F9 := fun_mk (st := s_law_at) l9 c9 k9
  have b9 := F9.binds (ps := ["_law_script", "_law_k"]) fun _ _ _ _ _ _ us hl => match us, hl with | [_, _], _ => rfl
  have F10 := fun_mk (st := s_law_line) l10 c10 k10
  have b10 := F10.binds (ps := ["_law_number", "_law_size_here"]) fun _ _ _ _ _ _ us hl => match us, hl with | [_, _], _ => rfl
  have F11 := fun_mk (st := s_law_size) l11 c11 k11
  have b11 := F11.binds (ps := ["_law_number"]) fun _ _ _ _ _ _ us hl => match us, hl with | [_], _ => rfl
  have F12 := fun_mk (st := s_law_parts) l12 c12 k12
  have b12 := F12.binds (ps := ["_law_box", "_law_number"]) fun _ _ _ _ _ _ us hl => match us, hl with | [_, _], _ => rfl
  have F13 := fun_mk (st := s_law_cells) l13 c13 k13
  have b13 := F13.binds (ps := ["_law_script", "_law_rows", "_law_columns"]) fun _ _ _ _ _ _ us hl => match us, hl with | [_, _, _], _ => rfl
  have F14 := fun_mk (st := s_law_bad_cell) l14 c14 k14
  have b14 := F14.binds (ps := ["_law_cell", "_law_number"]) fun _ _ _ _ _ _ us hl => match us, hl with | [_, _], _ => rfl
  have F15 := fun_mk (st := s_law_bad_text) l15 c15 k15
  have b15 := F15.binds (ps := ["_law_cell", "_law_number"]) fun _ _ _ _ _ _ us hl => match us, hl with | [_, _], _ => rfl
  have F16 := fun_mk (st := s_law_outcome) l16 c16 k16
  have b16 := F16.binds (ps := ["_law_rows", "_law_columns", "_law_cells_here"]) fun _ _ _ _ _ _ us hl => match us, hl with | [_, _, _], _ => rfl
  have F17 := fun_mk (st := s_law_spoilt) l17 c17 k17
  have b17 := F17.binds (ps := ["_law_cells_here", "_law_way", "_law_number"]) fun _ _ _ _ _ _ us hl => match us, hl with | [_, _, _], _ => rfl
  have F18 := fun_mk (st := s_law_moved) l18 c18 k18
  have b18 := F18.binds (ps := ["_law_cells_here", "_law_rows", "_law_columns", "_law_number"]) fun _ _ _ _ _ _ us hl => match us, hl with | [_, _, _, _], _ => rfl
  have F19 := fun_mk (st := s_law) l19 c19 k19
  have b19 := F19.binds (ps := ["_law_script"]) fun _ _ _ _ _ _ us hl => match us, hl with | [_], _ => rfl
  have Tx : Txt K mg ⟨f0, _, f1, _, f2, _, f3, _, f4, _, f5, _, f6, _, f7, _, f8, _, f9, _, f10, _, f11, _, f12, _, f13, _, f14, _, f15, _, f16, _, f17, _, f18, _, fa, _, CTableError, CBadSize, CBadCell, CBadText, CShared, CBare, CNoSquare, CCut, CNoDrawing⟩ := {
    n_ValueError := PySem.W.mg_none_of X G z_ValueError,
    n_len := PySem.W.mg_none_of X G z_len,
    n_max := PySem.W.mg_none_of X G z_max,
    n_min := PySem.W.mg_none_of X G z_min,
    n_abs := PySem.W.mg_none_of X G z_abs,
    n_int := PySem.W.mg_none_of X G z_int,
    n_str := PySem.W.mg_none_of X G z_str,
    n_list := PySem.W.mg_none_of X G z_list,
    n_range := PySem.W.mg_none_of X G z_range,
    n_enumerate := PySem.W.mg_none_of X G z_enumerate,
    n_isinstance := PySem.W.mg_none_of X G z_isinstance,
    n_sorted := PySem.W.mg_none_of X G z_sorted,
    n_bool := PySem.W.mg_none_of X G z_bool,
    n_tuple := PySem.W.mg_none_of X G z_tuple,
    c_MOST := ⟨_, PySem.W.mg_of X G v_MOST⟩,
    c_SIGNS := ⟨_, PySem.W.mg_of X G v_SIGNS⟩,
    c_MOST_LINES := ⟨_, PySem.W.mg_of X G v_MOST_LINES⟩,
    g_lines_of := PySem.W.mg_of X G a0,
    F_lines_of := F0,
    b_lines_of := b0,
    g_is_good := PySem.W.mg_of X G a1,
    F_is_good := F1,
    b_is_good := b1,
    g_is_whole := PySem.W.mg_of X G a2,
    F_is_whole := F2,
    b_is_whole := b2,
    g_need_size := PySem.W.mg_of X G a3,
    F_need_size := F3,
    b_need_size := b3,
    g_lies_in := PySem.W.mg_of X G a4,
    F_lies_in := F4,
    b_lies_in := b4,
    g_need_cells := PySem.W.mg_of X G a5,
    F_need_cells := F5,
    b_need_cells := b5,
    g_counts_of := PySem.W.mg_of X G a6,
    F_counts_of := F6,
    b_counts_of := b6,
    g_corner := PySem.W.mg_of X G a7,
    F_corner := F7,
    b_corner := b7,
    g_made := PySem.W.mg_of X G a8,
    F_made := F8,
    b_made := b8,
    g_law_at := PySem.W.mg_of X G a9,
    F_law_at := F9,
    b_law_at := b9,
    g_law_line := PySem.W.mg_of X G a10,
    F_law_line := F10,
    b_law_line := b10,
    g_law_size := PySem.W.mg_of X G a11,
    F_law_size := F11,
    b_law_size := b11,
    g_law_parts := PySem.W.mg_of X G a12,
    F_law_parts := F12,
    b_law_parts := b12,
    g_law_cells := PySem.W.mg_of X G a13,
    F_law_cells := F13,
    b_law_cells := b13,
    g_law_bad_cell := PySem.W.mg_of X G a14,
    F_law_bad_cell := F14,
    b_law_bad_cell := b14,
    g_law_bad_text := PySem.W.mg_of X G a15,
    F_law_bad_text := F15,
    b_law_bad_text := b15,
    g_law_outcome := PySem.W.mg_of X G a16,
    F_law_outcome := F16,
    b_law_outcome := b16,
    g_law_spoilt := PySem.W.mg_of X G a17,
    F_law_spoilt := F17,
    b_law_spoilt := b17,
    g_law_moved := PySem.W.mg_of X G a18,
    F_law_moved := F18,
    b_law_moved := b18,
    g_law := PySem.W.mg_of X G a19,
    F_law := F19,
    b_law := b19,
    g_TableError := PySem.W.mg_of X G g_TableError,
    x_TableError := x_TableError,
    k_TableError := k_TableError,
    s_TableError := s_TableError,
    t_TableError := t_TableError,
    g_BadSize := PySem.W.mg_of X G g_BadSize,
    x_BadSize := x_BadSize,
    k_BadSize := k_BadSize,
    s_BadSize := s_BadSize,
    t_BadSize := t_BadSize,
    g_BadCell := PySem.W.mg_of X G g_BadCell,
    x_BadCell := x_BadCell,
    k_BadCell := k_BadCell,
    s_BadCell := s_BadCell,
    t_BadCell := t_BadCell,
    g_BadText := PySem.W.mg_of X G g_BadText,
    x_BadText := x_BadText,
    k_BadText := k_BadText,
    s_BadText := s_BadText,
    t_BadText := t_BadText,
    g_Shared := PySem.W.mg_of X G g_Shared,
    x_Shared := x_Shared,
    k_Shared := k_Shared,
    s_Shared := s_Shared,
    t_Shared := t_Shared,
    g_Bare := PySem.W.mg_of X G g_Bare,
    x_Bare := x_Bare,
    k_Bare := k_Bare,
    s_Bare := s_Bare,
    t_Bare := t_Bare,
    g_NoSquare := PySem.W.mg_of X G g_NoSquare,
    x_NoSquare := x_NoSquare,
    k_NoSquare := k_NoSquare,
    s_NoSquare := s_NoSquare,
    t_NoSquare := t_NoSquare,
    g_Cut := PySem.W.mg_of X G g_Cut,
    x_Cut := x_Cut,
    k_Cut := k_Cut,
    s_Cut := s_Cut,
    t_Cut := t_Cut,
    g_NoDrawing := PySem.W.mg_of X G g_NoDrawing,
    x_NoDrawing := x_NoDrawing,
    k_NoDrawing := k_NoDrawing,
    s_NoDrawing := s_NoDrawing,
    t_NoDrawing := t_NoDrawing,
    cl := List.forall_mem_cons.mpr ⟨⟨⟨_, PySem.W.mg_of X G g_BadSize, ⟨ga_BadSize, gt_BadSize, s_BadSize, hd_BadSize, gc_BadSize, sp_c, tk_c, mo_BadSize⟩, kit_value sv_BadSize, List.forall_mem_cons.mpr ⟨ClsX.pair (PySem.W.mg_of X G g_BadSize) (PySem.W.mg_of X G g_TableError) s_TableError hd_TableError t_TableError su_BadSize_TableError rfl (by decide) (ne_cls dd_TableError su_BadSize_TableError), List.forall_mem_cons.mpr ⟨ClsX.pair (PySem.W.mg_of X G g_BadSize) (PySem.W.mg_of X G g_BadSize) s_BadSize hd_BadSize t_BadSize dd_BadSize rfl (by decide) (ne_cls dd_BadSize dd_BadSize), List.forall_mem_cons.mpr ⟨ClsX.pair (PySem.W.mg_of X G g_BadSize) (PySem.W.mg_of X G g_BadCell) s_BadCell hd_BadCell t_BadCell su_BadSize_BadCell rfl (by decide) (ne_cls dd_BadCell su_BadSize_BadCell), List.forall_mem_cons.mpr ⟨ClsX.pair (PySem.W.mg_of X G g_BadSize) (PySem.W.mg_of X G g_BadText) s_BadText hd_BadText t_BadText su_BadSize_BadText rfl (by decide) (ne_cls dd_BadText su_BadSize_BadText), List.forall_mem_cons.mpr ⟨ClsX.pair (PySem.W.mg_of X G g_BadSize) (PySem.W.mg_of X G g_Shared) s_Shared hd_Shared t_Shared su_BadSize_Shared rfl (by decide) (ne_cls dd_Shared su_BadSize_Shared), List.forall_mem_cons.mpr ⟨ClsX.pair (PySem.W.mg_of X G g_BadSize) (PySem.W.mg_of X G g_Bare) s_Bare hd_Bare t_Bare su_BadSize_Bare rfl (by decide) (ne_cls dd_Bare su_BadSize_Bare), List.forall_mem_cons.mpr ⟨ClsX.pair (PySem.W.mg_of X G g_BadSize) (PySem.W.mg_of X G g_NoSquare) s_NoSquare hd_NoSquare t_NoSquare su_BadSize_NoSquare rfl (by decide) (ne_cls dd_NoSquare su_BadSize_NoSquare), List.forall_mem_cons.mpr ⟨ClsX.pair (PySem.W.mg_of X G g_BadSize) (PySem.W.mg_of X G g_Cut) s_Cut hd_Cut t_Cut su_BadSize_Cut rfl (by decide) (ne_cls dd_Cut su_BadSize_Cut), List.forall_mem_cons.mpr ⟨ClsX.pair (PySem.W.mg_of X G g_BadSize) (PySem.W.mg_of X G g_NoDrawing) s_NoDrawing hd_NoDrawing t_NoDrawing su_BadSize_NoDrawing rfl (by decide) (ne_cls dd_NoDrawing su_BadSize_NoDrawing), List.forall_mem_nil _⟩⟩⟩⟩⟩⟩⟩⟩⟩⟩⟩,
      List.forall_mem_cons.mpr ⟨⟨⟨_, PySem.W.mg_of X G g_BadCell, ⟨ga_BadCell, gt_BadCell, s_BadCell, hd_BadCell, gc_BadCell, sp_c, tk_c, mo_BadCell⟩, kit_value sv_BadCell, List.forall_mem_cons.mpr ⟨ClsX.pair (PySem.W.mg_of X G g_BadCell) (PySem.W.mg_of X G g_TableError) s_TableError hd_TableError t_TableError su_BadCell_TableError rfl (by decide) (ne_cls dd_TableError su_BadCell_TableError), List.forall_mem_cons.mpr ⟨ClsX.pair (PySem.W.mg_of X G g_BadCell) (PySem.W.mg_of X G g_BadSize) s_BadSize hd_BadSize t_BadSize su_BadCell_BadSize rfl (by decide) (ne_cls dd_BadSize su_BadCell_BadSize), List.forall_mem_cons.mpr ⟨ClsX.pair (PySem.W.mg_of X G g_BadCell) (PySem.W.mg_of X G g_BadCell) s_BadCell hd_BadCell t_BadCell dd_BadCell rfl (by decide) (ne_cls dd_BadCell dd_BadCell), List.forall_mem_cons.mpr ⟨ClsX.pair (PySem.W.mg_of X G g_BadCell) (PySem.W.mg_of X G g_BadText) s_BadText hd_BadText t_BadText su_BadCell_BadText rfl (by decide) (ne_cls dd_BadText su_BadCell_BadText), List.forall_mem_cons.mpr ⟨ClsX.pair (PySem.W.mg_of X G g_BadCell) (PySem.W.mg_of X G g_Shared) s_Shared hd_Shared t_Shared su_BadCell_Shared rfl (by decide) (ne_cls dd_Shared su_BadCell_Shared), List.forall_mem_cons.mpr ⟨ClsX.pair (PySem.W.mg_of X G g_BadCell) (PySem.W.mg_of X G g_Bare) s_Bare hd_Bare t_Bare su_BadCell_Bare rfl (by decide) (ne_cls dd_Bare su_BadCell_Bare), List.forall_mem_cons.mpr ⟨ClsX.pair (PySem.W.mg_of X G g_BadCell) (PySem.W.mg_of X G g_NoSquare) s_NoSquare hd_NoSquare t_NoSquare su_BadCell_NoSquare rfl (by decide) (ne_cls dd_NoSquare su_BadCell_NoSquare), List.forall_mem_cons.mpr ⟨ClsX.pair (PySem.W.mg_of X G g_BadCell) (PySem.W.mg_of X G g_Cut) s_Cut hd_Cut t_Cut su_BadCell_Cut rfl (by decide) (ne_cls dd_Cut su_BadCell_Cut), List.forall_mem_cons.mpr ⟨ClsX.pair (PySem.W.mg_of X G g_BadCell) (PySem.W.mg_of X G g_NoDrawing) s_NoDrawing hd_NoDrawing t_NoDrawing su_BadCell_NoDrawing rfl (by decide) (ne_cls dd_NoDrawing su_BadCell_NoDrawing), List.forall_mem_nil _⟩⟩⟩⟩⟩⟩⟩⟩⟩⟩⟩,
      List.forall_mem_cons.mpr ⟨⟨⟨_, PySem.W.mg_of X G g_BadText, ⟨ga_BadText, gt_BadText, s_BadText, hd_BadText, gc_BadText, sp_c, tk_c, mo_BadText⟩, kit_value sv_BadText, List.forall_mem_cons.mpr ⟨ClsX.pair (PySem.W.mg_of X G g_BadText) (PySem.W.mg_of X G g_TableError) s_TableError hd_TableError t_TableError su_BadText_TableError rfl (by decide) (ne_cls dd_TableError su_BadText_TableError), List.forall_mem_cons.mpr ⟨ClsX.pair (PySem.W.mg_of X G g_BadText) (PySem.W.mg_of X G g_BadSize) s_BadSize hd_BadSize t_BadSize su_BadText_BadSize rfl (by decide) (ne_cls dd_BadSize su_BadText_BadSize), List.forall_mem_cons.mpr ⟨ClsX.pair (PySem.W.mg_of X G g_BadText) (PySem.W.mg_of X G g_BadCell) s_BadCell hd_BadCell t_BadCell su_BadText_BadCell rfl (by decide) (ne_cls dd_BadCell su_BadText_BadCell), List.forall_mem_cons.mpr ⟨ClsX.pair (PySem.W.mg_of X G g_BadText) (PySem.W.mg_of X G g_BadText) s_BadText hd_BadText t_BadText dd_BadText rfl (by decide) (ne_cls dd_BadText dd_BadText), List.forall_mem_cons.mpr ⟨ClsX.pair (PySem.W.mg_of X G g_BadText) (PySem.W.mg_of X G g_Shared) s_Shared hd_Shared t_Shared su_BadText_Shared rfl (by decide) (ne_cls dd_Shared su_BadText_Shared), List.forall_mem_cons.mpr ⟨ClsX.pair (PySem.W.mg_of X G g_BadText) (PySem.W.mg_of X G g_Bare) s_Bare hd_Bare t_Bare su_BadText_Bare rfl (by decide) (ne_cls dd_Bare su_BadText_Bare), List.forall_mem_cons.mpr ⟨ClsX.pair (PySem.W.mg_of X G g_BadText) (PySem.W.mg_of X G g_NoSquare) s_NoSquare hd_NoSquare t_NoSquare su_BadText_NoSquare rfl (by decide) (ne_cls dd_NoSquare su_BadText_NoSquare), List.forall_mem_cons.mpr ⟨ClsX.pair (PySem.W.mg_of X G g_BadText) (PySem.W.mg_of X G g_Cut) s_Cut hd_Cut t_Cut su_BadText_Cut rfl (by decide) (ne_cls dd_Cut su_BadText_Cut), List.forall_mem_cons.mpr ⟨ClsX.pair (PySem.W.mg_of X G g_BadText) (PySem.W.mg_of X G g_NoDrawing) s_NoDrawing hd_NoDrawing t_NoDrawing su_BadText_NoDrawing rfl (by decide) (ne_cls dd_NoDrawing su_BadText_NoDrawing), List.forall_mem_nil _⟩⟩⟩⟩⟩⟩⟩⟩⟩⟩⟩,
      List.forall_mem_cons.mpr ⟨⟨⟨_, PySem.W.mg_of X G g_Shared, ⟨ga_Shared, gt_Shared, s_Shared, hd_Shared, gc_Shared, sp_c, tk_c, mo_Shared⟩, kit_value sv_Shared, List.forall_mem_cons.mpr ⟨ClsX.pair (PySem.W.mg_of X G g_Shared) (PySem.W.mg_of X G g_TableError) s_TableError hd_TableError t_TableError su_Shared_TableError rfl (by decide) (ne_cls dd_TableError su_Shared_TableError), List.forall_mem_cons.mpr ⟨ClsX.pair (PySem.W.mg_of X G g_Shared) (PySem.W.mg_of X G g_BadSize) s_BadSize hd_BadSize t_BadSize su_Shared_BadSize rfl (by decide) (ne_cls dd_BadSize su_Shared_BadSize), List.forall_mem_cons.mpr ⟨ClsX.pair (PySem.W.mg_of X G g_Shared) (PySem.W.mg_of X G g_BadCell) s_BadCell hd_BadCell t_BadCell su_Shared_BadCell rfl (by decide) (ne_cls dd_BadCell su_Shared_BadCell), List.forall_mem_cons.mpr ⟨ClsX.pair (PySem.W.mg_of X G g_Shared) (PySem.W.mg_of X G g_BadText) s_BadText hd_BadText t_BadText su_Shared_BadText rfl (by decide) (ne_cls dd_BadText su_Shared_BadText), List.forall_mem_cons.mpr ⟨ClsX.pair (PySem.W.mg_of X G g_Shared) (PySem.W.mg_of X G g_Shared) s_Shared hd_Shared t_Shared dd_Shared rfl (by decide) (ne_cls dd_Shared dd_Shared), List.forall_mem_cons.mpr ⟨ClsX.pair (PySem.W.mg_of X G g_Shared) (PySem.W.mg_of X G g_Bare) s_Bare hd_Bare t_Bare su_Shared_Bare rfl (by decide) (ne_cls dd_Bare su_Shared_Bare), List.forall_mem_cons.mpr ⟨ClsX.pair (PySem.W.mg_of X G g_Shared) (PySem.W.mg_of X G g_NoSquare) s_NoSquare hd_NoSquare t_NoSquare su_Shared_NoSquare rfl (by decide) (ne_cls dd_NoSquare su_Shared_NoSquare), List.forall_mem_cons.mpr ⟨ClsX.pair (PySem.W.mg_of X G g_Shared) (PySem.W.mg_of X G g_Cut) s_Cut hd_Cut t_Cut su_Shared_Cut rfl (by decide) (ne_cls dd_Cut su_Shared_Cut), List.forall_mem_cons.mpr ⟨ClsX.pair (PySem.W.mg_of X G g_Shared) (PySem.W.mg_of X G g_NoDrawing) s_NoDrawing hd_NoDrawing t_NoDrawing su_Shared_NoDrawing rfl (by decide) (ne_cls dd_NoDrawing su_Shared_NoDrawing), List.forall_mem_nil _⟩⟩⟩⟩⟩⟩⟩⟩⟩⟩⟩,
      List.forall_mem_cons.mpr ⟨⟨⟨_, PySem.W.mg_of X G g_Bare, ⟨ga_Bare, gt_Bare, s_Bare, hd_Bare, gc_Bare, sp_c, tk_c, mo_Bare⟩, kit_value sv_Bare, List.forall_mem_cons.mpr ⟨ClsX.pair (PySem.W.mg_of X G g_Bare) (PySem.W.mg_of X G g_TableError) s_TableError hd_TableError t_TableError su_Bare_TableError rfl (by decide) (ne_cls dd_TableError su_Bare_TableError), List.forall_mem_cons.mpr ⟨ClsX.pair (PySem.W.mg_of X G g_Bare) (PySem.W.mg_of X G g_BadSize) s_BadSize hd_BadSize t_BadSize su_Bare_BadSize rfl (by decide) (ne_cls dd_BadSize su_Bare_BadSize), List.forall_mem_cons.mpr ⟨ClsX.pair (PySem.W.mg_of X G g_Bare) (PySem.W.mg_of X G g_BadCell) s_BadCell hd_BadCell t_BadCell su_Bare_BadCell rfl (by decide) (ne_cls dd_BadCell su_Bare_BadCell), List.forall_mem_cons.mpr ⟨ClsX.pair (PySem.W.mg_of X G g_Bare) (PySem.W.mg_of X G g_BadText) s_BadText hd_BadText t_BadText su_Bare_BadText rfl (by decide) (ne_cls dd_BadText su_Bare_BadText), List.forall_mem_cons.mpr ⟨ClsX.pair (PySem.W.mg_of X G g_Bare) (PySem.W.mg_of X G g_Shared) s_Shared hd_Shared t_Shared su_Bare_Shared rfl (by decide) (ne_cls dd_Shared su_Bare_Shared), List.forall_mem_cons.mpr ⟨ClsX.pair (PySem.W.mg_of X G g_Bare) (PySem.W.mg_of X G g_Bare) s_Bare hd_Bare t_Bare dd_Bare rfl (by decide) (ne_cls dd_Bare dd_Bare), List.forall_mem_cons.mpr ⟨ClsX.pair (PySem.W.mg_of X G g_Bare) (PySem.W.mg_of X G g_NoSquare) s_NoSquare hd_NoSquare t_NoSquare su_Bare_NoSquare rfl (by decide) (ne_cls dd_NoSquare su_Bare_NoSquare), List.forall_mem_cons.mpr ⟨ClsX.pair (PySem.W.mg_of X G g_Bare) (PySem.W.mg_of X G g_Cut) s_Cut hd_Cut t_Cut su_Bare_Cut rfl (by decide) (ne_cls dd_Cut su_Bare_Cut), List.forall_mem_cons.mpr ⟨ClsX.pair (PySem.W.mg_of X G g_Bare) (PySem.W.mg_of X G g_NoDrawing) s_NoDrawing hd_NoDrawing t_NoDrawing su_Bare_NoDrawing rfl (by decide) (ne_cls dd_NoDrawing su_Bare_NoDrawing), List.forall_mem_nil _⟩⟩⟩⟩⟩⟩⟩⟩⟩⟩⟩,
      List.forall_mem_nil _⟩⟩⟩⟩⟩ }
  exact ⟨PySem.W.fnOf "law" "law" (defArgs s_law) (defBody s_law) (defScope s_law) .none kV19 dc19 pm19 an19 cd19 ct19, fun s v => .of_eq rfl, fun base _ _ => ok_the_law Tx⟩
end K04
open PySem PySem.W PyProof.Rows
set_option maxRecDepth 100000 in
set_option maxHeartbeats 0 in
theorem PySem.Challenge.cw_boxtable_k04_made_refused_holds : PySem.Challenge.rw_boxtable_k04_made_refused.Holds := by
  w_on; o_law; k_head; (case hw => w_witness2)
  k_fill
  refine L2.walk_of (l := PySem.Challenge.rw_boxtable_k04_made_refused) (n := 63) (k := 6) (x := "_law_script") (CX := fun _ => L2.CX0) (sp := fun w => K04.spLaw _) rfl (by decide) rfl ⟨rfl, by decide, by decide⟩ (fun w h Y => PySem.W.kIn_of Y) ?F (fun _ _ a ns hl _ hS => ⟨a, ns, rfl, hS, hl, fun _ => rfl⟩) (fun _ _ _ _ _ h => h)
  case F =>
    intro w mg fa h KX G hmg
    refine' K04.all_mk KX G hmg ?a0 ?l0 ?c0 ?k0 ?a1 ?l1 ?c1 ?k1 ?a2 ?l2 ?c2 ?k2 ?a3 ?l3 ?c3 ?k3 ?a4 ?l4 ?c4 ?k4 ?a5 ?l5 ?c5 ?k5 ?a6 ?l6 ?c6 ?k6 ?a7 ?l7 ?c7 ?k7 ?a8 ?l8 ?c8 ?k8 ?a9 ?l9 ?c9 ?k9 ?a10 ?l10 ?c10 ?k10 ?a11 ?l11 ?c11 ?k11 ?a12 ?l12 ?c12 ?k12 ?a13 ?l13 ?c13 ?k13 ?a14 ?l14 ?c14 ?k14 ?a15 ?l15 ?c15 ?k15 ?a16 ?l16 ?c16 ?k16 ?a17 ?l17 ?c17 ?k17 ?a18 ?l18 ?c18 ?k18 ?a19 ?l19 ?c19 ?k19 ?z_ValueError ?z_len ?z_max ?z_min ?z_abs ?z_int ?z_str ?z_list ?z_range ?z_enumerate ?z_isinstance ?z_sorted ?z_bool ?z_tuple ?v_MOST ?v_SIGNS ?v_MOST_LINES ?g_TableError ?x_TableError ?k_TableError ?s_TableError ?t_TableError ?g_BadSize ?x_BadSize ?k_BadSize ?s_BadSize ?t_BadSize ?g_BadCell ?x_BadCell ?k_BadCell ?s_BadCell ?t_BadCell ?g_BadText ?x_BadText ?k_BadText ?s_BadText ?t_BadText ?g_Shared ?x_Shared ?k_Shared ?s_Shared ?t_Shared ?g_Bare ?x_Bare ?k_Bare ?s_Bare ?t_Bare ?g_NoSquare ?x_NoSquare ?k_NoSquare ?s_NoSquare ?t_NoSquare ?g_Cut ?x_Cut ?k_Cut ?s_Cut ?t_Cut ?g_NoDrawing ?x_NoDrawing ?k_NoDrawing ?s_NoDrawing ?t_NoDrawing ?sp_c ?tk_c ?ga_BadSize ?gt_BadSize ?gc_BadSize ?mo_BadSize ?sv_BadSize ?ga_BadCell ?gt_BadCell ?gc_BadCell ?mo_BadCell ?sv_BadCell ?ga_BadText ?gt_BadText ?gc_BadText ?mo_BadText ?sv_BadText ?ga_Shared ?gt_Shared ?gc_Shared ?mo_Shared ?sv_Shared ?ga_Bare ?gt_Bare ?gc_Bare ?mo_Bare ?sv_Bare ?hd_TableError ?dd_TableError ?su_BadSize_TableError ?su_BadCell_TableError ?su_BadText_TableError ?su_Shared_TableError ?su_Bare_TableError ?hd_BadSize ?dd_BadSize ?su_BadCell_BadSize ?su_BadText_BadSize ?su_Shared_BadSize ?su_Bare_BadSize ?hd_BadCell ?dd_BadCell ?su_BadSize_BadCell ?su_BadText_BadCell ?su_Shared_BadCell ?su_Bare_BadCell ?hd_BadText ?dd_BadText ?su_BadSize_BadText ?su_BadCell_BadText ?su_Shared_BadText ?su_Bare_BadText ?hd_Shared ?dd_Shared ?su_BadSize_Shared ?su_BadCell_Shared ?su_BadText_Shared ?su_Bare_Shared ?hd_Bare ?dd_Bare ?su_BadSize_Bare ?su_BadCell_Bare ?su_BadText_Bare ?su_Shared_Bare ?hd_NoSquare ?dd_NoSquare ?su_BadSize_NoSquare ?su_BadCell_NoSquare ?su_BadText_NoSquare ?su_Shared_NoSquare ?su_Bare_NoSquare ?hd_Cut ?dd_Cut ?su_BadSize_Cut ?su_BadCell_Cut ?su_BadText_Cut ?su_Shared_Cut ?su_Bare_Cut ?hd_NoDrawing ?dd_NoDrawing ?su_BadSize_NoDrawing ?su_BadCell_NoDrawing ?su_BadText_NoDrawing ?su_Shared_NoDrawing ?su_Bare_NoDrawing
    (case a0 => k_is); (case l0 => k_is); (case c0 => k_is); (case k0 => k_is); (case a1 => k_is); (case l1 => k_is); (case c1 => k_is); (case k1 => k_is); (case a2 => k_is); (case l2 => k_is); (case c2 => k_is); (case k2 => k_is); (case a3 => k_is); (case l3 => k_is); (case c3 => k_is); (case k3 => k_is); (case a4 => k_is); (case l4 => k_is); (case c4 => k_is); (case k4 => k_is); (case a5 => k_is); (case l5 => k_is); (case c5 => k_is); (case k5 => k_is); (case a6 => k_is); (case l6 => k_is); (case c6 => k_is); (case k6 => k_is); (case a7 => k_is); (case l7 => k_is); (case c7 => k_is); (case k7 => k_is); (case a8 => k_is); (case l8 => k_is); (case c8 => k_is); (case k8 => k_is); (case a9 => k_is); (case l9 => k_is); (case c9 => k_is); (case k9 => k_is); (case a10 => k_is); (case l10 => k_is); (case c10 => k_is); (case k10 => k_is); (case a11 => k_is); (case l11 => k_is); (case c11 => k_is); (case k11 => k_is); (case a12 => k_is); (case l12 => k_is); (case c12 => k_is); (case k12 => k_is); (case a13 => k_is); (case l13 => k_is); (case c13 => k_is); (case k13 => k_is); (case a14 => k_is); (case l14 => k_is); (case c14 => k_is); (case k14 => k_is); (case a15 => k_is); (case l15 => k_is); (case c15 => k_is); (case k15 => k_is); (case a16 => k_is); (case l16 => k_is); (case c16 => k_is); (case k16 => k_is); (case a17 => k_is); (case l17 => k_is); (case c17 => k_is); (case k17 => k_is); (case a18 => k_is); (case l18 => k_is); (case c18 => k_is); (case k18 => k_is); (case a19 => k_is); (case l19 => k_is); (case c19 => k_is); (case k19 => k_is); (case z_ValueError => k_is); (case z_len => k_is); (case z_max => k_is); (case z_min => k_is); (case z_abs => k_is); (case z_int => k_is); (case z_str => k_is); (case z_list => k_is); (case z_range => k_is); (case z_enumerate => k_is); (case z_isinstance => k_is); (case z_sorted => k_is); (case z_bool => k_is); (case z_tuple => k_is); (case v_MOST => k_is); (case v_SIGNS => k_is); (case v_MOST_LINES => k_is); (case g_TableError => k_is); (case x_TableError => k_exc); (case k_TableError => k_is); (case s_TableError => k_is); (case t_TableError => k_is); (case g_BadSize => k_is); (case x_BadSize => k_exc); (case k_BadSize => k_is); (case s_BadSize => k_is); (case t_BadSize => k_is); (case g_BadCell => k_is); (case x_BadCell => k_exc); (case k_BadCell => k_is); (case s_BadCell => k_is); (case t_BadCell => k_is); (case g_BadText => k_is); (case x_BadText => k_exc); (case k_BadText => k_is); (case s_BadText => k_is); (case t_BadText => k_is); (case g_Shared => k_is); (case x_Shared => k_exc); (case k_Shared => k_is); (case s_Shared => k_is); (case t_Shared => k_is); (case g_Bare => k_is); (case x_Bare => k_exc); (case k_Bare => k_is); (case s_Bare => k_is); (case t_Bare => k_is); (case g_NoSquare => k_is); (case x_NoSquare => k_exc); (case k_NoSquare => k_is); (case s_NoSquare => k_is); (case t_NoSquare => k_is); (case g_Cut => k_is); (case x_Cut => k_exc); (case k_Cut => k_is); (case s_Cut => k_is); (case t_Cut => k_is); (case g_NoDrawing => k_is); (case x_NoDrawing => k_exc); (case k_NoDrawing => k_is); (case s_NoDrawing => k_is); (case t_NoDrawing => k_is); (case sp_c => k_is); (case tk_c => k_is); (case ga_BadSize => k_is); (case gt_BadSize => k_is); (case gc_BadSize => k_is); (case mo_BadSize => k_is); (case sv_BadSize => k_is); (case ga_BadCell => k_is); (case gt_BadCell => k_is); (case gc_BadCell => k_is); (case mo_BadCell => k_is); (case sv_BadCell => k_is); (case ga_BadText => k_is); (case gt_BadText => k_is); (case gc_BadText => k_is); (case mo_BadText => k_is); (case sv_BadText => k_is); (case ga_Shared => k_is); (case gt_Shared => k_is); (case gc_Shared => k_is); (case mo_Shared => k_is); (case sv_Shared => k_is); (case ga_Bare => k_is); (case gt_Bare => k_is); (case gc_Bare => k_is); (case mo_Bare => k_is); (case sv_Bare => k_is); (case hd_TableError => k_is); (case dd_TableError => k_is); (case su_BadSize_TableError => k_is); (case su_BadCell_TableError => k_is); (case su_BadText_TableError => k_is); (case su_Shared_TableError => k_is); (case su_Bare_TableError => k_is); (case hd_BadSize => k_is); (case dd_BadSize => k_is); (case su_BadCell_BadSize => k_is); (case su_BadText_BadSize => k_is); (case su_Shared_BadSize => k_is); (case su_Bare_BadSize => k_is); (case hd_BadCell => k_is); (case dd_BadCell => k_is); (case su_BadSize_BadCell => k_is); (case su_BadText_BadCell => k_is); (case su_Shared_BadCell => k_is); (case su_Bare_BadCell => k_is); (case hd_BadText => k_is); (case dd_BadText => k_is); (case su_BadSize_BadText => k_is); (case su_BadCell_BadText => k_is); (case su_Shared_BadText => k_is); (case su_Bare_BadText => k_is); (case hd_Shared => k_is); (case dd_Shared => k_is); (case su_BadSize_Shared => k_is); (case su_BadCell_Shared => k_is); (case su_BadText_Shared => k_is); (case su_Bare_Shared => k_is); (case hd_Bare => k_is); (case dd_Bare => k_is); (case su_BadSize_Bare => k_is); (case su_BadCell_Bare => k_is); (case su_BadText_Bare => k_is); (case su_Shared_Bare => k_is); (case hd_NoSquare => k_is); (case dd_NoSquare => k_is); (case su_BadSize_NoSquare => k_is); (case su_BadCell_NoSquare => k_is); (case su_BadText_NoSquare => k_is); (case su_Shared_NoSquare => k_is); (case su_Bare_NoSquare => k_is); (case hd_Cut => k_is); (case dd_Cut => k_is); (case su_BadSize_Cut => k_is); (case su_BadCell_Cut => k_is); (case su_BadText_Cut => k_is); (case su_Shared_Cut => k_is); (case su_Bare_Cut => k_is); (case hd_NoDrawing => k_is); (case dd_NoDrawing => k_is); (case su_BadSize_NoDrawing => k_is); (case su_BadCell_NoDrawing => k_is); (case su_BadText_NoDrawing => k_is); (case su_Shared_NoDrawing => k_is); (case su_Bare_NoDrawing => k_is)

