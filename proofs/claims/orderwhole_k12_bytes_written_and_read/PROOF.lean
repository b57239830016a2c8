import PyProof.Rows.All
import Wide.All
import OpenK.AllK
import Wide.FinOn
import KE.KStateDown
import Lean
import HandS.ForMost
import HandS.ForExc
import HandS.Deep
import HandS.Wide
import HandS.TupAny
import HandS.TupMul
import HandS.IsInst
import HandS.Defaults
import HandS.Head0
import HandS.Head1
import HandS.Head2
import HandS.HeadEnd
import HandS.HeadHook1
import HandS.HeadHook2
import HandS.More
import HandS.TryOnly
import HandS.ExcOwn
import HandS.WordsExc
import HandS.Comp
import HandS.Iter
import PySem.Challenge.RW_orderwhole_k12_bytes_written_and_read
set_option Elab.async false
set_option linter.all false
set_option maxRecDepth 100000
set_option maxHeartbeats 0
/-! DW: data walk. Plain data (PyData) and owned trees over the readings of the hand layer. -/
namespace DW
open PySem PySem.Spec PyProof.Rows L2

/-- an owned thing: a frozen leaf, a list, an instance, a dict -/
inductive T where
  | d (x : PyData)
  /-- the script: a list of ints that is read -/
  | scr (ns : List Int)
  | lst (ts : List T)
  | ins (C : Addr) (fs : List (Str × T))
  | dT (kvs : List (List Key × PyData))
  | dK (kvs : List (Key × PyData))

mutual
/-- data in a heap: lists and tuples that stand there by themselves -/
inductive Dd (F : Hp) : V → PyData → Prop
  | non : Dd F .non .none
  | bl (b : Bool) : Dd F (.bl b) (.bool b)
  | int (i : Int) : Dd F (.int i) (.int i)
  | str (x : Str) : Dd F (.str x) (.str x)
  | lst {a : Addr} {xs : List V} {ds : List PyData} : F a = some (.lst xs) → DdAll F xs ds → Dd F (.ref a) (.list ds)
  | tup {a : Addr} {xs : List V} {ds : List PyData} : F a = some (.tup xs) → DdAll F xs ds → Dd F (.ref a) (.tuple ds)
inductive DdAll (F : Hp) : List V → List PyData → Prop
  | nil : DdAll F [] []
  | cons {v : V} {vs : List V} {d : PyData} {ds : List PyData} : Dd F v d → DdAll F vs ds → DdAll F (v :: vs) (d :: ds)
end

abbrev Kvs (F : Hp) {κ : Type} : List (κ × V) → List (κ × PyData) → Prop := Paired fun (p : κ × V) (q : κ × PyData) => p.1 = q.1 ∧ Dd F p.2 q.2

mutual
/-- v stands for the tree t: leaves in the frozen heap F, the other nodes in H at the addresses fp -/
inductive Rp (K : PySem.W.Frag) (F H : Hp) : V → T → List Addr → Prop
  | d {v : V} {x : PyData} : Dd F v x → Rp K F H v (.d x) []
  | scr {a : Addr} {ns : List Int} : SqL K F a (ns.map V.int) → Rp K F H (.ref a) (.scr ns) []
  | lst {a : Addr} {vs : List V} {ts : List T} {fp : List Addr} : H a = some (.lst vs) → Rps K F H vs ts fp → Rp K F H (.ref a) (.lst ts) (a :: fp)
  | ins {a C dx : Addr} {fvs : List (Str × V)} {fs : List (Str × T)} {fp : List Addr} : H a = some (.ins C dx fvs) → fvs.map (·.1) = fs.map (·.1) → Rps K F H (fvs.map (·.2)) (fs.map (·.2)) fp → Rp K F H (.ref a) (.ins C fs) (a :: fp)
  | dT {a : Addr} {kvs : List (List Key × V)} {kts : List (List Key × PyData)} : H a = some (.dT kvs) → Kvs F kvs kts → Rp K F H (.ref a) (.dT kts) [a]
  | dK {a : Addr} {kvs : List (Key × V)} {kts : List (Key × PyData)} : H a = some (.dK kvs) → Kvs F kvs kts → Rp K F H (.ref a) (.dK kts) [a]
inductive Rps (K : PySem.W.Frag) (F H : Hp) : List V → List T → List Addr → Prop
  | nil : Rps K F H [] [] []
  | cons {v : V} {vs : List V} {t : T} {ts : List T} {fp fq : List Addr} : Rp K F H v t fp → Rps K F H vs ts fq → Rps K F H (v :: vs) (t :: ts) (fp ++ fq)
end

theorem Same.rd {H H' : Hp} {a : Addr} {u : HO} (e : Same H H') (h : Rd H a u) : Rd H' a u := by
  rcases h with h | ⟨o, h⟩
  · exact .inl (e a _ h)
  · exact .inr ⟨o, e a _ h⟩
theorem Same.sqT {K : PySem.W.Frag} {H H' : Hp} {a : Addr} {xs : List V} (e : Same H H') (h : SqT K H a xs) : SqT K H' a xs := by
  rcases h with h | h
  · exact .inl (DW.Same.rd e h)
  · exact .inr h
mutual
theorem Dd.mono {F F' : Hp} (e : Same F F') : ∀ {v : V} {x : PyData}, Dd F v x → Dd F' v x
  | _, _, .non => .non
  | _, _, .bl b => .bl b
  | _, _, .int i => .int i
  | _, _, .str x => .str x
  | _, _, .lst h1 h2 => .lst (e _ _ h1) (DdAll.mono e h2)
  | _, _, .tup h1 h2 => .tup (e _ _ h1) (DdAll.mono e h2)
theorem DdAll.mono {F F' : Hp} (e : Same F F') : ∀ {vs : List V} {xs : List PyData}, DdAll F vs xs → DdAll F' vs xs
  | _, _, .nil => .nil
  | _, _, .cons h1 h2 => .cons (Dd.mono e h1) (DdAll.mono e h2)
end
theorem Kvs.mono {F F' : Hp} {κ : Type} (e : Same F F') : ∀ {a : List (κ × V)} {b : List (κ × PyData)}, Kvs F a b → Kvs F' a b
  | _, _, .nil => .nil
  | _, _, .cons h t => .cons ⟨h.1, Dd.mono e h.2⟩ (Kvs.mono e t)
mutual
theorem Rp.mono {K : PySem.W.Frag} {F F' H H' : Hp} (e : Same F F') : ∀ {v : V} {t : T} {fp : List Addr}, Rp K F H v t fp → (∀ a ∈ fp, H' a = H a) → Rp K F' H' v t fp
  | _, _, _, .d h, _ => .d (Dd.mono e h)
  | _, _, _, .scr h, _ => .scr (e.seq h)
  | _, _, _, .lst h1 h2, k => .lst ((k _ List.mem_cons_self).trans h1) (Rps.mono e h2 fun a ha => k a (List.mem_cons_of_mem _ ha))
  | _, _, _, .ins h1 h2 h3, k => .ins ((k _ List.mem_cons_self).trans h1) h2 (Rps.mono e h3 fun a ha => k a (List.mem_cons_of_mem _ ha))
  | _, _, _, .dT h1 h2, k => .dT ((k _ List.mem_cons_self).trans h1) (Kvs.mono e h2)
  | _, _, _, .dK h1 h2, k => .dK ((k _ List.mem_cons_self).trans h1) (Kvs.mono e h2)
theorem Rps.mono {K : PySem.W.Frag} {F F' H H' : Hp} (e : Same F F') : ∀ {vs : List V} {ts : List T} {fp : List Addr}, Rps K F H vs ts fp → (∀ a ∈ fp, H' a = H a) → Rps K F' H' vs ts fp
  | _, _, _, .nil, _ => .nil
  | _, _, _, .cons h1 h2, k => .cons (Rp.mono e h1 fun a ha => k a (List.mem_append_left _ ha)) (Rps.mono e h2 fun a ha => k a (List.mem_append_right _ ha))
end
mutual
/-- the nodes stand in H -/
theorem Rp.ok {K : PySem.W.Frag} {F H : Hp} : ∀ {v : V} {t : T} {fp : List Addr}, Rp K F H v t fp → ∀ a ∈ fp, ∃ o, H a = some o
  | _, _, _, .d _, a, ha => nomatch ha
  | _, _, _, .scr _, a, ha => nomatch ha
  | _, _, _, .lst h1 h2, a, ha => by
    rcases List.mem_cons.mp ha with rfl | ha
    · exact ⟨_, h1⟩
    · exact Rps.ok h2 a ha
  | _, _, _, .ins h1 h2 h3, a, ha => by
    rcases List.mem_cons.mp ha with rfl | ha
    · exact ⟨_, h1⟩
    · exact Rps.ok h3 a ha
  | _, _, _, .dT h1 h2, a, ha => by
    obtain rfl := List.mem_singleton.mp ha
    exact ⟨_, h1⟩
  | _, _, _, .dK h1 h2, a, ha => by
    obtain rfl := List.mem_singleton.mp ha
    exact ⟨_, h1⟩
theorem Rps.ok {K : PySem.W.Frag} {F H : Hp} : ∀ {vs : List V} {ts : List T} {fp : List Addr}, Rps K F H vs ts fp → ∀ a ∈ fp, ∃ o, H a = some o
  | _, _, _, .nil, a, ha => nomatch ha
  | _, _, _, .cons h1 h2, a, ha => by
    rcases List.mem_append.mp ha with ha | ha
    · exact Rp.ok h1 a ha
    · exact Rps.ok h2 a ha
end
theorem Rps.length {K : PySem.W.Frag} {F H : Hp} : ∀ {vs : List V} {ts : List T} {fp : List Addr}, Rps K F H vs ts fp → vs.length = ts.length
  | _, _, _, .nil => rfl
  | _, _, _, .cons _ h => congrArg (· + 1) (Rps.length h)
theorem DdAll.length {F : Hp} : ∀ {vs : List V} {ts : List PyData}, DdAll F vs ts → vs.length = ts.length
  | _, _, .nil => rfl
  | _, _, .cons _ h => congrArg (· + 1) (DdAll.length h)
theorem DdAll.rps {K : PySem.W.Frag} {F H : Hp} : ∀ {vs : List V} {xs : List PyData}, DdAll F vs xs → Rps K F H vs (xs.map T.d) []
  | _, _, .nil => .nil
  | _, _, .cons h1 h2 => .cons (fp := []) (fq := []) (.d h1) (DdAll.rps h2)
theorem Rps.app {K : PySem.W.Frag} {F H : Hp} : ∀ {vs ws : List V} {ts us : List T} {fp fq : List Addr}, Rps K F H vs ts fp → Rps K F H ws us fq → Rps K F H (vs ++ ws) (ts ++ us) (fp ++ fq)
  | _, _, _, _, _, _, .nil, h => h
  | _, _, _, _, _, _, .cons h1 h2, h => by
    rw [List.append_assoc]
    exact .cons h1 (Rps.app h2 h)
theorem DdAll.app {F : Hp} : ∀ {vs ws : List V} {xs ys : List PyData}, DdAll F vs xs → DdAll F ws ys → DdAll F (vs ++ ws) (xs ++ ys)
  | _, _, _, _, .nil, h => h
  | _, _, _, _, .cons h1 h2, h => .cons h1 (DdAll.app h2 h)
theorem DdAll.get {F : Hp} : ∀ {vs : List V} {xs : List PyData} {i : Nat} {x : PyData}, DdAll F vs xs → xs[i]? = some x → ∃ v, vs[i]? = some v ∧ Dd F v x
  | _, _, i, x, .nil, e => by simp at e
  | _, _, 0, x, .cons h1 h2, e => by
    simp at e
    subst e
    exact ⟨_, rfl, h1⟩
  | _, _, i + 1, x, .cons h1 h2, e => by
    obtain ⟨v, q1, q2⟩ := DdAll.get (i := i) (x := x) h2 (by simpa using e)
    exact ⟨v, by simpa using q1, q2⟩
theorem DdAll.getV {F : Hp} : ∀ {vs : List V} {xs : List PyData} {i : Nat} {v : V}, DdAll F vs xs → vs[i]? = some v → ∃ x, xs[i]? = some x ∧ Dd F v x
  | _, _, i, v, .nil, e => by simp at e
  | _, _, 0, v, .cons h1 h2, e => by
    simp at e
    subst e
    exact ⟨_, rfl, h1⟩
  | _, _, i + 1, v, .cons h1 h2, e => by
    obtain ⟨x, q1, q2⟩ := DdAll.getV (i := i) (v := v) h2 (by simpa using e)
    exact ⟨x, by simpa using q1, q2⟩
theorem Rps.get {K : PySem.W.Frag} {F H : Hp} : ∀ {vs : List V} {ts : List T} {fp : List Addr} {i : Nat} {t : T}, Rps K F H vs ts fp → ts[i]? = some t → ∃ v fq, vs[i]? = some v ∧ Rp K F H v t fq ∧ ∀ a ∈ fq, a ∈ fp
  | _, _, _, i, t, .nil, e => by simp at e
  | _, _, _, 0, t, .cons h1 h2, e => by
    simp at e
    subst e
    exact ⟨_, _, rfl, h1, fun a ha => List.mem_append_left _ ha⟩
  | _, _, _, i + 1, t, .cons h1 h2, e => by
    obtain ⟨v, fq, q1, q2, q3⟩ := Rps.get (i := i) (t := t) h2 (by simpa using e)
    exact ⟨v, fq, by simpa using q1, q2, fun a ha => List.mem_append_right _ (q3 a ha)⟩

mutual
/-- for the layer's rules -/
theorem Dd.dp {K : PySem.W.Frag} {F H : Hp} (e : Same F H) : ∀ {v : V} {x : PyData}, Dd F v x → Dp K H v x
  | _, _, .non => .non
  | _, _, .bl b => .bl b
  | _, _, .int i => .int i
  | _, _, .str x => .str x
  | _, _, .lst h1 h2 => .lst (SqL.of (e _ _ h1)) (DdAll.dp e h2)
  | _, _, .tup h1 h2 => .tup (SqT.of (e _ _ h1)) (DdAll.dp e h2)
theorem DdAll.dp {K : PySem.W.Frag} {F H : Hp} (e : Same F H) : ∀ {vs : List V} {xs : List PyData}, DdAll F vs xs → DpAll K H vs xs
  | _, _, .nil => .nil
  | _, _, .cons h1 h2 => .cons (Dd.dp e h1) (DdAll.dp e h2)
end
/-! ### the tree as data -/
mutual
def T.toD : T → Option PyData
  | .d x => .some x
  | .lst ts => (T.toDs ts).map PyData.list
  | _ => .none
def T.toDs : List T → Option (List PyData)
  | [] => .some []
  | t :: ts => match T.toD t, T.toDs ts with
    | .some x, .some xs => .some (x :: xs)
    | _, _ => .none
end
mutual
/-- read as data in one heap that holds both -/
theorem Rp.toD {K : PySem.W.Frag} {F H G : Hp} (e : Same F G) : ∀ {v : V} {t : T} {fp : List Addr} {x : PyData}, Rp K F H v t fp → t.toD = some x → (∀ a ∈ fp, G a = H a) → Dd G v x
  | _, _, _, x, .d h, q, _ => by
    have q' := Option.some.inj q
    subst q'
    exact Dd.mono e h
  | _, _, _, x, .lst (ts := ts) h1 h2, q, k => by
    unfold T.toD at q
    cases z : T.toDs ts with
    | none =>
      rw [z] at q
      cases q
    | some xs =>
      rw [z] at q
      have q' := Option.some.inj q
      subst q'
      exact .lst ((k _ List.mem_cons_self).trans h1) (Rps.toD e h2 z fun a ha => k a (List.mem_cons_of_mem _ ha))
  | _, _, _, x, .scr _, q, _ => by
    unfold T.toD at q
    cases q
  | _, _, _, x, .ins _ _ _, q, _ => by
    unfold T.toD at q
    cases q
  | _, _, _, x, .dT _ _, q, _ => by
    unfold T.toD at q
    cases q
  | _, _, _, x, .dK _ _, q, _ => by
    unfold T.toD at q
    cases q
theorem Rps.toD {K : PySem.W.Frag} {F H G : Hp} (e : Same F G) : ∀ {vs : List V} {ts : List T} {fp : List Addr} {xs : List PyData}, Rps K F H vs ts fp → T.toDs ts = some xs → (∀ a ∈ fp, G a = H a) → DdAll G vs xs
  | _, _, _, xs, .nil, q, _ => by
    have q' := Option.some.inj q
    subst q'
    exact .nil
  | _, _, _, xs, .cons (t := t) (ts := ts) h1 h2, q, k => by
    unfold T.toDs at q
    cases z1 : T.toD t with
    | none =>
      rw [z1] at q
      cases q
    | some y =>
      cases z2 : T.toDs ts with
      | none =>
        rw [z1, z2] at q
        cases q
      | some ys =>
        rw [z1, z2] at q
        have q' := Option.some.inj q
        subst q'
        exact .cons (Rp.toD e h1 z1 fun a ha => k a (List.mem_append_left _ ha)) (Rps.toD e h2 z2 fun a ha => k a (List.mem_append_right _ ha))
end
theorem toDs_map : ∀ xs : List PyData, T.toDs (xs.map T.d) = some xs
  | [] => rfl
  | x :: xs => by
    show (match T.toD (T.d x), T.toDs (xs.map T.d) with
    | .some x, .some xs => Option.some (x :: xs)
    | _, _ => .none) = _
    rw [toDs_map xs]
    rfl
theorem toD_lst (xs : List PyData) : T.toD (.lst (xs.map T.d)) = some (.list xs) := by
  show (T.toDs (xs.map T.d)).map PyData.list = _
  rw [toDs_map]
  rfl
end DW

namespace DW
open PySem PySem.Spec PyProof.Rows L2

/-! ### paths -/
inductive Stp where
  | ix (k : Nat)
  | fd (f : Str)
def Loc (H : Hp) : V → List Stp → V → Prop
  | v, [], w => v = w
  | v, .ix k :: p, w => ∃ a vs u, v = .ref a ∧ H a = some (.lst vs) ∧ vs[k]? = some u ∧ Loc H u p w
  | v, .fd f :: p, w => ∃ a C dx fvs u, v = .ref a ∧ H a = some (.ins C dx fvs) ∧ fvs.lookup f = some u ∧ Loc H u p w
theorem Loc.mono {H H' : Hp} (e : Same H H') : ∀ {p : List Stp} {v w : V}, Loc H v p w → Loc H' v p w
  | [], _, _, h => h
  | .ix k :: p, _, _, ⟨a, vs, u, h1, h2, h3, h4⟩ => ⟨a, vs, u, h1, e _ _ h2, h3, Loc.mono e h4⟩
  | .fd f :: p, _, _, ⟨a, C, dx, fvs, u, h1, h2, h3, h4⟩ => ⟨a, C, dx, fvs, u, h1, e _ _ h2, h3, Loc.mono e h4⟩
theorem Loc.app {H : Hp} : ∀ {p q : List Stp} {v w u : V}, Loc H v p w → Loc H w q u → Loc H v (p ++ q) u
  | [], _, _, _, _, h, k => by
    have h' : _ = _ := h
    subst h'
    exact k
  | .ix k :: p, _, _, _, _, ⟨a, vs, u, h1, h2, h3, h4⟩, z => ⟨a, vs, u, h1, h2, h3, Loc.app h4 z⟩
  | .fd f :: p, _, _, _, _, ⟨a, C, dx, fvs, u, h1, h2, h3, h4⟩, z => ⟨a, C, dx, fvs, u, h1, h2, h3, Loc.app h4 z⟩
def T.at : T → List Stp → Option T
  | t, [] => some t
  | .lst ts, .ix k :: p => match ts[k]? with
    | some t => T.at t p
    | none => none
  | .ins _ fs, .fd f :: p => match fs.lookup f with
    | some t => T.at t p
    | none => none
  | _, _ => none
def putT (f : Str) (t : T) : List (Str × T) → List (Str × T)
  | [] => [(f, t)]
  | (g, u) :: r => if g = f then (g, t) :: r else (g, u) :: putT f t r
def T.set : T → List Stp → T → T
  | _, [], s => s
  | .lst ts, .ix k :: p, s => match ts[k]? with
    | some t => .lst (ts.set k (T.set t p s))
    | none => .lst ts
  | .ins C fs, .fd f :: p, s => match fs.lookup f with
    | some t => .ins C (putT f (T.set t p s) fs)
    | none => .ins C fs
  | t, _, _ => t

theorem T.set_ix {ts : List T} {k : Nat} {t s : T} {p : List Stp} (h : ts[k]? = some t) : T.set (.lst ts) (.ix k :: p) s = .lst (ts.set k (T.set t p s)) := by
  show (match ts[k]? with
    | some t => T.lst (ts.set k (T.set t p s))
    | none => .lst ts) = _
  rw [h]
theorem T.set_fd {C : Addr} {fs : List (Str × T)} {f : Str} {t s : T} {p : List Stp} (h : fs.lookup f = some t) : T.set (.ins C fs) (.fd f :: p) s = .ins C (putT f (T.set t p s) fs) := by
  show (match fs.lookup f with
    | some t => T.ins C (putT f (T.set t p s) fs)
    | none => .ins C fs) = _
  rw [h]
theorem lookup_cons_eq {α : Type} (f : Str) (v : α) (r : List (Str × α)) : List.lookup f ((f, v) :: r) = some v := by
  have e : (f == f) = true := beq_self_eq_true f
  simp only [List.lookup, e]
theorem lookup_cons_ne {α : Type} {f g : Str} (v : α) (r : List (Str × α)) (h : ¬ g = f) : List.lookup f ((g, v) :: r) = List.lookup f r := by
  have e : (f == g) = false := beq_eq_false_iff_ne.mpr fun z => h z.symm
  simp only [List.lookup, e]

section
variable {K : PySem.W.Frag}
/-- a child of a list, with the way back -/
theorem Rps.put {F H : Hp} : ∀ {vs : List V} {ts : List T} {fp : List Addr} {k : Nat} {w : V} {s : T}, Rps K F H vs ts fp → fp.Nodup → vs[k]? = some w → ts[k]? = some s →
    ∃ fq, Rp K F H w s fq ∧ fq.Nodup ∧ (∀ a ∈ fq, a ∈ fp) ∧ ∀ (F' H' : Hp) (w' : V) (s' : T) (fq' : List Addr), Same F F' → (∀ a ∈ fp, a ∉ fq → H' a = H a) → Rp K F' H' w' s' fq' → fq'.Nodup → (∀ a ∈ fq', a ∈ fq ∨ a ∉ fp) →
      ∃ fp', Rps K F' H' (vs.set k w') (ts.set k s') fp' ∧ fp'.Nodup ∧ ∀ a ∈ fp', (a ∈ fp ∧ a ∉ fq) ∨ a ∈ fq'
  | _, _, _, k, w, s, .nil, _, e, _ => by simp at e
  | _, _, _, 0, w, s, .cons (fp := f1) (fq := f2) h1 h2, nd, e1, e2 => by
    simp at e1 e2
    subst e1 e2
    obtain ⟨n1, n2, n3⟩ := List.nodup_append.mp nd
    refine ⟨f1, h1, n1, fun a ha => List.mem_append_left _ ha, fun F' H' w' s' fq' e k r n sub => ⟨fq' ++ f2, .cons r (Rps.mono e h2 fun a ha => k a (List.mem_append_right _ ha) fun z => n3 a z a ha rfl), ?_, fun a ha => ?_⟩⟩
    · refine List.nodup_append.mpr ⟨n, n2, fun a ha b hb z => ?_⟩
      subst z
      rcases sub a ha with q | q
      · exact n3 a q a hb rfl
      · exact q (List.mem_append_right _ hb)
    · rcases List.mem_append.mp ha with z | z
      · exact .inr z
      · exact .inl ⟨List.mem_append_right _ z, fun q => n3 a q a z rfl⟩
  | _, _, _, k + 1, w, s, .cons (fp := f1) (fq := f2) h1 h2, nd, e1, e2 => by
    obtain ⟨n1, n2, n3⟩ := List.nodup_append.mp nd
    obtain ⟨fq, r0, nq, sub0, back⟩ := Rps.put (k := k) (w := w) (s := s) h2 n2 (by simpa using e1) (by simpa using e2)
    refine ⟨fq, r0, nq, fun a ha => List.mem_append_right _ (sub0 a ha), fun F' H' w' s' fq' e kp r n sub => ?_⟩
    obtain ⟨fp', q1, q2, q3⟩ := back F' H' w' s' fq' e (fun a ha hn => kp a (List.mem_append_right _ ha) hn) r n fun a ha => (sub a ha).imp id fun z y => z (List.mem_append_right _ y)
    refine ⟨f1 ++ fp', .cons (Rp.mono e h1 fun a ha => kp a (List.mem_append_left _ ha) fun z => n3 a ha a (sub0 a z) rfl) q1, ?_, fun a ha => ?_⟩
    · refine List.nodup_append.mpr ⟨n1, q2, fun a ha b hb z => ?_⟩
      subst z
      rcases q3 a hb with y | y
      · exact n3 a ha a y.1 rfl
      · rcases sub a y with u | u
        · exact n3 a ha a (sub0 a u) rfl
        · exact u (List.mem_append_left _ ha)
    · rcases List.mem_append.mp ha with z | z
      · exact .inl ⟨List.mem_append_left _ z, fun q => n3 a z a (sub0 a q) rfl⟩
      · exact (q3 a z).imp (fun y => ⟨List.mem_append_right _ y.1, y.2⟩) id

/-- a field by its place -/
theorem field_at : ∀ {fvs : List (Str × V)} {fs : List (Str × T)} {f : Str} {t : T}, fvs.map (·.1) = fs.map (·.1) → fs.lookup f = some t →
    ∃ k v, (fvs.map (·.2))[k]? = some v ∧ (fs.map (·.2))[k]? = some t ∧ fvs.lookup f = some v ∧ (∀ (w : V), (putF f w fvs).map (·.2) = (fvs.map (·.2)).set k w ∧ (putF f w fvs).map (·.1) = fvs.map (·.1)) ∧ (∀ (s : T), (putT f s fs).map (·.2) = (fs.map (·.2)).set k s ∧ (putT f s fs).map (·.1) = fs.map (·.1))
  | _, [], f, t, _, e => by simp at e
  | [], _ :: _, f, t, h, _ => by simp at h
  | (g, v) :: fvs, (g', u) :: fs, f, t, h, e => by
    have h0 : g :: fvs.map (·.1) = g' :: fs.map (·.1) := h
    obtain ⟨hg, hr⟩ := List.cons.inj h0
    subst hg
    by_cases c : g = f
    · subst c
      rw [lookup_cons_eq] at e
      have e' := Option.some.inj e
      subst e'
      refine ⟨0, v, rfl, rfl, lookup_cons_eq _ _ _, fun w => ?_, fun s => ?_⟩
      · have q : putF g w ((g, v) :: fvs) = (g, w) :: fvs := if_pos rfl
        rw [q]
        exact ⟨rfl, rfl⟩
      · have q : putT g s ((g, u) :: fs) = (g, s) :: fs := if_pos rfl
        rw [q]
        exact ⟨rfl, rfl⟩
    · rw [lookup_cons_ne _ _ c] at e
      obtain ⟨k, v', h1, h2, h3, h4, h5⟩ := field_at hr e
      refine ⟨k + 1, v', by simpa using h1, by simpa using h2, by rw [lookup_cons_ne _ _ c]; exact h3, fun w => ?_, fun s => ?_⟩
      · have q : putF f w ((g, v) :: fvs) = (g, v) :: putF f w fvs := if_neg c
        rw [q]
        exact ⟨congrArg (v :: ·) (h4 w).1, congrArg (g :: ·) (h4 w).2⟩
      · have q : putT f s ((g, u) :: fs) = (g, u) :: putT f s fs := if_neg c
        rw [q]
        exact ⟨congrArg (u :: ·) (h5 s).1, congrArg (g :: ·) (h5 s).2⟩
theorem putF_id : ∀ {fvs : List (Str × V)} {f : Str} {v : V}, fvs.lookup f = some v → putF f v fvs = fvs
  | [], f, v, e => by simp at e
  | (g, u) :: r, f, v, e => by
    by_cases c : g = f
    · subst c
      rw [lookup_cons_eq] at e
      have e' := Option.some.inj e
      subst e'
      exact if_pos rfl
    · rw [lookup_cons_ne _ _ c] at e
      have q : putF f v ((g, u) :: r) = (g, u) :: putF f v r := if_neg c
      rw [q, putF_id e]

/-- THE FOCUS: the subtree at a path, and the way back -/
theorem Rp.put {F H : Hp} : ∀ {p : List Stp} {v : V} {t : T} {fp : List Addr} {w : V} {s : T}, Rp K F H v t fp → fp.Nodup → Loc H v p w → t.at p = some s →
    ∃ fq, Rp K F H w s fq ∧ fq.Nodup ∧ (∀ a ∈ fq, a ∈ fp) ∧ ∀ (F' H' : Hp) (s' : T) (fq' : List Addr), Same F F' → (∀ a ∈ fp, a ∉ fq → H' a = H a) → Rp K F' H' w s' fq' → fq'.Nodup → (∀ a ∈ fq', a ∈ fq ∨ a ∉ fp) →
      ∃ fp', Rp K F' H' v (t.set p s') fp' ∧ fp'.Nodup ∧ ∀ a ∈ fp', (a ∈ fp ∧ a ∉ fq) ∨ a ∈ fq'
  | [], v, t, fp, w, s, r, nd, l, e => by
    have l' : v = w := l
    subst l'
    have e' : t = s := Option.some.inj (by cases t <;> exact e)
    subst e'
    exact ⟨fp, r, nd, fun a ha => ha, fun F' H' s' fq' _ _ r' n' _ => ⟨fq', by cases t <;> exact r', n', fun a ha => .inr ha⟩⟩
  | .ix k :: p, _, _, _, w, s, .lst (a := a) (vs := vs) (ts := ts) (fp := fp) h1 h2, nd, l, e => by
    obtain ⟨b, vs', u, q1, q2, q3, l⟩ := l
    cases q1
    rw [h1] at q2
    cases q2
    unfold T.at at e
    cases z : ts[k]? with
    | none =>
      rw [z] at e
      cases e
    | some t0 =>
      rw [z] at e
      obtain ⟨na, nf⟩ := List.nodup_cons.mp nd
      obtain ⟨fc, rc, nc, subc, backc⟩ := Rps.put h2 nf q3 z
      obtain ⟨fq, r0, nq, sub0, back0⟩ := Rp.put (p := p) rc nc l e
      refine ⟨fq, r0, nq, fun x hx => List.mem_cons_of_mem _ (subc x (sub0 x hx)), fun F' H' s' fq' eF kp r' n' sub => ?_⟩
      obtain ⟨fc', r1, n1, m1⟩ := back0 F' H' s' fq' eF (fun x hx hn => kp x (List.mem_cons_of_mem _ (subc x hx)) hn) r' n' fun x hx => (sub x hx).imp id fun y y' => y (List.mem_cons_of_mem _ (subc x y'))
      have nqa : a ∉ fq := fun y => na (subc a (sub0 a y))
      obtain ⟨fp', r2, n2, m2⟩ := backc F' H' u (t0.set p s') fc' eF (fun x hx hn => kp x (List.mem_cons_of_mem _ hx) fun y => hn (sub0 x y)) r1 n1 fun x hx => by
        rcases m1 x hx with y | y
        · exact .inl y.1
        · rcases sub x y with y' | y'
          · exact .inl (sub0 x y')
          · exact .inr fun y'' => y' (List.mem_cons_of_mem _ y'')
      have es : (vs.set k u) = vs := by
        obtain ⟨hk, hv⟩ := List.getElem?_eq_some_iff.mp q3
        rw [← hv]
        exact List.set_getElem_self hk
      rw [es] at r2
      have et : T.set (.lst ts) (.ix k :: p) s' = .lst (ts.set k (t0.set p s')) := T.set_ix z
      rw [et]
      have mem : ∀ x ∈ fp', (x ∈ fp ∧ x ∉ fq) ∨ x ∈ fq' := fun x hx => by
        rcases m2 x hx with y | y
        · exact .inl ⟨y.1, fun y' => y.2 (sub0 x y')⟩
        · rcases m1 x y with y' | y'
          · exact .inl ⟨subc x y'.1, y'.2⟩
          · exact .inr y'
      refine ⟨a :: fp', .lst ((kp a List.mem_cons_self nqa).trans h1) r2, List.nodup_cons.mpr ⟨fun y => ?_, n2⟩, fun x hx => ?_⟩
      · rcases mem a y with y' | y'
        · exact na y'.1
        · rcases sub a y' with y'' | y''
          · exact nqa y''
          · exact y'' List.mem_cons_self
      · rcases List.mem_cons.mp hx with rfl | hx
        · exact .inl ⟨List.mem_cons_self, nqa⟩
        · exact (mem x hx).imp (fun y => ⟨List.mem_cons_of_mem _ y.1, y.2⟩) id
  | .fd f :: p, _, _, _, w, s, .ins (a := a) (C := C) (dx := dx) (fvs := fvs) (fs := fs) (fp := fp) h1 hn h2, nd, l, e => by
    obtain ⟨b, C', dx', fvs', u, q1, q2, q3, l⟩ := l
    cases q1
    rw [h1] at q2
    cases q2
    unfold T.at at e
    cases z : fs.lookup f with
    | none =>
      rw [z] at e
      cases e
    | some t0 =>
      rw [z] at e
      obtain ⟨na, nf⟩ := List.nodup_cons.mp nd
      obtain ⟨k, u', k1, k2, k3, k4, k5⟩ := field_at hn z
      rw [q3] at k3
      cases k3
      obtain ⟨fc, rc, nc, subc, backc⟩ := Rps.put h2 nf k1 k2
      obtain ⟨fq, r0, nq, sub0, back0⟩ := Rp.put (p := p) rc nc l e
      refine ⟨fq, r0, nq, fun x hx => List.mem_cons_of_mem _ (subc x (sub0 x hx)), fun F' H' s' fq' eF kp r' n' sub => ?_⟩
      obtain ⟨fc', r1, n1, m1⟩ := back0 F' H' s' fq' eF (fun x hx hn => kp x (List.mem_cons_of_mem _ (subc x hx)) hn) r' n' fun x hx => (sub x hx).imp id fun y y' => y (List.mem_cons_of_mem _ (subc x y'))
      have nqa : a ∉ fq := fun y => na (subc a (sub0 a y))
      obtain ⟨fp', r2, n2, m2⟩ := backc F' H' u (t0.set p s') fc' eF (fun x hx hn => kp x (List.mem_cons_of_mem _ hx) fun y => hn (sub0 x y)) r1 n1 fun x hx => by
        rcases m1 x hx with y | y
        · exact .inl y.1
        · rcases sub x y with y' | y'
          · exact .inl (sub0 x y')
          · exact .inr fun y'' => y' (List.mem_cons_of_mem _ y'')
      have et : T.set (.ins C fs) (.fd f :: p) s' = .ins C (putT f (t0.set p s') fs) := T.set_fd z
      rw [et]
      have ev : (fvs.map (·.2)).set k u = fvs.map (·.2) := by
        rw [← (k4 u).1, putF_id q3]
      rw [ev, ← (k5 (t0.set p s')).1] at r2
      have mem : ∀ x ∈ fp', (x ∈ fp ∧ x ∉ fq) ∨ x ∈ fq' := fun x hx => by
        rcases m2 x hx with y | y
        · exact .inl ⟨y.1, fun y' => y.2 (sub0 x y')⟩
        · rcases m1 x y with y' | y'
          · exact .inl ⟨subc x y'.1, y'.2⟩
          · exact .inr y'
      refine ⟨a :: fp', .ins ((kp a List.mem_cons_self nqa).trans h1) (hn.trans (k5 _).2.symm) r2, List.nodup_cons.mpr ⟨fun y => ?_, n2⟩, fun x hx => ?_⟩
      · rcases mem a y with y' | y'
        · exact na y'.1
        · rcases sub a y' with y'' | y''
          · exact nqa y''
          · exact y'' List.mem_cons_self
      · rcases List.mem_cons.mp hx with rfl | hx
        · exact .inl ⟨List.mem_cons_self, nqa⟩
        · exact (mem x hx).imp (fun y => ⟨List.mem_cons_of_mem _ y.1, y.2⟩) id
  | .ix k :: p, _, _, _, w, s, .d _, nd, l, e => by cases e
  | .ix k :: p, _, _, _, w, s, .scr _, nd, l, e => by cases e
  | .fd k :: p, _, _, _, w, s, .scr _, nd, l, e => by cases e
  | .ix k :: p, _, _, _, w, s, .ins _ _ _, nd, l, e => by cases e
  | .ix k :: p, _, _, _, w, s, .dT _ _, nd, l, e => by cases e
  | .ix k :: p, _, _, _, w, s, .dK _ _, nd, l, e => by cases e
  | .fd k :: p, _, _, _, w, s, .d _, nd, l, e => by cases e
  | .fd k :: p, _, _, _, w, s, .lst _ _, nd, l, e => by cases e
  | .fd k :: p, _, _, _, w, s, .dT _ _, nd, l, e => by cases e
  | .fd k :: p, _, _, _, w, s, .dK _ _, nd, l, e => by cases e
/-- reading at a path -/
theorem Rp.loc {F H : Hp} : ∀ {p : List Stp} {v : V} {t : T} {fp : List Addr} {w : V} {s : T}, Rp K F H v t fp → Loc H v p w → t.at p = some s → ∃ fq, Rp K F H w s fq ∧ ∀ a ∈ fq, a ∈ fp
  | [], v, t, fp, w, s, r, l, e => by
    have l' : v = w := l
    subst l'
    have e' : t = s := Option.some.inj (by cases t <;> exact e)
    subst e'
    exact ⟨fp, r, fun a ha => ha⟩
  | .ix k :: p, _, _, _, w, s, .lst (ts := ts) h1 h2, l, e => by
    obtain ⟨b, vs', u, q1, q2, q3, l⟩ := l
    cases q1
    rw [h1] at q2
    cases q2
    unfold T.at at e
    cases z : ts[k]? with
    | none =>
      rw [z] at e
      cases e
    | some t0 =>
      rw [z] at e
      obtain ⟨v0, f0, k1, k2, k3⟩ := Rps.get h2 z
      rw [q3] at k1
      cases k1
      obtain ⟨fq, r0, sub0⟩ := Rp.loc (p := p) k2 l e
      exact ⟨fq, r0, fun x hx => List.mem_cons_of_mem _ (k3 x (sub0 x hx))⟩
  | .fd f :: p, _, _, _, w, s, .ins (fs := fs) h1 hn h2, l, e => by
    obtain ⟨b, C', dx', fvs', u, q1, q2, q3, l⟩ := l
    cases q1
    rw [h1] at q2
    cases q2
    unfold T.at at e
    cases z : fs.lookup f with
    | none =>
      rw [z] at e
      cases e
    | some t0 =>
      rw [z] at e
      obtain ⟨k, u', k1, k2, k3, k4, k5⟩ := field_at hn z
      rw [q3] at k3
      cases k3
      obtain ⟨v0, f0, j1, j2, j3⟩ := Rps.get h2 k2
      rw [k1] at j1
      cases j1
      obtain ⟨fq, r0, sub0⟩ := Rp.loc (p := p) j2 l e
      exact ⟨fq, r0, fun x hx => List.mem_cons_of_mem _ (j3 x (sub0 x hx))⟩
  | .ix k :: p, _, _, _, w, s, .d _, l, e => by cases e
  | .ix k :: p, _, _, _, w, s, .scr _, l, e => by cases e
  | .fd k :: p, _, _, _, w, s, .scr _, l, e => by cases e
  | .ix k :: p, _, _, _, w, s, .ins _ _ _, l, e => by cases e
  | .ix k :: p, _, _, _, w, s, .dT _ _, l, e => by cases e
  | .ix k :: p, _, _, _, w, s, .dK _ _, l, e => by cases e
  | .fd k :: p, _, _, _, w, s, .d _, l, e => by cases e
  | .fd k :: p, _, _, _, w, s, .lst _ _, l, e => by cases e
  | .fd k :: p, _, _, _, w, s, .dT _ _, l, e => by cases e
  | .fd k :: p, _, _, _, w, s, .dK _ _, l, e => by cases e
end
end DW

namespace DW
open PySem PySem.Spec PyProof.Rows L2

/-! ### slots, values, the state -/
/-- a slot: nothing known; an own thing; a borrowed thing (its root, where it matters) -/
inductive Sl where
  | n
  | o (a : Option V) (t : T)
  | q (a : Option V) (t : T)
/-- a value: an own thing, a borrowed one, a reference into the own thing of a slot -/
inductive Vl where
  | o (t : T)
  | q (t : T)
  | r (i : Nat) (p : List Stp)
abbrev Es := List Sl
abbrev Fps := Nat → List Addr

def SlOk (K : PySem.W.Frag) (B : Addr → Prop) (F H : Hp) (fps : Fps) (i : Nat) (u : Option (Option V)) : Sl → Prop
  | .n => True
  | .o a t => ∃ v, u = some (some v) ∧ (∀ w, a = some w → v = w) ∧ Rp K F H v t (fps i)
  | .q a t => ∃ v fq, u = some (some v) ∧ (∀ w, a = some w → v = w) ∧ Rp K F H v t fq ∧ ∀ b ∈ fq, B b
structure Rep (K : PySem.W.Frag) (B : Addr → Prop) (F H : Hp) (σ : L2.St) (es : Es) (fps : Fps) : Prop where
  ex : Same F H
  len : σ.length = es.length
  sl : ∀ i s, es[i]? = some s → SlOk K B F H fps i σ[i]? s
  no : ∀ i, (∀ a t, es[i]? ≠ some (.o a t)) → fps i = []
  nd : ∀ i, (fps i).Nodup
  dj : ∀ i j, i ≠ j → ∀ a ∈ fps i, a ∉ fps j
  fr : ∀ i, ∀ a ∈ fps i, F a = none
  bg : ∀ b, B b → (∃ o, H b = some o) ∧ ∀ i, b ∉ fps i
/-- from one state to a later one; m false: nothing that stood has changed -/
structure Go (m : Bool) (F H : Hp) (fps : Fps) (F' H' : Hp) (fps' : Fps) : Prop where
  ff : Same F F'
  fn : ∀ a, F a = none → F' a = none ∨ H a = none ∨ ∃ i, a ∈ fps i
  ou : ∀ b o, H b = some o → (∀ i, b ∉ fps i) → H' b = some o
  fp : ∀ i, ∀ a ∈ fps' i, H a = none ∨ ∃ j, a ∈ fps j
  th : ∀ b, H' b = none → H b = none
  pu : m = false → Same H H' ∧ fps' = fps
def New (H : Hp) (fps : Fps) (fp : List Addr) : Prop := ∀ a ∈ fp, H a = none ∨ ∃ j, a ∈ fps j
def RV (K : PySem.W.Frag) (B : Addr → Prop) (F H : Hp) (σ : L2.St) (fps : Fps) (v : V) : Vl → List Addr → Prop
  | .o t, fp => Rp K F H v t fp ∧ fp.Nodup ∧ ∀ a ∈ fp, F a = none ∧ (∀ i, a ∉ fps i) ∧ ¬ B a
  | .q t, fp => fp = [] ∧ ∃ fq, Rp K F H v t fq ∧ ∀ b ∈ fq, B b
  | .r i p, fp => fp = [] ∧ ∃ v0, σ[i]? = some (some v0) ∧ Loc H v0 p v

section
variable {K : PySem.W.Frag} {B : Addr → Prop} {m m1 m2 : Bool} {F H F1 H1 F2 H2 F' H' : Hp} {fps fps1 fps2 fps' : Fps} {σ : L2.St} {es es1 es2 es' : Es} {v : V} {fp fq : List Addr}
theorem Go.refl : Go m F H fps F H fps :=
  ⟨fun _ _ h => h, fun _ h => .inl h, fun _ _ h _ => h, fun i a ha => .inr ⟨i, ha⟩, fun _ h => h, fun _ => ⟨fun _ _ h => h, rfl⟩⟩
theorem Go.trans (a : Go m1 F H fps F1 H1 fps1) (b : Go m2 F1 H1 fps1 F2 H2 fps2) : Go (m1 || m2) F H fps F2 H2 fps2 where
  ff := fun x o h => b.ff x o (a.ff x o h)
  fn := fun x h => by
    rcases a.fn x h with h1 | h1
    · rcases b.fn x h1 with h2 | h2 | ⟨i, h2⟩
      · exact .inl h2
      · exact .inr (.inl (a.th x h2))
      · exact .inr (a.fp i x h2)
    · exact .inr h1
  ou := fun x o h n => b.ou x o (a.ou x o h n) fun i hi => by
    rcases a.fp i x hi with z | ⟨j, z⟩
    · rw [h] at z
      cases z
    · exact n j z
  fp := fun i x hx => by
    rcases b.fp i x hx with z | ⟨j, z⟩
    · exact .inl (a.th x z)
    · exact a.fp j x z
  th := fun x h => a.th x (b.th x h)
  pu := fun e => by
    obtain ⟨e1, e2⟩ := Bool.or_eq_false_iff.mp e
    obtain ⟨s1, q1⟩ := a.pu e1
    obtain ⟨s2, q2⟩ := b.pu e2
    exact ⟨s1.trans s2, q2.trans q1⟩
theorem Go.wk (a : Go m F H fps F1 H1 fps1) (h : m = true → m' = true) : Go m' F H fps F1 H1 fps1 :=
  ⟨a.ff, a.fn, a.ou, a.fp, a.th, fun e => a.pu (by cases m; rfl; rw [h rfl] at e; cases e)⟩
theorem New.trans (a : Go m F H fps F1 H1 fps1) (n : New H1 fps1 fp) : New H fps fp := fun x hx => by
  rcases n x hx with z | ⟨j, z⟩
  · exact .inl (a.th x z)
  · exact a.fp j x z
theorem New.nil : New H fps [] := fun _ h => nomatch h
/-- what stood outside stands -/
theorem Go.at_ (g : Go m F H fps F' H' fps') {a : Addr} {o : HO} (h : H a = some o) (n : ∀ i, a ∉ fps i) : H' a = H a := (g.ou a o h n).trans h.symm
theorem Go.out (g : Go m F H fps F' H' fps') {a : Addr} {o : HO} (h : H a = some o) (n : ∀ i, a ∉ fps i) (i : Nat) : a ∉ fps' i := fun z => by
  rcases g.fp i a z with y | ⟨j, y⟩
  · rw [h] at y
    cases y
  · exact n j y
/-- a value over a step -/
def Vl.st : Vl → Bool → Bool
  | .r _ (_ :: _), true => false
  | _, _ => true
theorem RV.go {r : Vl} (R : Rep K B F H σ es fps) (h : RV K B F H σ fps v r fp) (g : Go m F H fps F' H' fps') (hst : r.st m = true) : RV K B F' H' σ fps' v r fp := by
  cases r with
  | o t =>
    obtain ⟨h1, h2, h3⟩ := h
    refine ⟨Rp.mono g.ff h1 fun a ha => ?_, h2, fun a ha => ⟨?_, ?_, (h3 a ha).2.2⟩⟩
    · obtain ⟨o, ho⟩ := h1.ok a ha
      exact g.at_ ho (h3 a ha).2.1
    · obtain ⟨o, ho⟩ := h1.ok a ha
      rcases g.fn a (h3 a ha).1 with z | z | ⟨i, z⟩
      · exact z
      · rw [ho] at z
        cases z
      · exact absurd z ((h3 a ha).2.1 i)
    · obtain ⟨o, ho⟩ := h1.ok a ha
      exact g.out ho (h3 a ha).2.1
  | q t =>
    obtain ⟨h0, fq, h1, h2⟩ := h
    refine ⟨h0, fq, Rp.mono g.ff h1 fun a ha => ?_, h2⟩
    obtain ⟨o, ho⟩ := h1.ok a ha
    exact g.at_ ho (R.bg a (h2 a ha)).2
  | r i p =>
    obtain ⟨h0, v0, h1, h2⟩ := h
    cases p with
    | nil => exact ⟨h0, v0, h1, h2⟩
    | cons a p =>
      cases m with
      | true => cases hst
      | false => exact ⟨h0, v0, h1, h2.mono (g.pu rfl).1⟩
/-- the state over a step that changes nothing that stood -/
theorem Rep.keep (R : Rep K B F H σ es fps) (sH : Same H H') (sF : Same F F') (ex : Same F' H') (fn : ∀ a, F a = none → F' a = none ∨ H a = none) : Rep K B F' H' σ es fps where
  ex := ex
  len := R.len
  sl := fun i s e => by
    have q := R.sl i s e
    cases s with
    | n => trivial
    | o a t =>
      obtain ⟨v, h1, h2, h3⟩ := q
      exact ⟨v, h1, h2, Rp.mono sF h3 fun b hb => by
        obtain ⟨o, ho⟩ := h3.ok b hb
        exact (sH b o ho).trans ho.symm⟩
    | q a t =>
      obtain ⟨v, fq, h1, h2, h3, h4⟩ := q
      exact ⟨v, fq, h1, h2, Rp.mono sF h3 fun b hb => by
        obtain ⟨o, ho⟩ := h3.ok b hb
        exact (sH b o ho).trans ho.symm, h4⟩
  no := R.no
  nd := R.nd
  dj := R.dj
  fr := fun i a ha => by
    rcases fn a (R.fr i a ha) with z | z
    · exact z
    · exfalso
      have hs : ∃ b t, es[i]? = some (.o b t) := by
        cases q : es[i]? with
        | none =>
          have := R.no i fun b t z => by rw [q] at z; cases z
          rw [this] at ha
          cases ha
        | some s =>
          cases s with
          | n =>
            have := R.no i fun b t z => by rw [q] at z; cases z
            rw [this] at ha
            cases ha
          | q b t =>
            have := R.no i fun b t z => by rw [q] at z; cases z
            rw [this] at ha
            cases ha
          | o b t => exact ⟨b, t, rfl⟩
      obtain ⟨b, t, e⟩ := hs
      obtain ⟨v, _, _, h3⟩ := R.sl i _ e
      obtain ⟨o, ho⟩ := h3.ok a ha
      rw [ho] at z
      cases z
  bg := fun b hb => by
    obtain ⟨⟨o, ho⟩, n⟩ := R.bg b hb
    exact ⟨⟨o, sH b o ho⟩, n⟩
theorem Rep.there (R : Rep K B F H σ es fps) {i : Nat} {a : Addr} (ha : a ∈ fps i) : ∃ o, H a = some o := by
  cases q : es[i]? with
  | none =>
    have := R.no i fun b t z => by rw [q] at z; cases z
    rw [this] at ha
    cases ha
  | some s =>
    cases s with
    | n =>
      have := R.no i fun b t z => by rw [q] at z; cases z
      rw [this] at ha
      cases ha
    | q b t =>
      have := R.no i fun b t z => by rw [q] at z; cases z
      rw [this] at ha
      cases ha
    | o b t =>
      obtain ⟨v, _, _, h3⟩ := R.sl i _ q
      exact h3.ok a ha
theorem Go.pure (sH : Same H H') (sF : Same F F') (fn : ∀ a, F a = none → F' a = none ∨ H a = none) : Go m F H fps F' H' fps where
  ff := sF
  fn := fun a h => (fn a h).imp id .inl
  ou := fun b o h _ => sH b o h
  fp := fun i a ha => .inr ⟨i, ha⟩
  th := fun b h => by
    cases q : H b with
    | none => rfl
    | some o =>
      rw [sH b o q] at h
      cases h
  pu := fun _ => ⟨sH, rfl⟩
theorem same_new {p : Addr} {o : HO} (h : H p = none) : Same H (upd H p o) := fun b x e => by
  rw [upd_ne (ne_of_none e h)]
  exact e
/-- a new object: the state, the step -/
theorem Rep.alloc (R : Rep K B F H σ es fps) {p : Addr} {o : HO} (h : H p = none) : Rep K B F (upd H p o) σ es fps :=
  R.keep (same_new h) (fun _ _ h => h) (fun b x e => by rw [upd_ne (ne_of_none (R.ex b x e) h)]; exact R.ex b x e) fun _ h => .inl h
theorem Go.alloc {p : Addr} {o : HO} (h : H p = none) : Go m F H fps F (upd H p o) fps := Go.pure (same_new h) (fun _ _ h => h) fun _ h => .inl h
/-- freezing -/
def frz (F H : Hp) (fp : List Addr) : Hp := fun b => if b ∈ fp then H b else F b
theorem frz_in {b : Addr} (h : b ∈ fp) : frz F H fp b = H b := if_pos h
theorem frz_out {b : Addr} (h : b ∉ fp) : frz F H fp b = F b := if_neg h
theorem frz_same (h : ∀ a ∈ fp, F a = none) : Same F (frz F H fp) := fun b o e => by
  have n : b ∉ fp := fun z => by
    rw [h b z] at e
    cases e
  rw [frz_out n]
  exact e
theorem frz_ex (ex : Same F H) : Same (frz F H fp) H := fun b o e => by
  by_cases c : b ∈ fp
  · rw [frz_in c] at e
    exact e
  · rw [frz_out c] at e
    exact ex b o e
theorem RV.freeze {t : T} {x : PyData} (R : Rep K B F H σ es fps) (h : RV K B F H σ fps v (.o t) fp) (e : t.toD = some x) :
    Rep K B (frz F H fp) H σ es fps ∧ RV K B (frz F H fp) H σ fps v (.o (.d x)) [] ∧ (∀ a, F a = none → frz F H fp a = none ∨ a ∈ fp) ∧ Same F (frz F H fp) := by
  obtain ⟨h1, h2, h3⟩ := h
  have sF : Same F (frz F H fp) := frz_same fun a ha => (h3 a ha).1
  refine ⟨⟨frz_ex R.ex, R.len, fun i s e => ?_, R.no, R.nd, R.dj, fun i a ha => ?_, R.bg⟩, ⟨.d (Rp.toD sF h1 e fun a ha => frz_in ha), List.nodup_nil, fun _ h => nomatch h⟩, fun a ha => ?_, sF⟩
  · have q := R.sl i s e
    cases s with
    | n => trivial
    | o a t =>
      obtain ⟨v, h1, h2, h3⟩ := q
      exact ⟨v, h1, h2, Rp.mono sF h3 fun b hb => rfl⟩
    | q a t =>
      obtain ⟨v, fq, h1, h2, h3, h4⟩ := q
      exact ⟨v, fq, h1, h2, Rp.mono sF h3 fun b hb => rfl, h4⟩
  · rw [frz_out fun z => (h3 a z).2.1 i ha]
    exact R.fr i a ha
  · by_cases c : a ∈ fp
    · exact .inr c
    · exact .inl ((frz_out c).trans ha)
theorem Go.frozen {t : T} (g : Go m F H fps F' H' fps') (n : New H fps fp) (h3 : ∀ a ∈ fp, F' a = none) : Go m F H fps (frz F' H' fp) H' fps' where
  ff := fun b o e => frz_same h3 b o (g.ff b o e)
  fn := fun a ha => by
    by_cases c : a ∈ fp
    · exact .inr (n a c)
    · rw [frz_out c]
      exact g.fn a ha
  ou := g.ou
  fp := g.fp
  th := g.th
  pu := g.pu

/-! ### judgements on expressions, tests, arguments -/
def EE (K : PySem.W.Frag) (m : Bool) (te : TE) (es : Es) (r : Vl) (es' : Es) : Prop := ∀ B F H σ fps, Rep K B F H σ es fps → ∀ Q : VK,
  (∀ v F' H' fps' fp, Rep K B F' H' σ es' fps' → Go m F H fps F' H' fps' → RV K B F' H' σ fps' v r fp → New H fps fp → Q v H') → te σ H Q
def ET (K : PySem.W.Frag) (m : Bool) (tt : TT) (es : Es) (b : Bool) (es' : Es) : Prop := ∀ B F H σ fps, Rep K B F H σ es fps → ∀ Q : Bool → Hp → Prop,
  (∀ F' H' fps', Rep K B F' H' σ es' fps' → Go m F H fps F' H' fps' → Q b H') → tt σ H Q
inductive RVs (K : PySem.W.Frag) (B : Addr → Prop) (F H : Hp) (σ : L2.St) (fps : Fps) : List V → List Vl → List Addr → Prop
  | nil : RVs K B F H σ fps [] [] []
  | cons {v : V} {vs : List V} {r : Vl} {rs : List Vl} {fp fq : List Addr} : RV K B F H σ fps v r fp → RVs K B F H σ fps vs rs fq → (∀ a ∈ fp, a ∉ fq) → RVs K B F H σ fps (v :: vs) (r :: rs) (fp ++ fq)
def EA (K : PySem.W.Frag) (m : Bool) (ta : TA) (es : Es) (rs : List Vl) (es' : Es) : Prop := ∀ B F H σ fps, Rep K B F H σ es fps → ∀ Q : List V → Hp → Prop,
  (∀ vs F' H' fps' fp, Rep K B F' H' σ es' fps' → Go m F H fps F' H' fps' → RVs K B F' H' σ fps' vs rs fp → New H fps fp → Q vs H') → ta σ H Q
/-- frozen data -/
abbrev ED (K : PySem.W.Frag) (m : Bool) (te : TE) (es : Es) (x : PyData) (es' : Es) : Prop := EE K m te es (.o (.d x)) es'
theorem ed_of {te : TE} {t : T} {x : PyData} (h : EE K m te es (.o t) es') (e : t.toD = some x) : ED K m te es x es' := fun B F H σ fps R Q k =>
  h B F H σ fps R Q fun v F' H' fps' fp R' g rv n => by
    obtain ⟨q1, q2, q3, q4⟩ := RV.freeze R' rv e
    exact k v _ H' fps' [] q1 (Go.frozen (t := t) g n fun a ha => (rv.2.2 a ha).1) q2 New.nil
theorem ed_lst {te : TE} {xs : List PyData} (h : EE K m te es (.o (.lst (xs.map T.d))) es') : ED K m te es (.list xs) es' := ed_of h (toD_lst xs)
theorem ee_is {te : TE} {r r' : Vl} (h : EE K m te es r es') (e : r = r') : EE K m te es r' es' := e ▸ h
theorem ee_wk {te : TE} {r : Vl} (h : EE K m te es r es') (hm : m = true → m' = true) : EE K m' te es r es' := fun B F H σ fps R Q k =>
  h B F H σ fps R Q fun v F' H' fps' fp R' g rv n => k v F' H' fps' fp R' (g.wk hm) rv n
/-- the arguments -/
theorem ea_nil : EA K false tNil es [] es := fun B F H σ fps R Q k => k [] F H fps [] R Go.refl .nil New.nil
theorem ea_cons {te : TE} {ta : TA} {r : Vl} {rs : List Vl} (h : EE K m1 te es r es1) (hs : EA K m2 ta es1 rs es2) (hst : r.st m2 = true) : EA K (m1 || m2) (tCons te ta) es (r :: rs) es2 := fun B F H σ fps R Q k =>
  h B F H σ fps R _ fun v F1 H1 fps1 fp1 R1 g1 rv1 n1 => hs B F1 H1 σ fps1 R1 _ fun vs F2 H2 fps2 fp2 R2 g2 rv2 n2 => by
    have rv1' := rv1.go R1 g2 hst
    refine k (v :: vs) F2 H2 fps2 (fp1 ++ fp2) R2 (g1.trans g2) (.cons rv1' rv2 fun a ha hb => ?_) fun a ha => ?_
    · cases r with
      | o t =>
        obtain ⟨o, ho⟩ := rv1.1.ok a ha
        rcases n2 a hb with z | ⟨j, z⟩
        · rw [ho] at z
          cases z
        · exact (rv1.2.2 a ha).2.1 j z
      | q t => rw [rv1.1] at ha; cases ha
      | r i p => rw [rv1.1] at ha; cases ha
    · rcases List.mem_append.mp ha with z | z
      · exact n1 a z
      · exact n2.trans g1 a z
end
end DW

namespace DW
open PySem PySem.Spec PyProof.Rows L2

/-! ### what a value is -/
def Vl.tr (es : Es) : Vl → Option T
  | .o t => some t
  | .q t => some t
  | .r i p => match es[i]? with
    | some (.o _ t) => t.at p
    | _ => none
def Sl.rd (i : Nat) : Sl → Option Vl
  | .n => none
  | .o _ (.d x) => some (.o (.d x))
  | .o _ (.scr ns) => some (.o (.scr ns))
  | .o _ _ => some (.r i [])
  | .q _ (.d x) => some (.o (.d x))
  | .q _ (.scr ns) => some (.o (.scr ns))
  | .q _ t => some (.q t)
/-- a list of frozen items -/
inductive Els : T → List PyData → Prop
  | d {xs : List PyData} : Els (.d (.list xs)) xs
  | l {xs : List PyData} : Els (.lst (xs.map T.d)) xs
abbrev T.L (xs : List PyData) : T := .lst (xs.map T.d)

section
variable {K : PySem.W.Frag} {B : Addr → Prop} {m m1 m2 : Bool} {F H F' H' : Hp} {fps fps' : Fps} {σ : L2.St} {es es1 es2 es' : Es} {v : V} {fp fq : List Addr} {r r1 r2 r3 : Vl} {t : T} {x y : PyData}
theorem Rps.dds : ∀ {vs : List V} {xs : List PyData} {fp : List Addr}, Rps K F H vs (xs.map T.d) fp → DdAll F vs xs ∧ fp = []
  | _, [], _, h => by
    cases h
    exact ⟨.nil, rfl⟩
  | _, x :: xs, _, h => by
    cases h with
    | cons h1 h2 =>
      cases h1 with
      | d h1 =>
        obtain ⟨q1, q2⟩ := Rps.dds h2
        subst q2
        exact ⟨.cons h1 q1, rfl⟩
theorem Rp.dinv (h : Rp K F H v (.d x) fp) : Dd F v x := by
  cases h with
  | d h => exact h
theorem Rp.sinv {ns : List Int} (h : Rp K F H v (.scr ns) fp) : ∃ a, v = .ref a ∧ SqL K F a (ns.map V.int) := by
  cases h with
  | scr h => exact ⟨_, rfl, h⟩
theorem RV.rp (R : Rep K B F H σ es fps) (h : RV K B F H σ fps v r fp) (e : r.tr es = some t) : ∃ fq, Rp K F H v t fq := by
  cases r with
  | o t0 =>
    have e' := Option.some.inj e
    subst e'
    exact ⟨fp, h.1⟩
  | q t0 =>
    have e' := Option.some.inj e
    subst e'
    obtain ⟨_, fq, h1, _⟩ := h
    exact ⟨fq, h1⟩
  | r i p =>
    obtain ⟨_, v0, h1, h2⟩ := h
    unfold Vl.tr at e
    cases q : es[i]? with
    | none =>
      simp only [q] at e
      cases e
    | some s =>
      cases s with
      | n =>
        simp only [q] at e
        cases e
      | q _ _ =>
        simp only [q] at e
        cases e
      | o a t0 =>
        simp only [q] at e
        obtain ⟨u, k1, k2, k3⟩ := R.sl i _ q
        rw [h1] at k1
        cases k1
        obtain ⟨fq, k4, _⟩ := k3.loc h2 e
        exact ⟨fq, k4⟩
/-- as data in the heap as it stands -/
theorem RV.dd (R : Rep K B F H σ es fps) (h : RV K B F H σ fps v r fp) (e : r.tr es = some t) (q : t.toD = some x) : Dd H v x := by
  obtain ⟨fq, k⟩ := h.rp R e
  exact k.toD R.ex q fun _ _ => rfl
theorem RV.els {xs : List PyData} (R : Rep K B F H σ es fps) (h : RV K B F H σ fps v r fp) (e : r.tr es = some t) (el : Els t xs) : ∃ a vs, v = .ref a ∧ H a = some (.lst vs) ∧ DdAll F vs xs := by
  obtain ⟨fq, k⟩ := h.rp R e
  cases el with
  | d =>
    cases k with
    | d k =>
      cases k with
      | lst k1 k2 => exact ⟨_, _, rfl, R.ex _ _ k1, k2⟩
  | l =>
    cases k with
    | lst k1 k2 => exact ⟨_, _, rfl, k1, (Rps.dds k2).1⟩
theorem RV.tups {xs : List PyData} (R : Rep K B F H σ es fps) (h : RV K B F H σ fps v r fp) (e : r.tr es = some (.d (.tuple xs))) : ∃ a vs, v = .ref a ∧ H a = some (.tup vs) ∧ DdAll F vs xs := by
  obtain ⟨fq, k⟩ := h.rp R e
  cases k with
  | d k =>
    cases k with
    | tup k1 k2 => exact ⟨_, _, rfl, R.ex _ _ k1, k2⟩
theorem dd_int {i : Int} (h : Dd H v (.int i)) : v = .int i := by cases h; rfl
theorem dd_str {z : Str} (h : Dd H v (.str z)) : v = .str z := by cases h; rfl
theorem dd_bl {b : Bool} (h : Dd H v (.bool b)) : v = .bl b := by cases h; rfl
/-- leaves -/
theorem rv_int {i : Int} : RV K B F H σ fps (.int i) (.o (.d (.int i))) [] := ⟨.d (.int i), List.nodup_nil, fun _ h => nomatch h⟩
theorem rv_str {z : Str} : RV K B F H σ fps (.str z) (.o (.d (.str z))) [] := ⟨.d (.str z), List.nodup_nil, fun _ h => nomatch h⟩
theorem rv_bl {b : Bool} : RV K B F H σ fps (.bl b) (.o (.d (.bool b))) [] := ⟨.d (.bl b), List.nodup_nil, fun _ h => nomatch h⟩
theorem rv_non : RV K B F H σ fps .non (.o (.d .none)) [] := ⟨.d .non, List.nodup_nil, fun _ h => nomatch h⟩
theorem rv_d (h : Dd F v x) : RV K B F H σ fps v (.o (.d x)) [] := ⟨.d h, List.nodup_nil, fun _ h => nomatch h⟩
/-- a new list of frozen items; a new tuple -/
theorem rv_list {p : Addr} {vs : List V} {xs : List PyData} (R : Rep K B F H σ es fps) (hp : H p = none) (h : DdAll F vs xs) : RV K B F (upd H p (.lst vs)) σ fps (.ref p) (.o (.lst (xs.map T.d))) [p] := by
  refine ⟨.lst (fp := []) upd_same h.rps, by simp, fun a ha => ?_⟩
  obtain rfl := List.mem_singleton.mp ha
  refine ⟨?_, fun i hi => ?_, fun hb => ?_⟩
  · cases q : F a with
    | none => rfl
    | some o =>
      rw [R.ex a o q] at hp
      cases hp
  · obtain ⟨o, ho⟩ := R.there hi
    rw [ho] at hp
    cases hp
  · obtain ⟨⟨o, ho⟩, _⟩ := R.bg a hb
    rw [ho] at hp
    cases hp
theorem Rep.f_none (R : Rep K B F H σ es fps) {p : Addr} (hp : H p = none) : F p = none := by
  cases q : F p with
  | none => rfl
  | some o =>
    rw [R.ex p o q] at hp
    cases hp
theorem Rep.f_out (R : Rep K B F H σ es fps) {p : Addr} (hp : H p = none) (i : Nat) : p ∉ fps i := fun hi => by
  obtain ⟨o, ho⟩ := R.there hi
  rw [ho] at hp
  cases hp
theorem Rep.b_out (R : Rep K B F H σ es fps) {p : Addr} (hp : H p = none) : ¬ B p := fun hb => by
  obtain ⟨⟨o, ho⟩, _⟩ := R.bg p hb
  rw [ho] at hp
  cases hp
/-- a new frozen object -/
theorem Rep.both {p : Addr} {o : HO} (R : Rep K B F H σ es fps) (hp : H p = none) : Rep K B (upd F p o) (upd H p o) σ es fps :=
  R.keep (same_new hp) (same_new (R.f_none hp)) (fun b u e => by
    by_cases c : b = p
    · subst c
      rw [upd_same] at e ⊢
      exact e
    · rw [upd_ne c] at e ⊢
      exact R.ex b u e) fun a ha => by
    by_cases c : a = p
    · subst c
      exact .inr hp
    · exact .inl ((upd_ne c).trans ha)
theorem Go.both {p : Addr} {o : HO} (R : Rep K B F H σ es fps) (hp : H p = none) : Go m F H fps (upd F p o) (upd H p o) fps := Go.pure (same_new hp) (same_new (R.f_none hp)) fun a ha => by
    by_cases c : a = p
    · subst c
      exact .inr hp
    · exact .inl ((upd_ne c).trans ha)
theorem rv_tup {p : Addr} {vs : List V} {xs : List PyData} (R : Rep K B F H σ es fps) (hp : H p = none) (h : DdAll F vs xs) : RV K B (upd F p (.tup vs)) (upd H p (.tup vs)) σ fps (.ref p) (.o (.d (.tuple xs))) [] :=
  rv_d (.tup upd_same (h.mono (same_new (R.f_none hp))))

/-! ### names, constants -/
theorem ee_var {i : Nat} {s : Sl} (h : es[i]? = some s) (hr : s.rd i = some r) : EE K false (tVar i) es r es := fun B F H σ fps R Q k => by
  have q := R.sl i s h
  have fin : ∀ v, σ[i]? = some (some v) → RV K B F H σ fps v r [] → tVar i σ H Q := fun v e rv => ⟨v, e, k v F H fps [] R Go.refl rv New.nil⟩
  cases s with
  | n => cases hr
  | o a t =>
    obtain ⟨v, h1, h2, h3⟩ := q
    cases t with
    | d x =>
      obtain rfl := Option.some.inj hr
      exact fin v h1 (rv_d h3.dinv)
    | scr ns =>
      obtain rfl := Option.some.inj hr
      obtain ⟨a, e3, k3⟩ := h3.sinv
      subst e3
      exact fin _ h1 ⟨.scr k3, List.nodup_nil, fun _ h => nomatch h⟩
    | lst ts =>
      obtain rfl := Option.some.inj hr
      exact fin v h1 ⟨rfl, v, h1, rfl⟩
    | ins C fs =>
      obtain rfl := Option.some.inj hr
      exact fin v h1 ⟨rfl, v, h1, rfl⟩
    | dT kvs =>
      obtain rfl := Option.some.inj hr
      exact fin v h1 ⟨rfl, v, h1, rfl⟩
    | dK kvs =>
      obtain rfl := Option.some.inj hr
      exact fin v h1 ⟨rfl, v, h1, rfl⟩
  | q a t =>
    obtain ⟨v, fq, h1, h2, h3, h4⟩ := q
    cases t with
    | d x =>
      obtain rfl := Option.some.inj hr
      cases h3 with
      | d h3 => exact fin v h1 (rv_d h3)
    | scr ns =>
      obtain rfl := Option.some.inj hr
      cases h3 with
      | scr h3 => exact fin _ h1 ⟨.scr h3, List.nodup_nil, fun _ h => nomatch h⟩
    | lst ts =>
      obtain rfl := Option.some.inj hr
      exact fin v h1 ⟨rfl, fq, h3, h4⟩
    | ins C fs =>
      obtain rfl := Option.some.inj hr
      exact fin v h1 ⟨rfl, fq, h3, h4⟩
    | dT kvs =>
      obtain rfl := Option.some.inj hr
      exact fin v h1 ⟨rfl, fq, h3, h4⟩
    | dK kvs =>
      obtain rfl := Option.some.inj hr
      exact fin v h1 ⟨rfl, fq, h3, h4⟩
theorem ee_int {i : Int} : EE K false (tC (.int i)) es (.o (.d (.int i))) es := fun B F H σ fps R Q k => k _ F H fps [] R Go.refl rv_int New.nil
theorem ee_str {z : Str} : EE K false (tC (.str z)) es (.o (.d (.str z))) es := fun B F H σ fps R Q k => k _ F H fps [] R Go.refl rv_str New.nil
theorem ee_bl {b : Bool} : EE K false (tC (.bl b)) es (.o (.d (.bool b))) es := fun B F H σ fps R Q k => k _ F H fps [] R Go.refl rv_bl New.nil
theorem ee_non : EE K false (tC .non) es (.o (.d .none)) es := fun B F H σ fps R Q k => k _ F H fps [] R Go.refl rv_non New.nil

/-! ### operators by values -/
def OpD (K : PySem.W.Frag) (es : Es) (op : R2) (r1 r2 r3 : Vl) : Prop := ∀ B F H σ fps v1 fp1 v2 fp2, Rep K B F H σ es fps → RV K B F H σ fps v1 r1 fp1 → RV K B F H σ fps v2 r2 fp2 → ∀ Q : VK,
  (∀ v F' H' fp, Rep K B F' H' σ es fps → Go false F H fps F' H' fps → RV K B F' H' σ fps v r3 fp → (∀ a ∈ fp, H a = none) → Q v H') → op v1 v2 H Q
theorem ee_op {op : R2} {ta tb : TE} (ha : EE K m1 ta es r1 es1) (hb : EE K m2 tb es1 r2 es2) (hst : r1.st m2 = true) (ho : OpD K es2 op r1 r2 r3) : EE K (m1 || m2) (tOp op ta tb) es r3 es2 := fun B F H σ fps R Q k =>
  ha B F H σ fps R _ fun v1 F1 H1 fps1 fp1 R1 g1 rv1 n1 => hb B F1 H1 σ fps1 R1 _ fun v2 F2 H2 fps2 fp2 R2 g2 rv2 n2 => ho B F2 H2 σ fps2 v1 fp1 v2 fp2 R2 (rv1.go R1 g2 hst) rv2 Q fun v F3 H3 fp R3 g3 rv3 n3 =>
    k v F3 H3 fps2 fp R3 (((g1.trans g2).trans g3).wk fun h => by rw [Bool.or_false] at h; exact h) rv3 fun a ha => .inl ((g1.trans g2).th a (n3 a ha))
/-- a leaf out of two leaves -/
theorem od_leaf {op : R2} {t1 t2 : T} {z : PyData} (w : V) (h1 : r1.tr es = some t1) (q1 : t1.toD = some x) (h2 : r2.tr es = some t2) (q2 : t2.toD = some y) (hw : ∀ F, Dd F w z)
    (hop : ∀ H v1 v2, Dd H v1 x → Dd H v2 y → ∀ Q : VK, Q w H → op v1 v2 H Q) : OpD K es op r1 r2 (.o (.d z)) := fun B F H σ fps v1 fp1 v2 fp2 R rv1 rv2 Q k =>
  hop H v1 v2 (rv1.dd R h1 q1) (rv2.dd R h2 q2) Q (k w F H [] R Go.refl (rv_d (hw F)) fun _ h => nomatch h)
section
variable {t1 t2 : T} {i j : Int}
theorem od_I {C : Int → Int → Prop} {g : Int → Int → Int} (h1 : r1.tr es = some t1) (q1 : t1.toD = some (.int i)) (h2 : r2.tr es = some t2) (q2 : t2.toD = some (.int j)) (hc : C i j) : OpD K es (rI C fun i j => .int (g i j)) r1 r2 (.o (.d (.int (g i j)))) :=
  od_leaf (.int (g i j)) h1 q1 h2 q2 (fun _ => .int _) fun H v1 v2 d1 d2 Q q => ⟨i, j, dd_int d1, dd_int d2, hc, q⟩
theorem od_I0 {g : Int → Int → Int} (h1 : r1.tr es = some t1) (q1 : t1.toD = some (.int i)) (h2 : r2.tr es = some t2) (q2 : t2.toD = some (.int j)) : OpD K es (rI0 fun i j => .int (g i j)) r1 r2 (.o (.d (.int (g i j)))) :=
  od_leaf (.int (g i j)) h1 q1 h2 q2 (fun _ => .int _) fun H v1 v2 d1 d2 Q q => ⟨i, j, dd_int d1, dd_int d2, q⟩
theorem od_B0 {g : Int → Int → Bool} (h1 : r1.tr es = some t1) (q1 : t1.toD = some (.int i)) (h2 : r2.tr es = some t2) (q2 : t2.toD = some (.int j)) : OpD K es (rI0 fun i j => .bl (g i j)) r1 r2 (.o (.d (.bool (g i j)))) :=
  od_leaf (.bl (g i j)) h1 q1 h2 q2 (fun _ => .bl _) fun H v1 v2 d1 d2 Q q => ⟨i, j, dd_int d1, dd_int d2, q⟩
theorem od_eq (h1 : r1.tr es = some t1) (q1 : t1.toD = some x) (h2 : r2.tr es = some t2) (q2 : t2.toD = some y) (s1 : SeqAt.shaped x = true) (s2 : SeqAt.shaped y = true) : OpD K es (rEqD K) r1 r2 (.o (.d (.bool (PyData.eqv x y)))) :=
  od_leaf (.bl _) h1 q1 h2 q2 (fun _ => .bl _) fun H v1 v2 d1 d2 Q q => ⟨x, y, d1.dp (Same.refl H), d2.dp (Same.refl H), s1, s2, q⟩
theorem od_ne (h1 : r1.tr es = some t1) (q1 : t1.toD = some x) (h2 : r2.tr es = some t2) (q2 : t2.toD = some y) (s1 : SeqAt.shaped x = true) (s2 : SeqAt.shaped y = true) : OpD K es (rNeD K) r1 r2 (.o (.d (.bool (!PyData.eqv x y)))) :=
  od_leaf (.bl _) h1 q1 h2 q2 (fun _ => .bl _) fun H v1 v2 d1 d2 Q q => ⟨x, y, d1.dp (Same.refl H), d2.dp (Same.refl H), s1, s2, q⟩
end
/-- plus, of whatever -/
def rPlusI : R2 := rI0 fun i j => .int (i + j)
def rPlusS : R2 := fun x y H Q => ∃ i j, x = .str i ∧ y = .str j ∧ i.length + j.length ≤ sizeLine ∧ Q (.str (i ++ j)) H
def rPlus (K : PySem.W.Frag) : R2 := fun x y H Q => rPlusI x y H Q ∨ rPlusS x y H Q ∨ rCat x y H Q ∨ rCatA K x y H Q
theorem od_or1 {a b : R2} (h : OpD K es a r1 r2 r3) : OpD K es (fun x y H Q => a x y H Q ∨ b x y H Q) r1 r2 r3 := fun B F H σ fps v1 fp1 v2 fp2 R h1 h2 Q k => .inl (h B F H σ fps v1 fp1 v2 fp2 R h1 h2 Q k)
theorem od_or2 {a b : R2} (h : OpD K es b r1 r2 r3) : OpD K es (fun x y H Q => a x y H Q ∨ b x y H Q) r1 r2 r3 := fun B F H σ fps v1 fp1 v2 fp2 R h1 h2 Q k => .inr (h B F H σ fps v1 fp1 v2 fp2 R h1 h2 Q k)
section
variable {t1 t2 : T} {i j : Int} {z w : Str} {xs ys : List PyData}
theorem od_plusI (h1 : r1.tr es = some t1) (q1 : t1.toD = some (.int i)) (h2 : r2.tr es = some t2) (q2 : t2.toD = some (.int j)) : OpD K es (rPlus K) r1 r2 (.o (.d (.int (i + j)))) := od_or1 (od_I0 (g := fun i j => i + j) h1 q1 h2 q2)
theorem od_plusS (h1 : r1.tr es = some t1) (q1 : t1.toD = some (.str z)) (h2 : r2.tr es = some t2) (q2 : t2.toD = some (.str w)) (hz : z.length + w.length ≤ sizeLine) : OpD K es (rPlus K) r1 r2 (.o (.d (.str (z ++ w)))) :=
  od_or2 (od_or1 (od_leaf (.str (z ++ w)) h1 q1 h2 q2 (fun _ => .str _) fun H v1 v2 d1 d2 Q q => ⟨z, w, dd_str d1, dd_str d2, hz, q⟩))
theorem od_plusL (h1 : r1.tr es = some t1) (q1 : Els t1 xs) (h2 : r2.tr es = some t2) (q2 : Els t2 ys) (hz : xs.length + ys.length ≤ sizeLine) : OpD K es (rPlus K) r1 r2 (.o (.lst ((xs ++ ys).map T.d))) :=
  od_or2 (od_or2 (od_or1 fun B F H σ fps v1 fp1 v2 fp2 R rv1 rv2 Q k => by
    obtain ⟨a, vs, rfl, e1, d1⟩ := rv1.els R h1 q1
    obtain ⟨b, ws, rfl, e2, d2⟩ := rv2.els R h2 q2
    refine ⟨a, b, vs, ws, rfl, rfl, e1, e2, by rw [d1.length, d2.length]; exact hz, fun p hp => k (.ref p) F _ [p] (R.alloc hp) (Go.alloc hp) (rv_list R hp (d1.app d2)) fun a ha => ?_⟩
    rw [List.mem_singleton.mp ha]
    exact hp))
theorem od_plusT (h1 : r1.tr es = some (.d (.tuple xs))) (h2 : r2.tr es = some (.d (.tuple ys))) (hz : xs.length + ys.length ≤ sizeLine) : OpD K es (rPlus K) r1 r2 (.o (.d (.tuple (xs ++ ys)))) :=
  od_or2 (od_or2 (od_or2 fun B F H σ fps v1 fp1 v2 fp2 R rv1 rv2 Q k => by
    obtain ⟨a, vs, rfl, e1, d1⟩ := rv1.tups R h1
    obtain ⟨b, ws, rfl, e2, d2⟩ := rv2.tups R h2
    have f1 : Dd F (.ref a) (.tuple xs) := by
      obtain ⟨fq, q⟩ := rv1.rp R h1
      cases q with
      | d q => exact q
    have f2 : Dd F (.ref b) (.tuple ys) := by
      obtain ⟨fq, q⟩ := rv2.rp R h2
      cases q with
      | d q => exact q
    refine ⟨a, b, vs, ws, rfl, rfl, SqT.of e1, SqT.of e2, by rw [d1.length, d2.length]; exact hz, fun hv => ?_, fun hv hw => ?_, fun _ _ p hp => ?_⟩
    · subst hv
      cases d1
      exact k (.ref b) F H [] R Go.refl (rv_d f2) fun _ h => nomatch h
    · subst hw
      cases d2
      rw [List.append_nil] at k
      exact k (.ref a) F H [] R Go.refl (rv_d f1) fun _ h => nomatch h
    · exact k (.ref p) _ _ [] (R.both hp) (Go.both R hp) (rv_tup R hp (d1.app d2)) fun _ h => nomatch h))
end
end
section
variable {X : Cx}
theorem opr_or {f : Value → Value → Sem Value} {a b : R2} (h1 : OpR X f a) (h2 : OpR X f b) : OpR X f (fun x y H Q => a x y H Q ∨ b x y H Q) := by
  intro pins s σ H x y v u Q I rx ry q
  rcases q with q | q
  · exact h1 pins s σ H x y v u Q I rx ry q
  · exact h2 pins s σ H x y v u Q I rx ry q
theorem op_plus : OpR X (binaryOp .Add) (rPlus X.K) := opr_or op_add (opr_or op_add_str (opr_or op_cat op_catA))
end
end DW

namespace DW
open PySem PySem.Spec PyProof.Rows L2

section
variable {K : PySem.W.Frag} {B : Addr → Prop} {m m1 m2 m3 : Bool} {F H F' H' : Hp} {fps fps' : Fps} {σ : L2.St} {es es1 es2 es3 es' : Es} {v : V} {fp fq : List Addr} {r r1 r2 r3 : Vl} {t t1 t2 : T} {x y : PyData} {te ta tb tc : TE} {tt tu : TT} {i j : Int} {xs ys : List PyData} {z w : Str}

/-! ### more operators -/
def rTimes (K : PySem.W.Frag) : R2 := fun x y H Q => rI CMul (fun i j => .int (i * j)) x y H Q ∨ (fun x y H Q => ∃ z n, x = .str z ∧ y = .int n ∧ MulOk z n ∧ Q (.str (Txt.mul z n)) H) x y H Q ∨ rRep x y H Q ∨ rRepT K x y H Q
theorem od_timesI (h1 : r1.tr es = some t1) (q1 : t1.toD = some (.int i)) (h2 : r2.tr es = some t2) (q2 : t2.toD = some (.int j)) (hc : CMul i j) : OpD K es (rTimes K) r1 r2 (.o (.d (.int (i * j)))) := od_or1 (od_I (C := CMul) (g := fun i j => i * j) h1 q1 h2 q2 hc)
theorem od_timesS (h1 : r1.tr es = some t1) (q1 : t1.toD = some (.str z)) (h2 : r2.tr es = some t2) (q2 : t2.toD = some (.int j)) (hc : MulOk z j) : OpD K es (rTimes K) r1 r2 (.o (.d (.str (Txt.mul z j)))) :=
  od_or2 (od_or1 (od_leaf (.str _) h1 q1 h2 q2 (fun _ => .str _) fun H v1 v2 d1 d2 Q q => ⟨z, j, dd_str d1, dd_int d2, hc, q⟩))
theorem DdAll.rep {n : Nat} {vs : List V} (h : DdAll F vs xs) : DdAll F (List.replicate n vs).flatten (List.replicate n xs).flatten := by
  induction n with
  | zero => exact .nil
  | succ n ih =>
    rw [List.replicate_succ, List.replicate_succ, List.flatten_cons, List.flatten_cons]
    exact h.app ih
theorem od_timesL (h1 : r1.tr es = some t1) (q1 : Els t1 xs) (h2 : r2.tr es = some t2) (q2 : t2.toD = some (.int j)) (hb : -(2 ^ 63) ≤ j ∧ j < 2 ^ 63) (hz : xs.length * j.toNat ≤ sizeLine) : OpD K es (rTimes K) r1 r2 (.o (.lst (((List.replicate j.toNat xs).flatten).map T.d))) :=
  od_or2 (od_or2 (od_or1 fun B F H σ fps v1 fp1 v2 fp2 R rv1 rv2 Q k => by
    obtain ⟨a, vs, rfl, e1, d1⟩ := rv1.els R h1 q1
    refine ⟨a, j, vs, rfl, dd_int (rv2.dd R h2 q2), e1, hb.1, hb.2, by rw [d1.length]; exact hz, fun p hp => k (.ref p) F _ [p] (R.alloc hp) (Go.alloc hp) (rv_list R hp d1.rep) fun a ha => ?_⟩
    rw [List.mem_singleton.mp ha]
    exact hp))
theorem od_timesT (h1 : r1.tr es = some (.d (.tuple xs))) (h2 : r2.tr es = some t2) (q2 : t2.toD = some (.int j)) (hne : xs ≠ []) (hb : 2 ≤ j ∧ j ≤ 1000) (hz : xs.length ≤ 1000) : OpD K es (rTimes K) r1 r2 (.o (.d (.tuple (List.replicate j.toNat xs).flatten))) :=
  od_or2 (od_or2 (od_or2 fun B F H σ fps v1 fp1 v2 fp2 R rv1 rv2 Q k => by
    obtain ⟨a, vs, rfl, e1, d1⟩ := rv1.tups R h1
    refine ⟨a, j, vs, rfl, dd_int (rv2.dd R h2 q2), SqT.of e1, fun z => ?_, hb.1, hb.2, by rw [d1.length]; exact hz, fun p hp => k (.ref p) _ _ [] (R.both hp) (Go.both R hp) (rv_tup R hp d1.rep) fun _ h => nomatch h⟩
    subst z
    cases d1
    exact hne rfl))
/-- is None -/
def T.isN : T → Bool
  | .d .none => true
  | _ => false
theorem RV.isN (R : Rep K B F H σ es fps) (h : RV K B F H σ fps v r fp) (e : r.tr es = some t) : decide (v = .non) = t.isN := by
  obtain ⟨fq, k⟩ := h.rp R e
  cases k with
  | d k => cases k <;> rfl
  | scr _ => rfl
  | lst _ _ => rfl
  | ins _ _ _ => rfl
  | dT _ _ => rfl
  | dK _ _ => rfl
def rIsNon : R2 := fun x y H Q => y = .non ∧ Q (.bl (decide (x = .non))) H
def rIsNot : R2 := fun x y H Q => y = .non ∧ Q (.bl (!decide (x = .non))) H
theorem od_isN (h1 : r1.tr es = some t) (h2 : r2.tr es = some (.d .none)) : OpD K es rIsNon r1 r2 (.o (.d (.bool t.isN))) := fun B F H σ fps v1 fp1 v2 fp2 R rv1 rv2 Q k => by
  have e2 := rv2.dd R h2 rfl
  refine ⟨by cases e2; rfl, ?_⟩
  rw [rv1.isN R h1]
  exact k _ F H [] R Go.refl rv_bl fun _ h => nomatch h
theorem od_isnotN (h1 : r1.tr es = some t) (h2 : r2.tr es = some (.d .none)) : OpD K es rIsNot r1 r2 (.o (.d (.bool (!t.isN)))) := fun B F H σ fps v1 fp1 v2 fp2 R rv1 rv2 Q k => by
  have e2 := rv2.dd R h2 rfl
  refine ⟨by cases e2; rfl, ?_⟩
  rw [rv1.isN R h1]
  exact k _ F H [] R Go.refl rv_bl fun _ h => nomatch h
/-- in a list of data; in a tuple of flat data -/
def inData (x : PyData) (xs : List PyData) : Bool := xs.any fun z => PyData.eqv z x
def rInAny (K : PySem.W.Frag) : R2 := fun x y H Q => rInD K x y H Q ∨ rIn K false x y H Q
def rNotInAny (K : PySem.W.Frag) : R2 := fun x y H Q => rNotInD K x y H Q ∨ rIn K true x y H Q
theorem od_in (h1 : r1.tr es = some t1) (q1 : t1.toD = some x) (h2 : r2.tr es = some t2) (q2 : t2.toD = some (.list ys)) (s1 : SeqAt.shaped x = true) (s2 : SeqAt.shaped (.list ys) = true) : OpD K es (rInAny K) r1 r2 (.o (.d (.bool (inData x ys)))) :=
  od_or1 (od_leaf (.bl _) h1 q1 h2 q2 (fun _ => .bl _) fun H v1 v2 d1 d2 Q q => ⟨x, ys, d1.dp (Same.refl H), d2.dp (Same.refl H), s1, s2, q⟩)
theorem od_notin (h1 : r1.tr es = some t1) (q1 : t1.toD = some x) (h2 : r2.tr es = some t2) (q2 : t2.toD = some (.list ys)) (s1 : SeqAt.shaped x = true) (s2 : SeqAt.shaped (.list ys) = true) : OpD K es (rNotInAny K) r1 r2 (.o (.d (.bool (!inData x ys)))) :=
  od_or1 (od_leaf (.bl _) h1 q1 h2 q2 (fun _ => .bl _) fun H v1 v2 d1 d2 Q q => ⟨x, ys, d1.dp (Same.refl H), d2.dp (Same.refl H), s1, s2, q⟩)
def flatD : PyData → Bool
  | .none => true
  | .bool _ => true
  | .int _ => true
  | .str _ => true
  | _ => false
theorem dd_flat (h : Dd H v x) (f : flatD x = true) : flatV v = true := by
  cases h <;> first | rfl | cases f
theorem dd_eqv {u : V} (h : Dd H v x) (k : Dd H u y) (f : flatD x = true) (g : flatD y = true) : eqV v u = PyData.eqv x y := by
  cases h <;> cases k <;> first | (simp [eqV, PyData.eqv]; done) | (cases f; done) | (cases g; done) | rfl
theorem dds_in {vs : List V} {u : V} (h : DdAll H vs xs) (k : Dd H u x) (f : xs.all flatD = true) (g : flatD x = true) : inV u vs = inData x xs ∧ vs.all flatV = true := by
  induction xs generalizing vs with
  | nil =>
    cases h
    exact ⟨rfl, rfl⟩
  | cons y ys ih =>
    cases h with
    | cons h1 h2 =>
      rw [List.all_cons, Bool.and_eq_true] at f
      obtain ⟨q1, q2⟩ := ih h2 f.2
      refine ⟨?_, ?_⟩
      · show (eqV _ u || inV u _) = (PyData.eqv y x || inData x ys)
        rw [dd_eqv h1 k f.1 g, q1]
      · rw [List.all_cons, q2, dd_flat h1 f.1]
        rfl
theorem od_inT (h1 : r1.tr es = some t1) (q1 : t1.toD = some x) (h2 : r2.tr es = some (.d (.tuple ys))) (s1 : flatD x = true) (s2 : ys.all flatD = true) : OpD K es (rInAny K) r1 r2 (.o (.d (.bool (inData x ys)))) := fun B F H σ fps v1 fp1 v2 fp2 R rv1 rv2 Q k => .inr (by
  obtain ⟨a, vs, rfl, e1, d1⟩ := rv2.tups R h2
  have d1' := d1.mono R.ex
  have dx := rv1.dd R h1 q1
  obtain ⟨k1, k2⟩ := dds_in d1' dx s2 s1
  refine ⟨a, vs, rfl, .inr (SqT.of e1), dd_flat dx s1, k2, ?_⟩
  show Q (.bl (inV v1 vs)) H
  rw [k1]
  exact k _ F H [] R Go.refl rv_bl fun _ h => nomatch h)
theorem od_notinT (h1 : r1.tr es = some t1) (q1 : t1.toD = some x) (h2 : r2.tr es = some (.d (.tuple ys))) (s1 : flatD x = true) (s2 : ys.all flatD = true) : OpD K es (rNotInAny K) r1 r2 (.o (.d (.bool (!inData x ys)))) := fun B F H σ fps v1 fp1 v2 fp2 R rv1 rv2 Q k => .inr (by
  obtain ⟨a, vs, rfl, e1, d1⟩ := rv2.tups R h2
  have d1' := d1.mono R.ex
  have dx := rv1.dd R h1 q1
  obtain ⟨k1, k2⟩ := dds_in d1' dx s2 s1
  refine ⟨a, vs, rfl, .inr (SqT.of e1), dd_flat dx s1, k2, ?_⟩
  show Q (.bl (!inV v1 vs)) H
  rw [k1]
  exact k _ F H [] R Go.refl rv_bl fun _ h => nomatch h)

/-! ### an item -/
/-- what stands under a reference -/
def Vl.kid (p : Stp) (t : T) : Vl → Vl
  | .o _ => .o t
  | .q _ => match t with
    | .d x => .o (.d x)
    | .scr ns => .o (.scr ns)
    | u => .q u
  | .r i pp => match t with
    | .d x => .o (.d x)
    | .scr ns => .o (.scr ns)
    | _ => .r i (pp ++ [p])
theorem atI_len {α β : Type} {vs : List α} {xs : List β} (h : vs.length = xs.length) {i : Int} {x : β} (e : atI xs i = some x) : ∃ k, ixN vs.length i = some k ∧ xs[k]? = some x ∧ atI vs i = vs[k]? := by
  unfold atI at e
  cases q : ixN xs.length i with
  | none =>
    rw [q] at e
    cases e
  | some k =>
    rw [q] at e
    refine ⟨k, by rw [h]; exact q, e, ?_⟩
    unfold atI
    rw [h, q]
    rfl
theorem od_ixL (h1 : r1.tr es = some t1) (q1 : Els t1 xs) (h2 : r2.tr es = some t2) (q2 : t2.toD = some (.int i)) (ha : atI xs i = some x) : OpD K es (rIx K) r1 r2 (.o (.d x)) := fun B F H σ fps v1 fp1 v2 fp2 R rv1 rv2 Q k => by
  obtain ⟨a, vs, rfl, e1, d1⟩ := rv1.els R h1 q1
  obtain ⟨n, n1, n2, n3⟩ := atI_len d1.length ha
  obtain ⟨u, u1, u2⟩ := d1.get n2
  exact .inl ⟨a, vs, i, u, rfl, dd_int (rv2.dd R h2 q2), SqL.of e1, n3.trans u1, k u F H [] R Go.refl (rv_d u2) fun _ h => nomatch h⟩
theorem od_ixT (h1 : r1.tr es = some (.d (.tuple xs))) (h2 : r2.tr es = some t2) (q2 : t2.toD = some (.int i)) (ha : atI xs i = some x) : OpD K es (rIx K) r1 r2 (.o (.d x)) := fun B F H σ fps v1 fp1 v2 fp2 R rv1 rv2 Q k => by
  obtain ⟨a, vs, rfl, e1, d1⟩ := rv1.tups R h1
  obtain ⟨n, n1, n2, n3⟩ := atI_len d1.length ha
  obtain ⟨u, u1, u2⟩ := d1.get n2
  exact .inr (.inl ⟨a, vs, i, u, rfl, dd_int (rv2.dd R h2 q2), SqT.of e1, n3.trans u1, k u F H [] R Go.refl (rv_d u2) fun _ h => nomatch h⟩)
theorem od_ixS {c : Nat} (h1 : r1.tr es = some t1) (q1 : t1.toD = some (.str z)) (h2 : r2.tr es = some t2) (q2 : t2.toD = some (.int i)) (hz : z.length ≤ sizeLine) (ha : atI z.cps.toList i = some c) : OpD K es (rIx K) r1 r2 (.o (.d (.str ⟨#[c]⟩))) := fun B F H σ fps v1 fp1 v2 fp2 R rv1 rv2 Q k =>
  .inr (.inr ⟨z, i, c, dd_str (rv1.dd R h1 q1), dd_int (rv2.dd R h2 q2), hz, ha, k _ F H [] R Go.refl rv_str fun _ h => nomatch h⟩)
theorem od_ixC {ns : List Int} {n : Int} (h1 : r1.tr es = some (.scr ns)) (h2 : r2.tr es = some t2) (q2 : t2.toD = some (.int i)) (ha : atI ns i = some n) : OpD K es (rIx K) r1 r2 (.o (.d (.int n))) := fun B F H σ fps v1 fp1 v2 fp2 R rv1 rv2 Q k => by
  obtain ⟨fq, q⟩ := rv1.rp R h1
  obtain ⟨a, rfl, hs⟩ := q.sinv
  obtain ⟨n', n1, n2, n3⟩ := atI_len (vs := ns.map V.int) (List.length_map _) ha
  exact .inl ⟨a, ns.map V.int, i, .int n, rfl, dd_int (rv2.dd R h2 q2), R.ex.seq hs, by rw [n3, List.getElem?_map, n2]; rfl, k _ F H [] R Go.refl rv_int fun _ h => nomatch h⟩
/-- an item of an own list, a borrowed one -/
theorem od_ixR {ts : List T} {a : Nat} {p : List Stp} (h1 : (Vl.r a p).tr es = some (.lst ts)) (h2 : r2.tr es = some t2) (q2 : t2.toD = some (.int i)) {n : Nat} (hn : ixN ts.length i = some n) (ht : ts[n]? = some t) : OpD K es (rIx K) (.r a p) r2 ((Vl.r a p).kid (.ix n) t) := fun B F H σ fps v1 fp1 v2 fp2 R rv1 rv2 Q k => by
  obtain ⟨fq, q⟩ := rv1.rp R h1
  cases q with
  | lst e1 e2 =>
    rename_i b vs fr
    obtain ⟨u, fu, u1, u2, u3⟩ := e2.get ht
    have hl := e2.length
    have ha : atI vs i = some u := by
      unfold atI
      rw [hl, hn]
      exact u1
    refine .inl ⟨b, vs, i, u, rfl, dd_int (rv2.dd R h2 q2), SqL.of e1, ha, k u F H [] R Go.refl ?_ fun _ h => nomatch h⟩
    obtain ⟨_, v0, k1, k2⟩ := rv1
    have loc : RV K B F H σ fps u (.r a (p ++ [.ix n])) [] := ⟨rfl, v0, k1, k2.app ⟨b, vs, u, rfl, e1, u1, rfl⟩⟩
    cases t with
    | d x => exact rv_d u2.dinv
    | scr ns =>
      obtain ⟨c, e3, k3⟩ := u2.sinv
      subst e3
      exact ⟨.scr k3, List.nodup_nil, fun _ h => nomatch h⟩
    | lst ts => exact loc
    | ins C fs => exact loc
    | dT kvs => exact loc
    | dK kvs => exact loc
theorem od_ixQ {ts : List T} (h2 : r2.tr es = some t2) (q2 : t2.toD = some (.int i)) {n : Nat} (hn : ixN ts.length i = some n) (ht : ts[n]? = some t) : OpD K es (rIx K) (.q (.lst ts)) r2 ((Vl.q (.lst ts)).kid (.ix n) t) := fun B F H σ fps v1 fp1 v2 fp2 R rv1 rv2 Q k => by
  obtain ⟨_, fq, q, out⟩ := rv1
  cases q with
  | lst e1 e2 =>
    rename_i b vs fr
    obtain ⟨u, fu, u1, u2, u3⟩ := e2.get ht
    have hl := e2.length
    have ha : atI vs i = some u := by
      unfold atI
      rw [hl, hn]
      exact u1
    refine .inl ⟨b, vs, i, u, rfl, dd_int (rv2.dd R h2 q2), SqL.of e1, ha, k u F H [] R Go.refl ?_ fun _ h => nomatch h⟩
    have loc : RV K B F H σ fps u (.q t) [] := ⟨rfl, fu, u2, fun b hb => out b (List.mem_cons_of_mem _ (u3 b hb))⟩
    cases t with
    | d x => exact rv_d u2.dinv
    | scr ns =>
      obtain ⟨c, e3, k3⟩ := u2.sinv
      subst e3
      exact ⟨.scr k3, List.nodup_nil, fun _ h => nomatch h⟩
    | lst ts => exact loc
    | ins C fs => exact loc
    | dT kvs => exact loc
    | dK kvs => exact loc

/-! ### tests -/
theorem et_test {b : Bool} (h : EE K m te es (.o (.d (.bool b))) es') : ET K m (tTest te) es b es' := fun B F H σ fps R Q k => h B F H σ fps R _ fun v F' H' fps' fp R' g rv n => ⟨b, dd_bl rv.1.dinv, k F' H' fps' R' g⟩
theorem et_B {b : Bool} (h : EE K m te es (.o (.d (.bool b))) es') : ET K m (tB te) es b es' := fun B F H σ fps R Q k => h B F H σ fps R _ fun v F' H' fps' fp R' g rv n => ⟨b, dd_bl rv.1.dinv, k F' H' fps' R' g⟩
theorem et_is {a b : Bool} (h : ET K m tt es a es') (e : a = b) : ET K m tt es b es' := e ▸ h
theorem et_not {b : Bool} (h : ET K m tt es b es') : ET K m (tNot tt) es (!b) es' := fun B F H σ fps R Q k => h B F H σ fps R _ fun F' H' fps' R' g => k F' H' fps' R' g
theorem et_yes : ET K false tYes es true es := fun B F H σ fps R Q k => k F H fps R Go.refl
theorem et_wk {b : Bool} (h : ET K m tt es b es') (hm : m = true → m1 = true) : ET K m1 tt es b es' := fun B F H σ fps R Q k => h B F H σ fps R _ fun F' H' fps' R' g => k F' H' fps' R' (g.wk hm)
/-- and, or, where the second one is asked or not -/
theorem et_andT {b : Bool} (h1 : ET K m1 tt es true es1) (h2 : ET K m2 tu es1 b es2) : ET K (m1 || m2) (tAnd tt tu) es b es2 := fun B F H σ fps R Q k => h1 B F H σ fps R _ fun F1 H1 fps1 R1 g1 => by
  show tu σ H1 Q
  exact h2 B F1 H1 σ fps1 R1 _ fun F2 H2 fps2 R2 g2 => k F2 H2 fps2 R2 (g1.trans g2)
theorem et_andF (h1 : ET K m1 tt es false es1) : ET K m1 (tAnd tt tu) es false es1 := fun B F H σ fps R Q k => h1 B F H σ fps R _ fun F1 H1 fps1 R1 g1 => by
  show Q false H1
  exact k F1 H1 fps1 R1 g1
theorem et_orF {b : Bool} (h1 : ET K m1 tt es false es1) (h2 : ET K m2 tu es1 b es2) : ET K (m1 || m2) (tOr tt tu) es b es2 := fun B F H σ fps R Q k => h1 B F H σ fps R _ fun F1 H1 fps1 R1 g1 => by
  show tu σ H1 Q
  exact h2 B F1 H1 σ fps1 R1 _ fun F2 H2 fps2 R2 g2 => k F2 H2 fps2 R2 (g1.trans g2)
theorem et_orT (h1 : ET K m1 tt es true es1) : ET K m1 (tOr tt tu) es true es1 := fun B F H σ fps R Q k => h1 B F H σ fps R _ fun F1 H1 fps1 R1 g1 => by
  show Q true H1
  exact k F1 H1 fps1 R1 g1
theorem et_and {a b : Bool} (h1 : ET K m1 tt es a es1) (h2 : a = true → ET K m2 tu es1 b es1) : ET K (m1 || m2) (tAnd tt tu) es (a && b) es1 := by
  cases a with
  | true => exact et_andT h1 (h2 rfl)
  | false => exact et_wk (et_andF h1) fun h => by rw [h]; rfl
theorem et_or {a b : Bool} (h1 : ET K m1 tt es a es1) (h2 : a = false → ET K m2 tu es1 b es1) : ET K (m1 || m2) (tOr tt tu) es (a || b) es1 := by
  cases a with
  | false => exact et_orF h1 (h2 rfl)
  | true => exact et_wk (et_orT h1) fun h => by rw [h]; rfl
theorem ee_ifT (h1 : ET K m1 tt es true es1) (h2 : EE K m2 ta es1 r es2) : EE K (m1 || m2) (tIf tt ta tb) es r es2 := fun B F H σ fps R Q k => h1 B F H σ fps R _ fun F1 H1 fps1 R1 g1 => by
  show ta σ H1 Q
  exact h2 B F1 H1 σ fps1 R1 _ fun v F2 H2 fps2 fp R2 g2 rv n => k v F2 H2 fps2 fp R2 (g1.trans g2) rv (n.trans g1)
theorem ee_ifF (h1 : ET K m1 tt es false es1) (h2 : EE K m2 tb es1 r es2) : EE K (m1 || m2) (tIf tt ta tb) es r es2 := fun B F H σ fps R Q k => h1 B F H σ fps R _ fun F1 H1 fps1 R1 g1 => by
  show tb σ H1 Q
  exact h2 B F1 H1 σ fps1 R1 _ fun v F2 H2 fps2 fp R2 g2 rv n => k v F2 H2 fps2 fp R2 (g1.trans g2) rv (n.trans g1)
/-- and, or, not as values -/
theorem ee_not {b : Bool} (h : EE K m te es (.o (.d (.bool b))) es') : EE K m (tNotV te) es (.o (.d (.bool (!b)))) es' := fun B F H σ fps R Q k => h B F H σ fps R _ fun v F' H' fps' fp R' g rv n => ⟨b, dd_bl rv.1.dinv, k _ F' H' fps' [] R' g rv_bl New.nil⟩
theorem ee_andT (h1 : EE K m1 ta es (.o (.d (.bool true))) es1) (h2 : EE K m2 tb es1 r es2) : EE K (m1 || m2) (tAndV ta tb) es r es2 := fun B F H σ fps R Q k => h1 B F H σ fps R _ fun v F1 H1 fps1 fp R1 g1 rv n => ⟨true, dd_bl rv.1.dinv, by
  show tb σ H1 Q
  exact h2 B F1 H1 σ fps1 R1 _ fun v F2 H2 fps2 fp R2 g2 rv n => k v F2 H2 fps2 fp R2 (g1.trans g2) rv (n.trans g1)⟩
theorem ee_andF (h1 : EE K m1 ta es (.o (.d (.bool false))) es1) : EE K m1 (tAndV ta tb) es (.o (.d (.bool false))) es1 := fun B F H σ fps R Q k => h1 B F H σ fps R _ fun v F1 H1 fps1 fp R1 g1 rv n => ⟨false, dd_bl rv.1.dinv, by
  show Q (.bl false) H1
  exact k _ F1 H1 fps1 [] R1 g1 rv_bl New.nil⟩
theorem ee_orF (h1 : EE K m1 ta es (.o (.d (.bool false))) es1) (h2 : EE K m2 tb es1 r es2) : EE K (m1 || m2) (tOrV ta tb) es r es2 := fun B F H σ fps R Q k => h1 B F H σ fps R _ fun v F1 H1 fps1 fp R1 g1 rv n => ⟨false, dd_bl rv.1.dinv, by
  show tb σ H1 Q
  exact h2 B F1 H1 σ fps1 R1 _ fun v F2 H2 fps2 fp R2 g2 rv n => k v F2 H2 fps2 fp R2 (g1.trans g2) rv (n.trans g1)⟩
theorem ee_orT (h1 : EE K m1 ta es (.o (.d (.bool true))) es1) : EE K m1 (tOrV ta tb) es (.o (.d (.bool true))) es1 := fun B F H σ fps R Q k => h1 B F H σ fps R _ fun v F1 H1 fps1 fp R1 g1 rv n => ⟨true, dd_bl rv.1.dinv, by
  show Q (.bl true) H1
  exact k _ F1 H1 fps1 [] R1 g1 rv_bl New.nil⟩
theorem ee_and {a b : Bool} (h1 : EE K m1 ta es (.o (.d (.bool a))) es1) (h2 : a = true → EE K m2 tb es1 (.o (.d (.bool b))) es1) : EE K (m1 || m2) (tAndV ta tb) es (.o (.d (.bool (a && b)))) es1 := by
  cases a with
  | true => exact ee_andT h1 (h2 rfl)
  | false => exact ee_wk (ee_andF h1) fun h => by rw [h]; rfl
theorem ee_or {a b : Bool} (h1 : EE K m1 ta es (.o (.d (.bool a))) es1) (h2 : a = false → EE K m2 tb es1 (.o (.d (.bool b))) es1) : EE K (m1 || m2) (tOrV ta tb) es (.o (.d (.bool (a || b)))) es1 := by
  cases a with
  | false => exact ee_orF h1 (h2 rfl)
  | true => exact ee_wk (ee_orT h1) fun h => by rw [h]; rfl
/-- a < b < c -/
theorem ee_chainT {op op' : R2} (ha : EE K m1 ta es r1 es1) (hb : EE K m2 tb es1 r2 es2) (s1 : r1.st m2 = true) (ho : OpD K es2 op r1 r2 (.o (.d (.bool true)))) (hc : EE K m3 tc es2 r3 es3) (s2 : r2.st m3 = true) (ho' : OpD K es3 op' r2 r3 r) :
    EE K true (tChain op op' ta tb tc) es r es3 := fun B F H σ fps R Q k =>
  ha B F H σ fps R _ fun v1 F1 H1 fps1 fp1 R1 g1 rv1 n1 => hb B F1 H1 σ fps1 R1 _ fun v2 F2 H2 fps2 fp2 R2 g2 rv2 n2 => ho B F2 H2 σ fps2 v1 fp1 v2 fp2 R2 (rv1.go R1 g2 s1) rv2 _ fun v F3 H3 fp R3 g3 rv3 n3 => ⟨true, dd_bl rv3.1.dinv, by
    show tc σ H3 fun w' H4 => op' v2 w' H4 Q
    exact hc B F3 H3 σ fps2 R3 _ fun v4 F4 H4 fps4 fp4 R4 g4 rv4 n4 => ho' B F4 H4 σ fps4 v2 fp2 v4 fp4 R4 ((rv2.go R2 g3 (by cases r2 with | o _ => rfl | q _ => rfl | r a p => cases p <;> rfl)).go R3 g4 s2) rv4 Q fun v5 F5 H5 fp5 R5 g5 rv5 n5 =>
      k v5 F5 H5 fps4 fp5 R5 ((((g1.trans g2).trans g3).trans g4).trans g5 |>.wk fun _ => rfl) rv5 fun a ha => .inl ((((g1.trans g2).trans g3).trans g4).th a (n5 a ha))⟩
theorem ee_chainF {op op' : R2} (ha : EE K m1 ta es r1 es1) (hb : EE K m2 tb es1 r2 es2) (s1 : r1.st m2 = true) (ho : OpD K es2 op r1 r2 (.o (.d (.bool false)))) :
    EE K true (tChain op op' ta tb tc) es (.o (.d (.bool false))) es2 := fun B F H σ fps R Q k =>
  ha B F H σ fps R _ fun v1 F1 H1 fps1 fp1 R1 g1 rv1 n1 => hb B F1 H1 σ fps1 R1 _ fun v2 F2 H2 fps2 fp2 R2 g2 rv2 n2 => ho B F2 H2 σ fps2 v1 fp1 v2 fp2 R2 (rv1.go R1 g2 s1) rv2 _ fun v F3 H3 fp R3 g3 rv3 n3 => ⟨false, dd_bl rv3.1.dinv, by
    show Q (.bl false) H3
    exact k _ F3 H3 fps2 [] R3 ((g1.trans g2).trans g3 |>.wk fun _ => rfl) rv_bl New.nil⟩
end
section
variable {X : Cx}
theorem op_times : OpR X (binaryOp .Mult) (rTimes X.K) := opr_or op_mul (opr_or (by
  intro pins s σ H x y v u Q I rx ry h
  obtain ⟨z, n, rfl, rfl, hz, q⟩ := h
  obtain ⟨t, rfl⟩ := rx
  obtain ⟨t', rfl⟩ := ry
  exact SB.mul hz fun t' k => ⟨.str _, H, I.tok _, ⟨_, rfl⟩, q⟩) (opr_or op_rep op_repT))
theorem op_isNon : OpR X (compareOp .Is) rIsNon := op_isN
theorem op_isNot : OpR X (compareOp .IsNot) rIsNot := op_notN
theorem op_inAny (hu : X.A.units + 65 < cLine) : OpR X (compareOp .In) (rInAny X.K) := opr_or (op_inD hu) op_in_seq
theorem op_notInAny (hu : X.A.units + 65 < cLine) : OpR X (compareOp .NotIn) (rNotInAny X.K) := opr_or (op_notInD hu) op_notIn_seq
end
end DW

namespace DW
open PySem PySem.Spec PyProof.Rows L2

/-! ### readings with names of their own -/
def rLn (K : PySem.W.Frag) : List V → Hp → VK → Prop := fun xs H Q => ∃ x n, xs = [x] ∧ LenV K x H n ∧ Q (.int n) H
def rInt1 : List V → Hp → VK → Prop := fun xs H Q => (∃ i, xs = [.int i] ∧ Q (.int i) H) ∨ ∃ k, xs = [.bl k] ∧ Q (.int (if k then 1 else 0)) H
def rListOf (K : PySem.W.Frag) : List V → Hp → VK → Prop := fun xs H Q => ∃ p ys, xs = [.ref p] ∧ (SqL K H p ys ∨ SqT K H p ys) ∧ ∀ l, H l = none → Q (.ref l) (upd H l (.lst ys))
def rTupOf (K : PySem.W.Frag) : List V → Hp → VK → Prop := fun xs H Q => ∃ p ys, xs = [.ref p] ∧ ((SqL K H p ys ∧ ∀ l, H l = none → Q (.ref l) (upd H l (.tup ys))) ∨ (SqT K H p ys ∧ Q (.ref p) H))
def rMax2 : List V → Hp → VK → Prop := fun xs H Q => ∃ i j, xs = [.int i, .int j] ∧ Q (.int (if j > i then j else i)) H
def rMin2 : List V → Hp → VK → Prop := fun xs H Q => ∃ i j, xs = [.int i, .int j] ∧ Q (.int (if j < i then j else i)) H
def rStrI : List V → Hp → VK → Prop := fun xs H Q => ∃ i, xs = [.int i] ∧ i.natAbs.log2 < 1920 ∧ Q (.str (toString i)) H
def rOrd : List V → Hp → VK → Prop := fun xs H Q => ∃ x, xs = [.str x] ∧ x.length = 1 ∧ Q (.int (x.cps.getD 0 0 : Nat)) H
def rJoin (K : PySem.W.Frag) : V → List V → Hp → VK → Prop := fun x xs H Q => ∃ a p, ∃ ys : List Str, x = .str a ∧ xs = [.ref p] ∧ (SqL K H p (ys.map V.str) ∨ SqT K H p (ys.map V.str)) ∧
  (ys.map (·.length)).sum + ys.length * a.length ≤ 16777216 ∧ Q (.str (Txt.join a ys)) H
def rSlAny (K : PySem.W.Frag) : V → Option Int → Option Int → Hp → VK → Prop := fun x lo hi H Q => rSlL K x lo hi H Q ∨ (rSlS x lo hi H Q ∨ rSlA K x lo hi H Q)
section
variable {X : Cx}
theorem dc_len : CallR X (.builtin "len") (rLn X.K) := call_len
theorem dc_int : CallR X (.type "int") rInt1 := call_int1
theorem dc_list : CallR X (.type "list") (rListOf X.K) := call_list_of
theorem dc_tuple : CallR X (.type "tuple") (rTupOf X.K) := call_tuple_of
theorem dc_max (hc : X.calm = true) : CallR X (.builtin "max") rMax2 := call_max2 hc
theorem dc_min (hc : X.calm = true) : CallR X (.builtin "min") rMin2 := call_min2 hc
theorem dc_str : CallR X (.type "str") rStrI := call_str_int
theorem dc_ord : CallR X (.builtin "ord") rOrd := call_ord
theorem dsl_any : SlR X (rSlAny X.K) := sl_list.or (sl_str.or sl_tupA)
theorem dpe_join {o e : Expr} {to te : TE} {apos pos : Pos} (ho : PE X o to) (he : PE X e te) (hs : starEach [e] X.env = [(false, eval e X.env)] := by rfl) (hbase : attributeBase o "join" X.env (eval o X.env) = eval o X.env := by rfl) (hline : (apos.endLine == pos.line) = true := by rfl) :
    PE X (.Call (.Attribute o "join" apos) [e] [] pos) (tM1 (rJoin X.K) to te) := pe_join ho he hs hbase hline
end

section
variable {K : PySem.W.Frag} {B : Addr → Prop} {m m1 m2 m3 : Bool} {F H F' H' : Hp} {fps fps' : Fps} {σ : L2.St} {es es1 es2 es3 es' : Es} {v : V} {fp fq : List Addr} {r r1 r2 r3 : Vl} {t t1 t2 : T} {x y : PyData} {te ta tb tc : TE} {tt tu : TT} {i j : Int} {xs ys : List PyData} {z w : Str}

/-! ### displays -/
abbrev dv (x : PyData) : Vl := .o (.d x)
theorem RVs.dds : ∀ {vs : List V} {xs : List PyData} {fp : List Addr}, RVs K B F H σ fps vs (xs.map dv) fp → DdAll F vs xs ∧ fp = []
  | _, [], _, h => by
    cases h
    exact ⟨.nil, rfl⟩
  | _, x :: xs, _, h => by
    cases h with
    | cons h1 h2 h3 =>
      obtain ⟨q1, q2⟩ := RVs.dds h2
      subst q2
      obtain ⟨k1, k2, k3⟩ := h1
      cases k1 with
      | d k1 => exact ⟨.cons k1 q1, rfl⟩
abbrev EAD (K : PySem.W.Frag) (m : Bool) (ta : TA) (es : Es) (xs : List PyData) (es' : Es) : Prop := EA K m ta es (xs.map dv) es'
theorem ead_nil : EAD K false tNil es [] es := ea_nil
theorem ead_cons {ta : TA} (h : ED K m1 te es x es1) (hs : EAD K m2 ta es1 xs es2) : EAD K (m1 || m2) (tCons te ta) es (x :: xs) es2 := ea_cons h hs rfl
theorem ee_lst {ta : TA} (h : EAD K m ta es xs es') (hz : xs.length ≤ sizeLine) : EE K m (tLst ta) es (.o (.lst (xs.map T.d))) es' := fun B F H σ fps R Q k =>
  h B F H σ fps R _ fun vs F1 H1 fps1 fp R1 g1 rv n => by
    obtain ⟨d1, rfl⟩ := RVs.dds rv
    exact ⟨by rw [d1.length]; exact hz, fun p hp => k (.ref p) F1 _ fps1 [p] (R1.alloc hp) ((g1.trans (Go.alloc (m := false) hp)).wk fun h => by rw [Bool.or_false] at h; exact h) (rv_list R1 hp d1) fun a ha => by
      rw [List.mem_singleton.mp ha]
      exact .inl (g1.th p hp)⟩
theorem ee_tup {ta : TA} (h : EAD K m ta es xs es') (hz : xs.length ≤ sizeLine) : EE K m (tTup ta) es (.o (.d (.tuple xs))) es' := fun B F H σ fps R Q k =>
  h B F H σ fps R _ fun vs F1 H1 fps1 fp R1 g1 rv n => by
    obtain ⟨d1, rfl⟩ := RVs.dds rv
    exact ⟨by rw [d1.length]; exact hz, fun p hp => k (.ref p) _ _ fps1 [] (R1.both hp) ((g1.trans (Go.both (m := false) R1 hp)).wk fun h => by rw [Bool.or_false] at h; exact h) (rv_tup R1 hp d1) New.nil⟩
/-- of own things -/
theorem RVs.rps : ∀ {vs : List V} {ts : List T} {fp : List Addr}, RVs K B F H σ fps vs (ts.map Vl.o) fp → Rps K F H vs ts fp ∧ fp.Nodup ∧ ∀ a ∈ fp, F a = none ∧ (∀ i, a ∉ fps i) ∧ ¬ B a
  | _, [], _, h => by
    cases h
    exact ⟨.nil, List.nodup_nil, fun _ h => nomatch h⟩
  | _, t :: ts, _, h => by
    cases h with
    | cons h1 h2 h3 =>
      obtain ⟨q1, q2, q3⟩ := RVs.rps h2
      obtain ⟨k1, k2, k3⟩ := h1
      refine ⟨.cons k1 q1, List.nodup_append.mpr ⟨k2, q2, fun a ha b hb e => ?_⟩, fun a ha => ?_⟩
      · subst e
        exact h3 a ha hb
      · rcases List.mem_append.mp ha with z | z
        · exact k3 a z
        · exact q3 a z
abbrev EAO (K : PySem.W.Frag) (m : Bool) (ta : TA) (es : Es) (ts : List T) (es' : Es) : Prop := EA K m ta es (ts.map Vl.o) es'
theorem eao_nil : EAO K false tNil es [] es := ea_nil
theorem eao_cons {ta : TA} {ts : List T} (h : EE K m1 te es (.o t) es1) (hs : EAO K m2 ta es1 ts es2) : EAO K (m1 || m2) (tCons te ta) es (t :: ts) es2 := ea_cons h hs rfl
theorem ee_lstO {ta : TA} {ts : List T} (h : EAO K m ta es ts es') (hz : ts.length ≤ sizeLine) : EE K m (tLst ta) es (.o (.lst ts)) es' := fun B F H σ fps R Q k =>
  h B F H σ fps R _ fun vs F1 H1 fps1 fp R1 g1 rv n => by
    obtain ⟨d1, d2, d3⟩ := RVs.rps rv
    refine ⟨by rw [d1.length]; exact hz, fun p hp => k (.ref p) F1 _ fps1 (p :: fp) (R1.alloc hp) ((g1.trans (Go.alloc (m := false) hp)).wk fun h => by rw [Bool.or_false] at h; exact h) ⟨.lst upd_same (d1.mono (fun _ _ h => h) fun a ha => ?_), List.nodup_cons.mpr ⟨fun z => ?_, d2⟩, fun a ha => ?_⟩ fun a ha => ?_⟩
    · obtain ⟨o, ho⟩ := d1.ok a ha
      exact upd_ne (ne_of_none ho hp)
    · obtain ⟨o, ho⟩ := d1.ok p z
      rw [ho] at hp
      cases hp
    · rcases List.mem_cons.mp ha with rfl | ha
      · exact ⟨R1.f_none hp, R1.f_out hp, R1.b_out hp⟩
      · exact d3 a ha
    · rcases List.mem_cons.mp ha with rfl | ha
      · exact .inl (g1.th _ hp)
      · exact n a ha

/-! ### calls of built-in functions -/
def CallD (K : PySem.W.Frag) (es : Es) (f : List V → Hp → VK → Prop) (rs : List Vl) (r3 : Vl) : Prop := ∀ B F H σ fps vs fp, Rep K B F H σ es fps → RVs K B F H σ fps vs rs fp → ∀ Q : VK,
  (∀ v F' H' fp', Rep K B F' H' σ es fps → Go false F H fps F' H' fps → RV K B F' H' σ fps v r3 fp' → (∀ a ∈ fp', H a = none) → Q v H') → f vs H Q
theorem ee_cb {f : List V → Hp → VK → Prop} {ta : TA} {rs : List Vl} (ha : EA K m ta es rs es') (h : CallD K es' f rs r3) : EE K m (tCB f ta) es r3 es' := fun B F H σ fps R Q k =>
  ha B F H σ fps R _ fun vs F1 H1 fps1 fp R1 g1 rv n => h B F1 H1 σ fps1 vs fp R1 rv Q fun v F2 H2 fp2 R2 g2 rv2 n2 => k v F2 H2 fps1 fp2 R2 ((g1.trans g2).wk fun h => by rw [Bool.or_false] at h; exact h) rv2 fun a ha => .inl (g1.th a (n2 a ha))
theorem rvs1 {vs : List V} (h : RVs K B F H σ fps vs [r] fp) : ∃ v fq, vs = [v] ∧ RV K B F H σ fps v r fq := by
  cases h with
  | cons h1 h2 _ =>
    cases h2
    exact ⟨_, _, rfl, h1⟩
theorem rvs2 {vs : List V} (h : RVs K B F H σ fps vs [r1, r2] fp) : ∃ v w fq fr, vs = [v, w] ∧ RV K B F H σ fps v r1 fq ∧ RV K B F H σ fps w r2 fr := by
  cases h with
  | cons h1 h2 _ =>
    cases h2 with
    | cons h2 h3 _ =>
      cases h3
      exact ⟨_, _, _, _, rfl, h1, h2⟩
theorem cd_lenL (h : r.tr es = some t) (e : Els t xs) : CallD K es (rLn K) [r] (.o (.d (.int (xs.length : Int)))) := fun B F H σ fps vs fp R rv Q k => by
  obtain ⟨v, fq, e0, q0⟩ := rvs1 rv
  clear rv
  subst e0
  have rv := q0
  clear q0
  obtain ⟨a, vs, rfl, e1, d1⟩ := rv.els R h e
  exact ⟨.ref a, xs.length, rfl, .inl ⟨vs, SqL.of e1, d1.length.symm⟩, k _ F H [] R Go.refl rv_int fun _ h => nomatch h⟩
theorem cd_lenT (h : r.tr es = some (.d (.tuple xs))) : CallD K es (rLn K) [r] (.o (.d (.int (xs.length : Int)))) := fun B F H σ fps vs fp R rv Q k => by
  obtain ⟨v, fq, e0, q0⟩ := rvs1 rv
  clear rv
  subst e0
  have rv := q0
  clear q0
  obtain ⟨a, vs, rfl, e1, d1⟩ := rv.tups R h
  exact ⟨.ref a, xs.length, rfl, .inr ⟨vs, SqT.of e1, d1.length.symm⟩, k _ F H [] R Go.refl rv_int fun _ h => nomatch h⟩
theorem cd_lenS (h : r.tr es = some t) (e : t.toD = some (.str z)) (hz : z.length ≤ sizeLine) : CallD K es (rLn K) [r] (.o (.d (.int (z.length : Int)))) := fun B F H σ fps vs fp R rv Q k => by
  obtain ⟨v, fq, e0, q0⟩ := rvs1 rv
  clear rv
  subst e0
  have rv := q0
  clear q0
  have e1 := dd_str (rv.dd R h e)
  subst e1
  exact ⟨.str z, z.length, rfl, ⟨hz, rfl⟩, k _ F H [] R Go.refl rv_int fun _ h => nomatch h⟩
theorem cd_lenC {ns : List Int} (h : r.tr es = some (.scr ns)) : CallD K es (rLn K) [r] (.o (.d (.int (ns.length : Int)))) := fun B F H σ fps vs fp R rv Q k => by
  obtain ⟨v, fq, e0, q0⟩ := rvs1 rv
  clear rv
  subst e0
  have rv := q0
  clear q0
  obtain ⟨fr, q⟩ := rv.rp R h
  obtain ⟨a, rfl, hs⟩ := q.sinv
  exact ⟨.ref a, ns.length, rfl, .inl ⟨_, R.ex.seq hs, (List.length_map _).symm⟩, k _ F H [] R Go.refl rv_int fun _ h => nomatch h⟩
theorem cd_lenO {ts : List T} (h : r.tr es = some (.lst ts)) : CallD K es (rLn K) [r] (.o (.d (.int (ts.length : Int)))) := fun B F H σ fps vs fp R rv Q k => by
  obtain ⟨v, fq, e0, q0⟩ := rvs1 rv
  clear rv
  subst e0
  have rv := q0
  clear q0
  obtain ⟨fr, q⟩ := rv.rp R h
  cases q with
  | lst e1 e2 => exact ⟨_, ts.length, rfl, .inl ⟨_, SqL.of e1, e2.length.symm⟩, k _ F H [] R Go.refl rv_int fun _ h => nomatch h⟩
theorem cd_int (h : r.tr es = some t) (e : t.toD = some (.int i)) : CallD K es rInt1 [r] (.o (.d (.int i))) := fun B F H σ fps vs fp R rv Q k => by
  obtain ⟨v, fq, e0, q0⟩ := rvs1 rv
  clear rv
  subst e0
  have rv := q0
  clear q0
  have e1 := dd_int (rv.dd R h e)
  subst e1
  exact .inl ⟨i, rfl, k _ F H [] R Go.refl rv_int fun _ h => nomatch h⟩
theorem cd_intB {b : Bool} (h : r.tr es = some t) (e : t.toD = some (.bool b)) : CallD K es rInt1 [r] (.o (.d (.int (if b then 1 else 0)))) := fun B F H σ fps vs fp R rv Q k => by
  obtain ⟨v, fq, e0, q0⟩ := rvs1 rv
  clear rv
  subst e0
  have rv := q0
  clear q0
  have e1 := dd_bl (rv.dd R h e)
  subst e1
  exact .inr ⟨b, rfl, k _ F H [] R Go.refl rv_int fun _ h => nomatch h⟩
theorem new1 {p : Addr} (hp : H p = none) : ∀ a ∈ [p], H a = none := fun a ha => by
  rw [List.mem_singleton.mp ha]
  exact hp
theorem cd_list (h : r.tr es = some t) (e : Els t xs) : CallD K es (rListOf K) [r] (.o (.lst (xs.map T.d))) := fun B F H σ fps vs fp R rv Q k => by
  obtain ⟨v, fq, e0, q0⟩ := rvs1 rv
  clear rv
  subst e0
  have rv := q0
  clear q0
  obtain ⟨a, vs, rfl, e1, d1⟩ := rv.els R h e
  exact ⟨a, vs, rfl, .inl (SqL.of e1), fun p hp => k (.ref p) F _ [p] (R.alloc hp) (Go.alloc hp) (rv_list R hp d1) (new1 hp)⟩
theorem cd_listT (h : r.tr es = some (.d (.tuple xs))) : CallD K es (rListOf K) [r] (.o (.lst (xs.map T.d))) := fun B F H σ fps vs fp R rv Q k => by
  obtain ⟨v, fq, e0, q0⟩ := rvs1 rv
  clear rv
  subst e0
  have rv := q0
  clear q0
  obtain ⟨a, vs, rfl, e1, d1⟩ := rv.tups R h
  exact ⟨a, vs, rfl, .inr (SqT.of e1), fun p hp => k (.ref p) F _ [p] (R.alloc hp) (Go.alloc hp) (rv_list R hp d1) (new1 hp)⟩
theorem dds_ints : ∀ ns : List Int, DdAll F (ns.map V.int) (ns.map PyData.int)
  | [] => .nil
  | n :: ns => .cons (.int n) (dds_ints ns)
theorem dds_strs : ∀ ns : List Str, DdAll F (ns.map V.str) (ns.map PyData.str)
  | [] => .nil
  | n :: ns => .cons (.str n) (dds_strs ns)
theorem dds_strs' : ∀ {ns : List Str} {vs : List V}, DdAll F vs (ns.map PyData.str) → vs = ns.map V.str
  | [], _, h => by cases h; rfl
  | n :: ns, _, h => by
    cases h with
    | cons h1 h2 =>
      cases h1
      rw [dds_strs' h2]
      rfl
theorem dds_ints' : ∀ {ns : List Int} {vs : List V}, DdAll F vs (ns.map PyData.int) → vs = ns.map V.int
  | [], _, h => by cases h; rfl
  | n :: ns, _, h => by
    cases h with
    | cons h1 h2 =>
      cases h1
      rw [dds_ints' h2]
      rfl
theorem cd_listC {ns : List Int} (h : r.tr es = some (.scr ns)) : CallD K es (rListOf K) [r] (.o (.lst ((ns.map PyData.int).map T.d))) := fun B F H σ fps vs fp R rv Q k => by
  obtain ⟨v, fq, e0, q0⟩ := rvs1 rv
  clear rv
  subst e0
  have rv := q0
  clear q0
  obtain ⟨fr, q⟩ := rv.rp R h
  obtain ⟨a, rfl, hs⟩ := q.sinv
  exact ⟨a, ns.map V.int, rfl, .inl (R.ex.seq hs), fun p hp => k (.ref p) F _ [p] (R.alloc hp) (Go.alloc hp) (rv_list R hp (dds_ints ns)) (new1 hp)⟩
theorem cd_tuple (h : r.tr es = some t) (e : Els t xs) : CallD K es (rTupOf K) [r] (.o (.d (.tuple xs))) := fun B F H σ fps vs fp R rv Q k => by
  obtain ⟨v, fq, e0, q0⟩ := rvs1 rv
  clear rv
  subst e0
  have rv := q0
  clear q0
  obtain ⟨a, vs, rfl, e1, d1⟩ := rv.els R h e
  exact ⟨a, vs, rfl, .inl ⟨SqL.of e1, fun p hp => k (.ref p) _ _ [] (R.both hp) (Go.both R hp) (rv_tup R hp d1) fun _ h => nomatch h⟩⟩
theorem cd_max (h1 : r1.tr es = some t1) (e1 : t1.toD = some (.int i)) (h2 : r2.tr es = some t2) (e2 : t2.toD = some (.int j)) : CallD K es rMax2 [r1, r2] (.o (.d (.int (if j > i then j else i)))) := fun B F H σ fps vs fp R rv Q k => by
  obtain ⟨v, w, fq, fr, rfl, rv1, rv2⟩ := rvs2 rv
  have q1 := dd_int (rv1.dd R h1 e1)
  have q2 := dd_int (rv2.dd R h2 e2)
  subst q1 q2
  exact ⟨i, j, rfl, k _ F H [] R Go.refl rv_int fun _ h => nomatch h⟩
theorem cd_min (h1 : r1.tr es = some t1) (e1 : t1.toD = some (.int i)) (h2 : r2.tr es = some t2) (e2 : t2.toD = some (.int j)) : CallD K es rMin2 [r1, r2] (.o (.d (.int (if j < i then j else i)))) := fun B F H σ fps vs fp R rv Q k => by
  obtain ⟨v, w, fq, fr, rfl, rv1, rv2⟩ := rvs2 rv
  have q1 := dd_int (rv1.dd R h1 e1)
  have q2 := dd_int (rv2.dd R h2 e2)
  subst q1 q2
  exact ⟨i, j, rfl, k _ F H [] R Go.refl rv_int fun _ h => nomatch h⟩
theorem cd_str (h : r.tr es = some t) (e : t.toD = some (.int i)) (hz : i.natAbs.log2 < 1920) : CallD K es rStrI [r] (.o (.d (.str (toString i)))) := fun B F H σ fps vs fp R rv Q k => by
  obtain ⟨v, fq, e0, q0⟩ := rvs1 rv
  clear rv
  subst e0
  have rv := q0
  clear q0
  have e1 := dd_int (rv.dd R h e)
  subst e1
  exact ⟨i, rfl, hz, k _ F H [] R Go.refl rv_str fun _ h => nomatch h⟩
theorem cd_ord (h : r.tr es = some t) (e : t.toD = some (.str z)) (hz : z.length = 1) : CallD K es rOrd [r] (.o (.d (.int (z.cps.getD 0 0 : Nat)))) := fun B F H σ fps vs fp R rv Q k => by
  obtain ⟨v, fq, e0, q0⟩ := rvs1 rv
  clear rv
  subst e0
  have rv := q0
  clear q0
  have e1 := dd_str (rv.dd R h e)
  subst e1
  exact ⟨z, rfl, hz, k _ F H [] R Go.refl rv_int fun _ h => nomatch h⟩
/-- isinstance -/
def T.tyN : T → String
  | .d .none => "NoneType"
  | .d (.bool _) => "bool"
  | .d (.int _) => "int"
  | .d (.str _) => "str"
  | .d (.list _) => "list"
  | .d (.tuple _) => "tuple"
  | .d (.dict _) => "dict"
  | .scr _ => "list"
  | .lst _ => "list"
  | .ins _ _ => ""
  | .dT _ => "dict"
  | .dK _ => "dict"
def T.plain : T → Bool
  | .ins _ _ => false
  | .scr _ => false
  | _ => true
theorem Rp.tyOf (ex : Same F H) (h : Rp K F H v t fp) (hp : t.plain = true) : TyOf K H v (.type t.tyN) := by
  cases h with
  | d h =>
    cases h with
    | non => exact .non
    | bl b => exact .bl b
    | int i => exact .int i
    | str z => exact .str z
    | lst h _ => exact .lst (ex _ _ h)
    | tup h _ => exact .tup (ex _ _ h)
  | scr _ => cases hp
  | lst h _ => exact .lst h
  | ins _ _ _ => cases hp
  | dT h _ => exact .dT h
  | dK h _ => exact .dK h
theorem ee_isi {n : String} {b : Bool} (h : EE K m te es r es') (e : r.tr es' = some t) (hp : t.plain = true) (hb : kitB t.tyN n = some b) : EE K m (tCB (rIsi K) (tCons te (tCons (tC (.ty n)) tNil))) es (.o (.d (.bool b))) es' := fun B F H σ fps R Q k =>
  h B F H σ fps R _ fun v F1 H1 fps1 fp R1 g1 rv n1 => by
    obtain ⟨fq, q⟩ := rv.rp R1 e
    exact ⟨v, .ty n, .type t.tyN, .type n, b, rfl, .ty n, .base (q.tyOf R1.ex hp), kit_ty hb, k _ F1 H1 fps1 [] R1 g1 rv_bl New.nil⟩
theorem ee_isiT {n n' : String} {b b' c : Bool} (h : EE K m te es r es') (e : r.tr es' = some t) (hp : t.plain = true) (hb : kitB t.tyN n = some b) (hb' : kitB t.tyN n' = some b') (hc : c = (b || b')) :
    EE K m (tCB (rIsiT K) (tCons te (tCons (tTup (tCons (tC (.ty n)) (tCons (tC (.ty n')) tNil))) tNil))) es (.o (.d (.bool c))) es' := fun B F H σ fps R Q k =>
  h B F H σ fps R _ fun v F1 H1 fps1 fp R1 g1 rv n1 => by
    obtain ⟨fq, q⟩ := rv.rp R1 e
    refine ⟨by show 2 ≤ sizeLine; decide, fun p hp0 => ?_⟩
    have R2 := R1.alloc (o := .tup [.ty n, .ty n']) hp0
    have sm : Same H1 (upd H1 p (.tup [.ty n, .ty n'])) := same_new hp0
    have q2 : Rp K F1 (upd H1 p (.tup [.ty n, .ty n'])) v t fq := q.mono (fun _ _ h => h) fun a ha => by
      obtain ⟨o, ho⟩ := q.ok a ha
      exact upd_ne (ne_of_none ho hp0)
    subst hc
    refine ⟨v, p, [.ty n, .ty n'], .type t.tyN, [.type n, .type n'], b || b', rfl, upd_same, .cons (.ty n) (.cons (.ty n') .nil), .base (q2.tyOf R2.ex hp), ?_, k _ F1 _ fps1 [] R2 ((g1.trans (Go.alloc (m := false) hp0)).wk fun h => by rw [Bool.or_false] at h; exact h) rv_bl New.nil⟩
    refine kitAny_cons (kit_ty hb) (fun eb => ?_) fun eb => by rw [eb]; rfl
    subst eb
    refine kitAny_cons (kit_ty hb') (fun eb => ?_) fun eb => by rw [eb]; rfl
    subst eb
    rfl
/-- sep.join(list) -/
theorem ee_join {ys : List Str} (h1 : EE K m1 ta es r1 es1) (q1 : ∀ es', r1.tr es' = some (.d (.str z))) (h2 : EE K m2 te es1 r2 es2) (e2 : r2.tr es2 = some t2) (l2 : Els t2 (ys.map PyData.str))
    (hz : (ys.map (·.length)).sum + ys.length * z.length ≤ 16777216) : EE K (m1 || m2) (tM1 (rJoin K) ta te) es (.o (.d (.str (Txt.join z ys)))) es2 := fun B F H σ fps R Q k =>
  h1 B F H σ fps R _ fun v F1 H1 fps1 fp R1 g1 rv n1 => by
    have e1 := dd_str (rv.dd R1 (q1 es1) rfl)
    subst e1
    refine ⟨⟨z, rfl⟩, h2 B F1 H1 σ fps1 R1 _ fun v2 F2 H2 fps2 fp2 R2 g2 rv2 n2 => ?_⟩
    obtain ⟨a, vs, rfl, k1, d1⟩ := rv2.els R2 e2 l2
    have ev := dds_strs' d1
    subst ev
    exact ⟨z, a, ys, rfl, rfl, .inl (SqL.of k1), hz, k _ F2 H2 fps2 [] R2 (g1.trans g2) rv_str New.nil⟩

/-! ### slices -/
def EO (K : PySem.W.Frag) (m : Bool) (to : TO) (es : Es) (o : Option Int) (es' : Es) : Prop := ∀ B F H σ fps, Rep K B F H σ es fps → ∀ Q : Option Int → Hp → Prop,
  (∀ F' H' fps', Rep K B F' H' σ es' fps' → Go m F H fps F' H' fps' → Q o H') → to σ H Q
theorem eo_no : EO K false tNoPart es none es := fun B F H σ fps R Q k => k F H fps R Go.refl
theorem eo_part (h : EE K m te es r es') (e : r.tr es' = some t) (q : t.toD = some (.int i)) : EO K m (tPart te) es (some i) es' := fun B F H σ fps R Q k =>
  h B F H σ fps R _ fun v F1 H1 fps1 fp R1 g1 rv n1 => ⟨i, dd_int (rv.dd R1 e q), k F1 H1 fps1 R1 g1⟩
def cutD {α : Type} (xs : List α) (lo hi : Option Int) : List α := (xs.drop (HT.sIx xs.length 0 lo)).take (HT.sIx xs.length xs.length hi - HT.sIx xs.length 0 lo)
theorem DdAll.take : ∀ {n : Nat} {vs : List V} {xs : List PyData}, DdAll F vs xs → DdAll F (vs.take n) (xs.take n)
  | 0, _, _, h => by simp; exact .nil
  | n + 1, _, _, .nil => .nil
  | n + 1, _, _, .cons h1 h2 => .cons h1 (DdAll.take h2)
theorem DdAll.drop : ∀ {n : Nat} {vs : List V} {xs : List PyData}, DdAll F vs xs → DdAll F (vs.drop n) (xs.drop n)
  | 0, _, _, h => h
  | n + 1, _, _, .nil => .nil
  | n + 1, _, _, .cons h1 h2 => DdAll.drop (n := n) h2
theorem DdAll.cut {lo hi : Option Int} {vs : List V} (h : DdAll F vs xs) : DdAll F (cutV vs lo hi) (cutD xs lo hi) := by
  unfold cutV cutD
  rw [h.length]
  exact h.drop.take
def SliD (K : PySem.W.Frag) (es : Es) (lo hi : Option Int) (r1 r3 : Vl) : Prop := ∀ B F H σ fps v fp, Rep K B F H σ es fps → RV K B F H σ fps v r1 fp → ∀ Q : VK,
  (∀ v F' H' fp', Rep K B F' H' σ es fps → Go false F H fps F' H' fps → RV K B F' H' σ fps v r3 fp' → (∀ a ∈ fp', H a = none) → Q v H') → rSlAny K v lo hi H Q
theorem ee_sl {tl th : TO} {lo hi : Option Int} (h : EE K m1 te es r1 es1) (hl : EO K m2 tl es1 lo es2) (hh : EO K m3 th es2 hi es3) (hst : r1.st (m2 || m3) = true) (hs : SliD K es3 lo hi r1 r3) : EE K (m1 || (m2 || m3)) (tSl (rSlAny K) te tl th) es r3 es3 := fun B F H σ fps R Q k =>
  h B F H σ fps R _ fun v F1 H1 fps1 fp R1 g1 rv n1 => hl B F1 H1 σ fps1 R1 _ fun F2 H2 fps2 R2 g2 => hh B F2 H2 σ fps2 R2 _ fun F3 H3 fps3 R3 g3 => hs B F3 H3 σ fps3 v fp R3 (rv.go R1 (g2.trans g3) hst) Q fun v4 F4 H4 fp4 R4 g4 rv4 n4 =>
    k v4 F4 H4 fps3 fp4 R4 ((g1.trans ((g2.trans g3).trans g4)).wk fun h => by rw [Bool.or_false] at h; exact h) rv4 fun a ha => .inl (g1.th a ((g2.trans g3).th a (n4 a ha)))
theorem sd_L {lo hi : Option Int} (h : r.tr es = some t) (e : Els t xs) : SliD K es lo hi r (.o (.lst ((cutD xs lo hi).map T.d))) := fun B F H σ fps v fp R rv Q k => by
  obtain ⟨a, vs, rfl, e1, d1⟩ := rv.els R h e
  exact .inl ⟨a, vs, rfl, SqL.of e1, fun p hp => k (.ref p) F _ [p] (R.alloc hp) (Go.alloc hp) (rv_list R hp d1.cut) (new1 hp)⟩
theorem sd_S {lo hi : Option Int} (h : r.tr es = some t) (e : t.toD = some (.str z)) (hz : z.length ≤ sizeLine) : SliD K es lo hi r (.o (.d (.str (cutS z lo hi)))) := fun B F H σ fps v fp R rv Q k =>
  .inr (.inl ⟨z, dd_str (rv.dd R h e), hz, k _ F H [] R Go.refl rv_str fun _ h => nomatch h⟩)
theorem sd_T {lo hi : Option Int} (h : r.tr es = some (.d (.tuple xs))) : SliD K es lo hi r (.o (.d (.tuple (cutD xs lo hi)))) := fun B F H σ fps v fp R rv Q k => by
  obtain ⟨a, vs, rfl, e1, d1⟩ := rv.tups R h
  have dv : Dd F (.ref a) (.tuple xs) := by
    obtain ⟨fq, q⟩ := rv.rp R h
    exact q.dinv
  refine .inr (.inr ⟨a, vs, rfl, SqT.of e1, fun hw => ?_, fun _ p hp => k (.ref p) _ _ [] (R.both hp) (Go.both R hp) (rv_tup R hp d1.cut) fun _ h => nomatch h⟩)
  have ec : cutD xs lo hi = xs := by
    unfold cutD
    rw [← d1.length, hw.1, hw.2, d1.length]
    simp
  rw [ec] at k
  exact k _ F H [] R Go.refl (rv_d dv) fun _ h => nomatch h

/-! ### fields -/
theorem field_rp {fvs : List (Str × V)} {fs : List (Str × T)} {f : Str} (hn : fvs.map (·.1) = fs.map (·.1)) (h2 : Rps K F H (fvs.map (·.2)) (fs.map (·.2)) fp) (e : fs.lookup f = some t) : ∃ u fq, fvs.lookup f = some u ∧ Rp K F H u t fq ∧ ∀ a ∈ fq, a ∈ fp := by
  obtain ⟨k, u', k1, k2, k3, k4, k5⟩ := field_at hn e
  obtain ⟨v0, f0, j1, j2, j3⟩ := Rps.get h2 k2
  rw [k1] at j1
  cases j1
  exact ⟨u', f0, k3, j2, j3⟩
theorem ee_fldR {C : Addr} {fs : List (Str × T)} {f : Str} {a : Nat} {p : List Stp} (cl : Cls K C) (na : NoAttr K C f) (h : EE K m te es (.r a p) es') (e : (Vl.r a p).tr es' = some (.ins C fs)) (hf : fs.lookup f = some t) : EE K m (tFld K te f) es ((Vl.r a p).kid (.fd f) t) es' := fun B F H σ fps R Q k =>
  h B F H σ fps R _ fun v F1 H1 fps1 fp R1 g1 rv n1 => by
    obtain ⟨fq, q⟩ := rv.rp R1 e
    cases q with
    | ins e1 e2 e3 =>
      rename_i b dx fvs fr
      obtain ⟨u, fu, u1, u2, u3⟩ := field_rp e2 e3 hf
      refine ⟨b, C, dx, fvs, u, rfl, e1, cl, na, u1, k u F1 H1 fps1 [] R1 g1 ?_ New.nil⟩
      obtain ⟨_, v0, k1, k2⟩ := rv
      have loc : RV K B F1 H1 σ fps1 u (.r a (p ++ [.fd f])) [] := ⟨rfl, v0, k1, k2.app ⟨b, C, dx, fvs, u, rfl, e1, u1, rfl⟩⟩
      cases t with
      | d x => exact rv_d u2.dinv
      | scr ns =>
        obtain ⟨c, e3, k3⟩ := u2.sinv
        subst e3
        exact ⟨.scr k3, List.nodup_nil, fun _ h => nomatch h⟩
      | lst ts => exact loc
      | ins C fs => exact loc
      | dT kvs => exact loc
      | dK kvs => exact loc
theorem ee_fldQ {C : Addr} {fs : List (Str × T)} {f : Str} (cl : Cls K C) (na : NoAttr K C f) (h : EE K m te es (.q (.ins C fs)) es') (hf : fs.lookup f = some t) : EE K m (tFld K te f) es ((Vl.q (.ins C fs)).kid (.fd f) t) es' := fun B F H σ fps R Q k =>
  h B F H σ fps R _ fun v F1 H1 fps1 fp R1 g1 rv n1 => by
    obtain ⟨_, fq, q, out⟩ := rv
    cases q with
    | ins e1 e2 e3 =>
      rename_i b dx fvs fr
      obtain ⟨u, fu, u1, u2, u3⟩ := field_rp e2 e3 hf
      refine ⟨b, C, dx, fvs, u, rfl, e1, cl, na, u1, k u F1 H1 fps1 [] R1 g1 ?_ New.nil⟩
      have loc : RV K B F1 H1 σ fps1 u (.q t) [] := ⟨rfl, fu, u2, fun b hb => out b (List.mem_cons_of_mem _ (u3 b hb))⟩
      cases t with
      | d x => exact rv_d u2.dinv
      | scr ns =>
        obtain ⟨c, e3, k3⟩ := u2.sinv
        subst e3
        exact ⟨.scr k3, List.nodup_nil, fun _ h => nomatch h⟩
      | lst ts => exact loc
      | ins C fs => exact loc
      | dT kvs => exact loc
      | dK kvs => exact loc
end
end DW

namespace DW
open PySem PySem.Spec PyProof.Rows L2

section
variable {K : PySem.W.Frag} {B : Addr → Prop} {m m1 m2 m3 : Bool} {F H F1 H1 F' H' : Hp} {fps fps1 fps' : Fps} {σ σ' : L2.St} {es es1 es2 es3 es' : Es} {v : V} {fp fq : List Addr} {r r1 r2 r3 : Vl} {t t1 t2 : T} {x y : PyData} {te ta tb tc : TE} {tt tu : TT} {i j : Int} {xs ys : List PyData} {z w : Str}

/-! ### the slots' places -/
theorem Rep.own (R : Rep K B F H σ es fps) {i : Nat} {b : Addr} (hb : b ∈ fps i) : ∃ a t, es[i]? = some (.o a t) := by
  cases q : es[i]? with
  | none =>
    have := R.no i fun b t z => by rw [q] at z; cases z
    rw [this] at hb
    cases hb
  | some s =>
    cases s with
    | n =>
      have := R.no i fun b t z => by rw [q] at z; cases z
      rw [this] at hb
      cases hb
    | q b t =>
      have := R.no i fun b t z => by rw [q] at z; cases z
      rw [this] at hb
      cases hb
    | o b t => exact ⟨b, t, rfl⟩
def pf (fps : Fps) (i : Nat) (fr : List Addr) : Fps := fun j => if j = i then fr else fps j
theorem pf_i {i : Nat} {fr : List Addr} : pf fps i fr i = fr := if_pos rfl
theorem pf_ne {i j : Nat} {fr : List Addr} (h : ¬ j = i) : pf fps i fr j = fps j := if_neg h
/-- one slot's own thing is another now -/
theorem Rep.one (R : Rep K B F H σ es fps) {i : Nat} {s' : Sl} {fr : List Addr} (hl : i < es.length) (hs : σ'.length = σ.length) (hσ : ∀ j, j ≠ i → σ'[j]? = σ[j]?) (sF : Same F F') (ex : Same F' H') (fn : ∀ j, j ≠ i → ∀ b ∈ fps j, F' b = none)
    (keep : ∀ b o, H b = some o → b ∉ fps i → H' b = some o) (new : SlOk K B F' H' (pf fps i fr) i σ'[i]? s') (hn : (∀ a t, s' ≠ .o a t) → fr = []) (nd : fr.Nodup) (hf : ∀ b ∈ fr, F' b = none) (out : ∀ b ∈ fr, (∀ j, j ≠ i → b ∉ fps j) ∧ ¬ B b) :
    Rep K B F' H' σ' (es.set i s') (pf fps i fr) where
  ex := ex
  len := by rw [List.length_set, hs]; exact R.len
  sl := fun j s e => by
    by_cases c : j = i
    · subst c
      rw [List.getElem?_set_self hl] at e
      cases e
      exact new
    · rw [List.getElem?_set_ne (Ne.symm c)] at e
      rw [hσ j c]
      have q := R.sl j s e
      cases s with
      | n => trivial
      | o a t =>
        obtain ⟨v, h1, h2, h3⟩ := q
        refine ⟨v, h1, h2, ?_⟩
        rw [pf_ne c]
        exact Rp.mono sF h3 fun b hb => by
          obtain ⟨o, ho⟩ := h3.ok b hb
          exact (keep b o ho fun z => R.dj j i c b hb z).trans ho.symm
      | q a t =>
        obtain ⟨v, fq, h1, h2, h3, h4⟩ := q
        exact ⟨v, fq, h1, h2, Rp.mono sF h3 fun b hb => by
          obtain ⟨o, ho⟩ := h3.ok b hb
          exact (keep b o ho ((R.bg b (h4 b hb)).2 i)).trans ho.symm, h4⟩
  no := fun j e => by
    by_cases c : j = i
    · subst c
      rw [pf_i]
      exact hn fun a t z => by
        subst z
        exact e a t (List.getElem?_set_self hl)
    · rw [pf_ne c]
      exact R.no j fun a t z => e a t (by rw [List.getElem?_set_ne (Ne.symm c)]; exact z)
  nd := fun j => by
    by_cases c : j = i
    · subst c
      rw [pf_i]
      exact nd
    · rw [pf_ne c]
      exact R.nd j
  dj := fun j k e b hb hk => by
    by_cases c : j = i
    · subst c
      rw [pf_i] at hb
      rw [pf_ne (Ne.symm e)] at hk
      exact (out b hb).1 k (Ne.symm e) hk
    · rw [pf_ne c] at hb
      by_cases d : k = i
      · subst d
        rw [pf_i] at hk
        exact (out b hk).1 j c hb
      · rw [pf_ne d] at hk
        exact R.dj j k e b hb hk
  fr := fun j b hb => by
    by_cases c : j = i
    · subst c
      rw [pf_i] at hb
      exact hf b hb
    · rw [pf_ne c] at hb
      exact fn j c b hb
  bg := fun b hb => by
    obtain ⟨⟨o, ho⟩, n⟩ := R.bg b hb
    refine ⟨⟨o, keep b o ho (n i)⟩, fun j hj => ?_⟩
    by_cases c : j = i
    · subst c
      rw [pf_i] at hj
      exact (out b hj).2 hb
    · rw [pf_ne c] at hj
      exact n j hj
/-- a value into a slot -/
def Vl.sl : Vl → Sl
  | .o t => .o none t
  | .q t => .q none t
  | .r _ _ => .n
theorem RV.set (R : Rep K B F H σ es fps) {i : Nat} (hl : i < es.length) (h : RV K B F H σ fps v r fp) (hr : r.st true = true) (hr2 : ∀ a, r ≠ .r a []) : Rep K B F H (σ.set i (some v)) (es.set i r.sl) (pf fps i fp) := by
  have hsl : i < σ.length := by rw [R.len]; exact hl
  cases r with
  | o t =>
    obtain ⟨h1, h2, h3⟩ := h
    refine R.one hl (List.length_set ..) (fun j c => List.getElem?_set_ne (Ne.symm c)) (Same.refl F) R.ex (fun j _ b hb => R.fr j b hb) (fun b o e _ => e) ?_ (fun z => absurd rfl (z none t)) h2 (fun b hb => (h3 b hb).1) fun b hb => ⟨fun j _ => (h3 b hb).2.1 j, (h3 b hb).2.2⟩
    rw [List.getElem?_set_self hsl]
    refine ⟨v, rfl, (fun w z => nomatch z), ?_⟩
    rw [pf_i]
    exact h1
  | q t =>
    obtain ⟨h0, fq, h1, h2⟩ := h
    subst h0
    refine R.one hl (List.length_set ..) (fun j c => List.getElem?_set_ne (Ne.symm c)) (Same.refl F) R.ex (fun j _ b hb => R.fr j b hb) (fun b o e _ => e) ?_ (fun _ => rfl) List.nodup_nil (fun _ h => nomatch h) fun _ h => nomatch h
    rw [List.getElem?_set_self hsl]
    exact ⟨v, fq, rfl, (fun w z => nomatch z), h1, h2⟩
  | r a p =>
    cases p with
    | nil => exact absurd rfl (hr2 a)
    | cons _ _ => cases hr
/-- the step where footprints alone move -/
theorem Go.foot {i : Nat} (h : New H fps fp) : Go true F H fps F H (pf fps i fp) where
  ff := Same.refl F
  fn := fun _ h => .inl h
  ou := fun _ _ h _ => h
  fp := fun j b hb => by
    by_cases c : j = i
    · subst c
      rw [pf_i] at hb
      exact h b hb
    · rw [pf_ne c] at hb
      exact .inr ⟨j, hb⟩
  th := fun _ h => h
  pu := fun e => nomatch e
/-- ... -/
theorem Go.foot2 {i : Nat} (g : Go m F H fps F1 H1 fps1) (h : New H fps fp) : Go true F H fps F1 H1 (pf fps1 i fp) where
  ff := g.ff
  fn := g.fn
  ou := g.ou
  fp := fun j b hb => by
    by_cases c : j = i
    · subst c
      rw [pf_i] at hb
      exact h b hb
    · rw [pf_ne c] at hb
      exact g.fp j b hb
  th := g.th
  pu := fun e => nomatch e

/-! ### the focus in a slot -/
def upd1 (i : Nat) (p : List Stp) (s : T) (es : Es) : Es := match es[i]? with
  | some (.o a t) => es.set i (.o a (t.set p s))
  | _ => es
theorem Rep.put (R : Rep K B F H σ es fps) {i : Nat} {a : Option V} {p : List Stp} {w v0 : V} {s t0 : T} (hi : es[i]? = some (.o a t0)) (hv : σ[i]? = some (some v0)) (l : Loc H v0 p w) (e : t0.at p = some s) :
    ∃ fq, Rp K F H w s fq ∧ fq.Nodup ∧ (∀ b ∈ fq, b ∈ fps i) ∧ ∀ (F' H' : Hp) (s' : T) (fq' : List Addr), Same F F' → Same F' H' → (∀ j, ∀ b ∈ fps j, b ∉ fq → F' b = none) → (∀ b o, H b = some o → b ∉ fq → H' b = some o) → Rp K F' H' w s' fq' → fq'.Nodup →
      (∀ b ∈ fq', b ∈ fq ∨ ((∀ j, b ∉ fps j) ∧ ¬ B b)) → (∀ b ∈ fq', F' b = none) → ∃ fr, Rep K B F' H' σ (upd1 i p s' es) (pf fps i fr) ∧ ∀ b ∈ fr, (b ∈ fps i ∧ b ∉ fq) ∨ b ∈ fq' := by
  obtain ⟨v, h1, h2, h3⟩ := R.sl i _ hi
  rw [hv] at h1
  cases h1
  obtain ⟨fq, q1, q2, q3, back⟩ := h3.put (R.nd i) l e
  refine ⟨fq, q1, q2, q3, fun F' H' s' fq' sF ex fn keep r n sub hf => ?_⟩
  obtain ⟨fr, k1, k2, k3⟩ := back F' H' s' fq' sF (fun b hb hn => by
    obtain ⟨o, ho⟩ := h3.ok b hb
    exact (keep b o ho hn).trans ho.symm) r n fun b hb => (sub b hb).imp id fun z => z.1 i
  have hl : i < es.length := (List.getElem?_eq_some_iff.mp hi).1
  have eu : upd1 i p s' es = es.set i (.o a (t0.set p s')) := by
    unfold upd1
    rw [hi]
  rw [eu]
  refine ⟨fr, R.one hl rfl (fun _ _ => rfl) sF ex (fun j c b hb => fn j b hb fun z => R.dj j i c b hb (q3 b z)) (fun b o ho hn => keep b o ho fun z => hn (q3 b z)) ?_ (fun z => absurd rfl (z a (t0.set p s'))) k2 (fun b hb => ?_) (fun b hb => ?_), fun b hb => ?_⟩
  · refine ⟨v0, hv, h2, ?_⟩
    rw [pf_i]
    exact k1
  · rcases k3 b hb with z | z
    · exact fn i b z.1 z.2
    · exact hf b z
  · rcases k3 b hb with z | z
    · exact ⟨fun j c y => R.dj i j (Ne.symm c) b z.1 y, fun y => (R.bg b y).2 i z.1⟩
    · rcases sub b z with y | y
      · exact ⟨fun j c y' => R.dj i j (Ne.symm c) b (q3 b y) y', fun y' => (R.bg b y').2 i (q3 b y)⟩
      · exact ⟨fun j _ => y.1 j, y.2⟩
  · exact k3 b hb
/-- a reference seen in the state -/
theorem RV.ref {a : Nat} {p : List Stp} {s : T} (R : Rep K B F H σ es fps) (h : RV K B F H σ fps v (.r a p) fp) (e : (Vl.r a p).tr es = some s) : ∃ an t0 v0, es[a]? = some (.o an t0) ∧ σ[a]? = some (some v0) ∧ Loc H v0 p v ∧ t0.at p = some s := by
  obtain ⟨_, v0, h1, h2⟩ := h
  unfold Vl.tr at e
  cases q : es[a]? with
  | none =>
    simp only [q] at e
    cases e
  | some sl =>
    cases sl with
    | n =>
      simp only [q] at e
      cases e
    | q _ _ =>
      simp only [q] at e
      cases e
    | o an t0 =>
      simp only [q] at e
      exact ⟨an, t0, v0, rfl, h1, h2, e⟩
/-- a list in a slot's thing is changed in place -/
theorem Rep.mutL {a : Nat} {p : List Stp} {ts : List T} (R : Rep K B F H σ es fps) (h : RV K B F H σ fps v (.r a p) fp) (e : (Vl.r a p).tr es = some (.lst ts)) :
    ∃ l vs fr0, v = .ref l ∧ H l = some (.lst vs) ∧ Rps K F H vs ts fr0 ∧ (l :: fr0).Nodup ∧ (∀ b ∈ l :: fr0, b ∈ fps a) ∧ ∀ (vs' : List V) (ts' : List T) (fr' : List Addr), Rps K F H vs' ts' fr' → fr'.Nodup → (∀ b ∈ fr', b ∈ fr0 ∨ ((∀ j, b ∉ fps j) ∧ ¬ B b ∧ F b = none)) →
      ∃ fps', Rep K B F (upd H l (.lst vs')) σ (upd1 a p (.lst ts') es) fps' ∧ ∀ j, ∀ b ∈ fps' j, b ∈ fps j ∨ b ∈ fr' := by
  obtain ⟨an, t0, v0, h1, h2, h3, h4⟩ := h.ref R e
  obtain ⟨fq, q1, q2, q3, back⟩ := R.put h1 h2 h3 h4
  cases q1 with
  | lst k1 k2 =>
    rename_i l vs fr0
    refine ⟨l, vs, fr0, rfl, k1, k2, q2, q3, fun vs' ts' fr' r n sub => ?_⟩
    have la : l ∈ fps a := q3 l List.mem_cons_self
    obtain ⟨nl, _⟩ := List.nodup_cons.mp q2
    have lf : l ∉ fr' := fun z => by
      rcases sub l z with y | y
      · exact nl y
      · exact y.1 a la
    obtain ⟨fr, j1, j2⟩ := back F (upd H l (.lst vs')) (.lst ts') (l :: fr') (Same.refl F) (fun b o ho => by
      have nb : b ≠ l := fun z => by
        subst z
        rw [R.fr a b la] at ho
        cases ho
      rw [upd_ne nb]
      exact R.ex b o ho) (fun j b hb _ => R.fr j b hb) (fun b o ho hn => by
      rw [upd_ne fun z => hn (by rw [z]; exact List.mem_cons_self)]
      exact ho) (.lst upd_same (r.mono (Same.refl F) fun b hb => upd_ne fun z => lf (by rw [← z]; exact hb))) (List.nodup_cons.mpr ⟨lf, n⟩) (fun b hb => by
      rcases List.mem_cons.mp hb with rfl | hb
      · exact .inl List.mem_cons_self
      · exact (sub b hb).imp (fun z => List.mem_cons_of_mem _ z) fun z => ⟨z.1, z.2.1⟩) (fun b hb => by
      rcases List.mem_cons.mp hb with rfl | hb
      · exact R.fr a b la
      · rcases sub b hb with y | y
        · exact R.fr a b (q3 b (List.mem_cons_of_mem _ y))
        · exact y.2.2)
    refine ⟨_, j1, fun j b hb => ?_⟩
    by_cases c : j = a
    · subst c
      rw [pf_i] at hb
      rcases j2 b hb with y | y
      · exact .inl y.1
      · rcases List.mem_cons.mp y with rfl | y
        · exact .inl la
        · exact .inr y
    · rw [pf_ne c] at hb
      exact .inl hb
/-- a field of an instance in a slot's thing is stored -/
theorem Rep.mutF {a : Nat} {p : List Stp} {C : Addr} {fs : List (Str × T)} (R : Rep K B F H σ es fps) (h : RV K B F H σ fps v (.r a p) fp) (e : (Vl.r a p).tr es = some (.ins C fs)) :
    ∃ l dx fvs fr0, v = .ref l ∧ H l = some (.ins C dx fvs) ∧ fvs.map (·.1) = fs.map (·.1) ∧ Rps K F H (fvs.map (·.2)) (fs.map (·.2)) fr0 ∧ (l :: fr0).Nodup ∧ (∀ b ∈ l :: fr0, b ∈ fps a) ∧ ∀ (fvs' : List (Str × V)) (fs' : List (Str × T)) (fr' : List Addr), fvs'.map (·.1) = fs'.map (·.1) → Rps K F H (fvs'.map (·.2)) (fs'.map (·.2)) fr' → fr'.Nodup → (∀ b ∈ fr', b ∈ fr0 ∨ ((∀ j, b ∉ fps j) ∧ ¬ B b ∧ F b = none)) →
      ∃ fps', Rep K B F (upd H l (.ins C dx fvs')) σ (upd1 a p (.ins C fs') es) fps' ∧ ∀ j, ∀ b ∈ fps' j, b ∈ fps j ∨ b ∈ fr' := by
  obtain ⟨an, t0, v0, h1, h2, h3, h4⟩ := h.ref R e
  obtain ⟨fq, q1, q2, q3, back⟩ := R.put h1 h2 h3 h4
  cases q1 with
  | ins k1 k0 k2 =>
    rename_i l dx fvs fr0
    refine ⟨l, dx, fvs, fr0, rfl, k1, k0, k2, q2, q3, fun fvs' fs' fr' nm r n sub => ?_⟩
    have la : l ∈ fps a := q3 l List.mem_cons_self
    obtain ⟨nl, _⟩ := List.nodup_cons.mp q2
    have lf : l ∉ fr' := fun z => by
      rcases sub l z with y | y
      · exact nl y
      · exact y.1 a la
    obtain ⟨fr, j1, j2⟩ := back F (upd H l (.ins C dx fvs')) (.ins C fs') (l :: fr') (Same.refl F) (fun b o ho => by
      have nb : b ≠ l := fun z => by
        subst z
        rw [R.fr a b la] at ho
        cases ho
      rw [upd_ne nb]
      exact R.ex b o ho) (fun j b hb _ => R.fr j b hb) (fun b o ho hn => by
      rw [upd_ne fun z => hn (by rw [z]; exact List.mem_cons_self)]
      exact ho) (.ins upd_same nm (r.mono (Same.refl F) fun b hb => upd_ne fun z => lf (by rw [← z]; exact hb))) (List.nodup_cons.mpr ⟨lf, n⟩) (fun b hb => by
      rcases List.mem_cons.mp hb with rfl | hb
      · exact .inl List.mem_cons_self
      · exact (sub b hb).imp (fun z => List.mem_cons_of_mem _ z) fun z => ⟨z.1, z.2.1⟩) (fun b hb => by
      rcases List.mem_cons.mp hb with rfl | hb
      · exact R.fr a b la
      · rcases sub b hb with y | y
        · exact R.fr a b (q3 b (List.mem_cons_of_mem _ y))
        · exact y.2.2)
    refine ⟨_, j1, fun j b hb => ?_⟩
    by_cases c : j = a
    · subst c
      rw [pf_i] at hb
      rcases j2 b hb with y | y
      · exact .inl y.1
      · rcases List.mem_cons.mp y with rfl | y
        · exact .inl la
        · exact .inr y
    · rw [pf_ne c] at hb
      exact .inl hb
theorem Go.mut {F0 H0 : Hp} {fps0 : Fps} {l : Addr} {o : HO} {a : Nat} {fr : List Addr} (g : Go m F0 H0 fps0 F H fps) (hl : l ∈ fps a) (hf : ∀ j, ∀ b ∈ fps' j, b ∈ fps j ∨ b ∈ fr) (hn : New H0 fps0 fr) : Go true F0 H0 fps0 F (upd H l o) fps' where
  ff := g.ff
  fn := g.fn
  ou := fun b u hu n => by
    rw [upd_ne fun z => g.out hu n a (by rw [z]; exact hl)]
    exact g.ou b u hu n
  fp := fun j b hb => by
    rcases hf j b hb with z | z
    · exact g.fp j b z
    · exact hn b z
  th := fun b hb => by
    by_cases c : b = l
    · subst c
      rw [upd_same] at hb
      cases hb
    · rw [upd_ne c] at hb
      exact g.th b hb
  pu := fun e => nomatch e
end
end DW

namespace DW
open PySem PySem.Spec PyProof.Rows L2

section
variable {K : PySem.W.Frag} {B : Addr → Prop} {m m1 m2 m3 : Bool} {F H F1 H1 F' H' : Hp} {fps fps1 fps' : Fps} {σ σ' : L2.St} {es es1 es2 es3 es' : Es} {v : V} {fp fq : List Addr} {r r1 r2 r3 : Vl} {t t1 t2 : T} {x y : PyData} {te ta tb tc to ti : TE} {tt tu : TT} {i j : Int} {xs ys : List PyData} {z w : Str} {a : Nat} {p : List Stp} {ts : List T}

/-! ### methods that change a list -/
theorem ty_list {l : Addr} {vs : List V} (h : H l = some (.lst vs)) : tyV K "list" (.ref l) H := .inl ⟨rfl, vs, SqL.of h⟩
theorem ref_list (R : Rep K B F H σ es fps) (h : RV K B F H σ fps v (.r a p) fp) (e : (Vl.r a p).tr es = some (.lst ts)) : ∃ l vs, v = .ref l ∧ H l = some (.lst vs) := by
  obtain ⟨fq, q⟩ := h.rp R e
  cases q with
  | lst k1 k2 => exact ⟨_, _, rfl, k1⟩
theorem ee_app {ts0 : List T} (ho : EE K m1 to es (.r a p) es1) (h : EE K m2 te es1 (.o t) es2) (hst : (Vl.r a p).st m2 = true) (e1 : (Vl.r a p).tr es1 = some (.lst ts0)) (e2 : (Vl.r a p).tr es2 = some (.lst ts)) (hz : ts.length < sizeLine) :
    EE K true (tBM K "list" rAppend to (tCons te tNil)) es (dv .none) (upd1 a p (.lst (ts ++ [t])) es2) := fun B F H σ fps R Q k =>
  ho B F H σ fps R _ fun v1 F1 H1 fps1 fp1 R1 g1 rv1 n1 => by
    obtain ⟨l0, vs0, rfl, k0⟩ := ref_list R1 rv1 e1
    refine ⟨ty_list k0, h B F1 H1 σ fps1 R1 _ fun v2 F2 H2 fps2 fp2 R2 g2 rv2 n2 => ?_⟩
    have rv1' := rv1.go R1 g2 hst
    obtain ⟨l, vs, fr0, el, k1, k2, k3, k4, k5⟩ := R2.mutL rv1' e2
    cases el
    obtain ⟨q1, q2, q3⟩ := rv2
    obtain ⟨nl, nf⟩ := List.nodup_cons.mp k3
    obtain ⟨fps3, R3, s3⟩ := k5 (vs ++ [v2]) (ts ++ [t]) (fr0 ++ fp2) (k2.app (by have := Rps.cons q1 (Rps.nil (K := K) (F := F2) (H := H2)); rw [List.append_nil] at this; exact this))
      (List.nodup_append.mpr ⟨nf, q2, fun b hb c hc e => (q3 c hc).2.1 a (by rw [← e]; exact k4 b (List.mem_cons_of_mem _ hb))⟩) fun b hb => (List.mem_append.mp hb).imp id fun z => ⟨(q3 b z).2.1, (q3 b z).2.2, (q3 b z).1⟩
    refine ⟨l0, vs, v2, rfl, rfl, k1, by rw [k2.length]; exact hz, k _ F2 _ fps3 [] R3 ?_ rv_non New.nil⟩
    exact (g1.trans g2).mut (k4 l0 List.mem_cons_self) s3 fun b hb => by
      rcases List.mem_append.mp hb with z | z
      · exact (g1.trans g2).fp a b (k4 b (List.mem_cons_of_mem _ z))
      · exact n2.trans g1 b z
theorem ee_appD {x : PyData} {xs0 : List T} (ho : EE K m1 to es (.r a p) es1) (h : ED K m2 te es1 x es2) (hst : (Vl.r a p).st m2 = true) (e1 : (Vl.r a p).tr es1 = some (.lst xs0)) (e2 : (Vl.r a p).tr es2 = some (.lst (xs.map T.d))) (hz : xs.length < sizeLine) :
    EE K true (tBM K "list" rAppend to (tCons te tNil)) es (dv .none) (upd1 a p (.lst ((xs ++ [x]).map T.d)) es2) := by
  rw [List.map_append]
  exact ee_app ho h hst e1 e2 (by rw [List.length_map]; exact hz)
/-- .. an own new list, thrown away behind it -/
theorem Rep.off {l : Addr} {o : HO} (R : Rep K B F H σ es fps) (h0 : H l ≠ none) (h1 : F l = none) (h2 : ∀ i, l ∉ fps i) (h3 : ¬ B l) : Rep K B F (upd H l o) σ es fps where
  ex := fun b u e => by
    rw [upd_ne fun z => by rw [z, h1] at e; cases e]
    exact R.ex b u e
  len := R.len
  sl := fun i s e => by
    have q := R.sl i s e
    cases s with
    | n => trivial
    | o a t =>
      obtain ⟨v, k1, k2, k3⟩ := q
      exact ⟨v, k1, k2, k3.mono (Same.refl F) fun b hb => upd_ne fun z => h2 i (by rw [← z]; exact hb)⟩
    | q a t =>
      obtain ⟨v, fq, k1, k2, k3, k4⟩ := q
      exact ⟨v, fq, k1, k2, k3.mono (Same.refl F) fun b hb => upd_ne fun z => h3 (by rw [← z]; exact k4 b hb), k4⟩
  no := R.no
  nd := R.nd
  dj := R.dj
  fr := R.fr
  bg := fun b hb => by
    obtain ⟨⟨o', ho⟩, n⟩ := R.bg b hb
    exact ⟨⟨o', by rw [upd_ne fun z => h3 (by rw [← z]; exact hb)]; exact ho⟩, n⟩
theorem Go.off {F0 H0 : Hp} {fps0 : Fps} {l : Addr} {o : HO} (g : Go m F0 H0 fps0 F H fps) (hn : H0 l = none ∨ ∃ i, l ∈ fps0 i) : Go true F0 H0 fps0 F (upd H l o) fps where
  ff := g.ff
  fn := g.fn
  ou := fun b u hu n => by
    rw [upd_ne fun z => by
      subst z
      rcases hn with y | ⟨i, y⟩
      · rw [hu] at y
        cases y
      · exact n i y]
    exact g.ou b u hu n
  fp := g.fp
  th := fun b hb => by
    by_cases c : b = l
    · subst c
      rw [upd_same] at hb
      cases hb
    · rw [upd_ne c] at hb
      exact g.th b hb
  pu := fun e => nomatch e
theorem ee_appT (ho : EE K m1 to es (.o (.lst ts)) es1) (h : EE K m2 te es1 (.o t) es2) (hz : ts.length < sizeLine) : EE K true (tBM K "list" rAppend to (tCons te tNil)) es (dv .none) es2 := fun B F H σ fps R Q k =>
  ho B F H σ fps R _ fun v1 F1 H1 fps1 fp1 R1 g1 rv1 n1 => by
    obtain ⟨l0, vs0, e0, k0⟩ : ∃ l vs, v1 = .ref l ∧ H1 l = some (.lst vs) := by
      obtain ⟨q, _⟩ := rv1
      cases q with
      | lst q1 q2 => exact ⟨_, _, rfl, q1⟩
    subst e0
    refine ⟨ty_list k0, h B F1 H1 σ fps1 R1 _ fun v2 F2 H2 fps2 fp2 R2 g2 rv2 n2 => ?_⟩
    obtain ⟨q1, q2, q3⟩ := rv1.go R1 g2 rfl
    generalize eq : (V.ref l0) = vv at q1
    cases q1 with
    | lst j1 j2 =>
      cases eq
      rename_i vs fr
      have q := q3 l0 List.mem_cons_self
      refine ⟨l0, vs, v2, rfl, rfl, j1, by rw [j2.length]; exact hz, k _ F2 _ fps2 [] (R2.off (by rw [j1]; simp) q.1 q.2.1 q.2.2) ?_ rv_non New.nil⟩
      exact (g1.trans g2).off (n1 l0 List.mem_cons_self)
def rInsert : V → List V → Hp → VK → Prop := fun x vs H Q => ∃ (l : Addr) (xs : List V) (i : Int) (y : V), x = .ref l ∧ vs = [.int i, y] ∧ H l = some (.lst xs) ∧ xs.length < sizeLine ∧ 0 ≤ i ∧ i < 2 ^ 63 ∧
    Q .non (upd H l (.lst (xs.take i.toNat ++ [y] ++ xs.drop i.toNat)))
theorem Rps.split : ∀ {n : Nat} {vs : List V} {ts : List T} {fp : List Addr}, Rps K F H vs ts fp → ∃ f1 f2, fp = f1 ++ f2 ∧ Rps K F H (vs.take n) (ts.take n) f1 ∧ Rps K F H (vs.drop n) (ts.drop n) f2
  | 0, vs, ts, fp, h => ⟨[], fp, rfl, by rw [List.take_zero, List.take_zero]; exact .nil, h⟩
  | n + 1, _, _, _, .nil => ⟨[], [], rfl, .nil, .nil⟩
  | n + 1, _, _, _, .cons (fp := fa) (fq := fb) h1 h2 => by
    obtain ⟨f1, f2, e, k1, k2⟩ := Rps.split (n := n) h2
    subst e
    exact ⟨fa ++ f1, f2, (List.append_assoc ..).symm, .cons h1 k1, k2⟩
theorem ee_insD {n : Nat} (ho : EE K m1 to es (.r a p) es1) (hi : ED K m2 ti es1 (.int (n : Int)) es2) (h : ED K m3 te es2 x es3) (s1 : (Vl.r a p).st (m2 || m3) = true) {xs0 : List T} (e1 : (Vl.r a p).tr es1 = some (.lst xs0)) (e2 : (Vl.r a p).tr es3 = some (.lst (xs.map T.d))) (hz : xs.length < sizeLine) (hn : n < 2 ^ 63) :
    EE K true (tBM K "list" rInsert to (tCons ti (tCons te tNil))) es (dv .none) (upd1 a p (.lst ((xs.take n ++ [x] ++ xs.drop n).map T.d)) es3) := fun B F H σ fps R Q k =>
  ho B F H σ fps R _ fun v1 F1 H1 fps1 fp1 R1 g1 rv1 n1 => by
    obtain ⟨l0, vs0, rfl, k0⟩ := ref_list R1 rv1 e1
    refine ⟨ty_list k0, hi B F1 H1 σ fps1 R1 _ fun v2 F2 H2 fps2 fp2 R2 g2 rv2 n2 => h B F2 H2 σ fps2 R2 _ fun v3 F3 H3 fps3 fp3 R3 g3 rv3 n3 => ?_⟩
    have rv1' := rv1.go R1 (g2.trans g3) s1
    have ei := dd_int rv2.1.dinv
    subst ei
    obtain ⟨l, vs, fr0, el, k1, k2, k3, k4, k5⟩ := R3.mutL rv1' e2
    cases el
    obtain ⟨d1, d2⟩ := Rps.dds k2
    subst d2
    obtain ⟨fps4, R4, s4⟩ := k5 (vs.take n ++ [v3] ++ vs.drop n) ((xs.take n ++ [x] ++ xs.drop n).map T.d) [] (DdAll.rps ((d1.take.app (.cons rv3.1.dinv .nil)).app d1.drop)) List.nodup_nil fun _ h => nomatch h
    refine ⟨l0, vs, (n : Int), v3, rfl, rfl, k1, by rw [d1.length]; exact hz, Int.natCast_nonneg n, by omega, ?_⟩
    exact k _ F3 _ fps4 [] R4 (((g1.trans g2).trans g3).mut (k4 l0 List.mem_cons_self) s4 New.nil) rv_non New.nil
theorem ee_extD (ho : EE K m1 to es (.r a p) es1) (h : EE K m2 te es1 r es2) (hst : (Vl.r a p).st m2 = true) {xs0 : List T} (e1 : (Vl.r a p).tr es1 = some (.lst xs0)) (e2 : (Vl.r a p).tr es2 = some (.lst (xs.map T.d))) (er : r.tr es2 = some t) (el : Els t ys) (hz : xs.length + ys.length ≤ sizeLine) :
    EE K true (tBM K "list" rExtend to (tCons te tNil)) es (dv .none) (upd1 a p (.lst ((xs ++ ys).map T.d)) es2) := fun B F H σ fps R Q k =>
  ho B F H σ fps R _ fun v1 F1 H1 fps1 fp1 R1 g1 rv1 n1 => by
    obtain ⟨l0, vs0, rfl, k0⟩ := ref_list R1 rv1 e1
    refine ⟨ty_list k0, h B F1 H1 σ fps1 R1 _ fun v2 F2 H2 fps2 fp2 R2 g2 rv2 n2 => ?_⟩
    have rv1' := rv1.go R1 g2 hst
    obtain ⟨b, ws, e3, b1, b2⟩ := rv2.els R2 er el
    subst e3
    obtain ⟨l, vs, fr0, e4, k1, k2, k3, k4, k5⟩ := R2.mutL rv1' e2
    cases e4
    obtain ⟨d1, d2⟩ := Rps.dds k2
    subst d2
    obtain ⟨fps4, R4, s4⟩ := k5 (vs ++ ws) ((xs ++ ys).map T.d) [] (DdAll.rps (d1.app b2)) List.nodup_nil fun _ h => nomatch h
    refine ⟨l0, b, vs, ws, rfl, rfl, k1, b1, by rw [d1.length, b2.length]; exact hz, ?_⟩
    exact k _ F2 _ fps4 [] R4 ((g1.trans g2).mut (k4 l0 List.mem_cons_self) s4 New.nil) rv_non New.nil
theorem DdAll.erase {n : Nat} {vs : List V} (h : DdAll F vs xs) : DdAll F (vs.eraseIdx n) (xs.eraseIdx n) := by
  induction n generalizing vs xs with
  | zero =>
    cases h with
    | nil => exact .nil
    | cons _ h => exact h
  | succ n ih =>
    cases h with
    | nil => exact .nil
    | cons h1 h => exact .cons h1 (ih h)
theorem ee_pop0 (ho : EE K m1 to es (.r a p) es1) (h : ED K m2 te es1 (.int 0) es2) (hst : (Vl.r a p).st m2 = true) {xs0 : List T} (e1 : (Vl.r a p).tr es1 = some (.lst xs0)) (e2 : (Vl.r a p).tr es2 = some (.lst ((x :: xs).map T.d))) :
    EE K true (tBM K "list" rPopAt to (tCons te tNil)) es (dv x) (upd1 a p (.lst (xs.map T.d)) es2) := fun B F H σ fps R Q k =>
  ho B F H σ fps R _ fun v1 F1 H1 fps1 fp1 R1 g1 rv1 n1 => by
    obtain ⟨l0, vs0, rfl, k0⟩ := ref_list R1 rv1 e1
    refine ⟨ty_list k0, h B F1 H1 σ fps1 R1 _ fun v2 F2 H2 fps2 fp2 R2 g2 rv2 n2 => ?_⟩
    have rv1' := rv1.go R1 g2 hst
    have ei := dd_int rv2.1.dinv
    subst ei
    obtain ⟨l, vs, fr0, e4, k1, k2, k3, k4, k5⟩ := R2.mutL rv1' e2
    cases e4
    obtain ⟨d1, d2⟩ := Rps.dds k2
    subst d2
    cases d1 with
    | cons c1 c2 =>
      rename_i u us
      obtain ⟨fps4, R4, s4⟩ := k5 us (xs.map T.d) [] (DdAll.rps c2) List.nodup_nil fun _ h => nomatch h
      refine ⟨l0, u :: us, 0, 0, u, rfl, rfl, k1, by decide, by decide, ?_, rfl, ?_⟩
      · unfold seqIndex?
        simp
      · exact k _ F2 _ fps4 [] R4 ((g1.trans g2).mut (k4 l0 List.mem_cons_self) s4 New.nil) (rv_d c1) New.nil

/-! ### statements -/
structure Dn where
  nx : Es → Prop
  rt : Vl → Es → Prop := fun _ _ => False
  bk : Es → Prop := fun _ => False
  ct : Es → Prop := fun _ => False
  ex : Value → Es → Prop := fun _ _ => False
structure Wish (K : PySem.W.Frag) (B : Addr → Prop) (W : WX) (F H : Hp) (fps : Fps) (D : Dn) (E : Ends) : Prop where
  nx : ∀ es' F' H' σ' fps', Rep K B F' H' σ' es' fps' → Go true F H fps F' H' fps' → D.nx es' → E.nx σ' H'
  rt : ∀ v r es' F' H' σ' fps' fp, Rep K B F' H' σ' es' fps' → Go true F H fps F' H' fps' → RV K B F' H' σ' fps' v r fp → New H fps fp → D.rt r es' → E.rt v H'
  bk : ∀ es' F' H' σ' fps', Rep K B F' H' σ' es' fps' → Go true F H fps F' H' fps' → D.bk es' → E.bk σ' H'
  ct : ∀ es' F' H' σ' fps', Rep K B F' H' σ' es' fps' → Go true F H fps F' H' fps' → D.ct es' → E.ct σ' H'
  ex : ∀ c es' F' H' σ' fps', Rep K B F' H' σ' es' fps' → Go true F H fps F' H' fps' → D.ex c es' → W c none σ' H'
theorem Wish.go {W : WX} {D : Dn} {E : Ends} (w : Wish K B W F H fps D E) (g : Go m F H fps F1 H1 fps1) : Wish K B W F1 H1 fps1 D E where
  nx := fun es' F' H' σ' fps' R g' d => w.nx es' F' H' σ' fps' R ((g.trans g').wk fun _ => rfl) d
  rt := fun v r es' F' H' σ' fps' fp R g' rv n d => w.rt v r es' F' H' σ' fps' fp R ((g.trans g').wk fun _ => rfl) rv (n.trans g) d
  bk := fun es' F' H' σ' fps' R g' d => w.bk es' F' H' σ' fps' R ((g.trans g').wk fun _ => rfl) d
  ct := fun es' F' H' σ' fps' R g' d => w.ct es' F' H' σ' fps' R ((g.trans g').wk fun _ => rfl) d
  ex := fun c es' F' H' σ' fps' R g' d => w.ex c es' F' H' σ' fps' R ((g.trans g').wk fun _ => rfl) d
def SS (K : PySem.W.Frag) (W : WX) (ts : TS) (es : Es) (D : Dn) : Prop := ∀ B F H σ fps, Rep K B F H σ es fps → ∀ E : Ends, Wish K B W F H fps D E → ts E σ H
variable {W : WX} {ts tu : TS} {D : Dn}
theorem ss_next (k : D.nx es) : SS K W tNext es D := fun B F H σ fps R E w => w.nx es F H σ fps R Go.refl k
theorem ss_seq {tsa tsb : TS} (h : SS K W tsa es { D with nx := fun es1 => SS K W tsb es1 D }) : SS K W (tSeq tsa tsb) es D := fun B F H σ fps R E w =>
  h B F H σ fps R { E with nx := tsb E } ⟨fun es' F' H' σ' fps' R' g d => d B F' H' σ' fps' R' E (w.go g), w.rt, w.bk, w.ct, w.ex⟩
theorem ss_break (k : D.bk es) : SS K W tBreak es D := fun B F H σ fps R E w => w.bk es F H σ fps R Go.refl k
theorem ss_cont (k : D.ct es) : SS K W tCont es D := fun B F H σ fps R E w => w.ct es F H σ fps R Go.refl k
theorem ss_drop (h : EE K m te es r es1) (k : D.nx es1) : SS K W (tDrop te) es D := fun B F H σ fps R E w =>
  h B F H σ fps R _ fun v F1 H1 fps1 fp R1 g1 rv n => w.nx es1 F1 H1 σ fps1 R1 (g1.wk fun _ => rfl) k
/-- returning a value -/
theorem ss_ret (h : EE K m te es r es1) (k : D.rt r es1) : SS K W (tRet te) es D := fun B F H σ fps R E w =>
  h B F H σ fps R _ fun v F1 H1 fps1 fp R1 g1 rv n => w.rt v r es1 F1 H1 σ fps1 fp R1 (g1.wk fun _ => rfl) rv n k
/-- .. what a slot owns: it is handed over -/
theorem Rep.move {s0 : Sl} {an : Option V} {v0 : V} (R : Rep K B F H σ es fps) (hi : es[a]? = some (.o an t)) (hv : σ[a]? = some (some v0)) : Rep K B F H σ (es.set a .n) (pf fps a []) ∧ RV K B F H σ (pf fps a []) v0 (.o t) (fps a) := by
  have hl : a < es.length := (List.getElem?_eq_some_iff.mp hi).1
  obtain ⟨v, h1, h2, h3⟩ := R.sl a _ hi
  rw [hv] at h1
  cases h1
  refine ⟨R.one hl rfl (fun _ _ => rfl) (Same.refl F) R.ex (fun j _ b hb => R.fr j b hb) (fun b o e _ => e) trivial (fun _ => rfl) List.nodup_nil (fun _ h => nomatch h) (fun _ h => nomatch h), h3, R.nd a, fun b hb => ⟨R.fr a b hb, fun j hj => ?_, fun z => (R.bg b z).2 a hb⟩⟩
  by_cases c : j = a
  · subst c
    rw [pf_i] at hj
    cases hj
  · rw [pf_ne c] at hj
    exact R.dj a j (Ne.symm c) b hb hj
theorem ss_retO {an : Option V} (h : EE K m te es (.r a []) es1) (e : es1[a]? = some (.o an t)) (k : D.rt (.o t) (es1.set a .n)) : SS K W (tRet te) es D := fun B F H σ fps R E w =>
  h B F H σ fps R _ fun v F1 H1 fps1 fp R1 g1 rv n => by
    obtain ⟨_, v0, h1, h2⟩ := rv
    have h2' : v0 = v := h2
    subst h2'
    obtain ⟨R2, rv2⟩ := R1.move (s0 := .n) e h1
    exact w.rt v0 (.o t) _ F1 H1 σ _ _ R2 (g1.foot2 New.nil) rv2 (fun b hb => g1.fp a b hb) k
theorem ss_retN (k : D.rt (dv .none) es) : SS K W tRetN es D := fun B F H σ fps R E w => w.rt .non _ es F H σ fps [] R Go.refl rv_non New.nil k
theorem ss_if {b : Bool} {tsa tsb : TS} (h : ET K m tt es b es1) (h1 : b = true → SS K W tsa es1 D) (h2 : b = false → SS K W tsb es1 D) : SS K W (tIfS tt tsa tsb) es D := fun B F H σ fps R E w =>
  h B F H σ fps R _ fun F1 H1 fps1 R1 g1 => by
    cases b with
    | true => exact h1 rfl B F1 H1 σ fps1 R1 E (w.go g1)
    | false => exact h2 rfl B F1 H1 σ fps1 R1 E (w.go g1)
theorem ss_ifT {tsa tsb : TS} (h : ET K m tt es true es1) (h1 : SS K W tsa es1 D) : SS K W (tIfS tt tsa tsb) es D := ss_if h (fun _ => h1) fun z => nomatch z
theorem ss_ifF {tsa tsb : TS} (h : ET K m tt es false es1) (h1 : SS K W tsb es1 D) : SS K W (tIfS tt tsa tsb) es D := ss_if h (fun z => nomatch z) fun _ => h1
theorem ss_wk {D' : Dn} (h : SS K W ts es D') (h1 : ∀ e, D'.nx e → D.nx e) (h2 : ∀ r e, D'.rt r e → D.rt r e) (h3 : ∀ e, D'.bk e → D.bk e) (h4 : ∀ e, D'.ct e → D.ct e) (h5 : ∀ c e, D'.ex c e → D.ex c e) : SS K W ts es D := fun B F H σ fps R E w =>
  h B F H σ fps R E ⟨fun es' F' H' σ' fps' R' g d => w.nx es' F' H' σ' fps' R' g (h1 _ d), fun v r es' F' H' σ' fps' fp R' g rv n d => w.rt v r es' F' H' σ' fps' fp R' g rv n (h2 _ _ d), fun es' F' H' σ' fps' R' g d => w.bk es' F' H' σ' fps' R' g (h3 _ d), fun es' F' H' σ' fps' R' g d => w.ct es' F' H' σ' fps' R' g (h4 _ d), fun c es' F' H' σ' fps' R' g d => w.ex c es' F' H' σ' fps' R' g (h5 _ _ d)⟩
/-- x = e -/
theorem ss_asg {n : Nat} (h : EE K m te es r es1) (hl : n < es1.length) (hr : r.st true = true) (hr2 : ∀ a, r ≠ .r a []) (k : D.nx (es1.set n r.sl)) : SS K W (tAsg te (gName n)) es D := fun B F H σ fps R E w =>
  h B F H σ fps R _ fun v F1 H1 fps1 fp R1 g1 rv nn => w.nx _ F1 H1 _ _ (rv.set R1 hl hr hr2) (g1.foot2 nn) k
theorem ss_set {n : Nat} (h : EE K m te es (.o t) es1) (hl : n < es1.length) (k : D.nx (es1.set n (.o none t))) : SS K W (tAsg te (gName n)) es D := ss_asg h hl rfl (fun _ z => nomatch z) k
end
end DW

namespace DW
open PySem PySem.Spec PyProof.Rows L2

section
variable {K : PySem.W.Frag} {B : Addr → Prop} {m m1 m2 m3 : Bool} {F H F1 H1 F' H' : Hp} {fps fps1 fps' : Fps} {σ σ' : L2.St} {es es1 es2 es3 es' : Es} {v : V} {fp fq : List Addr} {r r1 r2 r3 : Vl} {t t1 t2 : T} {x y : PyData} {te ta tb tc to ti : TE} {tt tu : TT} {i j : Int} {xs ys : List PyData} {z w : Str} {a : Nat} {p : List Stp} {ts : List T} {W : WX} {tsa tsb : TS} {D : Dn}

/-! ### stores -/
/-- xs[i] = e, of an own list -/
theorem ixN_lt {n : Nat} {i : Int} {k : Nat} (h : ixN n i = some k) : k < n := by
  unfold ixN at h
  split at h
  · split at h
    · cases h
      omega
    · cases h
  · split at h
    · cases h
      omega
    · cases h
theorem ss_setI {n : Nat} (h : EE K m te es (.o t) es1) (ho : EE K false to es1 (.r a p) es1) (hi : ED K false ti es1 (.int i) es1) (e : (Vl.r a p).tr es1 = some (.lst ts)) (hn : ixN ts.length i = some n) (k : D.nx (upd1 a p (.lst (ts.set n t)) es1)) :
    SS K W (tAsg te (gSub to ti rSetL)) es D := fun B F H σ fps R E w =>
  h B F H σ fps R _ fun v F1 H1 fps1 fp R1 g1 rv n1 => ho B F1 H1 σ fps1 R1 _ fun v2 F2 H2 fps2 fp2 R2 g2 rv2 n2 => hi B F2 H2 σ fps2 R2 _ fun v3 F3 H3 fps3 fp3 R3 g3 rv3 n3 => by
    have ei := dd_int rv3.1.dinv
    subst ei
    have rv2' := rv2.go R2 g3 (by cases p <;> rfl)
    obtain ⟨q1, q2, q3⟩ := rv.go R1 (g2.trans g3) rfl
    have hk := ixN_lt hn
    obtain ⟨l, vs, fr0, el, k1, k2, k3, k4, k5⟩ := R3.mutL rv2' e
    subst el
    obtain ⟨nl, nf⟩ := List.nodup_cons.mp k3
    have hv : n < vs.length := by rw [k2.length]; exact hk
    obtain ⟨fq, j1, j2, j3, back⟩ := k2.put nf (List.getElem?_eq_getElem hv) (List.getElem?_eq_getElem hk)
    -- the new item's own nodes
    obtain ⟨fr, c1, c2, c3⟩ := back F3 H3 v t fp (Same.refl F3) (fun _ _ _ => rfl) q1 q2 fun b hb => .inr fun z => (q3 b hb).2.1 a (k4 b (List.mem_cons_of_mem _ z))
    obtain ⟨fps4, R4, s4⟩ := k5 (vs.set n v) (ts.set n t) fr c1 c2 fun b hb => by
      rcases c3 b hb with y | y
      · exact .inl y.1
      · exact .inr ⟨(q3 b y).2.1, (q3 b y).2.2, (q3 b y).1⟩
    refine ⟨l, vs, i, n, rfl, rfl, k1, by rw [k2.length]; exact hn, w.nx _ F3 _ σ fps4 R4 ?_ k⟩
    exact ((g1.trans g2).trans g3).mut (k4 l List.mem_cons_self) s4 fun b hb => by
      rcases c3 b hb with y | y
      · exact ((g1.trans g2).trans g3).fp a b (k4 b (List.mem_cons_of_mem _ y.1))
      · exact n1 b y
theorem map_set {α β : Type} (f : α → β) : ∀ (l : List α) (n : Nat) (x : α), (l.set n x).map f = (l.map f).set n (f x)
  | [], _, _ => rfl
  | _ :: _, 0, _ => rfl
  | y :: l, n + 1, x => by
    show f y :: (l.set n x).map f = f y :: (l.map f).set n (f x)
    rw [map_set f l n x]
theorem ss_setID {n : Nat} (h : ED K m te es x es1) (ho : EE K false to es1 (.r a p) es1) (hi : ED K false ti es1 (.int i) es1) (e : (Vl.r a p).tr es1 = some (.lst (xs.map T.d))) (hn : ixN xs.length i = some n) (k : D.nx (upd1 a p (.lst ((xs.set n x).map T.d)) es1)) :
    SS K W (tAsg te (gSub to ti rSetL)) es D := ss_setI h ho hi e (by rw [List.length_map]; exact hn) (by rw [← map_set]; exact k)
/-- o.f = e -/
theorem Rps.one {u : V} (h : Rp K F H u t fp) : Rps K F H [u] [t] fp := by
  have := Rps.cons h (Rps.nil (K := K) (F := F) (H := H))
  rw [List.append_nil] at this
  exact this
theorem putF_new : ∀ {fvs : List (Str × V)} {f : Str} {v : V}, fvs.lookup f = none → putF f v fvs = fvs ++ [(f, v)]
  | [], _, _, _ => rfl
  | (g, u) :: r, f, v, h => by
    by_cases c : g = f
    · subst c
      rw [lookup_cons_eq] at h
      cases h
    · rw [lookup_cons_ne _ _ c] at h
      have q : putF f v ((g, u) :: r) = (g, u) :: putF f v r := if_neg c
      rw [q, putF_new h]
      rfl
theorem putT_new : ∀ {fs : List (Str × T)} {f : Str} {t : T}, fs.lookup f = none → putT f t fs = fs ++ [(f, t)]
  | [], _, _, _ => rfl
  | (g, u) :: r, f, t, h => by
    by_cases c : g = f
    · subst c
      rw [lookup_cons_eq] at h
      cases h
    · rw [lookup_cons_ne _ _ c] at h
      have q : putT f t ((g, u) :: r) = (g, u) :: putT f t r := if_neg c
      rw [q, putT_new h]
      rfl
theorem lookup_none {fvs : List (Str × V)} {fs : List (Str × T)} {f : Str} (h : fvs.map (·.1) = fs.map (·.1)) (e : fs.lookup f = none) : fvs.lookup f = none := by
  induction fvs generalizing fs with
  | nil => rfl
  | cons p r ih =>
    obtain ⟨g, u⟩ := p
    cases fs with
    | nil => cases h
    | cons q s =>
      obtain ⟨g', u'⟩ := q
      obtain ⟨h1, h2⟩ := List.cons.inj h
      have h1' : g = g' := h1
      subst h1'
      by_cases c : g = f
      · subst c
        rw [lookup_cons_eq] at e
        cases e
      · rw [lookup_cons_ne _ _ c] at e ⊢
        exact ih h2 e
/-- the fields behind a store -/
theorem fields_put {fvs : List (Str × V)} {fs : List (Str × T)} {f : Str} {u : V} {fr0 : List Addr} (hn : fvs.map (·.1) = fs.map (·.1)) (h : Rps K F H (fvs.map (·.2)) (fs.map (·.2)) fr0) (nd : fr0.Nodup) (hu : Rp K F H u t fp) (nf : fp.Nodup) (out : ∀ b ∈ fp, b ∉ fr0) :
    ∃ fr, (putF f u fvs).map (·.1) = (putT f t fs).map (·.1) ∧ Rps K F H ((putF f u fvs).map (·.2)) ((putT f t fs).map (·.2)) fr ∧ fr.Nodup ∧ ∀ b ∈ fr, b ∈ fr0 ∨ b ∈ fp := by
  cases e : fs.lookup f with
  | none =>
    rw [putF_new (lookup_none hn e), putT_new e, List.map_append, List.map_append, List.map_append, List.map_append, hn]
    exact ⟨fr0 ++ fp, rfl, h.app (Rps.one hu), List.nodup_append.mpr ⟨nd, nf, fun b hb c hc e => out c hc (by rw [← e]; exact hb)⟩, fun b hb => List.mem_append.mp hb⟩
  | some s =>
    obtain ⟨k, v', k1, k2, k3, k4, k5⟩ := field_at hn e
    obtain ⟨fq, j1, j2, j3, back⟩ := h.put nd k1 k2
    obtain ⟨fr, c1, c2, c3⟩ := back F H u t fp (Same.refl F) (fun _ _ _ => rfl) hu nf fun b hb => .inr (out b hb)
    exact ⟨fr, (k4 u).2.trans (hn.trans (k5 t).2.symm), by rw [(k4 u).1, (k5 t).1]; exact c1, c2, fun b hb => (c3 b hb).imp (fun z => z.1) id⟩
theorem ss_fld {C : Addr} {fs : List (Str × T)} {f : Str} (cl : Cls K C) (na : NoAttr K C f) (h : EE K m te es (.o t) es1) (ho : EE K false to es1 (.r a p) es1) (e : (Vl.r a p).tr es1 = some (.ins C fs)) (hz : fs.length < 1000) (k : D.nx (upd1 a p (.ins C (putT f t fs)) es1)) :
    SS K W (sFld K to te f) es D := fun B F H σ fps R E w =>
  h B F H σ fps R _ fun v F1 H1 fps1 fp R1 g1 rv n1 => ho B F1 H1 σ fps1 R1 _ fun v2 F2 H2 fps2 fp2 R2 g2 rv2 n2 => by
    obtain ⟨q1, q2, q3⟩ := rv.go R1 g2 rfl
    obtain ⟨l, dx, fvs, fr0, el, k1, k0, k2, k3, k4, k5⟩ := R2.mutF rv2 e
    subst el
    obtain ⟨nl, nf⟩ := List.nodup_cons.mp k3
    obtain ⟨fr, c0, c1, c2, c3⟩ := fields_put (f := f) k0 k2 nf q1 q2 fun b hb z => (q3 b hb).2.1 a (k4 b (List.mem_cons_of_mem _ z))
    obtain ⟨fps4, R4, s4⟩ := k5 _ _ fr c0 c1 c2 fun b hb => (c3 b hb).imp id fun y => ⟨(q3 b y).2.1, (q3 b y).2.2, (q3 b y).1⟩
    refine ⟨l, C, dx, fvs, rfl, k1, cl, na, ?_, w.nx _ F2 _ σ fps4 R4 ?_ k⟩
    · have e1 := congrArg List.length k0
      rw [List.length_map, List.length_map] at e1
      rw [e1]
      exact hz
    · exact (g1.trans g2).mut (k4 l List.mem_cons_self) s4 fun b hb => by
        rcases c3 b hb with y | y
        · exact (g1.trans g2).fp a b (k4 b (List.mem_cons_of_mem _ y))
        · exact n1 b y
/-- x += e of an int name -/
theorem ss_aug {n : Nat} {f : Int → Int → Int} (hx : es[n]? = some (.o none (.d (.int i)))) (h : ED K m te es (.int j) es1) (hl : n < es1.length) (k : D.nx (es1.set n (.o none (.d (.int (f i j)))))) : SS K W (tAug n te (ipI f)) es D := fun B F H σ fps R E w => by
  obtain ⟨v, h1, h2, h3⟩ := R.sl n _ hx
  have e1 := dd_int (h3.dinv)
  subst e1
  refine ⟨.int i, h1, h B F H σ fps R _ fun v2 F2 H2 fps2 fp2 R2 g2 rv2 n2 => ?_⟩
  have e2 := dd_int rv2.1.dinv
  subst e2
  refine ⟨i, j, rfl, rfl, ?_⟩
  exact w.nx _ F2 H2 _ _ ((rv_int (K := K) (B := B) (F := F2) (H := H2) (σ := σ) (fps := fps2) (i := f i j)).set R2 hl rfl fun _ z => nomatch z) (g2.foot2 New.nil) k
/-- o.f += e, ints -/
theorem ss_fldaug {C : Addr} {fs : List (Str × T)} {f : Str} (cl : Cls K C) (na : NoAttr K C f) (ho : EE K false to es (.r a p) es) (e : (Vl.r a p).tr es = some (.ins C fs)) (hf : fs.lookup f = some (.d (.int i))) (h : ED K false te es (.int j) es) (hz : fs.length < 1000) (k : D.nx (upd1 a p (.ins C (putT f (.d (.int (i + j))) fs)) es)) :
    SS K W (sFldAug K to te L2.rAdd f) es D := fun B F H σ fps R E w =>
  ho B F H σ fps R _ fun v2 F2 H2 fps2 fp2 R2 g2 rv2 n2 => by
    obtain ⟨l, dx, fvs, fr0, el, k1, k0, k2, k3, k4, k5⟩ := R2.mutF rv2 e
    subst el
    obtain ⟨u, fu, u1, u2, u3⟩ := field_rp k0 k2 hf
    have eu := dd_int u2.dinv
    subst eu
    refine ⟨l, C, dx, fvs, .int i, rfl, k1, cl, na, u1, h B F2 H2 σ fps2 R2 _ fun v3 F3 H3 fps3 fp3 R3 g3 rv3 n3 => ?_⟩
    have e3 := dd_int rv3.1.dinv
    subst e3
    refine ⟨i, j, rfl, rfl, ?_⟩
    have rv2' := rv2.go R2 g3 (by cases p <;> rfl)
    obtain ⟨l', dx', fvs', fr0', el', k1', k0', k2', k3', k4', k5'⟩ := R3.mutF rv2' e
    cases el'
    obtain ⟨nl, nf⟩ := List.nodup_cons.mp k3'
    obtain ⟨fr, c0, c1, c2, c3⟩ := fields_put (f := f) (t := .d (.int (i + j))) (u := .int (i + j)) (fp := []) k0' k2' nf (.d (.int _)) List.nodup_nil fun _ h => nomatch h
    obtain ⟨fps4, R4, s4⟩ := k5' _ _ fr c0 c1 c2 fun b hb => .inl ((c3 b hb).elim id fun z => nomatch z)
    refine ⟨dx', fvs', k1', ?_, w.nx _ F3 _ σ fps4 R4 ?_ k⟩
    · have e1 := congrArg List.length k0'
      rw [List.length_map, List.length_map] at e1
      rw [e1]
      exact hz
    · exact (g2.trans g3).mut (k4' l List.mem_cons_self) s4 fun b hb => by
        rcases c3 b hb with y | y
        · exact (g2.trans g3).fp a b (k4' b (List.mem_cons_of_mem _ y))
        · cases y
/-- xs[i] += e, ints, an own list of data -/
theorem ss_augI {n : Nat} (ho : EE K false to es (.r a p) es) (hi : ED K false ti es (.int i) es) (e : (Vl.r a p).tr es = some (.lst (xs.map T.d))) (hn : ixN xs.length i = some n) (hx : xs[n]? = some (.int j)) {j' : Int} (h : ED K false te es (.int j') es) (k : D.nx (upd1 a p (.lst ((xs.set n (.int (j + j'))).map T.d)) es)) :
    SS K W (tAugS to ti te (rIxL K) (ipI fun i j => i + j) rSetL) es D := fun B F H σ fps R E w =>
  ho B F H σ fps R _ fun v1 F1 H1 fps1 fp1 R1 g1 rv1 n1 => hi B F1 H1 σ fps1 R1 _ fun v2 F2 H2 fps2 fp2 R2 g2 rv2 n2 => by
    have e2 := dd_int rv2.1.dinv
    subst e2
    have rv1' := rv1.go R1 g2 (by cases p <;> rfl)
    obtain ⟨l, vs, fr0, el, k1, k2, k3, k4, k5⟩ := R2.mutL rv1' e
    subst el
    obtain ⟨d1, d2⟩ := Rps.dds k2
    obtain ⟨u, u1, u2⟩ := d1.get hx
    have eu := dd_int u2
    subst eu
    refine ⟨l, vs, i, .int j, rfl, rfl, SqL.of k1, ?_, h B F2 H2 σ fps2 R2 _ fun v3 F3 H3 fps3 fp3 R3 g3 rv3 n3 => ?_⟩
    · unfold atI
      rw [d1.length, hn]
      exact u1
    · have e3 := dd_int rv3.1.dinv
      subst e3
      refine ⟨j, j', rfl, rfl, ?_⟩
      have rv1'' := rv1'.go R2 g3 (by cases p <;> rfl)
      obtain ⟨l', vs', fr0', el', k1', k2', k3', k4', k5'⟩ := R3.mutL rv1'' e
      cases el'
      obtain ⟨d1', d2'⟩ := Rps.dds k2'
      subst d2'
      have dset : ∀ {n : Nat} {vs : List V} {xs : List PyData}, DdAll F3 vs xs → DdAll F3 (vs.set n (.int (j + j'))) (xs.set n (.int (j + j'))) := by
        intro n
        induction n with
        | zero =>
          intro vs xs h
          cases h with
          | nil => exact .nil
          | cons h1 h2 => exact .cons (.int _) h2
        | succ n ih =>
          intro vs xs h
          cases h with
          | nil => exact .nil
          | cons h1 h2 => exact .cons h1 (ih h2)
      obtain ⟨fps4, R4, s4⟩ := k5' (vs'.set n (.int (j + j'))) ((xs.set n (.int (j + j'))).map T.d) [] (DdAll.rps (dset d1')) List.nodup_nil fun _ h => nomatch h
      refine ⟨l, vs', i, n, rfl, rfl, k1', by rw [d1'.length]; exact hn, w.nx _ F3 _ σ fps4 R4 ?_ k⟩
      exact ((g1.trans g2).trans g3).mut (k4' l List.mem_cons_self) s4 New.nil

/-! ### targets -/
def GS (K : PySem.W.Frag) (g : TG) (x : PyData) (es es1 : Es) (js : List Nat) : Prop := ∀ B F H σ fps v, Rep K B F H σ es fps → Dd F v x → ∀ Q : L2.St → Hp → Prop,
  (∀ σ' fps', Rep K B F H σ' es1 fps' → (∀ i, fps' i = fps i ∨ fps' i = []) → (∀ i, i ∉ js → σ'[i]? = σ[i]? ∧ es1[i]? = es[i]? ∧ fps' i = fps i) → σ'.length = σ.length → Q σ' H) → g v σ H Q
theorem gs_name {n : Nat} (hl : n < es.length) : GS K (gName n) x es (es.set n (.o none (.d x))) [n] := fun B F H σ fps v R d Q k => by
  refine k (σ.set n (some v)) (pf fps n []) ((rv_d d).set R hl rfl fun _ z => nomatch z) (fun i => ?_) (fun i hi => ?_) (List.length_set ..)
  · by_cases c : i = n
    · subst c
      exact .inr pf_i
    · exact .inl (pf_ne c)
  · have c : ¬ i = n := fun z => hi (by rw [z]; exact List.mem_cons_self)
    exact ⟨List.getElem?_set_ne (Ne.symm c), List.getElem?_set_ne (Ne.symm c), pf_ne c⟩
def GSs (K : PySem.W.Frag) (g : TGs) (xs : List PyData) (es es1 : Es) (js : List Nat) : Prop := ∀ B F H σ fps vs, Rep K B F H σ es fps → DdAll F vs xs → ∀ Q : L2.St → Hp → Prop,
  (∀ σ' fps', Rep K B F H σ' es1 fps' → (∀ i, fps' i = fps i ∨ fps' i = []) → (∀ i, i ∉ js → σ'[i]? = σ[i]? ∧ es1[i]? = es[i]? ∧ fps' i = fps i) → σ'.length = σ.length → Q σ' H) → g vs σ H Q
theorem gss_nil : GSs K gNil [] es es [] := fun B F H σ fps vs R d Q k => by
  cases d
  exact ⟨rfl, k σ fps R (fun _ => .inl rfl) (fun _ _ => ⟨rfl, rfl, rfl⟩) rfl⟩
theorem gss_cons {g : TG} {gs : TGs} {js ks : List Nat} (h : GS K g x es es1 js) (hs : GSs K gs xs es1 es2 ks) : GSs K (gCons g gs) (x :: xs) es es2 (js ++ ks) := fun B F H σ fps vs R d Q k => by
  cases d with
  | cons d1 d2 =>
    refine ⟨_, _, rfl, h B F H σ fps _ R d1 _ fun σ1 fps1 R1 a1 b1 l1 => hs B F H σ1 fps1 _ R1 d2 _ fun σ2 fps2 R2 a2 b2 l2 => k σ2 fps2 R2 (fun i => ?_) (fun i hi => ?_) (l2.trans l1)⟩
    · rcases a2 i with e | e
      · rw [e]
        exact a1 i
      · exact .inr e
    · obtain ⟨q1, q2, q3⟩ := b1 i fun z => hi (List.mem_append_left _ z)
      obtain ⟨p1, p2, p3⟩ := b2 i fun z => hi (List.mem_append_right _ z)
      exact ⟨p1.trans q1, p2.trans q2, p3.trans q3⟩
/-- unpacking a tuple or a list -/
def gAny (K : PySem.W.Frag) (n : Nat) (t : TGs) : TG := fun v σ H Q => gTup K n t v σ H Q ∨ gLst K n t v σ H Q
theorem gs_tup {gs : TGs} {js : List Nat} {n : Nat} (h : GSs K gs xs es es1 js) (hn : xs.length = n) : GS K (gAny K n gs) (.tuple xs) es es1 js := fun B F H σ fps v R d Q k => by
  cases d with
  | tup d1 d2 => exact .inl ⟨_, _, rfl, SqT.of (R.ex _ _ d1), by rw [d2.length]; exact hn, h B F H σ fps _ R d2 Q k⟩
theorem gs_lst {gs : TGs} {js : List Nat} {n : Nat} (h : GSs K gs xs es es1 js) (hn : xs.length = n) : GS K (gAny K n gs) (.list xs) es es1 js := fun B F H σ fps v R d Q k => by
  cases d with
  | lst d1 d2 => exact .inr ⟨_, _, rfl, SqL.of (R.ex _ _ d1), by rw [d2.length]; exact hn, h B F H σ fps _ R d2 Q k⟩
theorem Go.less (g : Go m F H fps F1 H1 fps1) (h : ∀ i, fps' i = fps1 i ∨ fps' i = []) : Go true F H fps F1 H1 fps' where
  ff := g.ff
  fn := g.fn
  ou := g.ou
  fp := fun i b hb => by
    rcases h i with e | e
    · rw [e] at hb
      exact g.fp i b hb
    · rw [e] at hb
      cases hb
  th := g.th
  pu := fun e => nomatch e
/-- (a, b) = e -/
theorem ss_asgD {g : TG} {js : List Nat} (h : ED K m te es x es1) (hg : GS K g x es1 es2 js) (k : D.nx es2) : SS K W (tAsg te g) es D := fun B F H σ fps R E w =>
  h B F H σ fps R _ fun v F1 H1 fps1 fp R1 g1 rv nn => hg B F1 H1 σ fps1 v R1 rv.1.dinv _ fun σ2 fps2 R2 a2 b2 l2 => w.nx _ F1 H1 σ2 fps2 R2 (g1.less a2) k

/-! ### what is walked: frozen data one after another -/
structure Wk (K : PySem.W.Frag) (B : Addr → Prop) (F H : Hp) (fps : Fps) (pu : Bool) (J : It) (xs : List PyData) : Prop where
  go : ∀ i F1 H1 fps1, Go pu F H fps F1 H1 fps1 → Same F1 H1 → i < xs.length → J.go i H1
  stop : ∀ F1 H1 fps1, Go pu F H fps F1 H1 fps1 → Same F1 H1 → J.stop xs.length H1
  yld : ∀ i F1 H1 fps1 σ es v H2, Go pu F H fps F1 H1 fps1 → Rep K B F1 H1 σ es fps1 → i < xs.length → J.yld i H1 v H2 → ∃ x F2, xs[i]? = some x ∧ Rep K B F2 H2 σ es fps1 ∧ Go false F1 H1 fps1 F2 H2 fps1 ∧ Dd F2 v x
def EI (K : PySem.W.Frag) (pu m : Bool) (wi : TI) (es : Es) (xs : List PyData) (es' : Es) : Prop := ∀ B F H σ fps, Rep K B F H σ es fps → ∀ Q : It → Hp → Prop,
  (∀ J F' H' fps', Rep K B F' H' σ es' fps' → Go m F H fps F' H' fps' → Wk K B F' H' fps' pu J xs → Q J H') → wi σ H Q
theorem wk_list {l : Addr} {vs : List V} {pu : Bool} (h : ∀ F1 H1 fps1, Go pu F H fps F1 H1 fps1 → Same F1 H1 → H1 l = some (.lst vs)) (d : DdAll F vs xs) : Wk K B F H fps pu (Itl K l) xs where
  go := fun i F1 H1 fps1 g e hi => ⟨vs, vs[i]'(by rw [d.length]; exact hi), SqL.of (h F1 H1 fps1 g e), List.getElem?_eq_getElem _⟩
  stop := fun F1 H1 fps1 g e => ⟨vs, SqL.of (h F1 H1 fps1 g e), by rw [d.length]; exact Nat.le_refl _⟩
  yld := fun i F1 H1 fps1 σ es v H2 g R hi y => by
    obtain ⟨e, q⟩ := y
    subst e
    have e1 := q vs (SqL.of (h F1 H2 fps1 g R.ex))
    obtain ⟨x, x1, x2⟩ := d.getV e1
    exact ⟨x, F1, x1, R, Go.refl, x2.mono g.ff⟩
/-- a frozen list -/
theorem ei_list (h : ED K m te es (.list xs) es') : EI K true m (iList K te) es xs es' := fun B F H σ fps R Q k =>
  h B F H σ fps R _ fun v F1 H1 fps1 fp R1 g1 rv n1 => by
    have d := rv.1.dinv
    cases d with
    | lst d1 d2 => exact ⟨_, rfl, ⟨_, SqL.of (R1.ex _ _ d1)⟩, k _ F1 H1 fps1 R1 g1 (wk_list (fun F2 H2 fps2 g e => e _ _ (g.ff _ _ d1)) d2)⟩
/-- an own or borrowed list, where nothing that stands is changed -/
theorem ei_listP (h : EE K m te es r es') (e : r.tr es' = some t) (el : Els t xs) : EI K false m (iList K te) es xs es' := fun B F H σ fps R Q k =>
  h B F H σ fps R _ fun v F1 H1 fps1 fp R1 g1 rv n1 => by
    obtain ⟨a, vs, rfl, e1, d1⟩ := rv.els R1 e el
    exact ⟨_, rfl, ⟨_, SqL.of e1⟩, k _ F1 H1 fps1 R1 g1 (wk_list (fun F2 H2 fps2 g e => (g.pu rfl).1 _ _ e1) d1)⟩
/-- a borrowed list -/
theorem ei_listQ (h : EE K m te es (.q (.lst (xs.map T.d))) es') : EI K true m (iList K te) es xs es' := fun B F H σ fps R Q k =>
  h B F H σ fps R _ fun v F1 H1 fps1 fp R1 g1 rv n1 => by
    obtain ⟨_, fq, q1, q2⟩ := rv
    cases q1 with
    | lst j1 j2 =>
      obtain ⟨d1, d2⟩ := Rps.dds j2
      exact ⟨_, rfl, ⟨_, SqL.of j1⟩, k _ F1 H1 fps1 R1 g1 (wk_list (fun F2 H2 fps2 g e => g.ou _ _ j1 (R1.bg _ (q2 _ List.mem_cons_self)).2) d1)⟩
theorem ei_tup (h : ED K m te es (.tuple xs) es') : EI K true m (iTup K te) es xs es' := fun B F H σ fps R Q k =>
  h B F H σ fps R _ fun v F1 H1 fps1 fp R1 g1 rv n1 => by
    have d := rv.1.dinv
    cases d with
    | tup d1 d2 =>
      rename_i a vs
      refine ⟨_, rfl, ⟨_, SqT.of (R1.ex _ _ d1)⟩, k _ F1 H1 fps1 R1 g1 ⟨fun i F2 H2 fps2 g e hi => ⟨vs, vs[i]'(by rw [d2.length]; exact hi), SqT.of (e _ _ (g.ff _ _ d1)), List.getElem?_eq_getElem _⟩, fun F2 H2 fps2 g e => ⟨vs, SqT.of (e _ _ (g.ff _ _ d1)), by rw [d2.length]; exact Nat.le_refl _⟩, fun i F2 H2 fps2 σ2 es2 v H3 g R2 hi y => ?_⟩⟩
      obtain ⟨e, q⟩ := y
      subst e
      obtain ⟨x, x1, x2⟩ := d2.getV (q vs (SqT.of (R2.ex _ _ (g.ff _ _ d1))))
      exact ⟨x, F2, x1, R2, Go.refl, x2.mono g.ff⟩
/-- ranges -/
def rangeD (lo : Int) (n : Nat) : List PyData := (List.range n).map fun (k : Nat) => .int (lo + (k : Int))
theorem rangeD_len {lo : Int} {n : Nat} : (rangeD lo n).length = n := by simp [rangeD]
theorem rangeD_get {lo : Int} {n i : Nat} (h : i < n) : (rangeD lo n)[i]? = some (.int (lo + (i : Int))) := by simp [rangeD, h]
theorem wk_range {lo : Int} {n : Nat} {pu : Bool} : Wk K B F H fps pu (Itr lo n) (rangeD lo n) where
  go := fun i F1 H1 fps1 g e hi => by rw [rangeD_len] at hi; exact hi
  stop := fun F1 H1 fps1 g e => by rw [rangeD_len]; exact Nat.le_refl n
  yld := fun i F1 H1 fps1 σ es v H2 g R hi y => by
    rw [rangeD_len] at hi
    obtain ⟨e, q⟩ := y
    subst e q
    exact ⟨_, F1, rangeD_get hi, R, Go.refl, .int _⟩
theorem ei_range1 {ta : TA} (h : EAD K m ta es [.int j] es') (hj : -(2 ^ 62) ≤ j ∧ j < 2 ^ 62) : EI K true m (iRng1 ta) es (rangeD 0 j.toNat) es' := fun B F H σ fps R Q k =>
  h B F H σ fps R _ fun vs F1 H1 fps1 fp R1 g1 rv n1 => by
    obtain ⟨d, _⟩ := RVs.dds rv
    cases d with
    | cons d1 d2 =>
      cases d2
      have e := dd_int d1
      subst e
      exact ⟨j, rfl, hj.1, hj.2, k _ F1 H1 fps1 R1 g1 wk_range⟩
theorem ei_range2 {ta : TA} (h : EAD K m ta es [.int i, .int j] es') (hj : -(2 ^ 62) ≤ i ∧ i < 2 ^ 62 ∧ -(2 ^ 62) ≤ j ∧ j < 2 ^ 62) : EI K true m (iRng2 ta) es (rangeD i (j - i).toNat) es' := fun B F H σ fps R Q k =>
  h B F H σ fps R _ fun vs F1 H1 fps1 fp R1 g1 rv n1 => by
    obtain ⟨d, _⟩ := RVs.dds rv
    cases d with
    | cons d1 d2 =>
      cases d2 with
      | cons d2 d3 =>
        cases d3
        have e := dd_int d1
        subst e
        have e := dd_int d2
        subst e
        exact ⟨i, j, rfl, hj, k _ F1 H1 fps1 R1 g1 wk_range⟩
def rangeC (lo c : Int) (n : Nat) : List PyData := (List.range n).map fun (k : Nat) => .int (lo + (k : Int) * c)
theorem rangeC_len {lo c : Int} {n : Nat} : (rangeC lo c n).length = n := by simp [rangeC]
theorem rangeC_get {lo c : Int} {n i : Nat} (h : i < n) : (rangeC lo c n)[i]? = some (.int (lo + (i : Int) * c)) := by simp [rangeC, h]
theorem ei_range3 {ta : TA} {n : Nat} {c : Int} (h : EAD K m ta es [.int i, .int j, .int c] es') (hj : RgC i j c n) : EI K true m (iRng3 ta) es (rangeC i c n) es' := fun B F H σ fps R Q k =>
  h B F H σ fps R _ fun vs F1 H1 fps1 fp R1 g1 rv n1 => by
    obtain ⟨d, _⟩ := RVs.dds rv
    cases d with
    | cons d1 d2 =>
      cases d2 with
      | cons d2 d3 =>
        cases d3 with
        | cons d3 d4 =>
          cases d4
          have e := dd_int d1
          subst e
          have e := dd_int d2
          subst e
          have e := dd_int d3
          subst e
          refine ⟨i, j, c, n, rfl, hj, k _ F1 H1 fps1 R1 g1 ⟨fun i F1 H1 fps1 g e hi => by rw [rangeC_len] at hi; exact hi, fun F1 H1 fps1 g e => by rw [rangeC_len]; exact Nat.le_refl n, fun i F1 H1 fps1 σ es v H2 g R hi y => ?_⟩⟩
          rw [rangeC_len] at hi
          obtain ⟨e, q⟩ := y
          subst e q
          exact ⟨_, F1, rangeC_get hi, R, Go.refl, .int _⟩
/-- zip of two frozen lists -/
def zipD (xs ys : List PyData) : List PyData := (xs.zip ys).map fun p => .tuple [p.1, p.2]
theorem ei_zip {ta : TA} (h : EAD K m ta es [.list xs, .list ys] es') : EI K true m (iZip K ta) es (zipD xs ys) es' := fun B F H σ fps R Q k =>
  h B F H σ fps R _ fun vs F1 H1 fps1 fp R1 g1 rv n1 => by
    obtain ⟨d, _⟩ := RVs.dds rv
    cases d with
    | cons d1 d2 =>
      cases d2 with
      | cons d2 d3 =>
        cases d3
        cases d1 with
        | lst a1 a2 =>
          cases d2 with
          | lst b1 b2 =>
            rename_i la va lb vb
            have len : (zipD xs ys).length = min xs.length ys.length := by simp [zipD]
            refine ⟨_, _, _, _, rfl, SqL.of (R1.ex _ _ a1), SqL.of (R1.ex _ _ b1), k _ F1 H1 fps1 R1 g1 ⟨fun i F2 H2 fps2 g e hi => ?_, fun F2 H2 fps2 g e => ?_, fun i F2 H2 fps2 σ2 es2 v H3 g R2 hi y => ?_⟩⟩
            · rw [len] at hi
              exact ⟨va, vb, va[i]'(by rw [a2.length]; omega), vb[i]'(by rw [b2.length]; omega), SqL.of (e _ _ (g.ff _ _ a1)), SqL.of (e _ _ (g.ff _ _ b1)), List.getElem?_eq_getElem _, List.getElem?_eq_getElem _⟩
            · rw [len]
              refine ⟨va, vb, SqL.of (e _ _ (g.ff _ _ a1)), SqL.of (e _ _ (g.ff _ _ b1)), ?_⟩
              rw [a2.length, b2.length]
              omega
            · obtain ⟨T, x1, x2, rfl, nT, rfl, f1, f2⟩ := y
              obtain ⟨u1, q1, q2⟩ := a2.getV (f1 va (SqL.of (R2.ex _ _ (g.ff _ _ a1))))
              obtain ⟨u2, p1, p2⟩ := b2.getV (f2 vb (SqL.of (R2.ex _ _ (g.ff _ _ b1))))
              refine ⟨.tuple [u1, u2], _, ?_, R2.both nT, Go.both R2 nT, .tup upd_same (.cons ((q2.mono g.ff).mono (same_new (R2.f_none nT))) (.cons ((p2.mono g.ff).mono (same_new (R2.f_none nT))) .nil))⟩
              unfold zipD
              rw [List.getElem?_map, List.getElem?_zip_eq_some (z := (u1, u2)) |>.mpr ⟨q1, p1⟩]
              rfl

/-! ### loops -/
theorem ss_for {wi : TI} {g : TG} (h : EI K true m wi es xs es1) (I : Nat → Es → Prop) (h0 : I 0 es1)
    (hs : ∀ i x es', xs[i]? = some x → I i es' → ∃ es2 js, GS K g x es' es2 js ∧ SS K W tsb es2 { nx := I (i + 1), ct := I (i + 1), bk := D.nx, rt := D.rt, ex := D.ex }) (hd : ∀ es', I xs.length es' → D.nx es') : SS K W (tFor wi g tsb) es D := fun B F H σ fps R E w =>
  h B F H σ fps R _ fun J F1 H1 fps1 R1 g1 wk => by
    have w1 := w.go g1
    refine ⟨fun i n σ2 H2 => n = xs.length - i ∧ i ≤ xs.length ∧ ∃ es2 F2 fps2, Rep K B F2 H2 σ2 es2 fps2 ∧ Go true F1 H1 fps1 F2 H2 fps2 ∧ I i es2, ⟨_, rfl, Nat.zero_le _, es1, F1, fps1, R1, Go.refl, h0⟩, ?_⟩
    rintro i n σ2 H2 ⟨rfl, hi, es2, F2, fps2, R2, g2, hI⟩
    by_cases c : i < xs.length
    · refine .inr ⟨wk.go i F2 H2 fps2 g2 R2.ex c, fun σ3 H3 => ∃ es3 F3 fps3, Rep K B F3 H3 σ3 es3 fps3 ∧ Go true F1 H1 fps1 F3 H3 fps3 ∧ I (i + 1) es3, fun σ3 H3 q => ⟨_, by omega, rfl, c, q⟩, fun v H3 y => ?_⟩
      obtain ⟨x, F3, hx, R3, g3, d3⟩ := wk.yld i F2 H2 fps2 σ2 es2 v H3 g2 R2 c y
      obtain ⟨es4, js, hg, hss⟩ := hs i x es2 hx hI
      refine hg B F3 H3 σ2 fps2 v R3 d3 _ fun σ4 fps4 R4 a4 b4 l4 => ?_
      have g4 : Go true F1 H1 fps1 F3 H3 fps4 := (g2.trans g3).less a4
      have w4 := w1.go g4
      exact hss B F3 H3 σ4 fps4 R4 _ ⟨fun es' F' H' σ' fps' R' g' d => ⟨es', F', fps', R', (g4.trans g').wk fun _ => rfl, d⟩, w4.rt, fun es' F' H' σ' fps' R' g' d => w4.nx es' F' H' σ' fps' R' g' d, fun es' F' H' σ' fps' R' g' d => ⟨es', F', fps', R', (g4.trans g').wk fun _ => rfl, d⟩, w4.ex⟩
    · have e : i = xs.length := by omega
      subst e
      exact .inl ⟨wk.stop F2 H2 fps2 g2 R2.ex, w1.nx es2 F2 H2 σ2 fps2 R2 g2 (hd es2 hI)⟩
theorem ss_while (I : Nat → Es → Prop) (n0 : Nat) (h0 : I n0 es) (hs : ∀ n es', I n es' → ∃ b es1, ET K m tt es' b es1 ∧ (b = true → SS K W tsb es1 { nx := fun e => ∃ n', n' < n ∧ I n' e, ct := fun e => ∃ n', n' < n ∧ I n' e, bk := D.nx, rt := D.rt, ex := D.ex }) ∧ (b = false → D.nx es1)) :
    SS K W (tWhile tt tsb) es D := fun B F H σ fps R E w => by
  refine ⟨fun n σ2 H2 => ∃ es2 F2 fps2, Rep K B F2 H2 σ2 es2 fps2 ∧ Go true F H fps F2 H2 fps2 ∧ I n es2, ⟨n0, es, F, fps, R, Go.refl, h0⟩, ?_⟩
  rintro n σ2 H2 ⟨es2, F2, fps2, R2, g2, hI⟩
  obtain ⟨b, es3, ht, h1, h2⟩ := hs n es2 hI
  refine ht B F2 H2 σ2 fps2 R2 _ fun F3 H3 fps3 R3 g3 => ?_
  have g4 : Go true F H fps F3 H3 fps3 := (g2.trans g3).wk fun _ => rfl
  have w4 := w.go g4
  cases b with
  | true =>
    refine ⟨fun σ4 H4 => ∃ n', n' < n ∧ ∃ es4 F4 fps4, Rep K B F4 H4 σ4 es4 fps4 ∧ Go true F H fps F4 H4 fps4 ∧ I n' es4, fun σ4 H4 q => q, ?_⟩
    have fin : ∀ es' F' H' σ' fps', Rep K B F' H' σ' es' fps' → Go true F3 H3 fps3 F' H' fps' → (∃ n', n' < n ∧ I n' es') → ∃ n', n' < n ∧ ∃ es4 F4 fps4, Rep K B F4 H' σ' es4 fps4 ∧ Go true F H fps F4 H' fps4 ∧ I n' es4 := fun es' F' H' σ' fps' R' g' ⟨n', hn, d⟩ => ⟨n', hn, es', F', fps', R', (g4.trans g').wk fun _ => rfl, d⟩
    exact h1 rfl B F3 H3 σ2 fps3 R3 _ ⟨fin, w4.rt, w4.nx, fin, w4.ex⟩
  | false => exact w4.nx es3 F3 H3 σ2 fps3 R3 Go.refl (h2 rfl)
end
section
variable {X : Cx} {pos : Pos}
theorem dpg_any {es : List Expr} {k : Nat} {t : TGs} {n : Nat} (hc : X.calm = true) (h : PGs X es t)
    (hn : (assignEach es X.env).length = n := by rfl) (hst : (assignEach es X.env).findIdx? (·.1) = none := by rfl) : PG X (.Tuple es k pos) (gAny X.K n t) := by
  refine ⟨fun pins s σ H v u Q I r hw => ?_⟩
  rcases hw with hw | hw
  · exact (pg_tup hc h hn hst).run pins s σ H v u Q I r hw
  · exact (pg_lst hc h hn hst).run pins s σ H v u Q I r hw
end
end DW

namespace DW
open PySem PySem.Spec PyProof.Rows L2

section
variable {K : PySem.W.Frag} {B : Addr → Prop} {m m1 m2 m3 : Bool} {F H F1 H1 F' H' : Hp} {fps fps1 fps' : Fps} {σ σ' : L2.St} {es es1 es2 es3 es' : Es} {v : V} {fp fq : List Addr} {r r1 r2 r3 : Vl} {t t1 t2 : T} {x y : PyData} {te ta tb tc to ti : TE} {tt tu : TT} {i j : Int} {xs ys : List PyData} {z w : Str} {a : Nat} {p : List Stp} {ts : List T} {W : WX} {tsa tsb : TS} {D : Dn} {vs : List Nat}

/-! ### a comprehension's own names -/
def wipeE (es : Es) : List Nat → Es
  | [] => es
  | v :: vs => (wipeE es vs).set v .n
def unw (es0 es : Es) : List Nat → Es
  | [] => es
  | v :: vs => (unw es0 es vs).set v ((es0[v]?).getD .n)
def fpw (fps : Fps) (vs : List Nat) : Fps := fun i => if i ∈ vs then [] else fps i
def fpu (fps0 fps : Fps) (vs : List Nat) : Fps := fun i => if i ∈ vs then fps0 i else fps i
theorem wipeE_len : (wipeE es vs).length = es.length := by
  induction vs with
  | nil => rfl
  | cons v vs ih => rw [wipeE, List.length_set]; exact ih
theorem unw_len : (unw es es1 vs).length = es1.length := by
  induction vs with
  | nil => rfl
  | cons v vs ih => rw [unw, List.length_set]; exact ih
theorem wipeE_out {i : Nat} (h : i ∉ vs) : (wipeE es vs)[i]? = es[i]? := by
  induction vs with
  | nil => rfl
  | cons v vs ih =>
    rw [wipeE, List.getElem?_set_ne fun z => h (by rw [z]; exact List.mem_cons_self)]
    exact ih fun z => h (List.mem_cons_of_mem _ z)
theorem wipeE_in {i : Nat} (h : i ∈ vs) {s : Sl} (e : (wipeE es vs)[i]? = some s) : s = .n := by
  induction vs with
  | nil => cases h
  | cons v vs ih =>
    rw [wipeE] at e
    by_cases c : v = i
    · subst c
      have hl := (List.getElem?_eq_some_iff.mp e).1
      rw [List.length_set] at hl
      rw [List.getElem?_set_self hl] at e
      exact (Option.some.inj e).symm
    · rw [List.getElem?_set_ne c] at e
      rcases List.mem_cons.mp h with z | z
      · exact absurd z.symm c
      · exact ih z e
theorem unw_out {i : Nat} (h : i ∉ vs) : (unw es es1 vs)[i]? = es1[i]? := by
  induction vs with
  | nil => rfl
  | cons v vs ih =>
    rw [unw, List.getElem?_set_ne fun z => h (by rw [z]; exact List.mem_cons_self)]
    exact ih fun z => h (List.mem_cons_of_mem _ z)
theorem unw_in {i : Nat} (h : i ∈ vs) (hl : i < es1.length) (hl0 : es.length = es1.length) : (unw es es1 vs)[i]? = es[i]? := by
  induction vs with
  | nil => cases h
  | cons v vs ih =>
    rw [unw]
    by_cases c : v = i
    · subst c
      rw [List.getElem?_set_self (by rw [unw_len]; exact hl), List.getElem?_eq_getElem (by rw [hl0]; exact hl)]
      rfl
    · rw [List.getElem?_set_ne c]
      rcases List.mem_cons.mp h with z | z
      · exact absurd z.symm c
      · exact ih z
theorem wipe_in {i : Nat} (h : i ∈ vs) (hl : i < σ.length) : (wipe σ vs)[i]? = some none := by
  induction vs with
  | nil => cases h
  | cons v vs ih =>
    rw [wipe]
    by_cases c : v = i
    · subst c
      rw [List.getElem?_set_self (by rw [wipe_length]; exact hl)]
    · rw [List.getElem?_set_ne c]
      rcases List.mem_cons.mp h with z | z
      · exact absurd z.symm c
      · exact ih z
theorem wipe_eq (hl : σ'.length = σ.length) (h : ∀ i, i ∉ vs → σ'[i]? = σ[i]?) : wipe σ' vs = wipe σ vs := by
  apply List.ext_getElem?
  intro i
  by_cases c : i ∈ vs
  · by_cases d : i < σ.length
    · rw [wipe_in c d, wipe_in c (by rw [hl]; exact d)]
    · rw [List.getElem?_eq_none (by rw [wipe_length, hl]; omega), List.getElem?_eq_none (by rw [wipe_length]; omega)]
  · rw [wipe_out c, wipe_out c]
    exact h i c
theorem Rep.wipe (R : Rep K B F H σ es fps) : Rep K B F H (L2.wipe σ vs) (wipeE es vs) (fpw fps vs) where
  ex := R.ex
  len := by rw [wipe_length, wipeE_len]; exact R.len
  sl := fun i s e => by
    by_cases c : i ∈ vs
    · rw [wipeE_in c e]
      trivial
    · rw [wipeE_out c] at e
      rw [wipe_out c]
      have q := R.sl i s e
      cases s with
      | n => trivial
      | o a t =>
        obtain ⟨v, h1, h2, h3⟩ := q
        refine ⟨v, h1, h2, ?_⟩
        have ef : fpw fps vs i = fps i := if_neg c
        rw [ef]
        exact h3
      | q a t => exact q
  no := fun i e => by
    by_cases c : i ∈ vs
    · exact if_pos c
    · have ef : fpw fps vs i = fps i := if_neg c
      rw [ef]
      exact R.no i fun a t z => e a t (by rw [wipeE_out c]; exact z)
  nd := fun i => by
    unfold fpw
    split
    · exact List.nodup_nil
    · exact R.nd i
  dj := fun i j e b hb hj => by
    unfold fpw at hb hj
    split at hb
    · cases hb
    · split at hj
      · cases hj
      · exact R.dj i j e b hb hj
  fr := fun i b hb => by
    unfold fpw at hb
    split at hb
    · cases hb
    · exact R.fr i b hb
  bg := fun b hb => ⟨(R.bg b hb).1, fun i hi => by
    unfold fpw at hi
    split at hi
    · cases hi
    · exact (R.bg b hb).2 i hi⟩
theorem Rep.unwipe {F0 H0 : Hp} {fps0 : Fps} {es0 : Es} {σ0 : L2.St} (R0 : Rep K B F0 H0 σ0 es0 fps0) (g : Go m F0 H0 (fpw fps0 vs) F H fps) (R : Rep K B F H σ es fps) (hσ : ∀ i, i ∉ vs → σ[i]? = σ0[i]?) (hlen : es.length = es0.length) :
    Rep K B F H σ0 (unw es0 es vs) (fpu fps0 fps vs) ∧ Go m F0 H0 fps0 F H (fpu fps0 fps vs) := by
  have wout : ∀ {i : Nat}, i ∈ vs → ∀ b ∈ fps0 i, ∀ j, b ∉ fpw fps0 vs j := fun {i} hi b hb j hj => by
    unfold fpw at hj
    split at hj
    · cases hj
    · rename_i hn
      exact R0.dj i j (fun z => hn (by rw [← z]; exact hi)) b hb hj
  have kp : ∀ {i : Nat}, i ∈ vs → ∀ b ∈ fps0 i, H b = H0 b := fun {i} hi b hb => by
    obtain ⟨o, ho⟩ := R0.there hb
    exact g.at_ ho (wout hi b hb)
  have ou2 : ∀ {i : Nat}, i ∈ vs → ∀ b ∈ fps0 i, ∀ j, b ∉ fps j := fun {i} hi b hb j => by
    obtain ⟨o, ho⟩ := R0.there hb
    exact g.out ho (wout hi b hb) j
  refine ⟨⟨R.ex, ?_, fun i s e => ?_, fun i e => ?_, fun i => ?_, fun i j e b hb hj => ?_, fun i b hb => ?_, fun b hb => ⟨(R.bg b hb).1, fun i hi => ?_⟩⟩, ⟨g.ff, fun b hb => ?_, fun b o ho n => ?_, fun i b hb => ?_, g.th, fun e => ?_⟩⟩
  · rw [unw_len, hlen]
    exact R0.len
  · by_cases c : i ∈ vs
    · have hl : i < es.length := by
        have := (List.getElem?_eq_some_iff.mp e).1
        rw [unw_len] at this
        exact this
      rw [unw_in c hl hlen.symm] at e
      have q := R0.sl i s e
      cases s with
      | n => trivial
      | o a t =>
        obtain ⟨v, h1, h2, h3⟩ := q
        refine ⟨v, h1, h2, ?_⟩
        have ef : fpu fps0 fps vs i = fps0 i := if_pos c
        rw [ef]
        exact h3.mono g.ff fun b hb => kp c b hb
      | q a t =>
        obtain ⟨v, fq, h1, h2, h3, h4⟩ := q
        exact ⟨v, fq, h1, h2, h3.mono g.ff fun b hb => by
          obtain ⟨⟨o, ho⟩, n⟩ := R0.bg b (h4 b hb)
          refine g.at_ ho fun j hj => ?_
          unfold fpw at hj
          split at hj
          · cases hj
          · exact n j hj, h4⟩
    · rw [unw_out c] at e
      rw [← hσ i c]
      have q := R.sl i s e
      cases s with
      | n => trivial
      | o a t =>
        obtain ⟨v, h1, h2, h3⟩ := q
        refine ⟨v, h1, h2, ?_⟩
        have ef : fpu fps0 fps vs i = fps i := if_neg c
        rw [ef]
        exact h3
      | q a t => exact q
  · by_cases c : i ∈ vs
    · have ef : fpu fps0 fps vs i = fps0 i := if_pos c
      rw [ef]
      refine R0.no i fun a t z => ?_
      have hl : i < es.length := by
        have := (List.getElem?_eq_some_iff.mp z).1
        rw [hlen]
        exact this
      exact e a t (by rw [unw_in c hl hlen.symm]; exact z)
    · have ef : fpu fps0 fps vs i = fps i := if_neg c
      rw [ef]
      exact R.no i fun a t z => e a t (by rw [unw_out c]; exact z)
  · unfold fpu
    split
    · exact R0.nd i
    · exact R.nd i
  · unfold fpu at hb hj
    split at hb
    · rename_i c
      split at hj
      · exact R0.dj i j e b hb hj
      · exact ou2 c b hb j hj
    · split at hj
      · rename_i c
        exact ou2 c b hj i hb
      · exact R.dj i j e b hb hj
  · unfold fpu at hb
    split at hb
    · rename_i c
      rcases g.fn b (R0.fr i b hb) with z | z | ⟨j, z⟩
      · exact z
      · obtain ⟨o, ho⟩ := R0.there hb
        rw [ho] at z
        cases z
      · exact absurd z (wout c b hb j)
    · exact R.fr i b hb
  · unfold fpu at hi
    split at hi
    · exact (R0.bg b hb).2 i hi
    · exact (R.bg b hb).2 i hi
  · rcases g.fn b hb with z | z | ⟨j, z⟩
    · exact .inl z
    · exact .inr (.inl z)
    · unfold fpw at z
      split at z
      · cases z
      · exact .inr (.inr ⟨j, z⟩)
  · refine g.ou b o ho fun j hj => ?_
    unfold fpw at hj
    split at hj
    · cases hj
    · exact n j hj
  · unfold fpu at hb
    split at hb
    · exact .inr ⟨i, hb⟩
    · rcases g.fp i b hb with z | ⟨j, z⟩
      · exact .inl z
      · unfold fpw at z
        split at z
        · cases z
        · exact .inr ⟨j, z⟩
  · obtain ⟨q1, q2⟩ := g.pu e
    refine ⟨q1, ?_⟩
    funext i
    unfold fpu
    rw [q2]
    unfold fpw
    split <;> rfl
theorem Go.offF {F0 H0 : Hp} {fps0 : Fps} {l : Addr} {o : HO} (g : Go m F0 H0 fps0 F H fps) (hn : H0 l = none) : Go m F0 H0 fps0 F (upd H l o) fps where
  ff := g.ff
  fn := g.fn
  ou := fun b u hu n => by
    rw [upd_ne (ne_of_none hu hn)]
    exact g.ou b u hu n
  fp := g.fp
  th := fun b hb => by
    by_cases c : b = l
    · subst c
      rw [upd_same] at hb
      cases hb
    · rw [upd_ne c] at hb
      exact g.th b hb
  pu := fun e => ⟨fun b u hu => by
    rw [upd_ne (ne_of_none hu hn)]
    exact (g.pu e).1 b u hu, (g.pu e).2⟩
/-- THE COMPREHENSION -/
theorem ee_lc {wi : TI} {g : TG} {pu : Bool} (h : EI K pu m1 wi es xs es1) (hp : m2 = true → pu = true) (esq : Nat → Es) (outs : Nat → List T) (h0 : esq 0 = es1) (o0 : outs 0 = [])
    (hs : ∀ i x, xs[i]? = some x → ∃ es2 js b es3, GS K g x (wipeE (esq i) vs) es2 js ∧ (∀ j ∈ js, j ∈ vs) ∧ ET K m2 tt es2 b es3 ∧
      (b = true → ∃ t es4, EE K m2 te es3 (.o t) es4 ∧ esq (i + 1) = unw (esq i) es4 vs ∧ es4.length = (esq i).length ∧ outs (i + 1) = outs i ++ [t] ∧ (outs i).length < sizeLine) ∧ (b = false → esq (i + 1) = unw (esq i) es3 vs ∧ es3.length = (esq i).length ∧ outs (i + 1) = outs i)) :
    EE K (m1 || m2) (tLc wi g tt te vs) es (.o (.lst (outs xs.length))) (esq xs.length) := fun B F H σ fps R Q k =>
  h B F H σ fps R _ fun J F1 H1 fps1 R1 g1 wk => fun Dl hD => by
    refine ⟨fun i n H2 => n = xs.length - i ∧ i ≤ xs.length ∧ ∃ F2 fps2 acc fpa, Rep K B F2 H2 σ (esq i) fps2 ∧ Go m2 F1 H1 fps1 F2 H2 fps2 ∧ H2 Dl = some (.lst acc) ∧ F2 Dl = none ∧ (∀ j, Dl ∉ fps2 j) ∧ Rps K F2 H2 acc (outs i) fpa ∧ (Dl :: fpa).Nodup ∧ New H1 fps1 fpa ∧ ∀ b ∈ fpa, F2 b = none ∧ (∀ j, b ∉ fps2 j) ∧ ¬ B b,
      ⟨_, rfl, Nat.zero_le _, F1, fps1, [], [], by rw [h0]; exact R1.alloc hD, Go.refl.offF hD, upd_same, R1.f_none hD, R1.f_out hD, by rw [o0]; exact .nil, by simp, New.nil, fun _ h => nomatch h⟩, ?_⟩
    rintro i n H2 ⟨rfl, hi, F2, fps2, acc, fpa, R2, g2, hDl, fDl, oDl, ra, nda, na, outa⟩
    have bDl : ¬ B Dl := R1.b_out hD
    have gpu : Go pu F1 H1 fps1 F2 H2 fps2 := g2.wk hp
    by_cases c : i < xs.length
    · refine .inr ⟨wk.go i F2 H2 fps2 gpu R2.ex c, fun H3 => ∃ F3 fps3 acc fpa, Rep K B F3 H3 σ (esq (i + 1)) fps3 ∧ Go m2 F1 H1 fps1 F3 H3 fps3 ∧ H3 Dl = some (.lst acc) ∧ F3 Dl = none ∧ (∀ j, Dl ∉ fps3 j) ∧ Rps K F3 H3 acc (outs (i + 1)) fpa ∧ (Dl :: fpa).Nodup ∧ New H1 fps1 fpa ∧ ∀ b ∈ fpa, F3 b = none ∧ (∀ j, b ∉ fps3 j) ∧ ¬ B b, fun H3 q => ⟨_, by omega, rfl, c, q⟩, fun v H3 y => ?_⟩
      obtain ⟨x, F3, hx, R3, g3, d3⟩ := wk.yld i F2 H2 fps2 σ (esq i) v H3 gpu R2 c y
      obtain ⟨es4, js, b, es5, hg, hj, ht, hyes, hno⟩ := hs i x hx
      refine hg B F3 H3 (L2.wipe σ vs) (fpw fps2 vs) v R3.wipe d3 _ fun σ4 fps4 R4 a4 b4 l4 => ?_
      have ef : fps4 = fpw fps2 vs := by
        funext j
        by_cases cj : j ∈ js
        · rcases a4 j with e | e
          · exact e
          · rw [e]
            exact (if_pos (hj j cj)).symm
        · exact (b4 j cj).2.2
      subst ef
      have hσ4 : ∀ j, j ∉ vs → σ4[j]? = σ[j]? := fun j hn => ((b4 j fun z => hn (hj j z)).1).trans (wipe_out hn)
      refine ⟨wipe_eq (l4.trans (wipe_length ..)) hσ4, ht B F3 H3 σ4 _ R4 _ fun F5 H5 fps5 R5 g5 => ?_⟩
      -- what the tail carries
      have gD : ∀ {F6 H6 : Hp} {fps6 : Fps} {mm : Bool}, Go mm F2 H2 fps2 F6 H6 fps6 → H6 Dl = some (.lst acc) ∧ F6 Dl = none ∧ (∀ j, Dl ∉ fps6 j) ∧ Rps K F6 H6 acc (outs i) fpa ∧ ∀ b ∈ fpa, F6 b = none ∧ (∀ j, b ∉ fps6 j) ∧ ¬ B b := fun {F6 H6 fps6 mm} gg => by
        refine ⟨gg.ou Dl _ hDl oDl, ?_, gg.out hDl oDl, ra.mono gg.ff fun b hb => ?_, fun b hb => ?_⟩
        · rcases gg.fn Dl fDl with z | z | ⟨j, z⟩
          · exact z
          · rw [hDl] at z
            cases z
          · exact absurd z (oDl j)
        · obtain ⟨o, ho⟩ := ra.ok b hb
          exact gg.at_ ho (outa b hb).2.1
        · obtain ⟨o, ho⟩ := ra.ok b hb
          refine ⟨?_, gg.out ho (outa b hb).2.1, (outa b hb).2.2⟩
          rcases gg.fn b (outa b hb).1 with z | z | ⟨j, z⟩
          · exact z
          · rw [ho] at z
            cases z
          · exact absurd z ((outa b hb).2.1 j)
      cases b with
      | false =>
        obtain ⟨q1, q2, q3⟩ := hno rfl
        obtain ⟨R6, g6⟩ := R3.unwipe g5 R5 hσ4 q2
        show ∃ F3 fps3 acc fpa, _
        have g26 : Go m2 F2 H2 fps2 F5 H5 _ := (g3.trans g6).wk id
        obtain ⟨k1, k2, k3, k4, k5⟩ := gD g26
        rw [q1, q3]
        exact ⟨F5, _, acc, fpa, R6, (g2.trans g26).wk fun h => by rw [Bool.or_self] at h; exact h, k1, k2, k3, k4, nda, na, k5⟩
      | true =>
        obtain ⟨t, es6, he, q1, q2, q3, hz⟩ := hyes rfl
        show te σ4 H5 _
        refine he B F5 H5 σ4 fps5 R5 _ fun u F6 H6 fps6 fp6 R6 g6 rv6 n6 => ?_
        obtain ⟨R7, g7⟩ := R3.unwipe (Go.wk (m' := m2) (g5.trans g6) fun h => by rw [Bool.or_self] at h; exact h) R6 hσ4 q2
        have g27 : Go m2 F2 H2 fps2 F6 H6 _ := (g3.trans g7).wk id
        obtain ⟨k1, k2, k3, k4, k5⟩ := gD g27
        obtain ⟨j1, j2, j3⟩ := rv6
        -- the new item's nodes are its own
        have nw : ∀ b ∈ fp6, H3 b = none ∨ ∃ j, b ∈ fpw fps2 vs j := fun b hb => n6.trans g5 b hb
        have noD : Dl ∉ fp6 := fun z => by
          rcases nw Dl z with y | ⟨j, y⟩
          · have := g3.ou Dl _ hDl oDl
            rw [this] at y
            cases y
          · unfold fpw at y
            split at y
            · cases y
            · exact oDl j y
        have noA : ∀ b ∈ fp6, b ∉ fpa := fun b hb ha => by
          obtain ⟨o, ho⟩ := ra.ok b ha
          rcases nw b hb with y | ⟨j, y⟩
          · have := g3.ou b _ ho (outa b ha).2.1
            rw [this] at y
            cases y
          · unfold fpw at y
            split at y
            · cases y
            · exact (outa b ha).2.1 j y
        have noF : ∀ b ∈ fp6, ∀ j, b ∉ fpu fps2 fps6 vs j := fun b hb j hj' => by
          unfold fpu at hj'
          split at hj'
          · rename_i cj
            obtain ⟨o, ho⟩ := R2.there hj'
            rcases nw b hb with y | ⟨j2, y⟩
            · have : H3 b = some o := (g3.pu rfl).1 b o ho
              rw [this] at y
              cases y
            · unfold fpw at y
              split at y
              · cases y
              · rename_i cn
                exact R2.dj j j2 (fun z => cn (by rw [← z]; exact cj)) b hj' y
          · exact (j3 b hb).2.1 j hj'
        refine ⟨acc, k1, by rw [ra.length]; exact hz, F6, _, acc ++ [u], fpa ++ fp6, ?_, ?_, upd_same, k2, k3, ?_, ?_, ?_, ?_⟩
        · rw [q1]
          exact R7.off (by rw [k1]; simp) k2 k3 bDl
        · exact ((g2.trans g27).wk fun h => by rw [Bool.or_self] at h; exact h).offF hD
        · rw [q3]
          refine (k4.app (Rps.one j1)).mono (Same.refl _) fun b hb => upd_ne fun z => ?_
          subst z
          rcases List.mem_append.mp hb with y | y
          · exact (List.nodup_cons.mp nda).1 y
          · exact noD y
        · obtain ⟨nd1, nd2⟩ := List.nodup_cons.mp nda
          refine List.nodup_cons.mpr ⟨fun z => ?_, List.nodup_append.mpr ⟨nd2, j2, fun b hb d hd e => noA d hd (by rw [← e]; exact hb)⟩⟩
          rcases List.mem_append.mp z with y | y
          · exact nd1 y
          · exact noD y
        · intro b hb
          rcases List.mem_append.mp hb with y | y
          · exact na b y
          · have := nw b y
            rcases this with z | ⟨j, z⟩
            · exact .inl (g2.th b (g3.th b z))
            · unfold fpw at z
              split at z
              · cases z
              · exact g2.fp j b z
        · intro b hb
          rcases List.mem_append.mp hb with y | y
          · exact k5 b y
          · exact ⟨(j3 b y).1, noF b y, (j3 b y).2.2⟩
    · have e : i = xs.length := by omega
      subst e
      refine .inl ⟨wk.stop F2 H2 fps2 gpu R2.ex, k (.ref Dl) F2 H2 fps2 (Dl :: fpa) R2 (g1.trans g2) ⟨.lst hDl ra, nda, fun b hb => ?_⟩ fun b hb => ?_⟩
      · rcases List.mem_cons.mp hb with rfl | hb
        · exact ⟨fDl, oDl, bDl⟩
        · exact outa b hb
      · rcases List.mem_cons.mp hb with rfl | hb
        · exact .inl (g1.th _ hD)
        · exact na.trans g1 b hb
end
end DW

namespace DW
open PySem PySem.Spec PyProof.Rows L2

/-! ### defs: arguments, ends, promises -/
inductive Ag where
  | d (x : PyData)
  | s (ns : List Int)
  | q (t : T)
  | m (t : T)
inductive Out where
  | ok (as : List Ag) (t : T)
  | exc (c : Value)
def Ag.sl (v : V) : Ag → Sl
  | .d x => .o none (.d x)
  | .s ns => .o none (.scr ns)
  | .q t => .q (some v) t
  | .m t => .o (some v) t
def slots : List V → List Ag → Es
  | v :: vs, a :: as => a.sl v :: slots vs as
  | _, _ => []
abbrev Rl := List Ag → Out → Prop
def spD (K : PySem.W.Frag) (R : Rl) : Sp := fun vs H Q E => ∃ (as : List Ag) (o : Out) (B : Addr → Prop) (F : Hp) (fps : Fps), R as o ∧ as.length = vs.length ∧ Rep K B F H (vs.map some) (slots vs as) fps ∧ match o with
  | .ok as' t => ∀ v F' H' fps' fp, Rep K B F' H' (vs.map some) (slots vs as') fps' → Go true F H fps F' H' fps' → Rp K F' H' v t fp → fp.Nodup → (∀ b ∈ fp, F' b = none ∧ (∀ i, b ∉ fps' i) ∧ ¬ B b) → New H fps fp → Q v H'
  | .exc c => ∀ F' H', Go true F H fps F' H' (fun _ => []) → Same F' H' → E c none H'
/-- what a body must reach -/
def Fin : List V → List Ag → List Ag → Nat → Es → Prop
  | v :: vs, .m _ :: as, a' :: as', i, es => (∃ t', a' = .m t' ∧ es[i]? = some (.o (some v) t')) ∧ Fin vs as as' (i + 1) es
  | _ :: vs, a :: as, a' :: as', i, es => a' = a ∧ Fin vs as as' (i + 1) es
  | [], [], [], _, _ => True
  | _, _, _, _, _ => False
def FD (vs : List V) (as : List Ag) (o : Out) : Dn where
  nx := fun es' => ∃ as', o = .ok as' (.d .none) ∧ Fin vs as as' 0 es'
  rt := fun r es' => ∃ as' t, o = .ok as' t ∧ r = .o t ∧ Fin vs as as' 0 es'
  ex := fun c _ => o = .exc c

section
variable {K : PySem.W.Frag} {B : Addr → Prop} {m m1 m2 m3 : Bool} {F H F1 H1 F' H' : Hp} {fps fps1 fps' : Fps} {σ σ' : L2.St} {es es1 es2 es3 es' : Es} {v : V} {fp fq : List Addr} {r r1 r2 r3 : Vl} {t t1 t2 : T} {x y : PyData} {te ta tb tc to ti : TE} {tt tu : TT} {i j : Int} {xs ys : List PyData} {z w : Str} {a : Nat} {p : List Stp} {ts : List T} {W : WX} {tsa tsb : TS} {D : Dn} {vs : List V} {as as' : List Ag} {R : Rl} {E : XK}
theorem slots_len : ∀ {vs : List V} {as : List Ag}, as.length = vs.length → (slots vs as).length = vs.length
  | [], [], _ => rfl
  | v :: vs, a :: as, h => congrArg (· + 1) (slots_len (Nat.succ.inj h))
theorem slots_get : ∀ {vs : List V} {as : List Ag} {i : Nat} {s : Sl}, (slots vs as)[i]? = some s → ∃ v a, vs[i]? = some v ∧ as[i]? = some a ∧ s = a.sl v
  | [], _, i, s, h => by simp [slots] at h
  | _ :: _, [], i, s, h => by simp [slots] at h
  | v :: vs, a :: as, 0, s, h => by
    simp [slots] at h
    exact ⟨v, a, rfl, rfl, h.symm⟩
  | v :: vs, a :: as, i + 1, s, h => by
    simp [slots] at h
    obtain ⟨v', a', h1, h2, h3⟩ := slots_get h
    exact ⟨v', a', by simpa using h1, by simpa using h2, h3⟩
theorem slots_at : ∀ {vs : List V} {as : List Ag} {i : Nat} {v : V} {a : Ag}, vs[i]? = some v → as[i]? = some a → (slots vs as)[i]? = some (a.sl v)
  | [], _, i, v, a, h, _ => by simp at h
  | _ :: _, [], i, v, a, _, h => by simp at h
  | v :: vs, b :: as, 0, v', a, h, k => by
    simp at h k
    subst h k
    rfl
  | v :: vs, b :: as, i + 1, v', a, h, k => by
    simp at h k
    have := slots_at h k
    simpa [slots] using this
/-- more slots, of which nothing is known -/
theorem Rep.more {n : Nat} (Rp : Rep K B F H σ es fps) : Rep K B F H (σ ++ List.replicate n none) (es ++ List.replicate n .n) fps where
  ex := Rp.ex
  len := by simp [Rp.len]
  sl := fun i s e => by
    by_cases c : i < es.length
    · rw [List.getElem?_append_left c] at e
      rw [List.getElem?_append_left (by rw [Rp.len]; exact c)]
      exact Rp.sl i s e
    · rw [List.getElem?_append_right (by omega)] at e
      have : s = .n := by
        have := List.getElem?_eq_some_iff.mp e
        obtain ⟨h1, h2⟩ := this
        rw [List.getElem_replicate] at h2
        exact h2.symm
      subst this
      trivial
  no := fun i e => by
    by_cases c : i < es.length
    · exact Rp.no i fun a t z => e a t (by rw [List.getElem?_append_left c]; exact z)
    · exact Rp.no i fun a t z => by
        have := (List.getElem?_eq_some_iff.mp z).1
        exact c this
  nd := Rp.nd
  dj := Rp.dj
  fr := Rp.fr
  bg := Rp.bg
theorem fin_at : ∀ {vs : List V} {as as' : List Ag} {i : Nat} {es : Es}, Fin vs as as' i es → as.length = vs.length ∧ as'.length = vs.length ∧ ∀ k v b, vs[k]? = some v → as'[k]? = some b → (∃ t', b = .m t' ∧ es[i + k]? = some (.o (some v) t') ∧ ∃ t, as[k]? = some (.m t)) ∨ (as[k]? = some b ∧ ∀ t, b ≠ .m t)
  | [], [], [], _, _, _ => ⟨rfl, rfl, fun k v b h _ => by simp at h⟩
  | v :: vs, .m t :: as, a' :: as', i, es, h => by
    obtain ⟨⟨t', e1, e2⟩, h2⟩ := h
    obtain ⟨k1, k2, k3⟩ := fin_at h2
    refine ⟨congrArg (· + 1) k1, congrArg (· + 1) k2, fun k u b hu hb => ?_⟩
    cases k with
    | zero =>
      simp at hu hb
      subst hu hb
      exact .inl ⟨t', e1, e2, t, rfl⟩
    | succ k =>
      simp at hu hb
      rcases k3 k u b hu hb with ⟨t', q1, q2, q3⟩ | q
      · exact .inl ⟨t', q1, by rw [show i + (k + 1) = i + 1 + k by omega]; exact q2, by simpa using q3⟩
      · exact .inr (by simpa using q)
  | v :: vs, .d x :: as, a' :: as', i, es, h => by
    obtain ⟨e1, h2⟩ := h
    obtain ⟨k1, k2, k3⟩ := fin_at h2
    refine ⟨congrArg (· + 1) k1, congrArg (· + 1) k2, fun k u b hu hb => ?_⟩
    cases k with
    | zero =>
      simp at hu hb
      subst hu hb e1
      exact .inr ⟨rfl, fun t z => nomatch z⟩
    | succ k =>
      simp at hu hb
      rcases k3 k u b hu hb with ⟨t', q1, q2, q3⟩ | q
      · exact .inl ⟨t', q1, by rw [show i + (k + 1) = i + 1 + k by omega]; exact q2, by simpa using q3⟩
      · exact .inr (by simpa using q)
  | v :: vs, .s x :: as, a' :: as', i, es, h => by
    obtain ⟨e1, h2⟩ := h
    obtain ⟨k1, k2, k3⟩ := fin_at h2
    refine ⟨congrArg (· + 1) k1, congrArg (· + 1) k2, fun k u b hu hb => ?_⟩
    cases k with
    | zero =>
      simp at hu hb
      subst hu hb e1
      exact .inr ⟨rfl, fun t z => nomatch z⟩
    | succ k =>
      simp at hu hb
      rcases k3 k u b hu hb with ⟨t', q1, q2, q3⟩ | q
      · exact .inl ⟨t', q1, by rw [show i + (k + 1) = i + 1 + k by omega]; exact q2, by simpa using q3⟩
      · exact .inr (by simpa using q)
  | v :: vs, .q x :: as, a' :: as', i, es, h => by
    obtain ⟨e1, h2⟩ := h
    obtain ⟨k1, k2, k3⟩ := fin_at h2
    refine ⟨congrArg (· + 1) k1, congrArg (· + 1) k2, fun k u b hu hb => ?_⟩
    cases k with
    | zero =>
      simp at hu hb
      subst hu hb e1
      exact .inr ⟨rfl, fun t z => nomatch z⟩
    | succ k =>
      simp at hu hb
      rcases k3 k u b hu hb with ⟨t', q1, q2, q3⟩ | q
      · exact .inl ⟨t', q1, by rw [show i + (k + 1) = i + 1 + k by omega]; exact q2, by simpa using q3⟩
      · exact .inr (by simpa using q)
theorem Rep.get (Rp : Rep K B F H σ es fps) {i : Nat} {a : Option V} {t : T} (e : es[i]? = some (.o a t)) : ∃ v, σ[i]? = some (some v) ∧ (∀ w, a = some w → v = w) ∧ DW.Rp K F H v t (fps i) := Rp.sl i _ e
/-- behind a body: the arguments as the caller sees them -/
def fpm (as : List Ag) (fps : Fps) : Fps := fun i => match as[i]? with
  | some (.m _) => fps i
  | _ => []
theorem fpm_m {i : Nat} (h : as[i]? = some (.m t)) : fpm as fps i = fps i := by
  unfold fpm
  rw [h]
theorem fpm_c (i : Nat) : (fpm as fps i = fps i ∧ ∃ t, as[i]? = some (.m t)) ∨ fpm as fps i = [] := by
  unfold fpm
  split
  · rename_i t e
    exact .inl ⟨rfl, t, e⟩
  · exact .inr rfl
theorem Rep.args {n : Nat} (R0 : Rep K B F H (vs.map some) (slots vs as) fps) (hl : as.length = vs.length) (R1 : Rep K B F' H' σ' es' fps') (g : Go true F H fps F' H' fps') (fin : Fin vs as as' 0 es') :
    ∃ fps2, Rep K B F' H' (vs.map some) (slots vs as') fps2 ∧ Go true F H fps F' H' fps2 ∧ ∀ i, fps2 i = fps' i ∨ fps2 i = [] := by
  obtain ⟨l1, l2, at_⟩ := fin_at fin
  have sub : ∀ i b, b ∈ fpm as' fps' i → b ∈ fps' i := fun i b hb => by
    rcases fpm_c (as := as') (fps := fps') i with ⟨e, _⟩ | e
    · rw [e] at hb
      exact hb
    · rw [e] at hb
      cases hb
  refine ⟨fpm as' fps', ⟨R1.ex, by rw [slots_len l2, List.length_map], fun i s e => ?_, fun i e => ?_, fun i => ?_, fun i j e b hb hj => R1.dj i j e b (sub i b hb) (sub j b hj), fun i b hb => R1.fr i b (sub i b hb), fun b hb => ⟨(R1.bg b hb).1, fun i hi => (R1.bg b hb).2 i (sub i b hi)⟩⟩, ⟨g.ff, g.fn, g.ou, fun i b hb => g.fp i b (sub i b hb), g.th, fun e => nomatch e⟩, fun i => (fpm_c i).imp (fun z => z.1) id⟩
  · obtain ⟨v, b, h1, h2, rfl⟩ := slots_get e
    have hv : (vs.map some)[i]? = some (some v) := by rw [List.getElem?_map, h1]; rfl
    rcases at_ i v b h1 h2 with ⟨t', e1, e2, t, e3⟩ | ⟨e1, e2⟩
    · subst e1
      rw [Nat.zero_add] at e2
      obtain ⟨u, u1, u2, u3⟩ := R1.get e2
      have := u2 v rfl
      subst this
      refine ⟨u, hv, fun w z => Option.some.inj z, ?_⟩
      rw [fpm_m h2]
      exact u3
    · have q := R0.sl i _ (slots_at h1 e1)
      cases b with
      | d x =>
        obtain ⟨u, u1, u2, u3⟩ := q
        refine ⟨u, u1, (fun w z => nomatch z), ?_⟩
        rw [show fpm as' fps' i = [] by
          unfold fpm
          rw [h2]]
        exact .d (u3.dinv.mono g.ff)
      | s ns =>
        obtain ⟨u, u1, u2, u3⟩ := q
        refine ⟨u, u1, (fun w z => nomatch z), ?_⟩
        rw [show fpm as' fps' i = [] by
          unfold fpm
          rw [h2]]
        obtain ⟨c, e3, k3⟩ := u3.sinv
        subst e3
        exact .scr (g.ff.seq k3)
      | q t =>
        obtain ⟨u, fq, u1, u2, u3, u4⟩ := q
        exact ⟨u, fq, u1, u2, u3.mono g.ff fun b hb => by
          obtain ⟨⟨o, ho⟩, n⟩ := R0.bg b (u4 b hb)
          exact g.at_ ho n, u4⟩
      | m t => exact absurd rfl (e2 t)
  · rcases fpm_c (as := as') (fps := fps') i with ⟨_, t, q⟩ | q
    · exfalso
      have hi : i < vs.length := by
        rw [← l2]
        exact (List.getElem?_eq_some_iff.mp q).1
      exact e (some vs[i]) t (slots_at (List.getElem?_eq_getElem hi) q)
    · exact q
  · rcases fpm_c (as := as') (fps := fps') i with ⟨q, _⟩ | q
    · rw [q]
      exact R1.nd i
    · rw [q]
      exact List.nodup_nil
/-- THE RULE of a def: its promise, by its body -/
theorem spD_run {N : List Str} {Q : VK} {tb : TS} (h : spD K R vs H Q E) (hW : ∀ c σ H, E c none H → W c none σ H)
    (hb : ∀ as o, R as o → as.length = vs.length → SS K W tb (slots vs as ++ List.replicate (N.length - vs.length) .n) (FD vs as o)) : tb { nx := fun _ H' => Q .non H', rt := Q } (start N vs) H := by
  obtain ⟨as, o, B, F, fps, hR, hl, R0, k⟩ := h
  refine hb as o hR hl B F H (start N vs) fps R0.more _ ⟨fun es' F' H' σ' fps' R' g d => ?_, fun v r es' F' H' σ' fps' fp R' g rv n d => ?_, fun _ _ _ _ _ _ _ d => d.elim, fun _ _ _ _ _ _ _ d => d.elim, fun c es' F' H' σ' fps' R' g d => ?_⟩
  · obtain ⟨as', rfl, fin⟩ := d
    obtain ⟨fps2, R2, g2, _⟩ := Rep.args (n := 0) R0 hl R' g fin
    exact k .non F' H' fps2 [] R2 g2 (.d .non) List.nodup_nil (fun _ h => nomatch h) New.nil
  · obtain ⟨as', t, rfl, rfl, fin⟩ := d
    obtain ⟨fps2, R2, g2, e2⟩ := Rep.args (n := 0) R0 hl R' g fin
    obtain ⟨q1, q2, q3⟩ := rv
    have out : ∀ b ∈ fp, ∀ i, b ∉ fps2 i := fun b hb i hi => by
      rcases e2 i with z | z
      · rw [z] at hi
        exact (q3 b hb).2.1 i hi
      · rw [z] at hi
        cases hi
    exact k v F' H' fps2 fp R2 g2 q1 q2 (fun b hb => ⟨(q3 b hb).1, out b hb, (q3 b hb).2.2⟩) n
  · have d' : o = .exc c := d
    subst d'
    exact hW c σ' H' (k F' H' ⟨g.ff, g.fn, g.ou, fun _ _ h => (nomatch h), g.th, fun e => nomatch e⟩ R'.ex)

/-! ### calls -/
def tSpc (sp : Sp) (E : XK) (ta : TA) : TE := fun σ H Q => ta σ H fun vs H1 => sp vs H1 Q E
def methA (C : Addr) (m : Str) (ta : TE) (t : TA) : TA := fun σ H Q => ta σ H fun x H1 => ∃ a dx fs, x = .ref a ∧ H1 a = some (.ins C dx fs) ∧ fs.lookup m = none ∧ t σ H1 fun vs H2 => Q (x :: vs) H2
theorem call_eq {sp : Sp} {t : TA} : tCall sp [] E t = tSpc sp E t := by
  funext σ H Q
  show (t σ H fun vs H1 => sp (vs ++ []) H1 Q E) = _
  simp only [List.append_nil]
  rfl
theorem meth_eq {sp : Sp} {C : Addr} {m : Str} {t : TA} : tMeth C m sp [] E ta t = tSpc sp E (methA C m ta t) := by
  funext σ H Q
  show (ta σ H fun x H1 => ∃ a dx fs, x = .ref a ∧ H1 a = some (.ins C dx fs) ∧ fs.lookup m = none ∧ t σ H1 fun vs H2 => sp (x :: (vs ++ [])) H2 Q E) = _
  simp only [List.append_nil]
  rfl
theorem ea_meth {C : Addr} {mt : Str} {t : TA} {fs : List (Str × T)} {rs : List Vl} (h : EE K m1 ta es r es1) (e : r.tr es1 = some (.ins C fs)) (hl : fs.lookup mt = none) (hs : EA K m2 t es1 rs es2) (hst : r.st m2 = true) : EA K (m1 || m2) (methA C mt ta t) es (r :: rs) es2 := fun B F H σ fps R Q k =>
  h B F H σ fps R _ fun v F1 H1 fps1 fp1 R1 g1 rv1 n1 => by
    obtain ⟨fq, q⟩ := rv1.rp R1 e
    cases q with
    | ins e1 e2 e3 =>
      refine ⟨_, _, _, rfl, e1, lookup_none e2 hl, ?_⟩
      exact hs B F1 H1 σ fps1 R1 _ fun vs F2 H2 fps2 fp2 R2 g2 rv2 n2 => by
        have rv1' := rv1.go R1 g2 hst
        refine k _ F2 H2 fps2 (fp1 ++ fp2) R2 (g1.trans g2) (.cons rv1' rv2 fun b hb hc => ?_) fun b hb => ?_
        · cases r with
          | o t =>
            obtain ⟨o, ho⟩ := rv1.1.ok b hb
            rcases n2 b hc with z | ⟨j, z⟩
            · rw [ho] at z
              cases z
            · exact (rv1.2.2 b hb).2.1 j z
          | q t => rw [rv1.1] at hb; cases hb
          | r i p => rw [rv1.1] at hb; cases hb
        · rcases List.mem_append.mp hb with z | z
          · exact n1 b z
          · exact n2.trans g1 b z
/-- how values come to arguments that are only read -/
inductive Bnd (es : Es) : List Vl → List Ag → Prop
  | nil : Bnd es [] []
  | d {x : PyData} {rs : List Vl} {as : List Ag} : Bnd es rs as → Bnd es (.o (.d x) :: rs) (.d x :: as)
  | s {ns : List Int} {rs : List Vl} {as : List Ag} : Bnd es rs as → Bnd es (.o (.scr ns) :: rs) (.s ns :: as)
  | q {r : Vl} {t : T} {rs : List Vl} {as : List Ag} : r.tr es = some t → Bnd es rs as → Bnd es (r :: rs) (.q t :: as)
theorem bnd_len {rs : List Vl} (b : Bnd es rs as) : ∀ {vs fp}, RVs K B F H σ fps vs rs fp → as.length = vs.length := by
  induction b with
  | nil => intro vs fp h; cases h; rfl
  | d _ ih => intro vs fp h; cases h with | cons _ h _ => exact congrArg (· + 1) (ih h)
  | s _ ih => intro vs fp h; cases h with | cons _ h _ => exact congrArg (· + 1) (ih h)
  | q _ _ ih => intro vs fp h; cases h with | cons _ h _ => exact congrArg (· + 1) (ih h)
theorem bnd_sl {rs : List Vl} (R0 : Rep K B F H σ es fps) (b : Bnd es rs as) : ∀ {vs fp}, RVs K B F H σ fps vs rs fp → ∀ i s, (slots vs as)[i]? = some s → SlOk K (fun b => ∃ o, H b = some o) F H (fun _ => []) i (vs.map some)[i]? s := by
  induction b with
  | nil =>
    intro vs fp h i s e
    cases h
    simp [slots] at e
  | d _ ih =>
    intro vs fp h i s e
    cases h with
    | cons h1 h2 _ =>
      cases i with
      | zero =>
        simp [slots] at e
        subst e
        exact ⟨_, rfl, (fun w z => nomatch z), .d h1.1.dinv⟩
      | succ i =>
        exact ih h2 i s (by simpa [slots] using e)
  | s _ ih =>
    intro vs fp h i s e
    cases h with
    | cons h1 h2 _ =>
      cases i with
      | zero =>
        simp [slots] at e
        subst e
        obtain ⟨c, e3, k3⟩ := h1.1.sinv
        subst e3
        exact ⟨_, rfl, (fun w z => nomatch z), .scr k3⟩
      | succ i =>
        exact ih h2 i s (by simpa [slots] using e)
  | q et _ ih =>
    intro vs fp h i s e
    cases h with
    | cons h1 h2 _ =>
      cases i with
      | zero =>
        simp [slots] at e
        subst e
        obtain ⟨fq, q⟩ := h1.rp R0 et
        exact ⟨_, fq, rfl, (fun w z => Option.some.inj z), q, fun b hb => q.ok b hb⟩
      | succ i =>
        exact ih h2 i s (by simpa [slots] using e)
theorem rep_args {rs : List Vl} (R0 : Rep K B F H σ es fps) (b : Bnd es rs as) {vs fp} (h : RVs K B F H σ fps vs rs fp) : Rep K (fun b => ∃ o, H b = some o) F H (vs.map some) (slots vs as) (fun _ => []) where
  ex := R0.ex
  len := by rw [slots_len (bnd_len b h), List.length_map]
  sl := fun i s e => bnd_sl R0 b h i s e
  no := fun _ _ => rfl
  nd := fun _ => List.nodup_nil
  dj := fun _ _ _ _ h => nomatch h
  fr := fun _ _ h => nomatch h
  bg := fun b hb => ⟨hb, fun _ h => nomatch h⟩
/-- a call that changes nothing that stands -/
theorem ee_callP {ta : TA} {rs : List Vl} (ha : EA K m ta es rs es1) (b : Bnd es1 rs as) (hR : R as (.ok as t)) : EE K m (tSpc (spD K R) E ta) es (.o t) es1 := fun B F H σ fps R0 Q k =>
  ha B F H σ fps R0 _ fun vs F1 H1 fps1 fp R1 g1 rv n => by
    refine ⟨as, .ok as t, _, F1, _, hR, bnd_len b rv, rep_args R1 b rv, fun v F2 H2 fps2 fp2 R2 g2 q1 q2 q3 n2 => ?_⟩
    have sH : Same H1 H2 := fun b o ho => g2.ou b o ho fun _ h => nomatch h
    have fn : ∀ b, F1 b = none → F2 b = none ∨ H1 b = none := fun b hb => (g2.fn b hb).imp id fun z => z.elim id fun ⟨_, y⟩ => nomatch y
    have nf : ∀ b ∈ fp2, H1 b = none := fun b hb => (n2 b hb).elim id fun ⟨_, y⟩ => nomatch y
    refine k v F2 H2 fps1 fp2 (R1.keep sH g2.ff R2.ex fn) ((g1.trans (Go.pure (m := false) sH g2.ff fn)).wk fun h => by rw [Bool.or_false] at h; exact h) ⟨q1, q2, fun b hb => ⟨(q3 b hb).1, R1.f_out (nf b hb), R1.b_out (nf b hb)⟩⟩ fun b hb => .inl (g1.th b (nf b hb))
/-- a call on data as it stands, whose value is flat -/
inductive BndS (es : Es) : List Vl → List Ag → Prop
  | nil : BndS es [] []
  | d {r : Vl} {t : T} {x : PyData} {rs : List Vl} {as : List Ag} : r.tr es = some t → t.toD = some x → BndS es rs as → BndS es (r :: rs) (.d x :: as)
  | q {r : Vl} {t : T} {rs : List Vl} {as : List Ag} : r.tr es = some t → BndS es rs as → BndS es (r :: rs) (.q t :: as)
theorem bnds_len {rs : List Vl} (b : BndS es rs as) : ∀ {vs fp}, RVs K B F H σ fps vs rs fp → as.length = vs.length := by
  induction b with
  | nil => intro vs fp h; cases h; rfl
  | d _ _ _ ih => intro vs fp h; cases h with | cons _ h _ => exact congrArg (· + 1) (ih h)
  | q _ _ ih => intro vs fp h; cases h with | cons _ h _ => exact congrArg (· + 1) (ih h)
theorem bnds_sl {rs : List Vl} (R0 : Rep K B F H σ es fps) (b : BndS es rs as) : ∀ {vs fp}, RVs K B F H σ fps vs rs fp → ∀ i s, (slots vs as)[i]? = some s → SlOk K (fun b => ∃ o, H b = some o) H H (fun _ => []) i (vs.map some)[i]? s := by
  induction b with
  | nil =>
    intro vs fp h i s e
    cases h
    simp [slots] at e
  | d et ed _ ih =>
    intro vs fp h i s e
    cases h with
    | cons h1 h2 _ =>
      cases i with
      | zero =>
        simp [slots] at e
        subst e
        exact ⟨_, rfl, (fun w z => nomatch z), .d (h1.dd R0 et ed)⟩
      | succ i =>
        exact ih h2 i s (by simpa [slots] using e)
  | q et _ ih =>
    intro vs fp h i s e
    cases h with
    | cons h1 h2 _ =>
      cases i with
      | zero =>
        simp [slots] at e
        subst e
        obtain ⟨fq, q⟩ := h1.rp R0 et
        exact ⟨_, fq, rfl, (fun w z => Option.some.inj z), q.mono R0.ex fun _ _ => rfl, fun b hb => q.ok b hb⟩
      | succ i =>
        exact ih h2 i s (by simpa [slots] using e)
mutual
def T.flat : T → Bool
  | .d x => flatD x
  | .lst ts => T.flats ts
  | _ => false
def T.flats : List T → Bool
  | [] => true
  | t :: ts => T.flat t && T.flats ts
end
theorem dd_flatF {F F' : Hp} (h : Dd F v x) (f : flatD x = true) : Dd F' v x := by
  cases h <;> first | exact .non | exact .bl _ | exact .int _ | exact .str _ | cases f
mutual
theorem Rp.flatF {F F' H : Hp} : ∀ {v : V} {t : T} {fp : List Addr}, Rp K F H v t fp → t.flat = true → Rp K F' H v t fp
  | _, _, _, .d h, f => .d (dd_flatF h (by unfold T.flat at f; exact f))
  | _, _, _, .lst h1 h2, f => .lst h1 (Rps.flatF h2 (by unfold T.flat at f; exact f))
  | _, _, _, .scr _, f => by unfold T.flat at f; cases f
  | _, _, _, .ins _ _ _, f => by unfold T.flat at f; cases f
  | _, _, _, .dT _ _, f => by unfold T.flat at f; cases f
  | _, _, _, .dK _ _, f => by unfold T.flat at f; cases f
theorem Rps.flatF {F F' H : Hp} : ∀ {vs : List V} {ts : List T} {fp : List Addr}, Rps K F H vs ts fp → T.flats ts = true → Rps K F' H vs ts fp
  | _, _, _, .nil, _ => .nil
  | _, _, _, .cons h1 h2, f => by
    unfold T.flats at f
    rw [Bool.and_eq_true] at f
    exact .cons (Rp.flatF h1 f.1) (Rps.flatF h2 f.2)
end
theorem ee_callS {ta : TA} {rs : List Vl} (ha : EA K m ta es rs es1) (b : BndS es1 rs as) (hR : R as (.ok as t)) (hf : t.flat = true) : EE K m (tSpc (spD K R) E ta) es (.o t) es1 := fun B F H σ fps R0 Q k =>
  ha B F H σ fps R0 _ fun vs F1 H1 fps1 fp R1 g1 rv n => by
    refine ⟨as, .ok as t, _, H1, fun _ => [], hR, bnds_len b rv, ⟨Same.refl H1, by rw [slots_len (bnds_len b rv), List.length_map], fun i s e => bnds_sl R1 b rv i s e, fun _ _ => rfl, fun _ => List.nodup_nil, (fun _ _ _ _ h => nomatch h), (fun _ _ h => nomatch h), fun b hb => ⟨hb, fun _ h => nomatch h⟩⟩, fun v F2 H2 fps2 fp2 R2 g2 q1 q2 q3 n2 => ?_⟩
    have sH : Same H1 H2 := fun b o ho => g2.ou b o ho fun _ h => nomatch h
    have nf : ∀ b ∈ fp2, H1 b = none := fun b hb => (n2 b hb).elim id fun ⟨_, y⟩ => nomatch y
    have fn : ∀ b, F1 b = none → F1 b = none ∨ H1 b = none := fun b hb => .inl hb
    refine k v F1 H2 fps1 fp2 (R1.keep sH (Same.refl F1) (R1.ex.trans sH) fn) ((g1.trans (Go.pure (m := false) sH (Same.refl F1) fn)).wk fun h => by rw [Bool.or_false] at h; exact h) ⟨q1.flatF hf, q2, fun b hb => ⟨R1.f_none (nf b hb), R1.f_out (nf b hb), R1.b_out (nf b hb)⟩⟩ fun b hb => .inl (g1.th b (nf b hb))
end
end DW

namespace DW
open PySem PySem.Spec PyProof.Rows L2

def Vl.refs : Vl → List Nat
  | .r i _ => [i]
  | _ => []
/-- arguments that are only read, none of the slot i -/
inductive BN (es : Es) (i : Nat) : List Vl → List Ag → Prop
  | nil : BN es i [] []
  | d {x : PyData} {rs : List Vl} {as : List Ag} : BN es i rs as → BN es i (.o (.d x) :: rs) (.d x :: as)
  | s {ns : List Int} {rs : List Vl} {as : List Ag} : BN es i rs as → BN es i (.o (.scr ns) :: rs) (.s ns :: as)
  | q {r : Vl} {t : T} {rs : List Vl} {as : List Ag} : r.tr es = some t → i ∉ r.refs → BN es i rs as → BN es i (r :: rs) (.q t :: as)
/-- one argument is changed: what stands in the slot i at p, the k-th -/
inductive B1 (es : Es) (i : Nat) (p : List Stp) (t t' : T) : List Vl → List Ag → List Ag → Nat → Prop
  | here {rs : List Vl} {as : List Ag} : (Vl.r i p).tr es = some t → BN es i rs as → B1 es i p t t' (.r i p :: rs) (.m t :: as) (.m t' :: as) 0
  | d {x : PyData} {rs : List Vl} {as as' : List Ag} {k : Nat} : B1 es i p t t' rs as as' k → B1 es i p t t' (.o (.d x) :: rs) (.d x :: as) (.d x :: as') (k + 1)
  | s {ns : List Int} {rs : List Vl} {as as' : List Ag} {k : Nat} : B1 es i p t t' rs as as' k → B1 es i p t t' (.o (.scr ns) :: rs) (.s ns :: as) (.s ns :: as') (k + 1)
  | q {r : Vl} {u : T} {rs : List Vl} {as as' : List Ag} {k : Nat} : r.tr es = some u → i ∉ r.refs → B1 es i p t t' rs as as' k → B1 es i p t t' (r :: rs) (.q u :: as) (.q u :: as') (k + 1)
section
variable {K : PySem.W.Frag} {B : Addr → Prop} {m m1 m2 m3 : Bool} {F H F1 H1 F2 H2 F' H' : Hp} {fps fps1 fps' : Fps} {σ σ' : L2.St} {es es1 es2 es3 es' : Es} {v : V} {fp fq : List Addr} {r r1 r2 r3 : Vl} {t t' t1 t2 : T} {x y : PyData} {te ta tb tc to ti : TE} {tt tu : TT} {j : Int} {xs ys : List PyData} {z w : Str} {a i k : Nat} {p : List Stp} {ts : List T} {W : WX} {tsa tsb : TS} {D : Dn} {vs : List V} {as as' : List Ag} {R : Rl} {E : XK} {rs : List Vl}
def ArgOk (K : PySem.W.Frag) (F H : Hp) (fps : Fps) (i : Nat) (v : V) : Ag → Prop
  | .d x => Dd F v x
  | .s ns => ∃ c, v = .ref c ∧ SqL K F c (ns.map V.int)
  | .q t => ∃ fq, Rp K F H v t fq ∧ ∀ b ∈ fq, b ∉ fps i
  | .m _ => False
theorem q_arg {u : T} (R0 : Rep K B F H σ es fps) (h : RV K B F H σ fps v r fp) (e : r.tr es = some u) (hi : i ∉ r.refs) : ∃ fq, Rp K F H v u fq ∧ ∀ b ∈ fq, b ∉ fps i := by
  cases r with
  | o t0 =>
    have e' := Option.some.inj e
    subst e'
    exact ⟨fp, h.1, fun b hb => (h.2.2 b hb).2.1 i⟩
  | q t0 =>
    have e' := Option.some.inj e
    subst e'
    obtain ⟨_, fq, h1, h2⟩ := h
    exact ⟨fq, h1, fun b hb => (R0.bg b (h2 b hb)).2 i⟩
  | r c q =>
    obtain ⟨an, t0, v0, k1, k2, k3, k4⟩ := h.ref R0 e
    obtain ⟨u1, u2, u3, u4⟩ := R0.sl c _ k1
    rw [k2] at u2
    cases u2
    obtain ⟨fq, q1, q2⟩ := u4.loc k3 k4
    exact ⟨fq, q1, fun b hb => R0.dj c i (fun z => hi (by rw [← z]; exact List.mem_cons_self)) b (q2 b hb)⟩
theorem bn_sl (R0 : Rep K B F H σ es fps) (b : BN es i rs as) : ∀ {vs fp}, RVs K B F H σ fps vs rs fp → as.length = vs.length ∧ ∀ (j : Nat) (v : V) (a : Ag), vs[j]? = some v → as[j]? = some a → ArgOk K F H fps i v a := by
  induction b with
  | nil =>
    intro vs fp h
    cases h
    exact ⟨rfl, fun j v a h _ => by simp at h⟩
  | d _ ih =>
    intro vs fp h
    cases h with
    | cons h1 h2 _ =>
      obtain ⟨q1, q2⟩ := ih h2
      refine ⟨congrArg (· + 1) q1, fun j v a e1 e2 => ?_⟩
      cases j with
      | zero =>
        simp at e1 e2
        subst e1 e2
        exact h1.1.dinv
      | succ j => exact q2 j v a (by simpa using e1) (by simpa using e2)
  | s _ ih =>
    intro vs fp h
    cases h with
    | cons h1 h2 _ =>
      obtain ⟨q1, q2⟩ := ih h2
      refine ⟨congrArg (· + 1) q1, fun j v a e1 e2 => ?_⟩
      cases j with
      | zero =>
        simp at e1 e2
        subst e1 e2
        exact h1.1.sinv
      | succ j => exact q2 j v a (by simpa using e1) (by simpa using e2)
  | q et hi _ ih =>
    intro vs fp h
    cases h with
    | cons h1 h2 _ =>
      obtain ⟨q1, q2⟩ := ih h2
      refine ⟨congrArg (· + 1) q1, fun j v a e1 e2 => ?_⟩
      cases j with
      | zero =>
        simp at e1 e2
        subst e1 e2
        exact q_arg R0 h1 et hi
      | succ j => exact q2 j v a (by simpa using e1) (by simpa using e2)
theorem b1_sl (R0 : Rep K B F H σ es fps) (b : B1 es i p t t' rs as as' k) : ∀ {vs fp}, RVs K B F H σ fps vs rs fp → as.length = vs.length ∧ as'.length = vs.length ∧ (∃ v fq, vs[k]? = some v ∧ as[k]? = some (.m t) ∧ as'[k]? = some (.m t') ∧ RV K B F H σ fps v (.r i p) fq ∧ (Vl.r i p).tr es = some t) ∧
    ∀ (j : Nat) (v : V) (a : Ag), j ≠ k → vs[j]? = some v → as[j]? = some a → as'[j]? = some a ∧ ArgOk K F H fps i v a := by
  induction b with
  | here et bn =>
    intro vs fp h
    cases h with
    | cons h1 h2 _ =>
      obtain ⟨q1, q2⟩ := bn_sl R0 bn h2
      refine ⟨congrArg (· + 1) q1, congrArg (· + 1) q1, ⟨_, _, rfl, rfl, rfl, h1, et⟩, fun j v a hj e1 e2 => ?_⟩
      cases j with
      | zero => exact absurd rfl hj
      | succ j => exact ⟨by simpa using e2, q2 j v a (by simpa using e1) (by simpa using e2)⟩
  | d _ ih =>
    intro vs fp h
    cases h with
    | cons h1 h2 _ =>
      obtain ⟨q1, q2, ⟨v0, f0, k1, k2, k3, k4⟩, q3⟩ := ih h2
      refine ⟨congrArg (· + 1) q1, congrArg (· + 1) q2, ⟨v0, f0, by simpa using k1, by simpa using k2, by simpa using k3, k4⟩, fun j v a hj e1 e2 => ?_⟩
      cases j with
      | zero =>
        simp at e1 e2
        subst e1 e2
        exact ⟨rfl, h1.1.dinv⟩
      | succ j =>
        obtain ⟨c1, c2⟩ := q3 j v a (fun z => hj (by rw [z])) (by simpa using e1) (by simpa using e2)
        exact ⟨by simpa using c1, c2⟩
  | s _ ih =>
    intro vs fp h
    cases h with
    | cons h1 h2 _ =>
      obtain ⟨q1, q2, ⟨v0, f0, k1, k2, k3, k4⟩, q3⟩ := ih h2
      refine ⟨congrArg (· + 1) q1, congrArg (· + 1) q2, ⟨v0, f0, by simpa using k1, by simpa using k2, by simpa using k3, k4⟩, fun j v a hj e1 e2 => ?_⟩
      cases j with
      | zero =>
        simp at e1 e2
        subst e1 e2
        exact ⟨rfl, h1.1.sinv⟩
      | succ j =>
        obtain ⟨c1, c2⟩ := q3 j v a (fun z => hj (by rw [z])) (by simpa using e1) (by simpa using e2)
        exact ⟨by simpa using c1, c2⟩
  | q et hi _ ih =>
    intro vs fp h
    cases h with
    | cons h1 h2 _ =>
      obtain ⟨q1, q2, ⟨v0, f0, k1, k2, k3, k4⟩, q3⟩ := ih h2
      refine ⟨congrArg (· + 1) q1, congrArg (· + 1) q2, ⟨v0, f0, by simpa using k1, by simpa using k2, by simpa using k3, k4⟩, fun j v a hj e1 e2 => ?_⟩
      cases j with
      | zero =>
        simp at e1 e2
        subst e1 e2
        exact ⟨rfl, q_arg R0 h1 et hi⟩
      | succ j =>
        obtain ⟨c1, c2⟩ := q3 j v a (fun z => hj (by rw [z])) (by simpa using e1) (by simpa using e2)
        exact ⟨by simpa using c1, c2⟩
def fp1 (k : Nat) (fq : List Addr) : Fps := fun j => if j = k then fq else []
theorem fp1_k : fp1 k fq k = fq := if_pos rfl
theorem fp1_ne {j : Nat} (h : ¬ j = k) : fp1 k fq j = [] := if_neg h
theorem fp1_in {j : Nat} {b : Addr} (h : b ∈ fp1 k fq j) : b ∈ fq ∧ j = k := by
  by_cases c : j = k
  · subst c
    rw [fp1_k] at h
    exact ⟨h, rfl⟩
  · rw [fp1_ne c] at h
    cases h
/-- the callee's view, where the k-th argument's nodes are fq -/
theorem rep_view (R0 : Rep K B F H σ es fps) (hl : as.length = vs.length) {v0 : V} (h0 : vs[k]? = some v0) (ha : as[k]? = some (.m t)) (hr : Rp K F H v0 t fq) (nd : fq.Nodup) (hf : ∀ b ∈ fq, F b = none) (sub : ∀ b ∈ fq, b ∈ fps i)
    (h : ∀ (j : Nat) (v : V) (a : Ag), j ≠ k → vs[j]? = some v → as[j]? = some a → ArgOk K F H fps i v a) : Rep K (fun b => (∃ o, H b = some o) ∧ b ∉ fq) F H (vs.map some) (slots vs as) (fp1 k fq) where
  ex := R0.ex
  len := by rw [slots_len hl, List.length_map]
  sl := fun j s e => by
    obtain ⟨v, c, h1, h2, rfl⟩ := slots_get e
    have hv : (vs.map some)[j]? = some (some v) := by rw [List.getElem?_map, h1]; rfl
    by_cases cj : j = k
    · subst cj
      rw [h0] at h1
      cases h1
      rw [ha] at h2
      cases h2
      refine ⟨v0, hv, fun w z => Option.some.inj z, ?_⟩
      rw [fp1_k]
      exact hr
    · have q := h j v c cj h1 h2
      cases c with
      | d x =>
        refine ⟨v, hv, (fun w z => nomatch z), ?_⟩
        rw [fp1_ne cj]
        exact .d q
      | s ns =>
        obtain ⟨u, e3, k3⟩ := q
        subst e3
        refine ⟨_, hv, (fun w z => nomatch z), ?_⟩
        rw [fp1_ne cj]
        exact .scr k3
      | q u =>
        obtain ⟨f, k1, k2⟩ := q
        exact ⟨v, f, hv, (fun w z => Option.some.inj z), k1, fun b hb => ⟨k1.ok b hb, fun z => k2 b hb (sub b z)⟩⟩
      | m u => exact q.elim
  no := fun j e => by
    by_cases cj : j = k
    · exfalso
      subst cj
      exact e (some v0) t (slots_at h0 ha)
    · exact fp1_ne cj
  nd := fun j => by
    by_cases c : j = k
    · subst c
      rw [fp1_k]
      exact nd
    · rw [fp1_ne c]
      exact List.nodup_nil
  dj := fun j l e b hb hc => e ((fp1_in hb).2.trans (fp1_in hc).2.symm)
  fr := fun j b hb => hf b (fp1_in hb).1
  bg := fun b hb => ⟨hb.1, fun j hj => hb.2 (fp1_in hj).1⟩
/-- a call that changes one argument -/
theorem ee_callM {ta : TA} (ha : EA K m ta es rs es1) (bd : B1 es1 i p t1 t2 rs as as' k) (hR : R as (.ok as' t)) : EE K true (tSpc (spD K R) E ta) es (.o t) (upd1 i p t2 es1) := fun B F H σ fps R0 Q kk =>
  ha B F H σ fps R0 _ fun vs F1 H1 fps1 fp R1 g1 rv n => by
    obtain ⟨l1, l2, ⟨v0, f0, h1, h2, h3, h4, h5⟩, h6⟩ := b1_sl R1 bd rv
    obtain ⟨an, t0, u0, k1, k2, k3, k4⟩ := h4.ref R1 h5
    obtain ⟨fq, q1, q2, q3, bk⟩ := R1.put k1 k2 k3 k4
    refine ⟨as, .ok as' t, _, F1, _, hR, l1, rep_view R1 l1 h1 h2 q1 q2 (fun b hb => R1.fr i b (q3 b hb)) q3 fun j v a hj e1 e2 => (h6 j v a hj e1 e2).2, fun v F2 H2 fps2 fp2 R2 g2 w1 w2 w3 n2 => ?_⟩
    have inq : ∀ {b : Addr} {j : Nat}, b ∈ fp1 k fq j → b ∈ fq := fun {b j} hb => (fp1_in hb).1
    obtain ⟨u, u1, u2, u3⟩ := R2.get (slots_at h1 h3)
    have eu : u = v0 := u2 v0 rfl
    subst eu
    have keep : ∀ b o, H1 b = some o → b ∉ fq → H2 b = some o := fun b o ho hn => g2.ou b o ho fun j hj => hn (inq hj)
    have f2q : ∀ b ∈ fps2 k, b ∈ fq ∨ H1 b = none := fun b hb => (g2.fp k b hb).elim .inr fun ⟨j, y⟩ => .inl (inq y)
    obtain ⟨fr, c1, c2⟩ := bk F2 H2 t2 (fps2 k) g2.ff R2.ex (fun j b hb hn => by
      obtain ⟨o, ho⟩ := R1.there hb
      rcases g2.fn b (R1.fr j b hb) with y | y | ⟨l, y⟩
      · exact y
      · rw [ho] at y
        cases y
      · exact absurd (inq y) hn) keep u3 (R2.nd k) (fun b hb => (f2q b hb).imp id fun y => ⟨R1.f_out y, R1.b_out y⟩) (fun b hb => R2.fr k b hb)
    have np : ∀ b ∈ fp2, b ∈ fq ∨ H1 b = none := fun b hb => (n2 b hb).elim .inr fun ⟨j, y⟩ => .inl (inq y)
    have gg : Go true F1 H1 fps1 F2 H2 (pf fps1 i fr) := ⟨g2.ff, fun b hb => (g2.fn b hb).imp id fun y => y.imp id fun ⟨j, y⟩ => ⟨i, q3 b (inq y)⟩, fun b o ho hn => keep b o ho fun z => hn i (q3 b z), fun j b hb => by
      by_cases cj : j = i
      · subst cj
        rw [pf_i] at hb
        rcases c2 b hb with y | y
        · exact .inr ⟨j, y.1⟩
        · rcases f2q b y with y' | y'
          · exact .inr ⟨j, q3 b y'⟩
          · exact .inl y'
      · rw [pf_ne cj] at hb
        exact .inr ⟨j, hb⟩, g2.th, fun e => nomatch e⟩
    refine kk v F2 H2 _ fp2 c1 ((g1.trans gg).wk fun _ => rfl) ⟨w1, w2, fun b hb => ⟨(w3 b hb).1, fun j hj => ?_, fun hB => ?_⟩⟩ fun b hb => ?_
    · by_cases cj : j = i
      · subst cj
        rw [pf_i] at hj
        rcases c2 b hj with y | y
        · rcases np b hb with y' | y'
          · exact y.2 y'
          · obtain ⟨o, ho⟩ := R1.there y.1
            rw [ho] at y'
            cases y'
        · exact (w3 b hb).2.1 k y
      · rw [pf_ne cj] at hj
        rcases np b hb with y' | y'
        · exact R1.dj i j (Ne.symm cj) b (q3 b y') hj
        · obtain ⟨o, ho⟩ := R1.there hj
          rw [ho] at y'
          cases y'
    · rcases np b hb with y' | y'
      · exact (R1.bg b hB).2 i (q3 b y')
      · exact R1.b_out y' hB
    · rcases np b hb with y' | y'
      · exact g1.fp i b (q3 b y')
      · exact .inl (g1.th b y')

/-! ### a new instance -/
theorem bnd_nm (b : Bnd es rs as) : ∀ (j : Nat) (t : T), as[j]? ≠ some (Ag.m t) := by
  induction b with
  | nil => intro j t z; simp at z
  | d _ ih => intro j t z; cases j with
    | zero => simp at z
    | succ j => exact ih j t (by simpa using z)
  | s _ ih => intro j t z; cases j with
    | zero => simp at z
    | succ j => exact ih j t (by simpa using z)
  | q _ _ ih => intro j t z; cases j with
    | zero => simp at z
    | succ j => exact ih j t (by simpa using z)
def tMk (C : Addr) (sp : Sp) (E : XK) (t : TA) : TE := fun σ H Q => t σ H fun vs H1 => ∀ x dx, H1 x = none → H1 dx = none → dx ≠ x →
  sp (.ref x :: vs) (upd (upd H1 dx (.own x)) x (.ins C dx [])) (fun v H2 => v = .non ∧ Q (.ref x) H2) E
theorem make_eq {sp : Sp} {C : Addr} {tx : TA} : tMake C sp [] E tx = tMk C sp E tx := by
  funext σ H Q
  show (tx σ H fun vs H1 => ∀ x dx, H1 x = none → H1 dx = none → dx ≠ x → sp (.ref x :: (vs ++ [])) (upd (upd H1 dx (.own x)) x (.ins C dx [])) (fun v H2 => v = .non ∧ Q (.ref x) H2) E) = _
  simp only [List.append_nil]
  rfl
theorem rep_x {C dx x : Addr} (ex : Same F H) (h : H x = some (.ins C dx [])) (hf : F x = none) : Rep K (fun _ => False) F H [some (.ref x)] [.o none (.ins C [])] (fp1 0 [x]) where
  ex := ex
  len := rfl
  sl := fun j s e => by
    cases j with
    | zero =>
      simp at e
      subst e
      exact ⟨.ref x, rfl, (fun w z => nomatch z), .ins (fp := []) h rfl .nil⟩
    | succ j => simp at e
  no := fun j e => by
    cases j with
    | zero => exact absurd rfl (e none (.ins C []))
    | succ j => rfl
  nd := fun j => by
    cases j with
    | zero => rw [fp1_k]; simp
    | succ j => exact List.nodup_nil
  dj := fun j l e b hb hc => e ((fp1_in hb).2.trans (fp1_in hc).2.symm)
  fr := fun j b hb => by
    rw [List.mem_singleton.mp (fp1_in hb).1]
    exact hf
  bg := fun b hb => hb.elim
theorem ee_make {C : Addr} {tx : TA} {fs : List (Str × T)} (ha : EA K m tx es rs es1) (b : Bnd es1 rs as) (hR : R (.m (.ins C []) :: as) (.ok (.m (.ins C fs) :: as) (.d .none))) : EE K m (tMk C (spD K R) E tx) es (.o (.ins C fs)) es1 := fun B F H σ fps R0 Q kk =>
  ha B F H σ fps R0 _ fun vs F1 H1 fps1 fp R1 g1 rv n => fun x dx hx hdx hne => by
    have e1 : (upd H1 dx (.own x)) x = none := by rw [upd_ne (Ne.symm hne)]; exact hx
    have R2 : Rep K B F1 (upd (upd H1 dx (.own x)) x (.ins C dx [])) σ es1 fps1 := (R1.alloc hdx).alloc e1
    have s2 : Same H1 (upd (upd H1 dx (.own x)) x (.ins C dx [])) := (same_new hdx).trans (same_new e1)
    have gA : Go false F1 H1 fps1 F1 (upd (upd H1 dx (.own x)) x (.ins C dx [])) fps1 := ((Go.alloc (m := false) hdx).trans (Go.alloc (m := false) e1)).wk id
    have hl := bnd_len b rv
    have args : ∀ (j : Nat) (v : V) (a : Ag), vs[j]? = some v → as[j]? = some a → ArgOk K F1 H1 (fun _ => []) 0 v a := fun j v a h1 h2 => by
      have q := bnd_sl R1 b rv j _ (slots_at h1 h2)
      have hv : (vs.map some)[j]? = some (some v) := by rw [List.getElem?_map, h1]; rfl
      cases a with
      | d y =>
        obtain ⟨u, u1, _, u3⟩ := q
        have e2 := Option.some.inj (Option.some.inj (hv.symm.trans u1))
        subst e2
        exact u3.dinv
      | s ns =>
        obtain ⟨u, u1, _, u3⟩ := q
        have e2 := Option.some.inj (Option.some.inj (hv.symm.trans u1))
        subst e2
        exact u3.sinv
      | q t =>
        obtain ⟨u, fq, u1, _, u3, _⟩ := q
        have e2 := Option.some.inj (Option.some.inj (hv.symm.trans u1))
        subst e2
        exact ⟨fq, u3, fun _ _ h => nomatch h⟩
      | m t => exact absurd h2 (bnd_nm b j t)
    have view : Rep K (fun b => (∃ o, (upd (upd H1 dx (.own x)) x (.ins C dx [])) b = some o) ∧ b ∉ [x]) F1 (upd (upd H1 dx (.own x)) x (.ins C dx [])) ((V.ref x :: vs).map some) (slots (V.ref x :: vs) (.m (.ins C []) :: as)) (fp1 0 [x]) :=
      rep_view (i := 0) (fps := fun j => if j = 0 then [x] else []) (σ := [some (.ref x)]) (es := [.o none (.ins C [])]) (B := fun _ => False)
        (rep_x (R1.ex.trans s2) upd_same (R1.f_none hx))
        (congrArg (· + 1) hl) rfl rfl (.ins (fp := []) upd_same rfl .nil) (by simp) (fun b hb => by
          rw [List.mem_singleton.mp hb]
          exact R1.f_none hx) (fun b hb => hb) fun j v a hj e2 e3 => by
        cases j with
        | zero => exact absurd rfl hj
        | succ j =>
          have q := args j v a (by simpa using e2) (by simpa using e3)
          cases a with
          | d y => exact q
          | s ns => exact q
          | q t =>
            obtain ⟨fq, q, _⟩ := q
            refine ⟨fq, q.mono (Same.refl F1) fun b hb => ?_, fun b hb => ?_⟩
            · obtain ⟨o, ho⟩ := q.ok b hb
              exact (s2 b o ho).trans ho.symm
            · obtain ⟨o, ho⟩ := q.ok b hb
              show b ∉ [x]
              intro z
              rw [List.mem_singleton.mp z, hx] at ho
              cases ho
          | m t => exact q
    refine ⟨_, .ok _ _, _, F1, _, hR, congrArg (· + 1) hl, view, fun v F2 H2 fps2 fp2 R3 g2 w1 w2 w3 n2 => ?_⟩
    have ev : v = .non := by
      have := w1.dinv
      cases this
      rfl
    refine ⟨ev, ?_⟩
    obtain ⟨u, u1, u2, u3⟩ := R3.get (i := 0) (a := some (.ref x)) (t := .ins C fs) rfl
    have eu := u2 (.ref x) rfl
    subst eu
    have inx : ∀ {b : Addr} {j : Nat}, b ∈ fp1 0 [x] j → b = x := fun {b j} hb => List.mem_singleton.mp (fp1_in hb).1
    have keep : ∀ b o, H1 b = some o → H2 b = some o := fun b o ho => g2.ou b o (s2 b o ho) fun j hj => by
      rw [inx hj, hx] at ho
      cases ho
    have th : ∀ b, (upd (upd H1 dx (.own x)) x (.ins C dx [])) b = none → H1 b = none := gA.th
    have f2 : ∀ b ∈ fps2 0, H1 b = none := fun b hb => (g2.fp 0 b hb).elim (th b) fun ⟨j, y⟩ => by
      rw [inx y]
      exact hx
    have fn : ∀ b, F1 b = none → F2 b = none ∨ H1 b = none := fun b hb => (g2.fn b hb).imp id fun y => y.elim (th b) fun ⟨j, y⟩ => by
      rw [inx y]
      exact hx
    refine kk (.ref x) F2 H2 fps1 (fps2 0) (R1.keep keep g2.ff R3.ex fn) ((g1.trans (Go.pure (m := false) keep g2.ff fn)).wk fun h => by rw [Bool.or_false] at h; exact h) ⟨u3, R3.nd 0, fun b hb => ⟨R3.fr 0 b hb, R1.f_out (f2 b hb), R1.b_out (f2 b hb)⟩⟩ fun b hb => .inl (g1.th b (f2 b hb))
/-- a slot's thing is frozen -/
theorem ss_frz {a : Option V} {ts : TS} (e : es[i]? = some (.o a t)) (q : t.toD = some x) (h : SS K W ts (es.set i (.o a (.d x))) D) : SS K W ts es D := fun B F H σ fps R E w => by
  obtain ⟨v, h1, h2, h3⟩ := R.sl i _ e
  obtain ⟨R2, rv2⟩ := R.move (s0 := .n) e h1
  obtain ⟨R3, rv3, fn, sF⟩ := RV.freeze R2 rv2 q
  have hl : i < es.length := (List.getElem?_eq_some_iff.mp e).1
  have hl2 : i < (es.set i .n).length := by rw [List.length_set]; exact hl
  have R4 : Rep K B (frz F H (fps i)) H σ ((es.set i .n).set i (.o a (.d x))) (pf (pf fps i []) i []) := by
    refine R3.one hl2 rfl (fun _ _ => rfl) (Same.refl _) R3.ex (fun j _ b hb => R3.fr j b hb) (fun b o e _ => e) ?_ (fun z => absurd rfl (z a (.d x))) List.nodup_nil (fun _ h => nomatch h) fun _ h => nomatch h
    refine ⟨v, h1, h2, ?_⟩
    rw [pf_i]
    exact .d rv3.1.dinv
  rw [List.set_set] at R4
  refine h B _ H σ _ R4 E (w.go (m := true) (F1 := frz F H (fps i)) (H1 := H) (fps1 := pf (pf fps i []) i []) ⟨sF, fun b hb => (fn b hb).imp id fun y => .inr ⟨i, y⟩, fun b o ho _ => ho, fun j b hb => ?_, fun b hb => hb, fun e => nomatch e⟩)
  by_cases c : j = i
  · subst c
    rw [pf_i] at hb
    cases hb
  · rw [pf_ne c, pf_ne c] at hb
    exact .inr ⟨j, hb⟩
end
end DW

namespace DW
open PySem PySem.Spec PyProof.Rows L2

abbrev FnP (K : PySem.W.Frag) (x q : Str) (st : Stmt) (f : Addr) (fd : FuncData) : Prop := FunD K x q (defArgs st) (defBody st) (defScope st) [] [] f fd
/-- a def as its callers take it -/
structure Cl (P : Program) (w : World) (K : PySem.W.Frag) (mg : Str → Option Value) (base : Heap) (CX : CXT) (x : Str) (lv : Nat) (ps : List Str) (R : Rl) (f : Addr) (fd : FuncData) : Prop where
  G : FnOk P w K mg base CX lv f fd ps (spD K R)
  g : mg x = some (.ref f)
  kp : PySem.W.keepIn K (.ref f) = true
  b : Binds K fd ps []
/-- .. a method -/
structure Cm (P : Program) (w : World) (K : PySem.W.Frag) (mg : Str → Option Value) (base : Heap) (CX : CXT) (C : Addr) (m : Str) (lv : Nat) (ps : List Str) (R : Rl) (f : Addr) (fd : FuncData) : Prop where
  G : FnOk P w K mg base CX lv f fd ps (spD K R)
  M : Meth K C m f
  b : Binds K fd ps []
/-- the built-in names -/
structure Bt (mg : Str → Option Value) : Prop where
  len : mg "len" = none
  int : mg "int" = none
  list : mg "list" = none
  tuple : mg "tuple" = none
  range : mg "range" = none
  isinstance : mg "isinstance" = none
  bool : mg "bool" = none
  str : mg "str" = none
  min : mg "min" = none
  max : mg "max" = none
  zip : mg "zip" = none
  enumerate : mg "enumerate" = none
  sorted : mg "sorted" = none
  sum : mg "sum" = none
  ord : mg "ord" = none
  all : mg "all" = none
def btFa : List He.Fa := [.free "len", .free "int", .free "list", .free "tuple", .free "range", .free "isinstance", .free "bool", .free "str", .free "min", .free "max", .free "zip", .free "enumerate", .free "sorted", .free "sum", .free "ord", .free "all"]
theorem bt_of {K : PySem.W.Frag} {h : Heap} {mg : Str → Option Value} {fa : List He.Fa} {fn : List He.DefD} (X : K.In h) (G : h.Ns mainGlobals mg) (c : He.SaysD (btFa ++ fa) fn K) : Bt mg :=
  ⟨He.free_ok X G (c.fact 0), He.free_ok X G (c.fact 1), He.free_ok X G (c.fact 2), He.free_ok X G (c.fact 3), He.free_ok X G (c.fact 4), He.free_ok X G (c.fact 5), He.free_ok X G (c.fact 6), He.free_ok X G (c.fact 7), He.free_ok X G (c.fact 8), He.free_ok X G (c.fact 9), He.free_ok X G (c.fact 10), He.free_ok X G (c.fact 11), He.free_ok X G (c.fact 12), He.free_ok X G (c.fact 13), He.free_ok X G (c.fact 14), He.free_ok X G (c.fact 15)⟩
section
variable {X : Cx} {CX : CXT} {k lv : Nat} {f C : Addr} {fd : FuncData} {ps : List Str} {R : Rl} {E : XK} {x m : Str} {p pos apos : Pos} {e o : Expr} {es : List Expr} {ta : TE} {t : TA}
theorem dpe_call (c : Cl X.prog X.w X.K X.mg X.base CX x lv ps R f fd) (hr : Room lv X.A) (hg : Gl X x) (hx : Passes CX X E)
    (ha : PA X (e :: es) t) (hdb : (x == ("__debug__" : Str)) = false := by decide) (he : starEach (e :: es) X.env = (false, eval e X.env) :: starEach es X.env := by rfl) (hpl : (backTo pos (starEach es X.env)).any (·.1) = false := by rfl) :
    PE X (.Call (.Name x p) (e :: es) [] pos) (tSpc (spD X.K R) E t) := by
  rw [← call_eq]
  exact pe_call c.G hr hg c.g c.kp c.b .nil hx ha hdb he hpl
theorem dpe_call0 (c : Cl X.prog X.w X.K X.mg X.base CX x lv ps R f fd) (hr : Room lv X.A) (hg : Gl X x) (hx : Passes CX X E)
    (hdb : (x == ("__debug__" : Str)) = false := by decide) : PE X (.Call (.Name x p) [] [] pos) (tSpc (spD X.K R) E tNil) := by
  rw [← call_eq]
  exact pe_call0 c.G hr hg c.g c.kp c.b .nil hx hdb
theorem dpe_meth {pl : Sem Bool} (he : PE X o ta) (cl : Cls X.K C) (c : Cm X.prog X.w X.K X.mg X.base CX C m lv ps R f fd) (hr : Room lv X.A) (hx : Passes CX X E) (ha : PA X (e :: es) t)
    (hst : starEach (e :: es) X.env = (false, eval e X.env) :: starEach es X.env := by rfl) (hpl : (backTo pos (starEach es X.env)).any (·.1) = false := by rfl)
    (ht : eval (.Call (.Attribute o m apos) (e :: es) [] pos) X.env = (do
      let ov ← eval o X.env
      standAt apos.atName
      let (f, first) ← holding [ov] (getMethod ov m pl)
      callWith pos f first (backTo pos (starEach (e :: es) X.env)) (backToKw pos (keywordEach [] X.env))) := by rfl) :
    PE X (.Call (.Attribute o m apos) (e :: es) [] pos) (tSpc (spD X.K R) E (methA C m ta t)) := by
  rw [← meth_eq]
  exact pe_meth he cl c.M c.G hr c.b .nil hx ha hst hpl ht
theorem dpe_meth0 {pl : Sem Bool} (he : PE X o ta) (cl : Cls X.K C) (c : Cm X.prog X.w X.K X.mg X.base CX C m lv ps R f fd) (hr : Room lv X.A) (hx : Passes CX X E)
    (ht : eval (.Call (.Attribute o m apos) [] [] pos) X.env = (do
      let ov ← eval o X.env
      standAt apos.atName
      let (f, first) ← holding [ov] (getMethod ov m pl)
      callWith pos f first (backTo pos (starEach [] X.env)) (backToKw pos (keywordEach [] X.env))) := by rfl) :
    PE X (.Call (.Attribute o m apos) [] [] pos) (tSpc (spD X.K R) E (methA C m ta tNil)) := by
  rw [← meth_eq]
  exact pe_meth0 he cl c.M c.G hr c.b .nil hx ht
/-- a class as it is made -/
structure Cc (P : Program) (w : World) (K : PySem.W.Frag) (mg : Str → Option Value) (base : Heap) (CX : CXT) (x : Str) (C : Addr) (lv : Nat) (ps : List Str) (R : Rl) (f : Addr) (fd : FuncData) : Prop where
  G : FnOk P w K mg base CX lv f fd ps (spD K R)
  M : Mk K C f
  g : mg x = some (.ref C)
  b : Binds K fd ps []
theorem dpe_make (c : Cc X.prog X.w X.K X.mg X.base CX x C lv ps R f fd) (hr : Room (lv + 1) X.A) (hg : Gl X x) (hx : Passes CX X E)
    (ha : PA X (e :: es) t) (hdb : (x == ("__debug__" : Str)) = false := by decide) (he : starEach (e :: es) X.env = (false, eval e X.env) :: starEach es X.env := by rfl) (hpl : (backTo pos (starEach es X.env)).any (·.1) = false := by rfl) :
    PE X (.Call (.Name x p) (e :: es) [] pos) (tMk C (spD X.K R) E t) := by
  rw [← make_eq]
  exact pe_make c.M c.G hr hg c.g c.b .nil hx ha hdb he hpl
theorem dpe_make0 (c : Cc X.prog X.w X.K X.mg X.base CX x C lv ps R f fd) (hr : Room (lv + 1) X.A) (hg : Gl X x) (hx : Passes CX X E)
    (hdb : (x == ("__debug__" : Str)) = false := by decide) : PE X (.Call (.Name x p) [] [] pos) (tMk C (spD X.K R) E tNil) := by
  rw [← make_eq]
  exact pe_make0 c.M c.G hr hg c.g c.b .nil hx hdb
/-- xs[i], for xs[i] op= e -/
theorem get_list : PGet X (rIxL X.K) := fun pins s σ H o i ov iv Q I ro ri h => by
  obtain ⟨p, xs, k, z, rfl, rfl, hq, he, q⟩ := h
  cases ro
  obtain ⟨t, rfl⟩ := ri
  obtain ⟨its, r, pl, hz⟩ := I.list hq
  obtain ⟨j, h1, h2, h3, h4, h5⟩ := atI_get he
  obtain ⟨w, ew, rw'⟩ := r.get h2
  have hl := r.length
  have hn := line63
  have fin : EP X pins σ Q w s := ⟨z, H, I, rw', q⟩
  by_cases h0 : 0 ≤ k
  · have hj : k.toNat = j := by
      rw [seqIndex_of h0 h5] at h1
      exact Option.some.inj h1
    exact wpAny_getItem_list pl.isList h0 (by omega) (by rw [hj]; simpa using ew) fin
  · have hj : (k + (its.toArray.size : Int)).toNat = j := by
      rw [seqIndex_neg (by omega) h4] at h1
      rw [List.size_toArray, ← hl]
      exact Option.some.inj h1
    exact wpAny_getItem_list_neg pl.isList (by omega) (by rw [List.size_toArray] <;> omega) (by omega) (by rw [hj]; simpa using ew) fin
theorem hu65 {A : Around} {k : Nat} (hr : Room k A) : A.units + 65 < cLine := by have := hr.un; omega
end
end DW

namespace DW
open PySem PySem.Spec PyProof.Rows L2

abbrev rSubI : R2 := rI0 fun i j => .int (i - j)
abbrev rFdivI : R2 := rI CDivW fun i j => .int (i / j)
abbrev rModI : R2 := rI (fun _ j => 0 < j) fun i j => .int (i % j)
abbrev rPowI : R2 := rI CPow fun i j => .int (i ^ j.toNat)
abbrev rLtI : R2 := rI0 fun i j => .bl (decide (i < j))
abbrev rLeI : R2 := rI0 fun i j => .bl (decide (i ≤ j))
abbrev rGtI : R2 := rI0 fun i j => .bl (decide (j < i))
abbrev rGeI : R2 := rI0 fun i j => .bl (decide (j ≤ i))
abbrev rNegI : V → Hp → VK → Prop := rU fun i => .int (-i)
def rEqA (K : PySem.W.Frag) : R2 := fun x y H Q => rEq x y H Q ∨ rEqD K x y H Q
def rNeA (K : PySem.W.Frag) : R2 := fun x y H Q => rNe x y H Q ∨ rNeD K x y H Q
theorem op_eqA {X : Cx} (hu : X.A.units + 64 < cLine) : OpR X (compareOp .Eq) (rEqA X.K) := opr_or op_eq (op_eqD hu)
theorem op_neA {X : Cx} (hu : X.A.units + 64 < cLine) : OpR X (compareOp .NotEq) (rNeA X.K) := opr_or op_ne (op_neD hu)
theorem kit_NoneType_bool : kitB "NoneType" "bool" = some false := by decide +kernel
theorem kit_NoneType_int : kitB "NoneType" "int" = some false := by decide +kernel
theorem kit_NoneType_str : kitB "NoneType" "str" = some false := by decide +kernel
theorem kit_NoneType_list : kitB "NoneType" "list" = some false := by decide +kernel
theorem kit_NoneType_tuple : kitB "NoneType" "tuple" = some false := by decide +kernel
theorem kit_bool_bool : kitB "bool" "bool" = some true := by decide +kernel
theorem kit_bool_int : kitB "bool" "int" = some true := by decide +kernel
theorem kit_bool_str : kitB "bool" "str" = some false := by decide +kernel
theorem kit_bool_list : kitB "bool" "list" = some false := by decide +kernel
theorem kit_bool_tuple : kitB "bool" "tuple" = some false := by decide +kernel
theorem kit_int_bool : kitB "int" "bool" = some false := by decide +kernel
theorem kit_int_int : kitB "int" "int" = some true := by decide +kernel
theorem kit_int_str : kitB "int" "str" = some false := by decide +kernel
theorem kit_int_list : kitB "int" "list" = some false := by decide +kernel
theorem kit_int_tuple : kitB "int" "tuple" = some false := by decide +kernel
theorem kit_str_bool : kitB "str" "bool" = some false := by decide +kernel
theorem kit_str_int : kitB "str" "int" = some false := by decide +kernel
theorem kit_str_str : kitB "str" "str" = some true := by decide +kernel
theorem kit_str_list : kitB "str" "list" = some false := by decide +kernel
theorem kit_str_tuple : kitB "str" "tuple" = some false := by decide +kernel
theorem kit_list_bool : kitB "list" "bool" = some false := by decide +kernel
theorem kit_list_int : kitB "list" "int" = some false := by decide +kernel
theorem kit_list_str : kitB "list" "str" = some false := by decide +kernel
theorem kit_list_list : kitB "list" "list" = some true := by decide +kernel
theorem kit_list_tuple : kitB "list" "tuple" = some false := by decide +kernel
theorem kit_tuple_bool : kitB "tuple" "bool" = some false := by decide +kernel
theorem kit_tuple_int : kitB "tuple" "int" = some false := by decide +kernel
theorem kit_tuple_str : kitB "tuple" "str" = some false := by decide +kernel
theorem kit_tuple_list : kitB "tuple" "list" = some false := by decide +kernel
theorem kit_tuple_tuple : kitB "tuple" "tuple" = some true := by decide +kernel
theorem kit_dict_bool : kitB "dict" "bool" = some false := by decide +kernel
theorem kit_dict_int : kitB "dict" "int" = some false := by decide +kernel
theorem kit_dict_str : kitB "dict" "str" = some false := by decide +kernel
theorem kit_dict_list : kitB "dict" "list" = some false := by decide +kernel
theorem kit_dict_tuple : kitB "dict" "tuple" = some false := by decide +kernel
theorem szL : sizeLine = 16777216 := rfl

section
variable {K : PySem.W.Frag} {B : Addr → Prop} {m m' m1 m2 m3 : Bool} {F H F1 H1 F' H' : Hp} {fps fps1 fps' : Fps} {σ σ' : L2.St} {es es1 es2 es3 es' : Es} {v : V} {fp fq : List Addr} {r r1 r2 r3 : Vl} {t t1 t2 : T} {x y : PyData} {te ta tb tc to ti : TE} {tt tu : TT} {i j : Int} {xs ys : List PyData} {z w : Str} {a : Nat} {p : List Stp} {ts : List T} {W : WX} {tsa tsb : TS} {D : Dn} {vs : List V}
theorem ee_m (h : EE K m te es r es') (e : m = m') : EE K m' te es r es' := e ▸ h
theorem ee_eq (h : EE K m te es r es1) (e1 : r = r1) (e2 : es1 = es2) : EE K m te es r1 es2 := e1 ▸ e2 ▸ h
theorem od_is (h : OpD K es o r1 r2 r) (e : r = r3) : OpD K es o r1 r2 r3 := e ▸ h
theorem od_sub (h1 : r1.tr es = some t1) (q1 : t1.toD = some (.int i)) (h2 : r2.tr es = some t2) (q2 : t2.toD = some (.int j)) : OpD K es rSubI r1 r2 (.o (.d (.int (i - j)))) := od_I0 (g := fun i j => i - j) h1 q1 h2 q2
theorem od_fdiv (h1 : r1.tr es = some t1) (q1 : t1.toD = some (.int i)) (h2 : r2.tr es = some t2) (q2 : t2.toD = some (.int j)) (hc : CDivW i j) : OpD K es rFdivI r1 r2 (.o (.d (.int (i / j)))) := od_I (g := fun i j => i / j) h1 q1 h2 q2 hc
theorem od_mod (h1 : r1.tr es = some t1) (q1 : t1.toD = some (.int i)) (h2 : r2.tr es = some t2) (q2 : t2.toD = some (.int j)) (hc : 0 < j) : OpD K es rModI r1 r2 (.o (.d (.int (i % j)))) := od_I (C := fun _ j => 0 < j) (g := fun i j => i % j) h1 q1 h2 q2 hc
theorem od_pow (h1 : r1.tr es = some t1) (q1 : t1.toD = some (.int i)) (h2 : r2.tr es = some t2) (q2 : t2.toD = some (.int j)) (hc : CPow i j) : OpD K es rPowI r1 r2 (.o (.d (.int (i ^ j.toNat)))) := od_I (C := CPow) (g := fun i j => i ^ j.toNat) h1 q1 h2 q2 hc
theorem od_lt (h1 : r1.tr es = some t1) (q1 : t1.toD = some (.int i)) (h2 : r2.tr es = some t2) (q2 : t2.toD = some (.int j)) : OpD K es rLtI r1 r2 (.o (.d (.bool (decide (i < j))))) := od_B0 (g := fun i j => decide (i < j)) h1 q1 h2 q2
theorem od_le (h1 : r1.tr es = some t1) (q1 : t1.toD = some (.int i)) (h2 : r2.tr es = some t2) (q2 : t2.toD = some (.int j)) : OpD K es rLeI r1 r2 (.o (.d (.bool (decide (i ≤ j))))) := od_B0 (g := fun i j => decide (i ≤ j)) h1 q1 h2 q2
theorem od_gt (h1 : r1.tr es = some t1) (q1 : t1.toD = some (.int i)) (h2 : r2.tr es = some t2) (q2 : t2.toD = some (.int j)) : OpD K es rGtI r1 r2 (.o (.d (.bool (decide (j < i))))) := od_B0 (g := fun i j => decide (j < i)) h1 q1 h2 q2
theorem od_ge (h1 : r1.tr es = some t1) (q1 : t1.toD = some (.int i)) (h2 : r2.tr es = some t2) (q2 : t2.toD = some (.int j)) : OpD K es rGeI r1 r2 (.o (.d (.bool (decide (j ≤ i))))) := od_B0 (g := fun i j => decide (j ≤ i)) h1 q1 h2 q2
theorem od_eqI (h1 : r1.tr es = some t1) (q1 : t1.toD = some (.int i)) (h2 : r2.tr es = some t2) (q2 : t2.toD = some (.int j)) : OpD K es (rEqA K) r1 r2 (.o (.d (.bool (decide (i = j))))) := od_or2 <| od_is (od_eq h1 q1 h2 q2 rfl rfl) (by
  show Vl.o (.d (.bool (PyData.eqv (.int i) (.int j)))) = _
  rw [PyData.eqv]
  by_cases h : i = j <;> simp [h])
theorem od_neI (h1 : r1.tr es = some t1) (q1 : t1.toD = some (.int i)) (h2 : r2.tr es = some t2) (q2 : t2.toD = some (.int j)) : OpD K es (rNeA K) r1 r2 (.o (.d (.bool (!decide (i = j))))) := od_or2 <| od_is (od_ne h1 q1 h2 q2 rfl rfl) (by
  show Vl.o (.d (.bool (!PyData.eqv (.int i) (.int j)))) = _
  rw [PyData.eqv]
  by_cases h : i = j <;> simp [h])
theorem od_eqS (h1 : r1.tr es = some t1) (q1 : t1.toD = some (.str z)) (h2 : r2.tr es = some t2) (q2 : t2.toD = some (.str w)) : OpD K es (rEqA K) r1 r2 (.o (.d (.bool (decide (z = w))))) := od_or1 (od_leaf (.bl (decide (z = w))) h1 q1 h2 q2 (fun _ => .bl _) fun H v1 v2 d1 d2 Q q => by
  rw [dd_str d1, dd_str d2]
  refine ⟨rfl, ?_⟩
  rw [show decide (V.str z = V.str w) = decide (z = w) by simp]
  exact q)
theorem od_neS (h1 : r1.tr es = some t1) (q1 : t1.toD = some (.str z)) (h2 : r2.tr es = some t2) (q2 : t2.toD = some (.str w)) : OpD K es (rNeA K) r1 r2 (.o (.d (.bool (!decide (z = w))))) := od_or1 (od_leaf (.bl (!decide (z = w))) h1 q1 h2 q2 (fun _ => .bl _) fun H v1 v2 d1 d2 Q q => by
  rw [dd_str d1, dd_str d2]
  refine ⟨rfl, ?_⟩
  rw [show decide (V.str z = V.str w) = decide (z = w) by simp]
  exact q)
theorem od_eqA (h1 : r1.tr es = some t1) (q1 : t1.toD = some x) (h2 : r2.tr es = some t2) (q2 : t2.toD = some y) (s1 : SeqAt.shaped x = true) (s2 : SeqAt.shaped y = true) : OpD K es (rEqA K) r1 r2 (.o (.d (.bool (PyData.eqv x y)))) := od_or2 (od_eq h1 q1 h2 q2 s1 s2)
theorem od_neA (h1 : r1.tr es = some t1) (q1 : t1.toD = some x) (h2 : r2.tr es = some t2) (q2 : t2.toD = some y) (s1 : SeqAt.shaped x = true) (s2 : SeqAt.shaped y = true) : OpD K es (rNeA K) r1 r2 (.o (.d (.bool (!PyData.eqv x y)))) := od_or2 (od_ne h1 q1 h2 q2 s1 s2)
theorem od_eqB {b c : Bool} (h1 : r1.tr es = some t1) (q1 : t1.toD = some (.bool b)) (h2 : r2.tr es = some t2) (q2 : t2.toD = some (.bool c)) : OpD K es (rEqA K) r1 r2 (.o (.d (.bool (b == c)))) := od_or2 <| od_is (od_eq h1 q1 h2 q2 rfl rfl) (by
  show Vl.o (.d (.bool (PyData.eqv (.bool b) (.bool c)))) = _
  rw [PyData.eqv])
theorem od_ixRx (h1 : (Vl.r a p).tr es = some (.lst ts)) (h2 : r2.tr es = some t2) (q2 : t2.toD = some (.int i)) {n : Nat} (hn : ixN ts.length i = some n) (ht : ts[n]? = some t) (e : (Vl.r a p).kid (.ix n) t = r3) : OpD K es (rIx K) (.r a p) r2 r3 := e ▸ od_ixR h1 h2 q2 hn ht
theorem od_ixQx (h2 : r2.tr es = some t2) (q2 : t2.toD = some (.int i)) {n : Nat} (hn : ixN ts.length i = some n) (ht : ts[n]? = some t) (e : (Vl.q (.lst ts)).kid (.ix n) t = r3) : OpD K es (rIx K) (.q (.lst ts)) r2 r3 := e ▸ od_ixQ h2 q2 hn ht
/-- an item by its place -/
theorem od_ixLx {n : Nat} (h1 : r1.tr es = some t1) (q1 : Els t1 xs) (h2 : r2.tr es = some t2) (q2 : t2.toD = some (.int i)) (hn : ixN xs.length i = some n) (hx : xs[n]? = some x) : OpD K es (rIx K) r1 r2 (.o (.d x)) := od_ixL h1 q1 h2 q2 (by unfold atI; rw [hn]; exact hx)
theorem ix_nat {n k : Nat} (h : k < n) : ixN n (k : Int) = some k := by
  unfold ixN
  rw [if_pos (by omega), if_pos (by omega), Int.toNat_natCast]
theorem ix_int {n : Nat} {i : Int} (h0 : 0 ≤ i) (h : i < n) : ixN n i = some i.toNat := by
  unfold ixN
  rw [if_pos h0, if_pos h]
theorem at_nat {α : Type} {l : List α} {k : Nat} {c : α} (h : l[k]? = some c) : atI l (k : Int) = some c := by
  unfold atI
  rw [ix_nat (List.getElem?_eq_some_iff.mp h).1]
  exact h
theorem at_int {α : Type} {l : List α} {i : Int} {c : α} (h0 : 0 ≤ i) (h : l[i.toNat]? = some c) : atI l i = some c := by
  unfold atI
  rw [ix_int h0 (by have := (List.getElem?_eq_some_iff.mp h).1; omega)]
  exact h
/-- the unary minus -/
theorem ee_neg (h : EE K m te es r es1) (h1 : r.tr es1 = some t) (q : t.toD = some (.int i)) : EE K m (tUn rNegI te) es (.o (.d (.int (-i)))) es1 := fun B F H σ fps R Q k =>
  h B F H σ fps R _ fun v F1 H1 fps1 fp R1 g1 rv n => ⟨i, dd_int (rv.dd R1 h1 q), k _ F1 H1 fps1 [] R1 g1 rv_int New.nil⟩
theorem tr_at {i : Nat} {an : Option V} {t s : T} (hs : es[i]? = some (.o an t)) (e : t.at p = some s) : (Vl.r i p).tr es = some s := by
  show (match es[i]? with | some (.o _ t) => t.at p | _ => none) = _
  rw [hs]
  exact e
theorem upd1_set {i : Nat} {an : Option V} {t s : T} (hs : es[i]? = some (.o an t)) : upd1 i [] s es = es.set i (.o an s) := by
  unfold upd1
  rw [hs]
  cases t <;> rfl
theorem ei_m {pu : Bool} {wi : TI} (h : EI K pu m wi es xs es') (e : m = m') : EI K pu m' wi es xs es' := e ▸ h
theorem ss_tt {b : Bool} (h : ET K m tt es b es1) (e : b = true) (h1 : SS K W tsa es1 D) : SS K W (tIfS tt tsa tsb) es D := ss_ifT (e ▸ h) h1
theorem ss_ff {b : Bool} (h : ET K m tt es b es1) (e : b = false) (h1 : SS K W tsb es1 D) : SS K W (tIfS tt tsa tsb) es D := ss_ifF (e ▸ h) h1
/-- a comprehension that changes nothing, with no question -/
theorem ee_lcP {wi : TI} {g : TG} {pu : Bool} {vs : List Nat} {ys : List T} (h : EI K pu m wi es xs es1) (hl : ys.length = xs.length) (hz : xs.length ≤ sizeLine)
    (hs : ∀ (i : Nat) (x : PyData), xs[i]? = some x → ∃ es2 js es3 y, GS K g x (wipeE es1 vs) es2 js ∧ (∀ j ∈ js, j ∈ vs) ∧ EE K false te es2 (.o y) es3 ∧ ys[i]? = some y ∧ unw es1 es3 vs = es1 ∧ es3.length = es1.length) :
    EE K m (tLc wi g tYes te vs) es (.o (.lst ys)) es1 := by
  have e := ee_lc (K := K) (xs := xs) (m1 := m) (es := es) (pu := pu) (wi := wi) (es1 := es1) (vs := vs) (g := g) (te := te) (tt := tYes) (m2 := false) h (fun z => nomatch z) (fun _ => es1) (fun i => ys.take i) rfl rfl (fun i x hx => by
    obtain ⟨es2, js, es3, y, h1, h2, h3, h4, h5, h6⟩ := hs i x hx
    refine ⟨es2, js, true, es2, h1, h2, et_yes, fun _ => ⟨y, es3, h3, h5.symm, h6, ?_, ?_⟩, fun z => nomatch z⟩
    · rw [List.take_add_one, h4]
      rfl
    · have := (List.getElem?_eq_some_iff.mp hx).1
      rw [List.length_take]
      omega)
  refine ee_eq (ee_m e (Bool.or_false m)) ?_ rfl
  rw [← hl, List.take_length]
/-- the same with a question -/
theorem ee_lcF {wi : TI} {g : TG} {pu : Bool} {vs : List Nat} {ys : List T} (h : EI K pu m wi es xs es1) (hz : xs.length ≤ sizeLine) (keep : Nat → Bool) (out : Nat → T)
    (hy : ys = ((List.range xs.length).filter keep).map out)
    (hs : ∀ (i : Nat) (x : PyData), xs[i]? = some x → ∃ es2 js es3, GS K g x (wipeE es1 vs) es2 js ∧ (∀ j ∈ js, j ∈ vs) ∧ ET K false tt es2 (keep i) es3 ∧ unw es1 es3 vs = es1 ∧ es3.length = es1.length ∧ (keep i = true → ∃ es4, EE K false te es3 (.o (out i)) es4 ∧ unw es1 es4 vs = es1 ∧ es4.length = es1.length)) :
    EE K m (tLc wi g tt te vs) es (.o (.lst ys)) es1 := by
  have e := ee_lc (K := K) (xs := xs) (m1 := m) (es := es) (pu := pu) (wi := wi) (es1 := es1) (vs := vs) (g := g) (te := te) (tt := tt) (m2 := false) h (fun z => nomatch z) (fun _ => es1) (fun i => ((List.range i).filter keep).map out) rfl rfl (fun i x hx => by
    obtain ⟨es2, js, es3, h1, h2, h3, h4, h5, h6⟩ := hs i x hx
    have hi := (List.getElem?_eq_some_iff.mp hx).1
    have hn : (((List.range i).filter keep).map out).length < sizeLine := by
      rw [List.length_map]
      refine Nat.lt_of_le_of_lt (List.length_filter_le _ _) ?_
      rw [List.length_range]
      omega
    refine ⟨es2, js, keep i, es3, h1, h2, h3, fun c => ?_, fun c => ⟨h4.symm, h5, ?_⟩⟩
    · obtain ⟨es4, k1, k2, k3⟩ := h6 c
      refine ⟨out i, es4, k1, k2.symm, k3, ?_, hn⟩
      show ((List.range (i + 1)).filter keep).map out = _
      rw [List.range_succ, List.filter_append, List.map_append]
      simp [c]
    · show ((List.range (i + 1)).filter keep).map out = _
      rw [List.range_succ, List.filter_append, List.map_append]
      simp [c])
  exact ee_eq (ee_m e (Bool.or_false m)) (by rw [hy]) rfl
/-- steps -/
theorem ss_go {ts : TS} (h : SS K W ts es D) (e : es = es1) : SS K W ts es1 D := e ▸ h
theorem ss_cut {tsa tsb : TS} (P : Es → Prop) (h : SS K W tsa es { D with nx := P }) (h2 : ∀ e, P e → SS K W tsb e D) : SS K W (tSeq tsa tsb) es D := ss_seq (ss_wk h h2 (fun _ _ z => z) (fun _ z => z) (fun _ z => z) fun _ _ z => z)
end

/-! ### a def keeps its promise -/
def WT : WX := fun _ _ _ _ => True
section
variable {P : Program} {w : World} {K : PySem.W.Frag} {mg : Str → Option Value} {base : Heap} {f : Addr} {fd : FuncData}
theorem spD_len {R : Rl} {n : Nat} {vs : List V} {H : Hp} {Q : VK} {E : XK} (hR : ∀ as o, R as o → as.length = n) (h : spD K R vs H Q E) : vs.length = n := by
  obtain ⟨as, o, B, F, fps, h1, h2, _⟩ := h
  rw [← h2]
  exact hR as o h1
theorem spD_law {R : Rl} {H : Hp} {a : Addr} {ns : List Int} (hS : SqL K H a (ns.map V.int)) (hR : R [.s ns] (.ok [.s ns] (.d (.bool true)))) : spD K R [.ref a] H (fun v _ => v = .bl true) fun _ _ _ => False :=
  ⟨_, _, fun _ => False, H, fun _ => [], hR, rfl, ⟨Same.refl H, rfl, (fun i s e => by
    match i, e with
    | 0, e =>
      cases e
      exact ⟨_, rfl, (fun _ z => nomatch z), .scr hS⟩
    | i + 1, e => cases e), fun _ _ => rfl, fun _ => List.nodup_nil, (fun _ _ _ _ h => nomatch h), (fun _ _ h => nomatch h), fun _ h => h.elim⟩, fun v F' H' fps' fp _ _ r _ _ _ => dd_bl r.dinv⟩
theorem okD {x q : Str} {st : Stmt} {N ps : List Str} {lv k : Nat} {R : Rl} {t : TS} (F : FnP K x q st f fd) (S : FnScope N ps (defScope st)) (hk : N.length = ps.length + k) (hR : ∀ as o, R as o → as.length = ps.length)
    (hb : ∀ vs as o, R as o → as.length = vs.length → SS K WT t (slots vs as ++ List.replicate k .n) (FD vs as o))
    (hw : ∀ (cdv : Value) (A : Around) (outer : List Env) (s : Shared) (H : Hp) (E : XK), Room lv (A.deeper (envOfC q (defScope st) s.heap.objs.size f cdv)) → PSs (cxOf CX0 P w K mg base N q (defScope st) f cdv A outer s H E).nox (defBody st) t) :
    FnOk P w K mg base CX0 (lv + 1) f fd ps (spD K R) := by
  refine F.ok S (fun vs H Q E h => spD_len hR h) (fun cdv A outer s H vs Q E hr h => ⟨t, PSs.nox (hw cdv A outer s H E hr), spD_run (W := WT) h (fun _ _ _ _ => trivial) fun as o h1 h2 => ?_⟩)
  have e : N.length - vs.length = k := by
    have := hR as o h1
    omega
  rw [e]
  exact hb vs as o h1 h2
end

/-! ### text as a list of signs -/
def S (l : List Nat) : Str := ⟨l.toArray⟩
theorem S_app (a b : List Nat) : S a ++ S b = S (a ++ b) := by
  show Str.append _ _ = _
  simp [Str.append, S]
theorem S_len (a : List Nat) : (S a).length = a.length := by simp [Str.length, S]
theorem S_l (a : List Nat) : (S a).cps.toList = a := by simp [S]
theorem S_of (z : Str) : S z.cps.toList = z := by simp [S]
theorem S_inj {a b : List Nat} : S a = S b ↔ a = b := ⟨fun h => by rw [← S_l a, h, S_l], fun h => by rw [h]⟩
theorem S_cut (a : List Nat) (lo hi : Option Int) : cutS (S a) lo hi = S (cutD a lo hi) := by
  unfold cutS cutD
  rw [S_len, S_l]
  rfl
theorem cutD_len {α : Type} (xs : List α) (lo hi : Option Int) : (cutD xs lo hi).length ≤ xs.length := by
  unfold cutD
  simp
  omega
theorem cutD_nat {α : Type} (xs : List α) {i j : Nat} (hi : i ≤ xs.length) (hj : j ≤ xs.length) : cutD xs (some (i : Int)) (some (j : Int)) = (xs.drop i).take (j - i) := by
  unfold cutD
  rw [HT.sIx_nat, HT.sIx_nat, Nat.min_eq_left hi, Nat.min_eq_left hj]
theorem cutD_hi {α : Type} (xs : List α) {j : Nat} (hj : j ≤ xs.length) : cutD xs none (some (j : Int)) = xs.take j := by
  unfold cutD
  rw [HT.sIx_nat, HT.sIx_none, Nat.min_eq_left hj]
  simp
theorem cutD_lo {α : Type} (xs : List α) {j : Nat} : cutD xs (some (j : Int)) none = xs.drop j := by
  unfold cutD
  rw [HT.sIx_nat, HT.sIx_none]
  rcases Nat.le_total j xs.length with h | h
  · rw [Nat.min_eq_left h, List.take_of_length_le]
    simp
  · rw [Nat.min_eq_right h]
    simp [List.drop_of_length_le h]
end DW

namespace DW
open PySem PySem.Spec PyProof.Rows L2
/-! ### a call that changes two arguments, both whole slots -/
section
variable {K : PySem.W.Frag} {B : Addr → Prop} {m m1 m2 m3 : Bool} {F H F1 H1 F2 H2 F' H' : Hp} {fps fps1 fps' : Fps} {σ σ' : L2.St} {es es1 es2 es3 es' : Es} {v : V} {fp fq : List Addr} {r r1 r2 r3 : Vl} {t t' t1 t2 u1 u2 : T} {x y : PyData} {te ta tb tc to ti : TE} {tt tu : TT} {j : Int} {i i1 i2 k : Nat} {as as' : List Ag} {R : Rl} {E : XK} {rs : List Vl} {vs : List V}
theorem Rep.many (R : Rep K B F H σ es fps) (M : Nat → Prop) (hlen : es'.length = es.length) (hes : ∀ j, ¬ M j → es'[j]? = es[j]?) (hfp : ∀ j, ¬ M j → fps' j = fps j) (sF : Same F F') (ex : Same F' H') (fn : ∀ j, ¬ M j → ∀ b ∈ fps j, F' b = none)
    (keep : ∀ b o, H b = some o → (∀ i, M i → b ∉ fps i) → H' b = some o) (new : ∀ j, M j → ∀ s, es'[j]? = some s → SlOk K B F' H' fps' j σ[j]? s) (hn : ∀ j, M j → (∀ a t, es'[j]? ≠ some (.o a t)) → fps' j = []) (nd : ∀ j, M j → (fps' j).Nodup)
    (hf : ∀ j, M j → ∀ b ∈ fps' j, F' b = none) (out : ∀ j, M j → ∀ b ∈ fps' j, (∀ k, ¬ M k → b ∉ fps k) ∧ ¬ B b) (djM : ∀ j k, M j → M k → j ≠ k → ∀ b ∈ fps' j, b ∉ fps' k) : Rep K B F' H' σ es' fps' where
  ex := ex
  len := by rw [hlen]; exact R.len
  sl := fun j s e => by
    by_cases c : M j
    · exact new j c s e
    · rw [hes j c] at e
      have q := R.sl j s e
      cases s with
      | n => trivial
      | o a t =>
        obtain ⟨v, h1, h2, h3⟩ := q
        refine ⟨v, h1, h2, ?_⟩
        rw [hfp j c]
        exact Rp.mono sF h3 fun b hb => by
          obtain ⟨o, ho⟩ := h3.ok b hb
          exact (keep b o ho fun i hi z => R.dj j i (fun e => c (e ▸ hi)) b hb z).trans ho.symm
      | q a t =>
        obtain ⟨v, fq, h1, h2, h3, h4⟩ := q
        exact ⟨v, fq, h1, h2, Rp.mono sF h3 fun b hb => by
          obtain ⟨o, ho⟩ := h3.ok b hb
          exact (keep b o ho fun i _ => (R.bg b (h4 b hb)).2 i).trans ho.symm, h4⟩
  no := fun j e => by
    by_cases c : M j
    · exact hn j c e
    · rw [hfp j c]
      exact R.no j fun a t z => e a t (by rw [hes j c]; exact z)
  nd := fun j => by
    by_cases c : M j
    · exact nd j c
    · rw [hfp j c]
      exact R.nd j
  dj := fun j k e b hb hk => by
    by_cases c : M j
    · by_cases d : M k
      · exact djM j k c d e b hb hk
      · rw [hfp k d] at hk
        exact (out j c b hb).1 k d hk
    · rw [hfp j c] at hb
      by_cases d : M k
      · exact (out k d b hk).1 j c hb
      · rw [hfp k d] at hk
        exact R.dj j k e b hb hk
  fr := fun j b hb => by
    by_cases c : M j
    · exact hf j c b hb
    · rw [hfp j c] at hb
      exact fn j c b hb
  bg := fun b hb => by
    obtain ⟨⟨o, ho⟩, n⟩ := R.bg b hb
    refine ⟨⟨o, keep b o ho fun i _ => n i⟩, fun j hj => ?_⟩
    by_cases c : M j
    · exact (out j c b hj).2 hb
    · rw [hfp j c] at hj
      exact n j hj
/-- two lists of nodes, for the first and the second argument -/
def fp2 (f g : List Addr) : Fps
  | 0 => f
  | 1 => g
  | _ => []
theorem fp2_in {f g : List Addr} {j : Nat} {b : Addr} (h : b ∈ fp2 f g j) : b ∈ f ∨ b ∈ g := by
  match j, h with
  | 0, h => exact .inl h
  | 1, h => exact .inr h
  | _ + 2, h => cases h
theorem q_arg2 {u : T} (R0 : Rep K B F H σ es fps) (h : RV K B F H σ fps v r fp) (e : r.tr es = some u) : ∃ fq, Rp K F H v u fq ∧ ∀ i, i ∉ r.refs → ∀ b ∈ fq, b ∉ fps i := by
  cases r with
  | o t0 =>
    have e' := Option.some.inj e
    subst e'
    exact ⟨fp, h.1, fun i _ b hb => (h.2.2 b hb).2.1 i⟩
  | q t0 =>
    have e' := Option.some.inj e
    subst e'
    obtain ⟨_, fq, h1, h2⟩ := h
    exact ⟨fq, h1, fun i _ b hb => (R0.bg b (h2 b hb)).2 i⟩
  | r c q =>
    obtain ⟨an, t0, v0, k1, k2, k3, k4⟩ := h.ref R0 e
    obtain ⟨u1, u2, u3, u4⟩ := R0.sl c _ k1
    rw [k2] at u2
    cases u2
    obtain ⟨fq, q1, q2⟩ := u4.loc k3 k4
    exact ⟨fq, q1, fun i hi b hb => R0.dj c i (fun z => hi (by rw [← z]; exact List.mem_cons_self)) b (q2 b hb)⟩
theorem bn_sl2 (R0 : Rep K B F H σ es fps) (b : BN es i1 rs as) (b' : BN es i2 rs as) : ∀ {vs fp}, RVs K B F H σ fps vs rs fp → ∀ (j : Nat) (v : V) (u : T), vs[j]? = some v → as[j]? = some (.q u) → ∃ fq, Rp K F H v u fq ∧ ∀ b ∈ fq, b ∉ fps i1 ∧ b ∉ fps i2 := by
  induction b with
  | nil =>
    intro vs fp h j v u e1
    cases h
    simp at e1
  | d _ ih =>
    intro vs fp h j v u e1 e2
    cases h with
    | cons h1 h2 _ =>
      cases j with
      | zero => simp at e2
      | succ j =>
        cases b' with
        | d b' => exact ih b' h2 j v u (by simpa using e1) (by simpa using e2)
  | s _ ih =>
    intro vs fp h j v u e1 e2
    cases h with
    | cons h1 h2 _ =>
      cases j with
      | zero => simp at e2
      | succ j =>
        cases b' with
        | s b' => exact ih b' h2 j v u (by simpa using e1) (by simpa using e2)
  | q et hi _ ih =>
    intro vs fp h j v u e1 e2
    cases h with
    | cons h1 h2 _ =>
      cases b' with
      | q et' hi' b' =>
        cases j with
        | zero =>
          simp at e1 e2
          subst e1 e2
          obtain ⟨fq, k1, k2⟩ := q_arg2 R0 h1 et
          exact ⟨fq, k1, fun b hb => ⟨k2 _ hi b hb, k2 _ hi' b hb⟩⟩
        | succ j => exact ih b' h2 j v u (by simpa using e1) (by simpa using e2)
/-- arguments read only, none of the two slots -/
theorem ee_callM2 {ta : TA} {an1 an2 : Option V} {as0 : List Ag} (ne : i1 ≠ i2) (ha : EA K m ta es (.r i1 [] :: .r i2 [] :: rs) es1) (e1 : es1[i1]? = some (.o an1 t1)) (e2 : es1[i2]? = some (.o an2 t2)) (b1 : BN es1 i1 rs as0) (b2 : BN es1 i2 rs as0)
    (hR : R (.m t1 :: .m t2 :: as0) (.ok (.m u1 :: .m u2 :: as0) t)) : EE K true (tSpc (spD K R) E ta) es (.o t) ((es1.set i1 (.o an1 u1)).set i2 (.o an2 u2)) := fun B F H σ fps R0 Q kk =>
  ha B F H σ fps R0 _ fun vs F1 H1 fps1 fp R1 g1 rv n => by
    cases rv with
    | cons hra rv _ =>
    cases rv with
    | cons hrb rv _ =>
    rename_i v1 fa v2 vs fb fc hd1 hd2
    obtain ⟨l1, a1⟩ := bn_sl R1 b1 rv
    obtain ⟨_, a2⟩ := bn_sl R1 b2 rv
    obtain ⟨w1, hw1, hx1, q1⟩ := R1.sl i1 _ e1
    obtain ⟨w2, hw2, hx2, q2⟩ := R1.sl i2 _ e2
    have ev1 : v1 = w1 := by
      obtain ⟨_, v0, z1, z2⟩ := hra
      rw [hw1] at z1
      cases z1
      exact (show w1 = v1 from z2).symm
    have ev2 : v2 = w2 := by
      obtain ⟨_, v0, z1, z2⟩ := hrb
      rw [hw2] at z1
      cases z1
      exact (show w2 = v2 from z2).symm
    subst ev1 ev2
    have hB1 : ∀ b ∈ fps1 i1, b ∉ fps1 i2 := R1.dj i1 i2 ne
    have RC : Rep K (fun b => (∃ o, H1 b = some o) ∧ b ∉ fps1 i1 ∧ b ∉ fps1 i2) F1 H1 ((v1 :: v2 :: vs).map some) (slots (v1 :: v2 :: vs) (.m t1 :: .m t2 :: as0)) (fp2 (fps1 i1) (fps1 i2)) := by
      refine ⟨R1.ex, ?_, fun j s e => ?_, fun j e => ?_, fun j => ?_, fun j l e b hb hc => ?_, fun j b hb => ?_, fun b hb => ⟨hb.1, fun j hj => ?_⟩⟩
      · rw [slots_len (by simp [l1]), List.length_map]
      · match j, e with
        | 0, e =>
          cases e
          exact ⟨v1, rfl, fun w z => Option.some.inj z, q1⟩
        | 1, e =>
          cases e
          exact ⟨v2, rfl, fun w z => Option.some.inj z, q2⟩
        | j + 2, e =>
          have e' : (slots vs as0)[j]? = some s := e
          obtain ⟨v, c, h1, h2, rfl⟩ := slots_get e'
          have hv : ((v1 :: v2 :: vs).map some)[j + 2]? = some (some v) := by
            show (vs.map some)[j]? = _
            rw [List.getElem?_map, h1]
            rfl
          have p1 := a1 j v c h1 h2
          have p2 := a2 j v c h1 h2
          cases c with
          | d x => exact ⟨v, hv, (fun w z => nomatch z), .d p1⟩
          | s ns =>
            obtain ⟨u, e3, k3⟩ := p1
            subst e3
            exact ⟨_, hv, (fun w z => nomatch z), .scr k3⟩
          | q u =>
            obtain ⟨fq, k1, k2⟩ := bn_sl2 R1 b1 b2 rv j v u h1 h2
            exact ⟨v, fq, hv, (fun w z => Option.some.inj z), k1, fun b hb => ⟨k1.ok b hb, k2 b hb⟩⟩
          | m u => exact p1.elim
      · match j, e with
        | 0, e => exact absurd rfl (e (some v1) t1)
        | 1, e => exact absurd rfl (e (some v2) t2)
        | _ + 2, _ => rfl
      · match j with
        | 0 => exact R1.nd i1
        | 1 => exact R1.nd i2
        | _ + 2 => exact List.nodup_nil
      · match j, l, e, hb, hc with
        | 0, 0, e, _, _ => exact e rfl
        | 1, 1, e, _, _ => exact e rfl
        | 0, 1, _, hb, hc => exact hB1 b hb hc
        | 1, 0, _, hb, hc => exact hB1 b hc hb
        | _ + 2, _, _, hb, _ => cases hb
        | 0, _ + 2, _, _, hc => cases hc
        | 1, _ + 2, _, _, hc => cases hc
      · rcases fp2_in hb with z | z
        · exact R1.fr i1 b z
        · exact R1.fr i2 b z
      · rcases fp2_in hj with z | z
        · exact hb.2.1 z
        · exact hb.2.2 z
    refine ⟨_, .ok _ t, _, F1, _, hR, by simp [l1], RC, fun v F2 H2 fps2 fpv R2 g2 c1 c2 c3 n2 => ?_⟩
    have inq : ∀ {b : Addr} {j : Nat}, b ∈ fp2 (fps1 i1) (fps1 i2) j → b ∈ fps1 i1 ∨ b ∈ fps1 i2 := fun hb => fp2_in hb
    have keep : ∀ b o, H1 b = some o → b ∉ fps1 i1 → b ∉ fps1 i2 → H2 b = some o := fun b o ho h1 h2 => g2.ou b o ho fun j hj => (inq hj).elim h1 h2
    have f2q : ∀ k, ∀ b ∈ fps2 k, (b ∈ fps1 i1 ∨ b ∈ fps1 i2) ∨ H1 b = none := fun k b hb => (g2.fp k b hb).elim .inr fun ⟨j, y⟩ => .inl (inq y)
    obtain ⟨x1, x2, x3, x4⟩ := R2.sl 0 _ rfl
    obtain ⟨y1, y2, y3, y4⟩ := R2.sl 1 _ rfl
    have ex1 : v1 = x1 := by
      have : (((v1 :: v2 :: vs).map some)[0]? : Option (Option V)) = some (some v1) := rfl
      rw [this] at x2
      exact Option.some.inj (Option.some.inj x2)
    have ey1 : v2 = y1 := by
      have : (((v1 :: v2 :: vs).map some)[1]? : Option (Option V)) = some (some v2) := rfl
      rw [this] at y2
      exact Option.some.inj (Option.some.inj y2)
    subst ex1 ey1
    have hl1 := (List.getElem?_eq_some_iff.mp e1).1
    have hl2 := (List.getElem?_eq_some_iff.mp e2).1
    have outk : ∀ k, ∀ b ∈ fps2 k, (∀ j, ¬ (j = i1 ∨ j = i2) → b ∉ fps1 j) ∧ ¬ B b := fun k b hb => by
      rcases f2q k b hb with (z | z) | z
      · exact ⟨fun j hj => R1.dj i1 j (fun e => hj (.inl e.symm)) b z, fun hB => (R1.bg b hB).2 i1 z⟩
      · exact ⟨fun j hj => R1.dj i2 j (fun e => hj (.inr e.symm)) b z, fun hB => (R1.bg b hB).2 i2 z⟩
      · exact ⟨fun j _ => R1.f_out z j, R1.b_out z⟩
    have hf1 : pf (pf fps1 i1 (fps2 0)) i2 (fps2 1) i1 = fps2 0 := by rw [pf_ne ne, pf_i]
    have hf2 : pf (pf fps1 i1 (fps2 0)) i2 (fps2 1) i2 = fps2 1 := pf_i
    have hf3 : ∀ j, ¬ (j = i1 ∨ j = i2) → pf (pf fps1 i1 (fps2 0)) i2 (fps2 1) j = fps1 j := fun j hj => by rw [pf_ne (fun e => hj (.inr e)), pf_ne (fun e => hj (.inl e))]
    have RN : Rep K B F2 H2 σ ((es1.set i1 (.o an1 u1)).set i2 (.o an2 u2)) (pf (pf fps1 i1 (fps2 0)) i2 (fps2 1)) := by
      refine R1.many (fun j => j = i1 ∨ j = i2) (by simp) (fun j hj => ?_) hf3 g2.ff R2.ex (fun j hj b hb => ?_) (fun b o ho h => keep b o ho (h i1 (.inl rfl)) (h i2 (.inr rfl))) ?_ ?_ ?_ ?_ ?_ ?_
      · rw [List.getElem?_set_ne (fun e => hj (.inr e.symm)), List.getElem?_set_ne (fun e => hj (.inl e.symm))]
      · rcases g2.fn b (R1.fr j b hb) with z | z | ⟨l, z⟩
        · exact z
        · obtain ⟨o, ho⟩ := R1.there hb
          rw [ho] at z
          cases z
        · rcases inq z with z | z
          · exact absurd z (R1.dj j i1 (fun e => hj (.inl e)) b hb)
          · exact absurd z (R1.dj j i2 (fun e => hj (.inr e)) b hb)
      · rintro j (rfl | rfl) s e
        · rw [List.getElem?_set_ne (Ne.symm ne), List.getElem?_set_self hl1] at e
          cases e
          refine ⟨_, hw1, hx1, ?_⟩
          rw [hf1]
          exact x4
        · rw [List.getElem?_set_self (by rw [List.length_set]; exact hl2)] at e
          cases e
          refine ⟨_, hw2, hx2, ?_⟩
          rw [hf2]
          exact y4
      · rintro j (rfl | rfl) e
        · exact absurd (by rw [List.getElem?_set_ne (Ne.symm ne), List.getElem?_set_self hl1]) (e an1 u1)
        · exact absurd (List.getElem?_set_self (by rw [List.length_set]; exact hl2)) (e an2 u2)
      · rintro j (rfl | rfl)
        · rw [hf1]
          exact R2.nd 0
        · rw [hf2]
          exact R2.nd 1
      · rintro j (rfl | rfl) b hb
        · rw [hf1] at hb
          exact R2.fr 0 b hb
        · rw [hf2] at hb
          exact R2.fr 1 b hb
      · rintro j (rfl | rfl) b hb
        · rw [hf1] at hb
          exact outk 0 b hb
        · rw [hf2] at hb
          exact outk 1 b hb
      · rintro j l (rfl | rfl) (rfl | rfl) e b hb hc
        · exact e rfl
        · rw [hf1] at hb
          rw [hf2] at hc
          exact R2.dj 0 1 (by decide) b hb hc
        · rw [hf2] at hb
          rw [hf1] at hc
          exact R2.dj 0 1 (by decide) b hc hb
        · exact e rfl
    have np : ∀ b ∈ fpv, (b ∈ fps1 i1 ∨ b ∈ fps1 i2) ∨ H1 b = none := fun b hb => (n2 b hb).elim .inr fun ⟨j, y⟩ => .inl (inq y)
    have gg : Go true F1 H1 fps1 F2 H2 (pf (pf fps1 i1 (fps2 0)) i2 (fps2 1)) := ⟨g2.ff, fun b hb => (g2.fn b hb).imp id fun y => y.imp id fun ⟨j, y⟩ => (inq y).elim (fun z => ⟨i1, z⟩) fun z => ⟨i2, z⟩, fun b o ho hn => keep b o ho (hn i1) (hn i2), fun j b hb => by
      by_cases cj : j = i1 ∨ j = i2
      · have : ∃ k, b ∈ fps2 k := by
          rcases cj with rfl | rfl
          · rw [hf1] at hb
            exact ⟨0, hb⟩
          · rw [hf2] at hb
            exact ⟨1, hb⟩
        obtain ⟨k, hk⟩ := this
        rcases f2q k b hk with (z | z) | z
        · exact .inr ⟨i1, z⟩
        · exact .inr ⟨i2, z⟩
        · exact .inl z
      · rw [hf3 j cj] at hb
        exact .inr ⟨j, hb⟩, g2.th, fun e => nomatch e⟩
    refine kk v F2 H2 _ fpv RN ((g1.trans gg).wk fun _ => rfl) ⟨c1, c2, fun b hb => ⟨(c3 b hb).1, fun j hj => ?_, fun hB => ?_⟩⟩ fun b hb => ?_
    · by_cases cj : j = i1 ∨ j = i2
      · rcases cj with rfl | rfl
        · rw [hf1] at hj
          exact (c3 b hb).2.1 0 hj
        · rw [hf2] at hj
          exact (c3 b hb).2.1 1 hj
      · rw [hf3 j cj] at hj
        rcases np b hb with (z | z) | z
        · exact R1.dj i1 j (fun e => cj (.inl e.symm)) b z hj
        · exact R1.dj i2 j (fun e => cj (.inr e.symm)) b z hj
        · exact R1.f_out z j hj
    · rcases np b hb with (z | z) | z
      · exact (R1.bg b hB).2 i1 z
      · exact (R1.bg b hB).2 i2 z
      · exact R1.b_out z hB
    · rcases np b hb with (z | z) | z
      · exact g1.fp i1 b z
      · exact g1.fp i2 b z
      · exact .inl (g1.th b z)
/-! ### small rules -/
theorem od_neB {b c : Bool} (h1 : r1.tr es = some t1) (q1 : t1.toD = some (.bool b)) (h2 : r2.tr es = some t2) (q2 : t2.toD = some (.bool c)) : OpD K es (rNeA K) r1 r2 (.o (.d (.bool (!(b == c))))) := od_or2 <| od_is (od_ne h1 q1 h2 q2 rfl rfl) (by
  show Vl.o (.d (.bool (!PyData.eqv (.bool b) (.bool c)))) = _
  rw [PyData.eqv])
/-- a comprehension over numbers that changes the state: the i-th item out of the i-th state -/
theorem ee_lcR {wi : TI} {g : TG} {vs : List Nat} {xs : List PyData} {out : Nat → PyData} (h : EI K true m wi es xs es1) (hz : xs.length ≤ sizeLine) (esq : Nat → Es) (h0 : esq 0 = es1)
    (hs : ∀ (i : Nat) (x : PyData), xs[i]? = some x → ∃ es2 js es3, GS K g x (wipeE (esq i) vs) es2 js ∧ (∀ j ∈ js, j ∈ vs) ∧ ED K true te es2 (out i) es3 ∧ esq (i + 1) = unw (esq i) es3 vs ∧ es3.length = (esq i).length) :
    EE K true (tLc wi g tYes te vs) es (.o (T.L ((List.range xs.length).map out))) (esq xs.length) := by
  have e := ee_lc (K := K) (xs := xs) (m1 := m) (es := es) (pu := true) (wi := wi) (es1 := es1) (vs := vs) (g := g) (te := te) (tt := tYes) (m2 := true) h (fun _ => rfl) esq (fun i => ((List.range i).map out).map T.d) h0 rfl (fun i x hx => by
    obtain ⟨es2, js, es3, h1, h2, h3, h4, h5⟩ := hs i x hx
    have hi := (List.getElem?_eq_some_iff.mp hx).1
    refine ⟨es2, js, true, es2, h1, h2, et_wk et_yes (fun z => nomatch z), fun _ => ⟨.d (out i), es3, h3, h4, h5, ?_, ?_⟩, fun z => nomatch z⟩
    · rw [List.range_succ, List.map_append, List.map_append]
      rfl
    · rw [List.length_map, List.length_map, List.length_range]
      omega)
  exact ee_wk e fun _ => rfl
theorem upd1_at {an : Option V} {p : List Stp} {s : T} (hs : es[i]? = some (.o an t)) : upd1 i p s es = es.set i (.o an (t.set p s)) := by
  unfold upd1
  rw [hs]
theorem flats_leaf : ∀ {l : List PyData}, l.all flatD = true → T.flats (l.map T.d) = true
  | [], _ => rfl
  | x :: l, h => by
    obtain ⟨h1, h2⟩ := Bool.and_eq_true_iff.mp (show (flatD x && l.all flatD) = true from h)
    have h3 := flats_leaf h2
    show (T.flat (.d x) && T.flats (l.map T.d)) = true
    rw [h3, Bool.and_true]
    exact h1
theorem flat_ints (l : List Int) : T.flat (T.L (l.map .int)) = true := by
  show T.flats _ = true
  exact flats_leaf (by rw [List.all_map]; exact List.all_eq_true.mpr fun _ _ => rfl)
theorem putT_eq {f : Str} {u : T} {r : List (Str × T)} : putT f t ((f, u) :: r) = (f, t) :: r := if_pos rfl
theorem putT_ne {f g : Str} {u : T} {r : List (Str × T)} (h : ¬ g = f) : putT f t ((g, u) :: r) = (g, u) :: putT f t r := if_neg h
theorem cutD_map {α β : Type} (f : α → β) (l : List α) (lo hi : Option Int) : cutD (l.map f) lo hi = (cutD l lo hi).map f := by
  unfold cutD
  rw [List.length_map, List.map_take, List.map_drop]
theorem T.at_fd {C : Addr} {fs : List (Str × T)} {f : Str} {p : List Stp} (h : fs.lookup f = some t) : T.at (.ins C fs) (.fd f :: p) = t.at p := by
  show (match fs.lookup f with
    | some t => T.at t p
    | none => none) = _
  rw [h]
theorem T.at_nil : T.at t [] = some t := by cases t <;> rfl
end
section
variable {X : Cx}
theorem dmt_insert : MtR X "list.insert" rInsert := mt_insert
end
end DW

namespace DW
open PySem PySem.Spec PyProof.Rows L2 DW
local macro_rules | `(tactic| walk_at "side") => `(tactic| first | rfl | assumption | omega | (simp only [szL, S_len, List.length_append, List.length_map, List.length_cons, List.length_nil]; omega) | decide)
local macro_rules | `(tactic| walk_at "els") => `(tactic| first | exact Els.l | exact Els.d)
local macro_rules | `(tactic| walk_at "pos") => `(tactic| first | assumption | decide | omega | exact Or.inr (by decide) | exact ⟨by decide, by decide +kernel⟩ | exact ⟨by decide, by decide, by decide⟩)
local macro_rules | `(tactic| walk_at "at") => `(tactic| first | assumption | rfl)
local macro_rules | `(tactic| walk_at "O") => `(tactic| first
  | focus ((with_reducible apply od_plusI); (rfl); (rfl); (rfl); (rfl); done)
  | focus ((with_reducible apply od_plusS); (rfl); (rfl); (rfl); (rfl); (walk_at "side"); done)
  | focus ((with_reducible apply od_plusL); (rfl); (walk_at "els"); (rfl); (walk_at "els"); (walk_at "side"); done)
  | focus ((with_reducible apply od_plusT); (rfl); (rfl); (walk_at "side"); done)
  | focus ((with_reducible apply od_ixL); (rfl); (walk_at "els"); (rfl); (rfl); (walk_at "at"); done)
  | focus ((with_reducible apply od_ixT); (rfl); (rfl); (rfl); (walk_at "at"); done)
  | focus ((with_reducible apply od_ixS); (rfl); (rfl); (rfl); (rfl); (walk_at "side"); (walk_at "at"); done)
  | focus ((with_reducible apply od_ixC); (rfl); (rfl); (rfl); (walk_at "at"); done)
  | focus ((with_reducible apply od_ixRx); (rfl); (rfl); (rfl); (walk_at "at"); (walk_at "at"); (rfl); done)
  | focus ((with_reducible apply od_ixQx); (rfl); (rfl); (walk_at "at"); (walk_at "at"); (rfl); done)
  | focus ((with_reducible apply od_sub); (rfl); (rfl); (rfl); (rfl); done)
  | focus ((with_reducible apply od_fdiv); (rfl); (rfl); (rfl); (rfl); (walk_at "pos"); done)
  | focus ((with_reducible apply od_mod); (rfl); (rfl); (rfl); (rfl); (walk_at "pos"); done)
  | focus ((with_reducible apply od_pow); (rfl); (rfl); (rfl); (rfl); (walk_at "pos"); done)
  | focus ((with_reducible apply od_lt); (rfl); (rfl); (rfl); (rfl); done)
  | focus ((with_reducible apply od_le); (rfl); (rfl); (rfl); (rfl); done)
  | focus ((with_reducible apply od_gt); (rfl); (rfl); (rfl); (rfl); done)
  | focus ((with_reducible apply od_ge); (rfl); (rfl); (rfl); (rfl); done)
  | focus ((with_reducible apply od_eqI); (rfl); (rfl); (rfl); (rfl); done)
  | focus ((with_reducible apply od_eqS); (rfl); (rfl); (rfl); (rfl); done)
  | focus ((with_reducible apply od_eqB); (rfl); (rfl); (rfl); (rfl); done)
  | focus ((with_reducible apply od_neI); (rfl); (rfl); (rfl); (rfl); done)
  | focus ((with_reducible apply od_neS); (rfl); (rfl); (rfl); (rfl); done)
  | focus ((with_reducible apply od_neB); (rfl); (rfl); (rfl); (rfl); done)
  | focus ((with_reducible apply od_timesI); (rfl); (rfl); (rfl); (rfl); (walk_at "pos"); done)
  | focus ((with_reducible apply od_isN); (rfl); (rfl); done)
  | focus ((with_reducible apply od_isnotN); (rfl); (rfl); done)
  | focus ((with_reducible apply od_inT); (rfl); (rfl); (rfl); (rfl); (rfl); done)
  | focus ((with_reducible apply od_notinT); (rfl); (rfl); (rfl); (rfl); (rfl); done))
local macro_rules | `(tactic| walk_at "kit") => `(tactic| first | exact kit_NoneType_bool | exact kit_NoneType_int | exact kit_NoneType_str | exact kit_NoneType_list | exact kit_NoneType_tuple | exact kit_bool_bool | exact kit_bool_int | exact kit_bool_str | exact kit_bool_list | exact kit_bool_tuple | exact kit_int_bool | exact kit_int_int | exact kit_int_str | exact kit_int_list | exact kit_int_tuple | exact kit_str_bool | exact kit_str_int | exact kit_str_str | exact kit_str_list | exact kit_str_tuple | exact kit_list_bool | exact kit_list_int | exact kit_list_str | exact kit_list_list | exact kit_list_tuple | exact kit_tuple_bool | exact kit_tuple_int | exact kit_tuple_str | exact kit_tuple_list | exact kit_tuple_tuple | exact kit_dict_bool | exact kit_dict_int | exact kit_dict_str | exact kit_dict_list | exact kit_dict_tuple)
local macro_rules | `(tactic| walk_at "C") => `(tactic| fail)
local macro_rules | `(tactic| walk_at "E") => `(tactic| first
  | exact ee_int | exact ee_str | exact ee_bl | exact ee_non
  | exact ee_var rfl rfl
  | (walk_at "C")
  | focus ((with_reducible apply ee_op); (walk_at "E"); (walk_at "E"); (rfl); (walk_at "O"); done)
  | focus ((with_reducible apply ee_lst); (walk_at "A"); (walk_at "side"); done)
  | focus ((with_reducible apply ee_tup); (walk_at "A"); (walk_at "side"); done)
  | focus ((with_reducible apply ee_isi); (walk_at "E"); (rfl); (rfl); (walk_at "kit"); done)
  | focus ((with_reducible apply ee_isiT); (walk_at "E"); (rfl); (rfl); (walk_at "kit"); (walk_at "kit"); (rfl); done)
  | focus ((with_reducible apply ee_cb); (walk_at "EA"); (walk_at "F"); done)
  | focus ((with_reducible apply ee_not); (walk_at "E"); done)
  | focus ((with_reducible apply ee_and); (walk_at "E"); (intro; walk_at "E"); done)
  | focus ((with_reducible apply ee_or); (walk_at "E"); (intro; walk_at "E"); done)
  | focus ((with_reducible apply ee_sl); (walk_at "E"); (walk_at "EO"); (walk_at "EO"); (rfl); (walk_at "SD"); done)
  | focus ((with_reducible apply ee_neg); (walk_at "E"); (rfl); (rfl); done))
local macro_rules | `(tactic| walk_at "A") => `(tactic| first
  | exact ead_nil
  | focus ((with_reducible apply ead_cons); (walk_at "E"); (walk_at "A"); done))
local macro_rules | `(tactic| walk_at "EA") => `(tactic| first
  | exact ea_nil
  | focus ((with_reducible apply ea_cons); (walk_at "E"); (walk_at "EA"); (rfl); done))
local macro_rules | `(tactic| walk_at "F") => `(tactic| first
  | focus ((with_reducible apply cd_lenL); (rfl); (walk_at "els"); done)
  | focus ((with_reducible apply cd_lenT); (rfl); done)
  | focus ((with_reducible apply cd_lenS); (rfl); (rfl); (walk_at "side"); done)
  | focus ((with_reducible apply cd_lenC); (rfl); done)
  | focus ((with_reducible apply cd_lenO); (rfl); done)
  | focus ((with_reducible apply cd_int); (rfl); (rfl); done)
  | focus ((with_reducible apply cd_intB); (rfl); (rfl); done)
  | focus ((with_reducible apply cd_listC); (rfl); done)
  | focus ((with_reducible apply cd_list); (rfl); (walk_at "els"); done)
  | focus ((with_reducible apply cd_listT); (rfl); done)
  | focus ((with_reducible apply cd_tuple); (rfl); (walk_at "els"); done)
  | focus ((with_reducible apply cd_max); (rfl); (rfl); (rfl); (rfl); done)
  | focus ((with_reducible apply cd_min); (rfl); (rfl); (rfl); (rfl); done)
  | focus ((with_reducible apply cd_str); (rfl); (rfl); (walk_at "side"); done)
  | focus ((with_reducible apply cd_ord); (rfl); (rfl); (walk_at "side"); done))
local macro_rules | `(tactic| walk_at "T") => `(tactic| first
  | focus ((with_reducible apply et_test); (walk_at "E"); done)
  | focus ((with_reducible apply et_B); (walk_at "E"); done)
  | focus ((with_reducible apply et_not); (walk_at "T"); done)
  | exact et_yes
  | focus ((with_reducible apply et_and); (walk_at "T"); (intro; walk_at "T"); done)
  | focus ((with_reducible apply et_or); (walk_at "T"); (intro; walk_at "T"); done))
local macro_rules | `(tactic| walk_at "D") => `(tactic| first
  | (walk_at "E")
  | focus ((with_reducible apply ed_lst); (walk_at "E"); done))
local macro_rules | `(tactic| walk_at "A") => `(tactic| first
  | exact ead_nil
  | focus ((with_reducible apply ead_cons); (walk_at "D"); (walk_at "A"); done))
local macro_rules | `(tactic| walk_at "v") => `(tactic| (intro a0 z0; cases z0))
local macro_rules | `(tactic| walk_at "set") => `(tactic| ((with_reducible apply ss_asg); (walk_at "E"); (exact Nat.le_of_ble_eq_true rfl); (rfl); (walk_at "v"); (dsimp only [List.set_cons_zero, List.set_cons_succ, Vl.sl, upd1, List.getElem?_cons_zero, List.getElem?_cons_succ, T.set])))
local macro_rules | `(tactic| walk_at "n") => `(tactic| (dsimp only [List.set_cons_zero, List.set_cons_succ, Vl.sl, upd1, List.getElem?_cons_zero, List.getElem?_cons_succ, T.set, putT]))
local macro_rules | `(tactic| walk_at "setI") => `(tactic| ((with_reducible apply ss_setI); (walk_at "E"); (with_reducible apply ee_m); (walk_at "E"); (rfl); (with_reducible apply ee_m); (walk_at "E"); (rfl); (rfl); (walk_at "at"); (walk_at "n")))
local macro_rules | `(tactic| walk_at "EO") => `(tactic| first
  | exact eo_no
  | focus ((with_reducible apply eo_part); (walk_at "E"); (rfl); (rfl); done))
local macro_rules | `(tactic| walk_at "SD") => `(tactic| first
  | focus ((with_reducible apply sd_L); (rfl); (walk_at "els"); done)
  | focus ((with_reducible apply sd_S); (rfl); (rfl); (walk_at "side"); done)
  | focus ((with_reducible apply sd_T); (rfl); done))
/-! ### the script as a store of numbers: k09, k12, k13 -/
structure LS where
  xs : List Int
  i : Int
  c : Int
  s : Int
def LS.t (l : LS) : T := .lst [.d (.list (l.xs.map .int)), .d (.int l.i), .d (.int l.c), .d (.int l.s)]
def LS.ok (l : LS) : Prop := 0 ≤ l.i
def LS.pull (l : LS) : LS :=
  if l.c = 0 ∧ l.i < l.xs.length then
    if l.xs.getD l.i.toNat 0 ≥ 10 ^ 18 then { l with i := l.i + 1, c := l.xs.getD l.i.toNat 0 }
    else { l with i := l.i + 1, s := (l.s * 48271 + l.xs.getD l.i.toNat 0 % 2147483647 + 7) % 2147483647 }
  else l
def LS.last (l : LS) (v : Int) : Int × LS :=
  if 0 < l.c then (l.c % v, { l with c := l.c / v })
  else ((l.s * 69621 + 12345) % 2147483647 / 7 % v, { l with s := (l.s * 69621 + 12345) % 2147483647 })
def LS.nx (l : LS) (v : Int) : Int × LS := l.pull.last v
theorem LS.pull_ok {l : LS} (h : l.ok) : l.pull.ok := by
  unfold LS.pull LS.ok at *
  split
  · split <;> (show (0 : Int) ≤ l.i + 1; omega)
  · exact h
theorem LS.nx_ok {l : LS} {v : Int} (h : l.ok) : (l.nx v).2.ok := by
  have := LS.pull_ok h
  unfold LS.nx LS.last
  split <;> exact this
theorem LS.nx_lt {l : LS} {v : Int} (h : 0 < v) : 0 ≤ (l.nx v).1 ∧ (l.nx v).1 < v := by
  unfold LS.nx LS.last
  split
  · exact ⟨Int.emod_nonneg _ (by omega), Int.emod_lt_of_pos _ h⟩
  · exact ⟨Int.emod_nonneg _ (by omega), Int.emod_lt_of_pos _ h⟩
def R_next9 : Rl := fun as o => ∃ (l : LS) (v : Int), l.ok ∧ 0 < v ∧ v.natAbs.log2 < 9000 ∧ as = [.m l.t, .d (.int v)] ∧ o = .ok [.m (l.nx v).2.t, .d (.int v)] (.d (.int (l.nx v).1))
def t_next9 (K : PySem.W.Frag) : TS := (tSeq (tIfS (tAnd (tTest (tOp (rEqA K) (tOp (rIx K) (tVar 0) (tC (.int 2))) (tC (.int 0)))) (tTest (tOp rLtI (tOp (rIx K) (tVar 0) (tC (.int 1))) (tCB (rLn K) (tCons (tOp (rIx K) (tVar 0) (tC (.int 0))) tNil))))) (tSeq (tAsg (tOp (rIx K) (tOp (rIx K) (tVar 0) (tC (.int 0))) (tOp (rIx K) (tVar 0) (tC (.int 1)))) (gName 2))
  (tSeq (tAugS (tVar 0) (tC (.int 1)) (tC (.int 1)) (rIxL K) (ipI fun i j => i + j) rSetL)
  (tIfS (tTest (tOp rGeI (tVar 2) (tOp rPowI (tC (.int 10)) (tC (.int 18))))) (tAsg (tVar 2) (gSub (tVar 0) (tC (.int 2)) rSetL)) (tAsg (tOp rModI (tCB rInt1 (tCons (tOp (rPlus K) (tOp (rPlus K) (tOp (rTimes K) (tOp (rIx K) (tVar 0) (tC (.int 3))) (tC (.int 48271))) (tOp rModI (tCB rInt1 (tCons (tVar 2) tNil)) (tC (.int 2147483647)))) (tC (.int 7))) tNil)) (tC (.int 2147483647))) (gSub (tVar 0) (tC (.int 3)) rSetL))))) tNext)
  (tSeq (tIfS (tTest (tOp rGtI (tOp (rIx K) (tVar 0) (tC (.int 2))) (tC (.int 0)))) (tSeq (tAsg (tOp rModI (tCB rInt1 (tCons (tOp (rIx K) (tVar 0) (tC (.int 2))) tNil)) (tVar 1)) (gName 3))
  (tSeq (tAsg (tOp rFdivI (tOp (rIx K) (tVar 0) (tC (.int 2))) (tVar 1)) (gSub (tVar 0) (tC (.int 2)) rSetL))
  (tRet (tVar 3)))) tNext)
  (tSeq (tAsg (tOp rModI (tCB rInt1 (tCons (tOp (rPlus K) (tOp (rTimes K) (tOp (rIx K) (tVar 0) (tC (.int 3))) (tC (.int 69621))) (tC (.int 12345))) tNil)) (tC (.int 2147483647))) (gSub (tVar 0) (tC (.int 3)) rSetL))
  (tRet (tOp rModI (tCB rInt1 (tCons (tOp rFdivI (tOp (rIx K) (tVar 0) (tC (.int 3))) (tC (.int 7))) tNil)) (tVar 1))))))
section
variable {K : PySem.W.Frag} {W : WX} {vs : List V}
theorem two_of (h : as.length = vs.length) (e : as = [a, b]) : ∃ v1 v2 : V, vs = [v1, v2] := by
  subst e
  match vs, h with
  | [v1, v2], _ => exact ⟨v1, v2, rfl⟩
theorem next9_tail {v1 : V} {l : LS} {v : Int} {D : Dn} {u : Sl} (hv : 0 < v) (hl : v.natAbs.log2 < 9000)
    (k : ∀ q u w, q = l.last v → D.rt (.o (.d (.int q.1))) [.o (some v1) q.2.t, .o none (.d (.int v)), u, w]) :
    SS K W (tSeq (tIfS (tTest (tOp rGtI (tOp (rIx K) (tVar 0) (tC (.int 2))) (tC (.int 0)))) (tSeq (tAsg (tOp rModI (tCB rInt1 (tCons (tOp (rIx K) (tVar 0) (tC (.int 2))) tNil)) (tVar 1)) (gName 3))
  (tSeq (tAsg (tOp rFdivI (tOp (rIx K) (tVar 0) (tC (.int 2))) (tVar 1)) (gSub (tVar 0) (tC (.int 2)) rSetL))
  (tRet (tVar 3)))) tNext)
  (tSeq (tAsg (tOp rModI (tCB rInt1 (tCons (tOp (rPlus K) (tOp (rTimes K) (tOp (rIx K) (tVar 0) (tC (.int 3))) (tC (.int 69621))) (tC (.int 12345))) tNil)) (tC (.int 2147483647))) (gSub (tVar 0) (tC (.int 3)) rSetL))
  (tRet (tOp rModI (tCB rInt1 (tCons (tOp rFdivI (tOp (rIx K) (tVar 0) (tC (.int 3))) (tC (.int 7))) tNil)) (tVar 1))))) [.o (some v1) l.t, .o none (.d (.int v)), u, .n] D := by
  have hd : CDivW l.c v := ⟨hv, hl⟩
  refine ss_seq (ss_if (by walk_at "T") (fun c => ?_) fun c => ?_)
  · refine ss_seq ?_
    walk_at "set"
    refine ss_seq ?_
    walk_at "setI"
    refine ss_ret (by walk_at "E") ?_
    exact k (l.c % v, { l with c := l.c / v }) _ _ (if_pos (of_decide_eq_true c)).symm
  · refine ss_next ?_
    refine ss_seq ?_
    walk_at "setI"
    refine ss_ret (by walk_at "E") ?_
    exact k ((l.s * 69621 + 12345) % 2147483647 / 7 % v, { l with s := (l.s * 69621 + 12345) % 2147483647 }) _ _ (if_neg (of_decide_eq_false c)).symm
theorem body_next9 {as : List Ag} {o : Out} (h : R_next9 as o) (hl : as.length = vs.length) : SS K W (t_next9 K) (slots vs as ++ List.replicate 2 .n) (FD vs as o) := by
  obtain ⟨l, v, h1, h2, h3, rfl, rfl⟩ := h
  obtain ⟨v1, v2, rfl⟩ := two_of hl rfl
  show SS K W (t_next9 K) [.o (some v1) l.t, .o none (.d (.int v)), .n, .n] _
  have fin : ∀ (l2 : LS) (u : Sl) (e : l2 = l.pull), SS K W (tSeq (tIfS (tTest (tOp rGtI (tOp (rIx K) (tVar 0) (tC (.int 2))) (tC (.int 0)))) (tSeq (tAsg (tOp rModI (tCB rInt1 (tCons (tOp (rIx K) (tVar 0) (tC (.int 2))) tNil)) (tVar 1)) (gName 3))
  (tSeq (tAsg (tOp rFdivI (tOp (rIx K) (tVar 0) (tC (.int 2))) (tVar 1)) (gSub (tVar 0) (tC (.int 2)) rSetL))
  (tRet (tVar 3)))) tNext)
  (tSeq (tAsg (tOp rModI (tCB rInt1 (tCons (tOp (rPlus K) (tOp (rTimes K) (tOp (rIx K) (tVar 0) (tC (.int 3))) (tC (.int 69621))) (tC (.int 12345))) tNil)) (tC (.int 2147483647))) (gSub (tVar 0) (tC (.int 3)) rSetL))
  (tRet (tOp rModI (tCB rInt1 (tCons (tOp rFdivI (tOp (rIx K) (tVar 0) (tC (.int 3))) (tC (.int 7))) tNil)) (tVar 1))))) [.o (some v1) l2.t, .o none (.d (.int v)), u, .n] (FD [v1, v2] [.m l.t, .d (.int v)] (.ok [.m (l.nx v).2.t, .d (.int v)] (.d (.int (l.nx v).1)))) := by
    intro l2 u e
    refine next9_tail h2 h3 fun q u w eq => ?_
    subst e eq
    exact ⟨_, _, rfl, rfl, ⟨_, rfl, rfl⟩, rfl, trivial⟩
  refine ss_seq (ss_if (b := decide (l.c = 0) && decide (l.i < ((l.xs.map PyData.int).length : Int))) (by walk_at "T") (fun c => ?_) fun c => ?_)
  · rw [Bool.and_eq_true, decide_eq_true_eq, decide_eq_true_eq, List.length_map] at c
    have hi : l.i.toNat < l.xs.length := by have : 0 ≤ l.i := h1; omega
    have hx : (l.xs.map PyData.int)[l.i.toNat]? = some (.int (l.xs.getD l.i.toNat 0)) := by
      rw [List.getElem?_map, List.getD_eq_getElem?_getD, List.getElem?_eq_getElem hi]
      rfl
    have ha : atI (l.xs.map PyData.int) l.i = some (.int (l.xs.getD l.i.toNat 0)) := at_int h1 hx
    refine ss_seq ?_
    walk_at "set"
    refine ss_seq (ss_augI (xs := [.list (l.xs.map PyData.int), .int l.i, .int l.c, .int l.s]) (n := 1) (j := l.i) (ee_var rfl rfl) ee_int rfl rfl rfl ee_int ?_)
    walk_at "n"
    refine ss_if (by walk_at "T") (fun d => ?_) fun d => ?_
    · walk_at "setI"
      have d' : l.xs.getD l.i.toNat 0 ≥ 10 ^ 18 := of_decide_eq_true d
      refine fin { l with i := l.i + 1, c := l.xs.getD l.i.toNat 0 } _ ?_
      unfold LS.pull
      rw [if_pos c, if_pos d']
    · walk_at "setI"
      have d' : ¬ l.xs.getD l.i.toNat 0 ≥ 10 ^ 18 := of_decide_eq_false d
      refine fin { l with i := l.i + 1, s := (l.s * 48271 + l.xs.getD l.i.toNat 0 % 2147483647 + 7) % 2147483647 } _ ?_
      unfold LS.pull
      rw [if_pos c, if_neg d']
  · refine ss_next (fin l _ ?_)
    unfold LS.pull
    rw [if_neg]
    rintro ⟨c1, c2⟩
    rw [List.length_map, decide_eq_true c1, decide_eq_true c2] at c
    cases c
end
section
variable {K : PySem.W.Frag} {W : WX} {vs : List V} {m : Bool} {es es1 : Es} {te : TE} {v : Int} {i : Nat} {E : XK}
/-- A DRAW -/
theorem ee_next9 {a a0 : Option V} {l l0 : LS} (h0 : es[i]? = some (.o a0 l0.t)) (h : EE K m te es (.o (.d (.int v))) es1) (hs : es1[i]? = some (.o a l.t)) (hv : 0 < v ∧ v.natAbs.log2 < 9000) (ok : l.ok) :
    EE K true (tSpc (spD K R_next9) E (tCons (tVar i) (tCons te tNil))) es (.o (.d (.int (l.nx v).1))) (es1.set i (.o a (l.nx v).2.t)) := by
  have e := ee_callM (K := K) (E := E) (R := R_next9) (i := i) (p := []) (t1 := l.t) (t2 := (l.nx v).2.t) (k := 0) (as := [.m l.t, .d (.int v)]) (as' := [.m (l.nx v).2.t, .d (.int v)]) (t := .d (.int (l.nx v).1)) (ea_cons (ee_var h0 (by rfl : Sl.rd i _ = some (.r i []))) (ea_cons h ea_nil rfl) (by rfl)) (.here (tr_at hs rfl) (.d .nil)) ⟨l, v, ok, hv.1, hv.2, rfl, rfl⟩
  exact ee_eq e rfl (upd1_set hs)
end
/-! ### equal data -/
def Nst : Nat → PyData → Prop
  | 0, _ => False
  | _ + 1, .none => True
  | _ + 1, .bool _ => True
  | _ + 1, .int _ => True
  | _ + 1, .str _ => True
  | n + 1, .list xs => xs.length ≤ sizeLine ∧ ∀ x ∈ xs, Nst n x
  | n + 1, .tuple xs => xs.length ≤ sizeLine ∧ ∀ x ∈ xs, Nst n x
  | _ + 1, .dict _ => False
def R_same9 (n : Nat) : Rl := fun as o => ∃ x, Nst n x ∧ as = [.d x, .d x] ∧ o = .ok [.d x, .d x] (.d (.bool true))
def t_same9 (K : PySem.W.Frag) (R : Rl) : TS := (tSeq (tIfS (tTest (tOp rIsNon (tVar 1) (tC .non))) (tRet (tOp rIsNon (tVar 0) (tC .non))) tNext)
  (tSeq (tIfS (tB (tCB (rIsi K) (tCons (tVar 1) (tCons (tC (.ty "bool")) tNil)))) (tRet (tAndV (tCB (rIsi K) (tCons (tVar 0) (tCons (tC (.ty "bool")) tNil))) (tOp (rEqA K) (tVar 0) (tVar 1)))) tNext)
  (tSeq (tIfS (tB (tCB (rIsi K) (tCons (tVar 1) (tCons (tC (.ty "int")) tNil)))) (tRet (tAndV (tCB (rIsi K) (tCons (tVar 0) (tCons (tC (.ty "int")) tNil))) (tAndV (tNotV (tCB (rIsi K) (tCons (tVar 0) (tCons (tC (.ty "bool")) tNil)))) (tOp (rEqA K) (tVar 0) (tVar 1))))) tNext)
  (tSeq (tIfS (tB (tCB (rIsi K) (tCons (tVar 1) (tCons (tC (.ty "str")) tNil)))) (tRet (tAndV (tCB (rIsi K) (tCons (tVar 0) (tCons (tC (.ty "str")) tNil))) (tOp (rEqA K) (tVar 0) (tVar 1)))) tNext)
  (tSeq (tIfS (tAnd (tB (tCB (rIsi K) (tCons (tVar 1) (tCons (tC (.ty "tuple")) tNil)))) (tNot (tB (tCB (rIsi K) (tCons (tVar 0) (tCons (tC (.ty "tuple")) tNil)))))) (tRet (tC (.bl false))) tNext)
  (tSeq (tIfS (tAnd (tB (tCB (rIsi K) (tCons (tVar 1) (tCons (tC (.ty "list")) tNil)))) (tNot (tB (tCB (rIsi K) (tCons (tVar 0) (tCons (tC (.ty "list")) tNil)))))) (tRet (tC (.bl false))) tNext)
  (tSeq (tIfS (tTest (tOp (rNeA K) (tCB (rLn K) (tCons (tVar 0) tNil)) (tCB (rLn K) (tCons (tVar 1) tNil)))) (tRet (tC (.bl false))) tNext)
  (tSeq (tFor (iRng1 (tCons (tCB (rLn K) (tCons (tVar 1) tNil)) tNil)) (gName 2) (tIfS (tNot (tB (tSpc (spD K R) E0 (tCons (tOp (rIx K) (tVar 0) (tVar 2)) (tCons (tOp (rIx K) (tVar 1) (tVar 2)) tNil))))) (tRet (tC (.bl false))) tNext))
  (tRet (tC (.bl true)))))))))))
section
variable {K : PySem.W.Frag} {W : WX} {vs : List V}
theorem ee_same9 {m : Bool} {ta : TA} {es es1 : Es} {r1 r2 : Vl} {t1 t2 : T} {x : PyData} {n : Nat} {E : XK} (h : EA K m ta es [r1, r2] es1) (h1 : r1.tr es1 = some t1) (q1 : t1.toD = some x) (h2 : r2.tr es1 = some t2) (q2 : t2.toD = some x) (hn : Nst n x) :
    EE K m (tSpc (spD K (R_same9 n)) E ta) es (.o (.d (.bool true))) es1 := ee_callS h (.d h1 q1 (.d h2 q2 .nil)) ⟨x, hn, rfl, rfl⟩ rfl
theorem same9_loop {n : Nat} {v1 v2 : V} {xs : List PyData} {x : PyData} (hz : xs.length ≤ sizeLine) (hx : ∀ y ∈ xs, Nst n y) (hL : x = .list xs ∨ x = .tuple xs) {D : Dn} (k : ∀ u, D.nx [.o none (.d x), .o none (.d x), u]) :
    SS K W (tFor (iRng1 (tCons (tCB (rLn K) (tCons (tVar 1) tNil)) tNil)) (gName 2) (tIfS (tNot (tB (tSpc (spD K (R_same9 n)) E0 (tCons (tOp (rIx K) (tVar 0) (tVar 2)) (tCons (tOp (rIx K) (tVar 1) (tVar 2)) tNil))))) (tRet (tC (.bl false))) tNext)) [.o none (.d x), .o none (.d x), .n] D := by
  have hz' : xs.length < 2 ^ 62 := Nat.lt_of_le_of_lt hz (by rw [szL]; decide)
  have hi : EI K true false (iRng1 (tCons (tCB (rLn K) (tCons (tVar 1) tNil)) tNil)) [.o none (.d x), .o none (.d x), .n] (rangeD 0 ((xs.length : Int)).toNat) [.o none (.d x), .o none (.d x), .n] := by
    rcases hL with rfl | rfl
    · exact ei_m (ei_range1 (j := (xs.length : Int)) (ead_cons (ee_cb (by walk_at "EA") (by walk_at "F")) ead_nil) ⟨by omega, by omega⟩) rfl
    · exact ei_m (ei_range1 (j := (xs.length : Int)) (ead_cons (ee_cb (by walk_at "EA") (by walk_at "F")) ead_nil) ⟨by omega, by omega⟩) rfl
  rw [Int.toNat_natCast] at hi
  refine ss_for hi (fun _ es => ∃ u, es = [.o none (.d x), .o none (.d x), u]) ⟨_, rfl⟩ ?_ ?_
  · rintro i y es' hy ⟨u, rfl⟩
    have hil : i < xs.length := by
      have := (List.getElem?_eq_some_iff.mp hy).1
      rwa [rangeD_len] at this
    rw [rangeD_get hil] at hy
    cases hy
    refine ⟨_, _, gs_name (Nat.le_of_ble_eq_true rfl), ?_⟩
    walk_at "n"
    have ha : atI xs ((0 : Int) + (i : Int)) = some xs[i] := at_int (by omega) (by rw [show ((0 : Int) + (i : Int)).toNat = i by omega]; exact List.getElem?_eq_getElem hil)
    have hn : Nst n xs[i] := hx _ (List.getElem_mem hil)
    rcases hL with rfl | rfl
    · refine ss_ifF (et_not (et_B (ee_same9 (by walk_at "EA") (by rfl) (by rfl) (by rfl) (by rfl) hn))) ?_
      exact ss_next ⟨_, rfl⟩
    · refine ss_ifF (et_not (et_B (ee_same9 (by walk_at "EA") (by rfl) (by rfl) (by rfl) (by rfl) hn))) ?_
      exact ss_next ⟨_, rfl⟩
  · rintro es' ⟨u, rfl⟩
    exact k u
theorem body_same9 {n : Nat} {as : List Ag} {o : Out} (h : R_same9 (n + 1) as o) (hl : as.length = vs.length) : SS K W (t_same9 K (R_same9 n)) (slots vs as ++ List.replicate 1 .n) (FD vs as o) := by
  obtain ⟨x, hx, rfl, rfl⟩ := h
  obtain ⟨v1, v2, rfl⟩ := two_of hl rfl
  show SS K W (t_same9 K _) [.o none (.d x), .o none (.d x), .n] _
  have fin : ∀ (b : Bool) (u : Sl), b = true → ((FD [v1, v2] [.d x, .d x] (.ok [.d x, .d x] (.d (.bool true)))).rt (.o (.d (.bool b))) [.o none (.d x), .o none (.d x), u]) := by
    rintro b u rfl
    exact ⟨_, _, rfl, rfl, rfl, rfl, trivial⟩
  cases x with
  | none =>
    refine ss_seq (ss_tt (by walk_at "T") (by rfl) ?_)
    refine ss_ret (by walk_at "E") ?_
    exact fin _ _ rfl
  | bool b =>
    refine ss_seq (ss_ff (by walk_at "T") (by rfl) ?_)
    refine ss_next ?_
    refine ss_seq (ss_tt (by walk_at "T") (by rfl) ?_)
    refine ss_ret (by walk_at "E") ?_
    exact fin _ _ (by cases b <;> rfl)
  | int i =>
    refine ss_seq (ss_ff (by walk_at "T") (by rfl) ?_)
    refine ss_next ?_
    refine ss_seq (ss_ff (by walk_at "T") (by rfl) ?_)
    refine ss_next ?_
    refine ss_seq (ss_tt (by walk_at "T") (by rfl) ?_)
    refine ss_ret (by walk_at "E") ?_
    exact fin _ _ (by simp)
  | str z =>
    refine ss_seq (ss_ff (by walk_at "T") (by rfl) ?_)
    refine ss_next ?_
    refine ss_seq (ss_ff (by walk_at "T") (by rfl) ?_)
    refine ss_next ?_
    refine ss_seq (ss_ff (by walk_at "T") (by rfl) ?_)
    refine ss_next ?_
    refine ss_seq (ss_tt (by walk_at "T") (by rfl) ?_)
    refine ss_ret (by walk_at "E") ?_
    exact fin _ _ (by simp)
  | list xs =>
    refine ss_seq (ss_ff (by walk_at "T") (by rfl) ?_)
    refine ss_next ?_
    refine ss_seq (ss_ff (by walk_at "T") (by rfl) ?_)
    refine ss_next ?_
    refine ss_seq (ss_ff (by walk_at "T") (by rfl) ?_)
    refine ss_next ?_
    refine ss_seq (ss_ff (by walk_at "T") (by rfl) ?_)
    refine ss_next ?_
    refine ss_seq (ss_ff (by walk_at "T") (by rfl) ?_)
    refine ss_next ?_
    refine ss_seq (ss_ff (by walk_at "T") (by rfl) ?_)
    refine ss_next ?_
    refine ss_seq (ss_ff (b := !decide ((xs.length : Int) = (xs.length : Int))) (by walk_at "T") (by simp) ?_)
    refine ss_next ?_
    refine ss_seq (same9_loop (v1 := v1) (v2 := v2) hx.1 hx.2 (by simp) fun u => ?_)
    refine ss_ret (by walk_at "E") ?_
    exact fin _ _ rfl
  | tuple xs =>
    refine ss_seq (ss_ff (by walk_at "T") (by rfl) ?_)
    refine ss_next ?_
    refine ss_seq (ss_ff (by walk_at "T") (by rfl) ?_)
    refine ss_next ?_
    refine ss_seq (ss_ff (by walk_at "T") (by rfl) ?_)
    refine ss_next ?_
    refine ss_seq (ss_ff (by walk_at "T") (by rfl) ?_)
    refine ss_next ?_
    refine ss_seq (ss_ff (by walk_at "T") (by rfl) ?_)
    refine ss_next ?_
    refine ss_seq (ss_ff (by walk_at "T") (by rfl) ?_)
    refine ss_next ?_
    refine ss_seq (ss_ff (b := !decide ((xs.length : Int) = (xs.length : Int))) (by walk_at "T") (by simp) ?_)
    refine ss_next ?_
    refine ss_seq (same9_loop (v1 := v1) (v2 := v2) hx.1 hx.2 (by simp) fun u => ?_)
    refine ss_ret (by walk_at "E") ?_
    exact fin _ _ rfl
  | dict _ => exact hx.elim
end
end DW

namespace DW
open PySem PySem.Spec PyProof.Rows L2 DW
local macro_rules | `(tactic| walk_at "side") => `(tactic| first | rfl | assumption | omega | (simp only [szL, S_len, List.length_append, List.length_map, List.length_cons, List.length_nil]; omega) | decide)
local macro_rules | `(tactic| walk_at "els") => `(tactic| first | exact Els.l | exact Els.d)
local macro_rules | `(tactic| walk_at "pos") => `(tactic| first | assumption | decide | omega | exact Or.inr (by decide) | exact ⟨by decide, by decide +kernel⟩ | exact ⟨by decide, by decide, by decide⟩)
local macro_rules | `(tactic| walk_at "at") => `(tactic| first | assumption | rfl)
local macro_rules | `(tactic| walk_at "O") => `(tactic| first
  | focus ((with_reducible apply od_plusI); (rfl); (rfl); (rfl); (rfl); done)
  | focus ((with_reducible apply od_plusS); (rfl); (rfl); (rfl); (rfl); (walk_at "side"); done)
  | focus ((with_reducible apply od_plusL); (rfl); (walk_at "els"); (rfl); (walk_at "els"); (walk_at "side"); done)
  | focus ((with_reducible apply od_plusT); (rfl); (rfl); (walk_at "side"); done)
  | focus ((with_reducible apply od_ixL); (rfl); (walk_at "els"); (rfl); (rfl); (walk_at "at"); done)
  | focus ((with_reducible apply od_ixT); (rfl); (rfl); (rfl); (walk_at "at"); done)
  | focus ((with_reducible apply od_ixS); (rfl); (rfl); (rfl); (rfl); (walk_at "side"); (walk_at "at"); done)
  | focus ((with_reducible apply od_ixC); (rfl); (rfl); (rfl); (walk_at "at"); done)
  | focus ((with_reducible apply od_ixRx); (rfl); (rfl); (rfl); (walk_at "at"); (walk_at "at"); (rfl); done)
  | focus ((with_reducible apply od_ixQx); (rfl); (rfl); (walk_at "at"); (walk_at "at"); (rfl); done)
  | focus ((with_reducible apply od_sub); (rfl); (rfl); (rfl); (rfl); done)
  | focus ((with_reducible apply od_fdiv); (rfl); (rfl); (rfl); (rfl); (walk_at "pos"); done)
  | focus ((with_reducible apply od_mod); (rfl); (rfl); (rfl); (rfl); (walk_at "pos"); done)
  | focus ((with_reducible apply od_pow); (rfl); (rfl); (rfl); (rfl); (walk_at "pos"); done)
  | focus ((with_reducible apply od_lt); (rfl); (rfl); (rfl); (rfl); done)
  | focus ((with_reducible apply od_le); (rfl); (rfl); (rfl); (rfl); done)
  | focus ((with_reducible apply od_gt); (rfl); (rfl); (rfl); (rfl); done)
  | focus ((with_reducible apply od_ge); (rfl); (rfl); (rfl); (rfl); done)
  | focus ((with_reducible apply od_eqI); (rfl); (rfl); (rfl); (rfl); done)
  | focus ((with_reducible apply od_eqS); (rfl); (rfl); (rfl); (rfl); done)
  | focus ((with_reducible apply od_eqB); (rfl); (rfl); (rfl); (rfl); done)
  | focus ((with_reducible apply od_neI); (rfl); (rfl); (rfl); (rfl); done)
  | focus ((with_reducible apply od_neS); (rfl); (rfl); (rfl); (rfl); done)
  | focus ((with_reducible apply od_neB); (rfl); (rfl); (rfl); (rfl); done)
  | focus ((with_reducible apply od_timesI); (rfl); (rfl); (rfl); (rfl); (walk_at "pos"); done)
  | focus ((with_reducible apply od_isN); (rfl); (rfl); done)
  | focus ((with_reducible apply od_isnotN); (rfl); (rfl); done)
  | focus ((with_reducible apply od_inT); (rfl); (rfl); (rfl); (rfl); (rfl); done)
  | focus ((with_reducible apply od_notinT); (rfl); (rfl); (rfl); (rfl); (rfl); done))
local macro_rules | `(tactic| walk_at "kit") => `(tactic| first | exact kit_NoneType_bool | exact kit_NoneType_int | exact kit_NoneType_str | exact kit_NoneType_list | exact kit_NoneType_tuple | exact kit_bool_bool | exact kit_bool_int | exact kit_bool_str | exact kit_bool_list | exact kit_bool_tuple | exact kit_int_bool | exact kit_int_int | exact kit_int_str | exact kit_int_list | exact kit_int_tuple | exact kit_str_bool | exact kit_str_int | exact kit_str_str | exact kit_str_list | exact kit_str_tuple | exact kit_list_bool | exact kit_list_int | exact kit_list_str | exact kit_list_list | exact kit_list_tuple | exact kit_tuple_bool | exact kit_tuple_int | exact kit_tuple_str | exact kit_tuple_list | exact kit_tuple_tuple | exact kit_dict_bool | exact kit_dict_int | exact kit_dict_str | exact kit_dict_list | exact kit_dict_tuple)
local macro_rules | `(tactic| walk_at "C") => `(tactic| fail)
local macro_rules | `(tactic| walk_at "E") => `(tactic| first
  | exact ee_int | exact ee_str | exact ee_bl | exact ee_non
  | exact ee_var rfl rfl
  | (walk_at "C")
  | focus ((with_reducible apply ee_op); (walk_at "E"); (walk_at "E"); (rfl); (walk_at "O"); done)
  | focus ((with_reducible apply ee_lst); (walk_at "A"); (walk_at "side"); done)
  | focus ((with_reducible apply ee_tup); (walk_at "A"); (walk_at "side"); done)
  | focus ((with_reducible apply ee_isi); (walk_at "E"); (rfl); (rfl); (walk_at "kit"); done)
  | focus ((with_reducible apply ee_isiT); (walk_at "E"); (rfl); (rfl); (walk_at "kit"); (walk_at "kit"); (rfl); done)
  | focus ((with_reducible apply ee_cb); (walk_at "EA"); (walk_at "F"); done)
  | focus ((with_reducible apply ee_not); (walk_at "E"); done)
  | focus ((with_reducible apply ee_and); (walk_at "E"); (intro; walk_at "E"); done)
  | focus ((with_reducible apply ee_or); (walk_at "E"); (intro; walk_at "E"); done)
  | focus ((with_reducible apply ee_sl); (walk_at "E"); (walk_at "EO"); (walk_at "EO"); (rfl); (walk_at "SD"); done)
  | focus ((with_reducible apply ee_neg); (walk_at "E"); (rfl); (rfl); done))
local macro_rules | `(tactic| walk_at "A") => `(tactic| first
  | exact ead_nil
  | focus ((with_reducible apply ead_cons); (walk_at "E"); (walk_at "A"); done))
local macro_rules | `(tactic| walk_at "EA") => `(tactic| first
  | exact ea_nil
  | focus ((with_reducible apply ea_cons); (walk_at "E"); (walk_at "EA"); (rfl); done))
local macro_rules | `(tactic| walk_at "F") => `(tactic| first
  | focus ((with_reducible apply cd_lenL); (rfl); (walk_at "els"); done)
  | focus ((with_reducible apply cd_lenT); (rfl); done)
  | focus ((with_reducible apply cd_lenS); (rfl); (rfl); (walk_at "side"); done)
  | focus ((with_reducible apply cd_lenC); (rfl); done)
  | focus ((with_reducible apply cd_lenO); (rfl); done)
  | focus ((with_reducible apply cd_int); (rfl); (rfl); done)
  | focus ((with_reducible apply cd_intB); (rfl); (rfl); done)
  | focus ((with_reducible apply cd_listC); (rfl); done)
  | focus ((with_reducible apply cd_list); (rfl); (walk_at "els"); done)
  | focus ((with_reducible apply cd_listT); (rfl); done)
  | focus ((with_reducible apply cd_tuple); (rfl); (walk_at "els"); done)
  | focus ((with_reducible apply cd_max); (rfl); (rfl); (rfl); (rfl); done)
  | focus ((with_reducible apply cd_min); (rfl); (rfl); (rfl); (rfl); done)
  | focus ((with_reducible apply cd_str); (rfl); (rfl); (walk_at "side"); done)
  | focus ((with_reducible apply cd_ord); (rfl); (rfl); (walk_at "side"); done))
local macro_rules | `(tactic| walk_at "T") => `(tactic| first
  | focus ((with_reducible apply et_test); (walk_at "E"); done)
  | focus ((with_reducible apply et_B); (walk_at "E"); done)
  | focus ((with_reducible apply et_not); (walk_at "T"); done)
  | exact et_yes
  | focus ((with_reducible apply et_and); (walk_at "T"); (intro; walk_at "T"); done)
  | focus ((with_reducible apply et_or); (walk_at "T"); (intro; walk_at "T"); done))
local macro_rules | `(tactic| walk_at "D") => `(tactic| first
  | (walk_at "E")
  | focus ((with_reducible apply ed_lst); (walk_at "E"); done))
local macro_rules | `(tactic| walk_at "A") => `(tactic| first
  | exact ead_nil
  | focus ((with_reducible apply ead_cons); (walk_at "D"); (walk_at "A"); done))
local macro_rules | `(tactic| walk_at "v") => `(tactic| (intro a0 z0; cases z0))
local macro_rules | `(tactic| walk_at "set") => `(tactic| ((with_reducible apply ss_asg); (walk_at "E"); (exact Nat.le_of_ble_eq_true rfl); (rfl); (walk_at "v"); (dsimp only [List.set_cons_zero, List.set_cons_succ, Vl.sl, upd1, List.getElem?_cons_zero, List.getElem?_cons_succ, T.set])))
local macro_rules | `(tactic| walk_at "n") => `(tactic| (dsimp only [List.set_cons_zero, List.set_cons_succ, Vl.sl, upd1, List.getElem?_cons_zero, List.getElem?_cons_succ, T.set, putT]))
local macro_rules | `(tactic| walk_at "setI") => `(tactic| ((with_reducible apply ss_setI); (walk_at "E"); (with_reducible apply ee_m); (walk_at "E"); (rfl); (with_reducible apply ee_m); (walk_at "E"); (rfl); (rfl); (walk_at "at"); (walk_at "n")))
local macro_rules | `(tactic| walk_at "EO") => `(tactic| first
  | exact eo_no
  | focus ((with_reducible apply eo_part); (walk_at "E"); (rfl); (rfl); done))
local macro_rules | `(tactic| walk_at "SD") => `(tactic| first
  | focus ((with_reducible apply sd_L); (rfl); (walk_at "els"); done)
  | focus ((with_reducible apply sd_S); (rfl); (rfl); (walk_at "side"); done)
  | focus ((with_reducible apply sd_T); (rfl); done))
/-! ### draws out of the script: k01, k02, k03, k05, k07, k10, k11 -/
def mixV (c k : Int) : Int := (c * 48271 + k * 69621 + 12345) % 2147483647
def mixW (c k : Int) : Int := (mixV c k * mixV c k + k * 40692 + 1) % 2147483399
def mixI (c k : Int) : Int := mixW c k / 5 % 9973
def dgN : Nat → Int → List Int × Int
  | 0, c => ([], c)
  | n + 1, c => if 0 < (dgN n c).2 then ((dgN n c).1 ++ [(dgN n c).2 % 9973], (dgN n c).2 / 9973) else dgN n c
def drN (ns : List Int) : Nat → List Int
  | 0 => []
  | n + 1 => if ns.getD n 0 < 10 ^ 18 then drN ns n ++ [mixI (ns.getD n 0) (n : Int)] else drN ns n ++ (dgN 60 (ns.getD n 0)).1
def draws (ns : List Int) : List Int := drN ns (if (ns.length : Int) < 63 then (ns.length : Int) else 63).toNat
def atF (ds : List Int) (i : Int) : Int :=
  if i < (ds.length : Int) then ds.getD i.toNat 0
  else if (ds.length : Int) = 0 then mixI i 77
  else mixI (ds.getD (i % (ds.length : Int)).toNat 0 + i * 131) i
theorem dgN_len (c : Int) : ∀ n, (dgN n c).1.length ≤ n
  | 0 => Nat.le_refl _
  | n + 1 => by
    have := dgN_len c n
    unfold dgN
    split
    · rw [List.length_append]
      show _ + 1 ≤ _
      omega
    · omega
theorem drN_len (ns : List Int) : ∀ n, (drN ns n).length ≤ 60 * n
  | 0 => Nat.le_refl _
  | n + 1 => by
    have := drN_len ns n
    have h2 := dgN_len (ns.getD n 0) 60
    unfold drN
    split
    · rw [List.length_append]
      show _ + 1 ≤ _
      omega
    · rw [List.length_append]
      omega
abbrev dI (xs : List Int) : PyData := .list (xs.map .int)
def R_mix2 : Rl := fun as o => ∃ c k : Int, as = [.d (.int c), .d (.int k)] ∧ o = .ok [.d (.int c), .d (.int k)] (.d (.int (mixI c k)))
def R_draws2 : Rl := fun as o => ∃ ns : List Int, as = [.s ns] ∧ o = .ok [.s ns] (T.L ((draws ns).map .int))
def R_at2 : Rl := fun as o => ∃ (ds : List Int) (i : Int), 0 ≤ i ∧ as = [.d (dI ds), .d (.int i)] ∧ o = .ok [.d (dI ds), .d (.int i)] (.d (.int (atF ds i)))
def R_isint2 : Rl := fun as o => ∃ i : Int, as = [.d (.int i)] ∧ o = .ok [.d (.int i)] (.d (.bool true))
def R_same2 (n : Nat) : Rl := fun as o => ∃ x, Nst n x ∧ as = [.d x, .d x] ∧ o = .ok [.d x, .d x] (.d (.bool true))
/-- the state of draws: the numbers and the place -/
structure DR where
  xs : List Int
  i : Int
def DR.t (l : DR) : T := .lst [.d (dI l.xs), .d (.int l.i)]
def DR.ok (l : DR) : Prop := 0 ≤ l.i
def DR.nx (l : DR) (v : Int) : Int × DR := (atF l.xs (l.i + 1) % v, { l with i := l.i + 1 })
theorem DR.nx_ok {l : DR} {v : Int} (h : l.ok) : (l.nx v).2.ok := by
  show 0 ≤ l.i + 1
  have : 0 ≤ l.i := h
  omega
theorem DR.nx_lt {l : DR} {v : Int} (h : 0 < v) : 0 ≤ (l.nx v).1 ∧ (l.nx v).1 < v := ⟨Int.emod_nonneg _ (by omega), Int.emod_lt_of_pos _ h⟩
def R_next2 : Rl := fun as o => ∃ (l : DR) (v : Int), l.ok ∧ 0 < v ∧ as = [.m l.t, .d (.int v)] ∧ o = .ok [.m (l.nx v).2.t, .d (.int v)] (.d (.int (l.nx v).1))
def t_mix2 (K : PySem.W.Frag) : TS := (tSeq (tAsg (tOp rModI (tCB rInt1 (tCons (tOp (rPlus K) (tOp (rPlus K) (tOp (rTimes K) (tCB rInt1 (tCons (tVar 0) tNil)) (tC (.int 48271))) (tOp (rTimes K) (tVar 1) (tC (.int 69621)))) (tC (.int 12345))) tNil)) (tC (.int 2147483647))) (gName 2))
  (tSeq (tAsg (tOp rModI (tCB rInt1 (tCons (tOp (rPlus K) (tOp (rPlus K) (tOp (rTimes K) (tVar 2) (tVar 2)) (tOp (rTimes K) (tVar 1) (tC (.int 40692)))) (tC (.int 1))) tNil)) (tC (.int 2147483399))) (gName 2))
  (tRet (tOp rModI (tOp rFdivI (tVar 2) (tC (.int 5))) (tC (.int 9973))))))
def t_draws2 (K : PySem.W.Frag) : TS := (tSeq (tAsg (tLst tNil) (gName 1))
  (tSeq (tFor (iRng1 (tCons (tCB rMin2 (tCons (tC (.int 63)) (tCons (tCB (rLn K) (tCons (tVar 0) tNil)) tNil))) tNil)) (gName 2) (tSeq (tAsg (tCB rInt1 (tCons (tOp (rIx K) (tVar 0) (tVar 2)) tNil)) (gName 3))
  (tIfS (tTest (tOp rLtI (tVar 3) (tOp rPowI (tC (.int 10)) (tC (.int 18))))) (tDrop (tBM K "list" rAppend (tVar 1) (tCons (tSpc (spD K R_mix2) E0 (tCons (tVar 3) (tCons (tVar 2) tNil))) tNil))) (tFor (iRng1 (tCons (tC (.int 60)) tNil)) (gName 4) (tIfS (tTest (tOp rGtI (tVar 3) (tC (.int 0)))) (tSeq (tDrop (tBM K "list" rAppend (tVar 1) (tCons (tOp rModI (tCB rInt1 (tCons (tVar 3) tNil)) (tC (.int 9973))) tNil)))
  (tAsg (tOp rFdivI (tVar 3) (tC (.int 9973))) (gName 3))) tNext)))))
  (tRet (tVar 1))))
def t_at2 (K : PySem.W.Frag) : TS := (tSeq (tIfS (tTest (tOp rLtI (tVar 1) (tCB (rLn K) (tCons (tVar 0) tNil)))) (tRet (tOp (rIx K) (tVar 0) (tVar 1))) tNext)
  (tSeq (tIfS (tTest (tOp (rEqA K) (tCB (rLn K) (tCons (tVar 0) tNil)) (tC (.int 0)))) (tRet (tSpc (spD K R_mix2) E0 (tCons (tVar 1) (tCons (tC (.int 77)) tNil)))) tNext)
  (tRet (tSpc (spD K R_mix2) E0 (tCons (tOp (rPlus K) (tOp (rIx K) (tVar 0) (tOp rModI (tCB rInt1 (tCons (tVar 1) tNil)) (tCB (rLn K) (tCons (tVar 0) tNil)))) (tOp (rTimes K) (tVar 1) (tC (.int 131)))) (tCons (tVar 1) tNil))))))
def t_isint2 (K : PySem.W.Frag) : TS := (tRet (tAndV (tCB (rIsi K) (tCons (tVar 0) (tCons (tC (.ty "int")) tNil))) (tNotV (tCB (rIsi K) (tCons (tVar 0) (tCons (tC (.ty "bool")) tNil))))))
def t_same2 (K : PySem.W.Frag) (Rn : Rl) : TS := (tSeq (tIfS (tB (tCB (rIsiT K) (tCons (tVar 1) (tCons (tTup (tCons (tC (.ty "list")) (tCons (tC (.ty "tuple")) tNil))) tNil)))) (tSeq (tIfS (tOr (tTest (tOp (rNeA K) (tCB (rIsi K) (tCons (tVar 1) (tCons (tC (.ty "list")) tNil))) (tCB (rIsi K) (tCons (tVar 0) (tCons (tC (.ty "list")) tNil))))) (tTest (tOp (rNeA K) (tCB (rIsi K) (tCons (tVar 1) (tCons (tC (.ty "tuple")) tNil))) (tCB (rIsi K) (tCons (tVar 0) (tCons (tC (.ty "tuple")) tNil)))))) (tRet (tC (.bl false))) tNext)
  (tSeq (tIfS (tTest (tOp (rNeA K) (tCB (rLn K) (tCons (tVar 0) tNil)) (tCB (rLn K) (tCons (tVar 1) tNil)))) (tRet (tC (.bl false))) tNext)
  (tSeq (tFor (iRng1 (tCons (tCB (rLn K) (tCons (tVar 1) tNil)) tNil)) (gName 2) (tIfS (tNot (tB (tSpc (spD K Rn) E0 (tCons (tOp (rIx K) (tVar 0) (tVar 2)) (tCons (tOp (rIx K) (tVar 1) (tVar 2)) tNil))))) (tRet (tC (.bl false))) tNext))
  (tRet (tC (.bl true)))))) tNext)
  (tSeq (tIfS (tTest (tOp rIsNon (tVar 1) (tC .non))) (tRet (tOp rIsNon (tVar 0) (tC .non))) tNext)
  (tSeq (tIfS (tB (tCB (rIsi K) (tCons (tVar 1) (tCons (tC (.ty "bool")) tNil)))) (tRet (tAndV (tCB (rIsi K) (tCons (tVar 0) (tCons (tC (.ty "bool")) tNil))) (tOp (rEqA K) (tVar 0) (tVar 1)))) tNext)
  (tSeq (tIfS (tB (tCB (rIsi K) (tCons (tVar 1) (tCons (tC (.ty "int")) tNil)))) (tRet (tAndV (tSpc (spD K R_isint2) E0 (tCons (tVar 0) tNil)) (tOp (rEqA K) (tVar 0) (tVar 1)))) tNext)
  (tRet (tAndV (tCB (rIsi K) (tCons (tVar 0) (tCons (tC (.ty "str")) tNil))) (tOp (rEqA K) (tVar 0) (tVar 1))))))))
def t_next2 (K : PySem.W.Frag) : TS := (tSeq (tAugS (tVar 0) (tC (.int 1)) (tC (.int 1)) (rIxL K) (ipI fun i j => i + j) rSetL)
  (tRet (tOp rModI (tSpc (spD K R_at2) E0 (tCons (tOp (rIx K) (tVar 0) (tC (.int 0))) (tCons (tOp (rIx K) (tVar 0) (tC (.int 1))) tNil))) (tVar 1))))
theorem one_of {vs : List V} {as : List Ag} {a : Ag} (h : as.length = vs.length) (e : as = [a]) : ∃ v1 : V, vs = [v1] := by
  subst e
  match vs, h with
  | [v1], _ => exact ⟨v1, rfl⟩
theorem three_of {vs : List V} {as : List Ag} {a b c : Ag} (h : as.length = vs.length) (e : as = [a, b, c]) : ∃ v1 v2 v3 : V, vs = [v1, v2, v3] := by
  subst e
  match vs, h with
  | [v1, v2, v3], _ => exact ⟨v1, v2, v3, rfl⟩
theorem four_of {vs : List V} {as : List Ag} {a b c d : Ag} (h : as.length = vs.length) (e : as = [a, b, c, d]) : ∃ v1 v2 v3 v4 : V, vs = [v1, v2, v3, v4] := by
  subst e
  match vs, h with
  | [v1, v2, v3, v4], _ => exact ⟨v1, v2, v3, v4, rfl⟩
theorem getD_int {l : List Int} {k : Nat} (h : k < l.length) : (l.map PyData.int)[k]? = some (.int (l.getD k 0)) := by
  rw [List.getElem?_map, List.getD_eq_getElem?_getD, List.getElem?_eq_getElem h]
  rfl
section
variable {K : PySem.W.Frag} {W : WX} {vs : List V} {m : Bool} {es es1 : Es} {ta : TA} {te : TE} {v : Int} {i : Nat} {E : XK}
theorem ee_mix2 {c k : Int} (h : EA K m ta es [.o (.d (.int c)), .o (.d (.int k))] es1) : EE K m (tSpc (spD K R_mix2) E ta) es (.o (.d (.int (mixI c k)))) es1 := ee_callP h (.d (.d .nil)) ⟨c, k, rfl, rfl⟩
theorem ee_at2 {ds : List Int} {i : Int} (h : EA K m ta es [.o (.d (dI ds)), .o (.d (.int i))] es1) (h0 : 0 ≤ i) : EE K m (tSpc (spD K R_at2) E ta) es (.o (.d (.int (atF ds i)))) es1 := ee_callP h (.d (.d .nil)) ⟨ds, i, h0, rfl, rfl⟩
theorem ee_isint2 {i : Int} (h : EA K m ta es [.o (.d (.int i))] es1) : EE K m (tSpc (spD K R_isint2) E ta) es (.o (.d (.bool true))) es1 := ee_callP h (.d .nil) ⟨i, rfl, rfl⟩
theorem ee_same2 {r1 r2 : Vl} {t1 t2 : T} {x : PyData} {n : Nat} (h : EA K m ta es [r1, r2] es1) (h1 : r1.tr es1 = some t1) (q1 : t1.toD = some x) (h2 : r2.tr es1 = some t2) (q2 : t2.toD = some x) (hn : Nst n x) :
    EE K m (tSpc (spD K (R_same2 n)) E ta) es (.o (.d (.bool true))) es1 := ee_callS h (.d h1 q1 (.d h2 q2 .nil)) ⟨x, hn, rfl, rfl⟩ rfl
/-- A DRAW -/
theorem ee_next2 {a a0 : Option V} {l l0 : DR} (h0 : es[i]? = some (.o a0 l0.t)) (h : EE K m te es (.o (.d (.int v))) es1) (hs : es1[i]? = some (.o a l.t)) (hv : 0 < v) (ok : l.ok) :
    EE K true (tSpc (spD K R_next2) E (tCons (tVar i) (tCons te tNil))) es (.o (.d (.int (l.nx v).1))) (es1.set i (.o a (l.nx v).2.t)) := by
  have e := ee_callM (K := K) (E := E) (R := R_next2) (i := i) (p := []) (t1 := l.t) (t2 := (l.nx v).2.t) (k := 0) (as := [.m l.t, .d (.int v)]) (as' := [.m (l.nx v).2.t, .d (.int v)]) (t := .d (.int (l.nx v).1)) (ea_cons (ee_var h0 (by rfl : Sl.rd i _ = some (.r i []))) (ea_cons h ea_nil rfl) (by rfl)) (.here (tr_at hs rfl) (.d .nil)) ⟨l, v, ok, hv, rfl, rfl⟩
  exact ee_eq e rfl (upd1_set hs)
end
local macro_rules | `(tactic| walk_at "C") => `(tactic| first
  | focus ((with_reducible apply ee_mix2); (walk_at "EA"); done)
  | focus ((with_reducible apply ee_isint2); (walk_at "EA"); done)
  | focus ((with_reducible apply ee_at2); (walk_at "EA"); (walk_at "pos"); done))
section
variable {K : PySem.W.Frag} {W : WX} {vs : List V} {as : List Ag} {o : Out}
theorem mixV_lt (c k : Int) : 0 ≤ mixV c k ∧ mixV c k < 2147483647 := ⟨Int.emod_nonneg _ (by decide), Int.emod_lt_of_pos _ (by decide)⟩
theorem body_mix2 (h : R_mix2 as o) (hl : as.length = vs.length) : SS K W (t_mix2 K) (slots vs as ++ List.replicate 1 .n) (FD vs as o) := by
  obtain ⟨c, k, rfl, rfl⟩ := h
  obtain ⟨v1, v2, rfl⟩ := two_of hl rfl
  show SS K W (t_mix2 K) [.o none (.d (.int c)), .o none (.d (.int k)), .n] _
  refine ss_seq ?_
  walk_at "set"
  show SS K W _ [.o none (.d (.int c)), .o none (.d (.int k)), .o none (.d (.int (mixV c k)))] _
  have hb := mixV_lt c k
  have hm : CMul (mixV c k) (mixV c k) := Or.inl ⟨by omega, by omega⟩
  refine ss_seq ?_
  walk_at "set"
  show SS K W _ [.o none (.d (.int c)), .o none (.d (.int k)), .o none (.d (.int (mixW c k)))] _
  have hd : CDivW (mixW c k) 5 := ⟨by decide, by decide +kernel⟩
  refine ss_ret (by walk_at "E") ?_
  exact ⟨_, _, rfl, rfl, rfl, rfl, trivial⟩
theorem body_isint2 (h : R_isint2 as o) (hl : as.length = vs.length) : SS K W (t_isint2 K) (slots vs as ++ List.replicate 0 .n) (FD vs as o) := by
  obtain ⟨i, rfl, rfl⟩ := h
  obtain ⟨v1, rfl⟩ := one_of hl rfl
  show SS K W (t_isint2 K) [.o none (.d (.int i))] _
  refine ss_ret (by walk_at "E") ?_
  exact ⟨_, _, rfl, rfl, rfl, trivial⟩
theorem body_at2 (h : R_at2 as o) (hl : as.length = vs.length) : SS K W (t_at2 K) (slots vs as ++ List.replicate 0 .n) (FD vs as o) := by
  obtain ⟨ds, i, h0, rfl, rfl⟩ := h
  obtain ⟨v1, v2, rfl⟩ := two_of hl rfl
  show SS K W (t_at2 K) [.o none (.d (dI ds)), .o none (.d (.int i))] _
  refine ss_seq (ss_if (b := decide (i < ((ds.map PyData.int).length : Int))) (by walk_at "T") (fun c => ?_) fun c => ?_)
  · have c' : i < (ds.length : Int) := by have := of_decide_eq_true c; rwa [List.length_map] at this
    have ha : atI (ds.map PyData.int) i = some (.int (ds.getD i.toNat 0)) := at_int h0 (getD_int (by omega))
    refine ss_ret (by walk_at "E") ?_
    refine ⟨_, _, rfl, ?_, rfl, rfl, trivial⟩
    unfold atF
    rw [if_pos c']
  · have c' : ¬ i < (ds.length : Int) := by have := of_decide_eq_false c; rwa [List.length_map] at this
    refine ss_next ?_
    refine ss_seq (ss_if (b := decide (((ds.map PyData.int).length : Int) = 0)) (by walk_at "T") (fun d => ?_) fun d => ?_)
    · have d' : (ds.length : Int) = 0 := by have := of_decide_eq_true d; rwa [List.length_map] at this
      refine ss_ret (by walk_at "E") ?_
      refine ⟨_, _, rfl, ?_, rfl, rfl, trivial⟩
      unfold atF
      rw [if_neg c', if_pos d']
    · have d' : ¬ (ds.length : Int) = 0 := by have := of_decide_eq_false d; rwa [List.length_map] at this
      have hp : (0 : Int) < ((ds.map PyData.int).length : Int) := by rw [List.length_map]; omega
      have m0 := Int.emod_nonneg i (b := (ds.length : Int)) (by omega)
      have m1 := Int.emod_lt_of_pos i (b := (ds.length : Int)) (by omega)
      have ha : atI (ds.map PyData.int) (i % ((ds.map PyData.int).length : Int)) = some (.int (ds.getD (i % (ds.length : Int)).toNat 0)) := by
        rw [List.length_map]
        exact at_int m0 (getD_int (by omega))
      refine ss_next ?_
      refine ss_ret (by walk_at "E") ?_
      refine ⟨_, _, rfl, ?_, rfl, rfl, trivial⟩
      unfold atF
      rw [if_neg c', if_neg d']
local macro_rules | `(tactic| walk_at "ok") => `(tactic| assumption)
theorem body_next2 (h : R_next2 as o) (hl : as.length = vs.length) : SS K W (t_next2 K) (slots vs as ++ List.replicate 0 .n) (FD vs as o) := by
  obtain ⟨l, v, h1, h2, rfl, rfl⟩ := h
  obtain ⟨v1, v2, rfl⟩ := two_of hl rfl
  show SS K W (t_next2 K) [.o (some v1) l.t, .o none (.d (.int v))] _
  have h0 : 0 ≤ l.i + 1 := by have : 0 ≤ l.i := h1; omega
  refine ss_seq (ss_augI (xs := [dI l.xs, .int l.i]) (n := 1) (j := l.i) (ee_var rfl rfl) ee_int rfl rfl rfl ee_int ?_)
  walk_at "n"
  refine ss_ret (by walk_at "E") ?_
  exact ⟨_, _, rfl, rfl, ⟨_, rfl, rfl⟩, rfl, trivial⟩
theorem body_draws2 (h : R_draws2 as o) (hl : as.length = vs.length) : SS K W (t_draws2 K) (slots vs as ++ List.replicate 4 .n) (FD vs as o) := by
  obtain ⟨ns, rfl, rfl⟩ := h
  obtain ⟨v1, rfl⟩ := one_of hl rfl
  show SS K W (t_draws2 K) [.o none (.scr ns), .n, .n, .n, .n] _
  refine ss_seq ?_
  walk_at "set"
  have hb : (if (ns.length : Int) < 63 then (ns.length : Int) else 63) ≤ 63 ∧ 0 ≤ (if (ns.length : Int) < 63 then (ns.length : Int) else 63) ∧ (if (ns.length : Int) < 63 then (ns.length : Int) else 63) ≤ (ns.length : Int) := by split <;> omega
  refine ss_seq (ss_for (ei_range1 (j := if (ns.length : Int) < 63 then (ns.length : Int) else 63) (by walk_at "A") ⟨by omega, by omega⟩) (fun i es => ∃ a b c, es = [.o none (.scr ns), .o none (T.L ((drN ns i).map .int)), a, b, c]) ⟨_, _, _, rfl⟩ ?_ ?_)
  · rintro i y es' hy ⟨a, b, u, rfl⟩
    have hil : i < (if (ns.length : Int) < 63 then (ns.length : Int) else 63).toNat := by
      have := (List.getElem?_eq_some_iff.mp hy).1
      rwa [rangeD_len] at this
    rw [rangeD_get hil] at hy
    cases hy
    rw [Int.zero_add]
    have hi2 : i < ns.length := by omega
    have ha : atI ns (i : Int) = some (ns.getD i 0) := at_nat (by rw [List.getD_eq_getElem?_getD, List.getElem?_eq_getElem hi2]; rfl)
    have hll := drN_len ns i
    have hz : ((drN ns i).map PyData.int).length < sizeLine := by rw [List.length_map, szL]; omega
    refine ⟨_, _, gs_name (Nat.le_of_ble_eq_true rfl), ?_⟩
    walk_at "n"
    refine ss_seq ?_
    walk_at "set"
    refine ss_if (by walk_at "T") (fun c => ?_) fun c => ?_
    · refine ss_drop (ee_appD (xs := (drN ns i).map PyData.int) (ee_var rfl rfl) (by walk_at "E") rfl rfl rfl hz) ?_
      walk_at "n"
      have c' : ns.getD i 0 < 10 ^ 18 := of_decide_eq_true c
      have e3 : (drN ns i ++ [mixI (ns.getD i 0) (i : Int)]).map PyData.int = (drN ns i).map PyData.int ++ [.int (mixI (ns.getD i 0) (i : Int))] := by
        rw [List.map_append]
        rfl
      rw [drN, if_pos c', e3]
      exact ⟨_, _, _, rfl⟩
    · refine ss_for (ei_range1 (j := 60) (by walk_at "A") ⟨by decide, by decide⟩) (fun k es => ∃ a, es = [.o none (.scr ns), .o none (T.L ((drN ns i ++ (dgN k (ns.getD i 0)).1).map .int)), .o none (.d (.int i)), .o none (.d (.int (dgN k (ns.getD i 0)).2)), a]) ⟨u, ?_⟩ ?_ ?_
      · rw [dgN, List.append_nil]
      · rintro k y es' hy ⟨a, rfl⟩
        have hkl : k < 60 := by
          have := (List.getElem?_eq_some_iff.mp hy).1
          rwa [rangeD_len] at this
        have hdl := dgN_len (ns.getD i 0) k
        have hz2 : ((drN ns i ++ (dgN k (ns.getD i 0)).1).map PyData.int).length < sizeLine := by rw [List.length_map, List.length_append, szL]; omega
        refine ⟨_, _, gs_name (Nat.le_of_ble_eq_true rfl), ?_⟩
        walk_at "n"
        refine ss_if (by walk_at "T") (fun c => ?_) fun c => ?_
        · refine ss_seq (ss_drop (ee_appD (xs := (drN ns i ++ (dgN k (ns.getD i 0)).1).map PyData.int) (ee_var rfl rfl) (by walk_at "E") rfl rfl rfl hz2) ?_)
          walk_at "n"
          walk_at "set"
          have e : dgN (k + 1) (ns.getD i 0) = ((dgN k (ns.getD i 0)).1 ++ [(dgN k (ns.getD i 0)).2 % 9973], (dgN k (ns.getD i 0)).2 / 9973) := by rw [dgN, if_pos (of_decide_eq_true c)]
          rw [e, ← List.append_assoc, List.map_append (l₂ := [(dgN k (ns.getD i 0)).2 % 9973])]
          exact ⟨_, rfl⟩
        · refine ss_next ?_
          have e : dgN (k + 1) (ns.getD i 0) = dgN k (ns.getD i 0) := by rw [dgN, if_neg (of_decide_eq_false c)]
          show ∃ a, _
          rw [e]
          exact ⟨_, rfl⟩
      · rintro es' ⟨a, rfl⟩
        have c' : ¬ ns.getD i 0 < 10 ^ 18 := of_decide_eq_false c
        rw [drN, if_neg c']
        exact ⟨_, _, _, rfl⟩
  · rintro es' ⟨a, b, c, rfl⟩
    refine ss_retO (ee_var rfl rfl) rfl ?_
    rw [rangeD_len]
    exact ⟨_, _, rfl, rfl, rfl, trivial⟩
theorem same2_loop {n : Nat} {xs : List PyData} {x : PyData} (hz : xs.length ≤ sizeLine) (hx : ∀ y ∈ xs, Nst n y) (hL : x = .list xs ∨ x = .tuple xs) {D : Dn} (k : ∀ u, D.nx [.o none (.d x), .o none (.d x), u]) :
    SS K W (tFor (iRng1 (tCons (tCB (rLn K) (tCons (tVar 1) tNil)) tNil)) (gName 2) (tIfS (tNot (tB (tSpc (spD K (R_same2 n)) E0 (tCons (tOp (rIx K) (tVar 0) (tVar 2)) (tCons (tOp (rIx K) (tVar 1) (tVar 2)) tNil))))) (tRet (tC (.bl false))) tNext)) [.o none (.d x), .o none (.d x), .n] D := by
  have hz' : xs.length < 2 ^ 62 := Nat.lt_of_le_of_lt hz (by rw [szL]; decide)
  have hi : EI K true false (iRng1 (tCons (tCB (rLn K) (tCons (tVar 1) tNil)) tNil)) [.o none (.d x), .o none (.d x), .n] (rangeD 0 ((xs.length : Int)).toNat) [.o none (.d x), .o none (.d x), .n] := by
    rcases hL with rfl | rfl
    · exact ei_m (ei_range1 (j := (xs.length : Int)) (ead_cons (ee_cb (by walk_at "EA") (by walk_at "F")) ead_nil) ⟨by omega, by omega⟩) rfl
    · exact ei_m (ei_range1 (j := (xs.length : Int)) (ead_cons (ee_cb (by walk_at "EA") (by walk_at "F")) ead_nil) ⟨by omega, by omega⟩) rfl
  rw [Int.toNat_natCast] at hi
  refine ss_for hi (fun _ es => ∃ u, es = [.o none (.d x), .o none (.d x), u]) ⟨_, rfl⟩ ?_ ?_
  · rintro i y es' hy ⟨u, rfl⟩
    have hil : i < xs.length := by
      have := (List.getElem?_eq_some_iff.mp hy).1
      rwa [rangeD_len] at this
    rw [rangeD_get hil] at hy
    cases hy
    refine ⟨_, _, gs_name (Nat.le_of_ble_eq_true rfl), ?_⟩
    walk_at "n"
    have ha : atI xs ((0 : Int) + (i : Int)) = some xs[i] := at_int (by omega) (by rw [show ((0 : Int) + (i : Int)).toNat = i by omega]; exact List.getElem?_eq_getElem hil)
    have hn : Nst n xs[i] := hx _ (List.getElem_mem hil)
    rcases hL with rfl | rfl
    · refine ss_ifF (et_not (et_B (ee_same2 (by walk_at "EA") (by rfl) (by rfl) (by rfl) (by rfl) hn))) ?_
      exact ss_next ⟨_, rfl⟩
    · refine ss_ifF (et_not (et_B (ee_same2 (by walk_at "EA") (by rfl) (by rfl) (by rfl) (by rfl) hn))) ?_
      exact ss_next ⟨_, rfl⟩
  · rintro es' ⟨u, rfl⟩
    exact k u
theorem body_same2 {n : Nat} (h : R_same2 (n + 1) as o) (hl : as.length = vs.length) : SS K W (t_same2 K (R_same2 n)) (slots vs as ++ List.replicate 1 .n) (FD vs as o) := by
  obtain ⟨x, hx, rfl, rfl⟩ := h
  obtain ⟨v1, v2, rfl⟩ := two_of hl rfl
  show SS K W (t_same2 K _) [.o none (.d x), .o none (.d x), .n] _
  have fin : ∀ (b : Bool) (u : Sl), b = true → ((FD [v1, v2] [.d x, .d x] (.ok [.d x, .d x] (.d (.bool true)))).rt (.o (.d (.bool b))) [.o none (.d x), .o none (.d x), u]) := by
    rintro b u rfl
    exact ⟨_, _, rfl, rfl, rfl, rfl, trivial⟩
  cases x with
  | none =>
    refine ss_seq (ss_ff (by walk_at "T") (by rfl) ?_)
    refine ss_next ?_
    refine ss_seq (ss_tt (by walk_at "T") (by rfl) ?_)
    refine ss_ret (by walk_at "E") ?_
    exact fin _ _ rfl
  | bool b =>
    refine ss_seq (ss_ff (by walk_at "T") (by rfl) ?_)
    refine ss_next ?_
    refine ss_seq (ss_ff (by walk_at "T") (by rfl) ?_)
    refine ss_next ?_
    refine ss_seq (ss_tt (by walk_at "T") (by rfl) ?_)
    refine ss_ret (by walk_at "E") ?_
    exact fin _ _ (by cases b <;> rfl)
  | int i =>
    refine ss_seq (ss_ff (by walk_at "T") (by rfl) ?_)
    refine ss_next ?_
    refine ss_seq (ss_ff (by walk_at "T") (by rfl) ?_)
    refine ss_next ?_
    refine ss_seq (ss_ff (by walk_at "T") (by rfl) ?_)
    refine ss_next ?_
    refine ss_seq (ss_tt (by walk_at "T") (by rfl) ?_)
    refine ss_ret (by walk_at "E") ?_
    exact fin _ _ (by simp)
  | str z =>
    refine ss_seq (ss_ff (by walk_at "T") (by rfl) ?_)
    refine ss_next ?_
    refine ss_seq (ss_ff (by walk_at "T") (by rfl) ?_)
    refine ss_next ?_
    refine ss_seq (ss_ff (by walk_at "T") (by rfl) ?_)
    refine ss_next ?_
    refine ss_seq (ss_ff (by walk_at "T") (by rfl) ?_)
    refine ss_next ?_
    refine ss_ret (by walk_at "E") ?_
    exact fin _ _ (by simp)
  | list xs =>
    refine ss_seq (ss_tt (by walk_at "T") (by rfl) ?_)
    refine ss_seq (ss_ff (by walk_at "T") (by rfl) ?_)
    refine ss_next ?_
    refine ss_seq (ss_ff (b := !decide ((xs.length : Int) = (xs.length : Int))) (by walk_at "T") (by simp) ?_)
    refine ss_next ?_
    refine ss_seq (same2_loop hx.1 hx.2 (by simp) fun u => ?_)
    refine ss_ret (by walk_at "E") ?_
    exact fin _ _ rfl
  | tuple xs =>
    refine ss_seq (ss_tt (by walk_at "T") (by rfl) ?_)
    refine ss_seq (ss_ff (by walk_at "T") (by rfl) ?_)
    refine ss_next ?_
    refine ss_seq (ss_ff (b := !decide ((xs.length : Int) = (xs.length : Int))) (by walk_at "T") (by simp) ?_)
    refine ss_next ?_
    refine ss_seq (same2_loop hx.1 hx.2 (by simp) fun u => ?_)
    refine ss_ret (by walk_at "E") ?_
    exact fin _ _ rfl
  | dict _ => exact hx.elim
end
theorem R_zero_same2 {vs : List V} {H : Hp} {Q : VK} {E : XK} {K : PySem.W.Frag} (h : spD K (R_same2 0) vs H Q E) : False := by
  obtain ⟨as, o, B, F, fps, ⟨x, hx, _⟩, _⟩ := h
  exact hx
end DW

namespace DW
open PySem PySem.Spec PyProof.Rows L2
/-! ### exceptions -/
def WE0 (E : XK) : WX := fun cls d _ H => E cls d H
def tRs (W : WX) (C : Addr) : TS := fun _ σ H => W (.ref C) none σ H
def tTryO (K : PySem.W.Frag) (c : Value) (tb : WX → TS) (ts : TS) (Wout : WX) : TS := fun D σ H => tb (wOnly K c (fun _ _ _ => ts) Wout D) D σ H
section
variable {K : PySem.W.Frag} {B : Addr → Prop} {m m1 m2 m3 : Bool} {F H F1 H1 F2 H2 F' H' : Hp} {fps fps1 fps' : Fps} {σ σ' : L2.St} {es es1 es2 es3 es' : Es} {v : V} {fp fq : List Addr} {r r1 r2 r3 : Vl} {t t' t1 t2 u1 u2 : T} {x y : PyData} {te ta tb tc to ti : TE} {tt tu : TT} {j : Int} {i k : Nat} {p : List Stp} {as as' : List Ag} {R : Rl} {rs : List Vl} {vs : List V} {W : WX} {D : Dn} {c : Value} {C : Addr} {ts : TS}
/-- te raises c -/
def EX (K : PySem.W.Frag) (W : WX) (te : TE) (es : Es) (c : Value) (es' : Es) : Prop := ∀ B F H σ fps, Rep K B F H σ es fps → ∀ Q : VK,
  (∀ F' H' fps', Rep K B F' H' σ es' fps' → Go true F H fps F' H' fps' → W c none σ H') → te σ H Q
theorem ss_raise (k : D.ex (.ref C) es) : SS K W (tRs W C) es D := fun B F H σ fps R E w => w.ex _ es F H σ fps R Go.refl k
theorem ss_asgX {g : TG} (h : EX K W te es c es1) (k : D.ex c es1) : SS K W (tAsg te g) es D := fun B F H σ fps R E w => h B F H σ fps R _ fun F1 H1 fps1 R1 g1 => w.ex c es1 F1 H1 σ fps1 R1 g1 k
theorem ss_dropX (h : EX K W te es c es1) (k : D.ex c es1) : SS K W (tDrop te) es D := fun B F H σ fps R E w => h B F H σ fps R _ fun F1 H1 fps1 R1 g1 => w.ex c es1 F1 H1 σ fps1 R1 g1 k
theorem ss_retX (h : EX K W te es c es1) (k : D.ex c es1) : SS K W (tRet te) es D := fun B F H σ fps R E w => h B F H σ fps R _ fun F1 H1 fps1 R1 g1 => w.ex c es1 F1 H1 σ fps1 R1 g1 k
/-- a call that raises, its arguments read -/
theorem ex_callP {E : L2.St → XK} {ta : TA} (ha : EA K m ta es rs es1) (b : Bnd es1 rs as) (hR : R as (.exc c)) (hE : ∀ σ H, W c none σ H → E σ c none H) : EX K W (tCallS (spD K R) E ta) es c es1 := fun B F H σ fps R0 Q kk =>
  ha B F H σ fps R0 _ fun vs F1 H1 fps1 fp R1 g1 rv n => by
    refine ⟨as, .exc c, _, F1, _, hR, bnd_len b rv, rep_args R1 b rv, fun F2 H2 g2 ex2 => hE σ H2 ?_⟩
    have keep : ∀ b o, H1 b = some o → H2 b = some o := fun b o ho => g2.ou b o ho fun _ z => nomatch z
    have fn : ∀ b, F1 b = none → F2 b = none ∨ H1 b = none := fun b hb => (g2.fn b hb).imp id fun y => y.elim id fun ⟨j, y⟩ => nomatch y
    exact kk F2 H2 fps1 (R1.keep keep g2.ff ex2 fn) ((g1.trans (Go.pure (m := false) keep g2.ff fn)).wk fun _ => rfl)
/-- one argument, what stands in the slot i at p, is lost -/
theorem ex_callM {E : L2.St → XK} {ta : TA} (ha : EA K m ta es rs es1) (bd : B1 es1 i p t1 t2 rs as as' k) (hR : R as (.exc c)) (hE : ∀ σ H, W c none σ H → E σ c none H) : EX K W (tCallS (spD K R) E ta) es c (es1.set i .n) := fun B F H σ fps R0 Q kk =>
  ha B F H σ fps R0 _ fun vs F1 H1 fps1 fp R1 g1 rv n => by
    obtain ⟨l1, l2, ⟨v0, f0, h1, h2, h3, h4, h5⟩, h6⟩ := b1_sl R1 bd rv
    obtain ⟨an, t0, u0, k1, k2, k3, k4⟩ := h4.ref R1 h5
    obtain ⟨fq, q1, q2, q3, bk⟩ := R1.put k1 k2 k3 k4
    refine ⟨as, .exc c, _, F1, _, hR, l1, rep_view R1 l1 h1 h2 q1 q2 (fun b hb => R1.fr i b (q3 b hb)) q3 fun j v a hj e1 e2 => (h6 j v a hj e1 e2).2, fun F2 H2 g2 ex2 => hE σ H2 ?_⟩
    have inq : ∀ {b : Addr} {j : Nat}, b ∈ fp1 k fq j → b ∈ fps1 i := fun {b j} hb => q3 b (fp1_in hb).1
    have keep : ∀ b o, H1 b = some o → b ∉ fps1 i → H2 b = some o := fun b o ho hn => g2.ou b o ho fun j hj => hn (inq hj)
    have R2 : Rep K B F2 H2 σ (es1.set i .n) (pf fps1 i []) := by
      refine R1.one (List.getElem?_eq_some_iff.mp k1).1 rfl (fun _ _ => rfl) g2.ff ex2 (fun j hj b hb => ?_) keep trivial (fun _ => rfl) List.nodup_nil (fun _ h => nomatch h) (fun _ h => nomatch h)
      rcases g2.fn b (R1.fr j b hb) with z | z | ⟨l, z⟩
      · exact z
      · obtain ⟨o, ho⟩ := R1.there hb
        rw [ho] at z
        cases z
      · exact absurd (inq z) (R1.dj j i hj b hb)
    refine kk F2 H2 _ R2 ((g1.trans (F2 := F2) (H2 := H2) (fps2 := pf fps1 i []) (m2 := true) ⟨g2.ff, fun b hb => (g2.fn b hb).imp id fun y => y.imp id fun ⟨j, y⟩ => ⟨i, inq y⟩, fun b o ho hn => keep b o ho (hn i), fun j b hb => ?_, g2.th, fun e => nomatch e⟩).wk fun _ => rfl)
    by_cases cj : j = i
    · subst cj
      rw [pf_i] at hb
      cases hb
    · rw [pf_ne cj] at hb
      exact .inr ⟨j, hb⟩
/-- try: .. except C: .. -/
theorem ss_try {cV : Value} {tbb : WX → TS} {Wout : WX} (hb : ∀ W' : WX, SS K W' (tbb W') es { nx := D.nx, rt := D.rt, bk := D.bk, ct := D.ct, ex := fun c' es' => PySem.W.exmOne K c' cV = some true ∧ SS K W ts es' D }) : SS K W (tTryO K cV tbb ts Wout) es D := fun B F H σ fps R E w =>
  hb (wOnly K cV (fun _ _ _ => ts) Wout E) B F H σ fps R E ⟨w.nx, w.rt, w.bk, w.ct, fun c' es' F' H' σ' fps' R' g' ⟨h1, h2⟩ => ⟨true, h1, fun _ a ha => h2 B F' H' σ' fps' R' E (w.go g'), fun z => nomatch z⟩⟩
end
/-! ### the walks -/
section
variable {X : Cx} {CX : CXT} {k lv : Nat} {f C : Addr} {fd : FuncData} {ps : List Str} {R : Rl} {E : L2.St → XK} {x m : Str} {p pos apos : Pos} {e o : Expr} {es : List Expr} {ta : TE} {t : TA} {W : WX}
theorem dpe_callS (c : Cl X.prog X.w X.K X.mg X.base CX x lv ps R f fd) (hr : Room lv X.A) (hg : Gl X x) (hx : ∀ σ, PassesAt CX X σ (E σ))
    (ha : PA X (e :: es) t) (hdb : (x == ("__debug__" : Str)) = false := by decide) (he : starEach (e :: es) X.env = (false, eval e X.env) :: starEach es X.env := by rfl) (hpl : (backTo pos (starEach es X.env)).any (·.1) = false := by rfl) :
    PE X (.Call (.Name x p) (e :: es) [] pos) (tCallS (spD X.K R) E t) := pe_callS c.G hr hg c.g c.kp c.b hx ha hdb he hpl
theorem dpe_methS {pl : Sem Bool} (he : PE X o ta) (cl : Cls X.K C) (c : Cm X.prog X.w X.K X.mg X.base CX C m lv ps R f fd) (hr : Room lv X.A) (hx : ∀ σ, PassesAt CX X σ (E σ)) (ha : PA X (e :: es) t)
    (hst : starEach (e :: es) X.env = (false, eval e X.env) :: starEach es X.env := by rfl) (hpl : (backTo pos (starEach es X.env)).any (·.1) = false := by rfl)
    (ht : eval (.Call (.Attribute o m apos) (e :: es) [] pos) X.env = (do
      let ov ← eval o X.env
      standAt apos.atName
      let (f, first) ← holding [ov] (getMethod ov m pl)
      callWith pos f first (backTo pos (starEach (e :: es) X.env)) (backToKw pos (keywordEach [] X.env))) := by rfl) :
    PE X (.Call (.Attribute o m apos) (e :: es) [] pos) (tCallS (spD X.K R) E (methA C m ta t)) := by
  refine ⟨fun pins s σ H Q I h => ?_⟩
  refine PySem.W.methodCall_KW (pl := pl) (thn (he.run pins s σ H _ I h) fun u s1 ⟨x, H1, I1, rx, a, dx, fs, ex, ea, l, q⟩ => ?_) ht
  subst ex
  obtain rfl : u = Value.ref a := rx
  refine getmeth_ok I1 ea cl c.M l ?_
  refine PySem.W.callWith_K (first := [.ref a]) (h₀ := X.base) I.ok.mod.kin c.M.kp (thn (ha.run pos pins s1 σ H1 _ I1 q) fun us s2 ⟨vs, H2, I2, r, q2⟩ => ⟨I2.kIn, ?_⟩) hst hpl
  exact run_fnS (us := .ref a :: us) (vs := .ref a :: vs) c.G hr c.b (hx σ) I2 (.cons rfl r) q2
theorem dpe_methS0 {pl : Sem Bool} (he : PE X o ta) (cl : Cls X.K C) (c : Cm X.prog X.w X.K X.mg X.base CX C m lv ps R f fd) (hr : Room lv X.A) (hx : ∀ σ, PassesAt CX X σ (E σ))
    (ht : eval (.Call (.Attribute o m apos) [] [] pos) X.env = (do
      let ov ← eval o X.env
      standAt apos.atName
      let (f, first) ← holding [ov] (getMethod ov m pl)
      callWith pos f first (backTo pos (starEach [] X.env)) (backToKw pos (keywordEach [] X.env))) := by rfl) :
    PE X (.Call (.Attribute o m apos) [] [] pos) (tCallS (spD X.K R) E (methA C m ta tNil)) := by
  refine ⟨fun pins s σ H Q I h => ?_⟩
  refine PySem.W.methodCall_KW (pl := pl) (thn (he.run pins s σ H _ I h) fun u s1 ⟨x, H1, I1, rx, a, dx, fs, ex, ea, l, q⟩ => ?_) ht
  subst ex
  obtain rfl : u = Value.ref a := rx
  refine getmeth_ok I1 ea cl c.M l ?_
  exact PySem.W.callWith_K0 (first := [.ref a]) I1.kIn c.M.kp (run_fnS (us := [.ref a]) (vs := [.ref a]) c.G hr c.b (hx σ) I1 (.cons rfl .nil) q)
/-- a def's own exceptions leave it -/
theorem pass1 {E : XK} (tk : Takes X (WE0 E)) : Passes (L2.CX X.prog X.w) X E := passes_call tk fun _ _ _ _ h => h
/-- an exception's class as it is raised -/
structure Ce (K : PySem.W.Frag) (mg : Str → Option Value) (x : Str) (C : Addr) : Prop where
  g : mg x = some (.ref C)
  e : PySem.W.excIn K C He.veBase "ValueError.__new__" = true
  k : PySem.W.keepIn K (.ref C) = true
  s : PySem.W.subIn K (.ref C) (.type "BaseException") = some true
  t : PySem.W.typeIn K (.ref C) = some (.type "type")
  m : PySem.W.exmOne K (.ref C) (.ref C) = some true
theorem dps_raise {msg : Str} {j : Nat} {p2 pos2 : Pos} (hc : X.calm = true) (tk : Takes X W) (c : Ce X.K X.mg x C) (hg : Gl X x) (hdb : (x == ("__debug__" : Str)) = false := by decide) :
    PS X (.Raise (some (.Call (.Name x p) [.Constant (.str msg) j p2] [] pos)) none pos2) (tRs W C) :=
  ps_raise hc tk (pmk_own PySem.F.excBase_ValueError c.e c.g c.k (raises_own c.s c.t) hg hdb)
theorem dps_try {cV : Value} {body suite : List Stmt} {b0 : Stmt} {np pos' : Pos} {tb : WX → TS} {ts : TS} {Wout : WX} (hs : X.stack = X.env :: X.outer) (hf : X.env.frame = some X.env.locals) (hc : Names X x cV) (tk : Takes X Wout)
    (hb : ∀ (W : WX) (pn : List (Addr × Obj)) (xe : Value → Shared → Prop), Takes (X.tr pn xe) W → PassesOwn (model X.prog X.w) X.A X.env xe → PSs (X.tr pn xe) body (tb W))
    (hsu : ∀ (a : Addr) (oe : Obj) (cls : Value) (d : Option Addr) (pn : List (Addr × Obj)), Zc cls d oe → (∃ vs, oe.data = .fields vs) → PSs (X.suite a ((a, oe) :: pn)) (b0 :: suite) ts) :
    PS X (.Try body [.ExceptHandler (some (.Name x np)) none (b0 :: suite) pos'] [] [] pos) (tTryO X.K cV tb ts Wout) := ps_try_only (ts := fun _ _ _ => ts) hs hf hc tk hb hsu
end
section
variable {P : Program} {w : World} {K : PySem.W.Frag} {mg : Str → Option Value} {base : Heap} {f : Addr} {fd : FuncData}
/-- a def that may raise keeps its promise -/
theorem okDX {x q : Str} {st : Stmt} {N ps : List Str} {lv k : Nat} {R : Rl} {t : XK → TS} (F : FnP K x q st f fd) (S : FnScope N ps (defScope st)) (hk : N.length = ps.length + k) (hR : ∀ as o, R as o → as.length = ps.length)
    (hb : ∀ E vs as o, R as o → as.length = vs.length → SS K (WE0 E) (t E) (slots vs as ++ List.replicate k .n) (FD vs as o))
    (hw : ∀ (cdv : Value) (A : Around) (outer : List Env) (s : Shared) (H : Hp) (E : XK), Room lv (A.deeper (envOfC q (defScope st) s.heap.objs.size f cdv)) → PSs (cxOf (L2.CX P w) P w K mg base N q (defScope st) f cdv A outer s H E) (defBody st) (t E)) :
    FnOk P w K mg base (L2.CX P w) (lv + 1) f fd ps (spD K R) := by
  refine F.ok S (fun vs H Q E h => spD_len hR h) (fun cdv A outer s H vs Q E hr h => ⟨t E, hw cdv A outer s H E hr, spD_run (W := WE0 E) h (fun _ _ _ h => h) fun as o h1 h2 => ?_⟩)
  have e : N.length - vs.length = k := by
    have := hR as o h1
    omega
  rw [e]
  exact hb E vs as o h1 h2
end
end DW

namespace DW
open PySem PySem.Spec PyProof.Rows L2
/-! ### a list comprehension whose item raises -/
theorem noteFrame_congr {e1 e2 : Env} (h : e1.frame = e2.frame) (x : Value) : noteFrame x e1 = noteFrame x e2 := by
  unfold PySem.noteFrame PySem.frameOf
  rw [h]
section
variable {M : Model} {A : Around} {E : Value → Shared → Prop} {s : Shared} {env : Env}
def compPostF (M : Model) (A : Around) (E : Value → Shared → Prop) (use : Option (Value → Sem Unit)) (Q : Value → Shared → Prop) (acc : Value) (C : Addr) (fr : Option Addr) (r : Result) (s' : Shared) : Prop :=
  match r with
  | .ok f => compPost M A E use Q acc C (.ok f) s'
  | .error x => ∃ m, s'.heap.Ns C m ∧ ∀ h', Heap.SameBut C s'.heap h' → ∀ cenv : Env, cenv.locals = C → cenv.frame = fr → wpAny M A (PySem.passOn "comprehension.variables-let-go" x cenv : Sem Value) (fun _ _ => False) E { s' with heap := h' }
theorem wpAny_comp_freeF {e : Expr} {scope : Scope} {pos : Pos} {newAcc first : Sem Value} {g : Comprehension} {gs : List Comprehension} {cl : List (Str × Addr)} {use : Option (Value → Sem Unit)}
    {Q : Value → Shared → Prop}
    (hcl : clausesOf e = g :: gs) (hs : ∀ x, foldedSetIterable g.iter env x = pure x) (hclos : closureFor scope env = pure cl)
    (hkind : scope.kind = .function) (hnames : ∀ x ∈ scope.names, x.2 = .local → scope.names.lookup x.1 = some .local)
    (h : wpAny M A first (fun x s₁ => wpAny M A (pyIter x) (fun it s₂ => wpAny M A newAcc (fun acc s₃ =>
      wpAny M A (newFunctionEnv scope env.globals cl [] env.qual none .none (some env)) (fun cenv s₄ => cenv.frame = env.frame ∧
        codeAny M A (.compStart e 0 it acc { cenv with scope := relabel scope env }) (compPostF M A E use Q acc cenv.locals env.frame) s₄) E s₃) E s₂) E s₁) E s) :
    wpAny M A (comprehension e scope env pos newAcc false first use) Q E s := by
  unfold comprehension
  rw [hclos, hcl]
  refine wpAny_bind (wpAny_mono h (fun x s₁ h₁ => wpAny_bind (wpAny_standAt (wpAny_bind (wpAny_of_eq (hs x) (wpAny_bind (wpAny_holding (wpAny_mono h₁ (fun it s₂ h₂ =>
    wpAny_standIf (wpAny_bind (wpAny_mono h₂ (fun acc s₃ h₃ => wpAny_bind (wpAny_pure (wpAny_bind (wpAny_mono h₃ (fun cenv s₄ h₄ => ?_) fun _ _ h' => h')))) fun _ _ h' => h')))
      fun _ _ h' => h'))))))) fun _ _ h' => h')
  dsimp only
  have hv : ∀ x ∈ (scope.names.filter fun x => (x.2 == .local || x.2 == .cell) && x.1 != (".0" : Str)).reverse, x.2 = .local →
      Env.kindOf { cenv with scope := relabel scope env } x.1 = some .local := fun x hx hl => lookup_relabel_local (hnames x (List.mem_filter.mp (List.mem_reverse.mp hx)).1 hl)
  have hv' : ∀ x ∈ (scope.names.filter fun x => (x.2 == .local || x.2 == .cell) && x.1 != (".0" : Str)).reverse.drop 1 ++ (scope.names.filter fun x => (x.2 == .local || x.2 == .cell) && x.1 != (".0" : Str)).reverse.take 1,
      x.2 = .local → Env.kindOf { cenv with scope := relabel scope env } x.1 = some .local := fun x hx hl => by
    rcases List.mem_append.mp hx with h1 | h1
    · exact hv x (List.mem_of_mem_drop h1) hl
    · exact hv x (List.mem_of_mem_take h1) hl
  refine wpAny_holding (wpAny_bind (wpAny_attempt (wpAny_holding (wpAny_run (codeAny_mono h₄.2 fun r s' hr => ?_)))))
  cases r with
  | ok f =>
    cases use with
    | none =>
      obtain ⟨m, hn, hr⟩ := hr
      exact wpAny_bind (wpAny_holding (wpAny_comp_letGo (cenv := { cenv with scope := relabel scope env }) hkind _ s' m hv hn fun h' m' _ hs' => wpAny_pure (hr h' hs')))
    | some u =>
      refine wpAny_bind (wpAny_rule (wpAny_bind (wpAny_holding (wpAny_mono hr (fun _ s'' hr' => ?_) fun _ _ h' => h'))))
      obtain ⟨m, hn, hr'⟩ := hr'
      exact wpAny_bind (wpAny_comp_letGo (cenv := { cenv with scope := relabel scope env }) hkind _ s'' m hv' hn fun h' m' _ hs' => wpAny_pure (hr' h' hs'))
  | error x =>
    obtain ⟨m, hn, hr⟩ := hr
    exact wpAny_bind (wpAny_holding (wpAny_comp_letGo (cenv := { cenv with scope := relabel scope env }) hkind _ s' m hv hn fun h' m' _ hs' => wpAny_mono (hr h' hs' _ rfl h₄.1) (fun _ _ f => f.elim) fun _ _ y => y))
end
section
variable {X : Cx} {W : WX}
/-- an exception that a call in the block let out: noted, the block's names let go, passed on -/
theorem blk_pass {pins : List (Addr × Obj)} {σ : L2.St} {H H' : Hp} {s s6 : Shared} {ce : Env} {C a : Addr} {B : Heap} {cls : Value} {d : Option Addr} {use : Option (Value → Sem Unit)} {Qf : Value → Shared → Prop} {acc : Value}
    (hs : X.stack = X.env :: X.outer) (hf : X.env.frame = some X.env.locals) (tk : Takes X W) (I : Inv X pins σ H s) (cf : ce.frame = X.env.frame) (hC : FpOk X pins H C) {m : Str → Option Value} (hn : s.heap.Ns C m)
    (fl : HandSPX.FlyingZ B X.stack a (Zc cls d) s6.heap) (hok : HOk X.prog X.w H' B) (ub : UB (frs X.stack) H H' s.heap B s6.heap) (na : H' a = none) (os : s6.os = s.os) (ag : AllBare s6.gens) (hw : W cls d σ H') :
    notedBy (model X.prog X.w) X.A ce (fun e s' => compPostF (model X.prog X.w) X.A X.xe use Qf acc C X.env.frame (.error e) s') (.ref a) s6 := by
  have hfr : X.A.frames = some (X.env :: X.outer) := by rw [I.ok.frames, hs]
  have fl' : HandSPX.FlyingZ B (X.env :: X.outer) a (Zc cls d) s6.heap := by rw [← hs]; exact fl
  obtain ⟨f0, f1, f2, f3, f4, f5⟩ := hC
  have cfr : C ∉ frs X.stack := fun z => (List.mem_cons.mp (I.stkSub C z)).elim f1 f2
  show wpAny _ _ (noteFrame (.ref a) ce) _ _ _
  rw [noteFrame_congr cf]
  refine HandSPX.looks_onZ Zc.steady hfr hf fl' fun h1 hh up1 => ?_
  obtain ⟨oC, esC, epC, hoC, rC⟩ := id hn
  have bC : B.get? C = some oC := ub.keep C oC hoC f0 cfr
  refine ⟨m, hn.at fun o q => ?_, fun h2 sb cenv hcl hcf => ?_⟩
  · rw [hoC] at q
    cases q
    exact hh.1 C oC bC
  -- the ground without the block's names
  generalize hB' : PySem.W.hideAll B [C] = B'
  have b'B : ∀ b o, B'.get? b = some o → B.get? b = some o ∧ b ≠ C := fun b o e => by
    subst hB'
    refine ⟨PySem.W.of_hideAll _ e, fun z => ?_⟩
    subst z
    rw [PySem.W.hideAll_none [b] (List.mem_singleton.mpr rfl)] at e
    cases e
  have bB' : ∀ b o, B.get? b = some o → b ≠ C → B'.get? b = some o := fun b o e n => by
    subst hB'
    exact PySem.W.hideAll_get _ e fun z => n (List.mem_singleton.mp z)
  have b'n : ∀ b, B.get? b = none → B'.get? b = none := fun b e => by
    cases q : B'.get? b with
    | none => rfl
    | some o =>
      rw [(b'B b o q).1] at e
      cases e
  have st1 : B.StaysIn h1 := hh.1
  have na0 : B.get? a = none := hh.2.1
  -- frames, the exception's objects are not the block's names
  have frC : ∀ b ∈ frs X.stack, b ≠ C := fun b hb z => cfr (by rw [← z]; exact hb)
  have hff : ∀ {h h' : Heap}, h.FunFrames B (X.env :: X.outer) → (∀ b o, b ≠ C → h.get? b = some o → h'.get? b = some o) → h'.FunFrames B' (X.env :: X.outer) := fun {h h'} ff k => by
    refine funFrames_none (base := B') ?_ fun b hb => ?_
    · have ff2 : h.FunFrames B' (X.env :: X.outer) := funFrames_none ff fun b hb => b'n b (ff.mem hb).1
      have aux : ∀ l : List Env, (∀ b ∈ frs l, b ≠ C) → h.FunFrames B' l → h'.FunFrames B' l := by
        intro l
        induction l with
        | nil => intro _ _; trivial
        | cons e l ih =>
          intro hl hx
          obtain ⟨hk, ⟨L, o, q1, q2, q3, q4⟩, hr⟩ := hx
          exact ⟨hk, ⟨L, o, q1, q2, k L o (hl L (List.mem_filterMap.mpr ⟨e, List.mem_cons_self, q1⟩)) q3, q4⟩, ih (fun b hb => hl b (by
            obtain ⟨e', he', q'⟩ := List.mem_filterMap.mp hb
            exact List.mem_filterMap.mpr ⟨e', List.mem_cons_of_mem _ he', q'⟩)) hr⟩
      exact aux _ (by rw [← hs]; exact frC) ff2
    · exact b'n b (ff.mem hb).1
  have hld : ∀ {h : Heap}, (∀ b o, b ≠ C → h1.get? b = some o → h.get? b = some o) → HandSPX.HeldZ B' (X.env :: X.outer) a (Zc cls d) X.env.locals h := fun {h} k => by
    obtain ⟨g1, g2, g3, oe, vs, T, oT, ts, e1, e2, e3, e4, e5, e6, e7, e8, e9⟩ := hh
    have aC : a ≠ C := fun z => by rw [z, bC] at g2; cases g2
    have tC : T ≠ C := fun z => by rw [z, bC] at e5; cases e5
    exact ⟨fun b o q => k b o (b'B b o q).2 (g1 b o (b'B b o q).1), b'n a g2, hff g3 k, oe, vs, T, oT, ts, k a oe aC e1, e2, e3, e4, b'n T e5, e6, k T oT tC e7, e8, e9⟩
  have k2 : ∀ b o, b ≠ C → h1.get? b = some o → h2.get? b = some o := fun b o n q => (sb.2 b n).trans q
  have hh2 := hld k2
  obtain ⟨_, _, _, oe, vs, T, oT, ts, he, hz, hd, h1', hr⟩ := id hh2
  unfold PySem.passOn
  refine wpAny_bind (wpAny_field he hd h1' ?_)
  rw [if_neg (show ¬ ((Value.ref T == Value.none) = true) from by simp)]
  have fin : wpAny (model X.prog X.w) X.A (setFlight (.ref a) cenv.frame) (fun _ s4 => wpAny (model X.prog X.w) X.A (throw (.ref a) : Sem Value) (fun _ _ => False) X.xe s4) X.xe { s6 with heap := h2 } := by
    rw [hcf, hf]
    refine HandSPX.setFlight_onZ hh2 fun h3 hh3 up3 => wpAny_throw (tk _ _ ?_)
    have st3 : B'.StaysIn h3 := hh3.1
    obtain ⟨G, g1, g2⟩ := restrict h3 fun b => (B'.get? b).isSome || decide (b ∈ frs X.stack)
    have gB : ∀ b o, B'.get? b = some o → G.get? b = some o := fun b o e => by
      rw [g1 b (by simp [e])]
      exact st3 b o e
    have gF : ∀ b, b ∈ frs X.stack → G.get? b = h3.get? b := fun b hb => g1 b (by simp [hb])
    have og : ∀ b o, G.get? b = some o → h3.get? b = some o ∧ ((B'.get? b).isSome = true ∨ b ∈ frs X.stack) := fun b o e => by
      cases q : ((B'.get? b).isSome || decide (b ∈ frs X.stack)) with
      | false => rw [g2 b q] at e; cases e
      | true =>
        rw [g1 b q] at e
        exact ⟨e, by simpa [Bool.or_eq_true] using q⟩
    have slot : ∀ b o, s.heap.get? b = some o → b ∈ frs X.stack → ∃ sl, h3.get? b = some { o with slots := sl } := fun b o e hb => by
      obtain ⟨_, o0, e0, nd⟩ := I.stack.mem hb
      rw [e] at e0
      cases e0
      obtain ⟨sl, q⟩ := ub.slot b o e hb
      obtain ⟨sl2, q2⟩ := up1 b _ q nd
      have q3 := k2 b _ (frC b hb) q2
      obtain ⟨sl3, q4⟩ := up3 b _ q3 nd
      exact ⟨sl3, q4⟩
    have hokB' : HOk X.prog X.w H' B' := fun b o q => by
      have hCn : H' C = none := ub.free C oC hoC f0
      refine (hok b o q).stay (fun c u hc r => bB' c u r ?_) (fun _ r => r) fun _ _ r => r
      rcases hc with z | z
      · rw [z]
        intro y
        rw [y, hCn] at q
        cases q
      · intro y
        rw [y, hCn] at z
        cases z
    refine ⟨a, B', { s with heap := G, gens := s6.gens, drawn := s6.drawn, toks := s6.toks }, pins, σ, H', cls, d, rfl, ?_, fun b o e hb => ?_, Heap.UpToSlots.of_keeps fun b o e => (og b o e).1, .inr (.inr (by rw [hs]; exact hh3)), na, os, ag, hw⟩
    · refine I.call (ch := [C]) ⟨fun b o e n hb hc => gB b o (bB' b o (ub.keep b o e n hb) fun z => hc (by simp [z])), fun b o e n hb _ => ?_, fun b o e n _ => ub.free b o e n, fun b o e hc => ?_, ub.tups, ub.frzs, ub.tbls⟩ (hokB'.kept gB) ag (fun b hb => ?_)
      · obtain ⟨sl, q⟩ := slot b o e hb
        exact ⟨sl, by rw [gF b hb]; exact q⟩
      · have bc : b ≠ C := fun z => hc (by simp [z])
        by_cases hb : b ∈ frs X.stack
        · obtain ⟨sl, q⟩ := slot b o e hb
          exact ⟨_, by rw [gF b hb]; exact q⟩
        · obtain ⟨o', q⟩ := ub.there b o e hb
          exact ⟨o', gB b o' (bB' b o' q bc)⟩
      · have e : b = C := by simpa using hb
        subst e
        exact ⟨f3, f1, f4, f5⟩
    · obtain ⟨e', h⟩ := og b o e
      rcases h with h | h
      · obtain ⟨o', q⟩ := Option.isSome_iff_exists.mp h
        have z := st3 b o' q
        rw [e'] at z; cases z
        exact q
      · exact absurd h hb
  first
    | exact wpAny_bind (wpAny_pure (wpAny_bind fin))
    | exact wpAny_bind fin
end
section
variable {X : Cx}
abbrev blkW (X : Cx) (s : Shared) (H : Hp) (scope : Scope) (cenv : Env) (fp : List Addr) (xe : Value → Shared → Prop) : Cx := (X.blk s H scope cenv fp).wish xe
theorem lc_coreX {pins : List (Addr × Obj)} {s : Shared} {σ : L2.St} {H : Hp} {Q : VK} {elt tg iter : Expr} {ifs : List Expr} {scope : Scope} {own : List (Str × Nat)} {pos pos' : Pos} {wi : TI} {g : TG} {tt : TT} {te : TE} {use : Option (Value → Sem Unit)} {Qf : Value → Shared → Prop} {W : WX} {E : XK}
    (hc : X.calm = true) (hN : X.N.Nodup) (I : Inv X pins σ H s) (hi : PI X tg iter wi) (ok : BlkOk X.N X.env.scope scope own) (hst : X.stack = X.env :: X.outer) (hf : X.env.frame = some X.env.locals) (tk : Takes X W) (hW : ∀ cls d σ H, E cls d H → W cls d σ H)
    (hg : ∀ (s : Shared) (H : Hp) (C : Addr) (cl : List (Str × Addr)) (fp : List Addr), PG (X.blk s H scope (compEnvC scope cl C X.env) fp) tg g) (ht : ∀ (s : Shared) (H : Hp) (C : Addr) (cl : List (Str × Addr)) (fp : List Addr), PTs (X.blk s H scope (compEnvC scope cl C X.env) fp) ifs tt)
    (he : ∀ (s : Shared) (H : Hp) (C : Addr) (cl : List (Str × Addr)) (fp : List Addr) (xe : Value → Shared → Prop), Passes (L2.CX X.prog X.w) (blkW X s H scope (compEnvC scope cl C X.env) fp xe) E → PE (blkW X s H scope (compEnvC scope cl C X.env) fp xe) elt te) (hs : ∀ x, foldedSetIterable iter X.env x = pure x)
    (h : tLc wi g tt te (own.map (·.2)) σ H Q)
    (hRR : ∀ D C s' m H', Inv X pins σ H' s' → Q (.ref D) H' → s'.heap.Ns C m → FpOk X pins H' C → compPost (model X.prog X.w) X.A X.xe use Qf (.ref D) C (.ok .next) s') :
    wpAny (model X.prog X.w) X.A (comprehension (.ListComp elt [⟨tg, iter, ifs, 0⟩] scope pos) scope X.env pos' (newList []) false (eval iter X.env) use) Qf X.xe s := by
  have hfree : ∀ y ∈ scope.names, y.2 = .free → ∃ c, X.env.cells.lookup y.1 = some c := fun y hy e => by
    rcases ok.free y hy e with k | k
    · exact I.ok.has _ (.inl k)
    · exact I.ok.has _ (.inr k)
  refine wpAny_comp_freeF (use := use) rfl hs (closure_ok hfree) ok.kind (fun y hy e => by rw [ok.uniq y hy, e])
    (thn (hi.run pins s σ H _ I h) fun xv s1 hx => thn hx fun itv s2 h2 => ?_)
  obtain ⟨it, fp, tn, J, H2, e, I2, T, st2, f2, q⟩ := h2
  subst e
  refine wpAny_newObj_type (newEnv_comp ⟨rfl, ?_⟩) (by show 0 ≤ sizeLine; decide)
  generalize hD : s2.heap.objs.size = D
  have hDn : H2 D = none := I2.hok.fresh (Nat.le_of_eq hD)
  obtain ⟨Wm, ⟨m0, w0⟩, turn⟩ := q D hDn
  -- the new list
  generalize hs3 : ({ s2 with heap := s2.heap.push { cls := .type "list", data := .seq ([] : List Value).toArray } } : Shared) = s3
  have I3 : Inv X pins σ (upd H2 D (.lst [])) s3 := by
    rw [← hs3]
    refine I2.laid (t' := s2.toks) (fun b o e => Heap.get?_push_of_some _ e) (Nat.le_of_eq hD) ⟨Nat.zero_le _, [], 0, .nil, ?_⟩
    rw [← hD]
    exact Heap.get?_push_size _ rfl
  have h3 : s3.heap = s2.heap.push { cls := .type "list", data := .seq ([] : List Value).toArray } := by rw [← hs3]
  have sz : ∀ b ∈ fp, b < s2.heap.objs.size := fun b hb => by
    obtain ⟨o, e, _⟩ := T.obj _ _ st2 b hb
    exact Heap.lt_size e
  have f3 : ∀ b ∈ fp, FpOk X pins (upd H2 D (.lst [])) b ∧ b < s3.heap.objs.size := fun b hb => by
    have hlt := sz b hb
    refine ⟨⟨?_, (f2 b hb).2⟩, by rw [h3, Heap.size_push]; exact Nat.lt_succ_of_lt hlt⟩
    rw [upd_ne (by rw [← hD]; exact Nat.ne_of_lt hlt)]
    exact (f2 b hb).1
  have st3 : tn 0 s3.heap := T.keep _ _ _ st2 fun b _ o e => by rw [h3]; exact Heap.get?_push_of_some _ e
  have I4 := block_start I3 ok hN f3
  have pg := hg s3 (upd H2 D (.lst [])) s3.heap.objs.size (cellsFrom (s3.heap.objs.size + 1) scope.names (cloFrom X.env.cells scope.names [])) fp
  have pt := ht s3 (upd H2 D (.lst [])) s3.heap.objs.size (cellsFrom (s3.heap.objs.size + 1) scope.names (cloFrom X.env.cells scope.names [])) fp
  have pe := he s3 (upd H2 D (.lst [])) s3.heap.objs.size (cellsFrom (s3.heap.objs.size + 1) scope.names (cloFrom X.env.cells scope.names [])) fp
  show codeAny _ _ (.compStart (.ListComp elt [⟨tg, iter, ifs, 0⟩] scope pos) 0 (.ref it) (.ref D) (compEnvC scope (cellsFrom (s3.heap.objs.size + 1) scope.names (cloFrom X.env.cells scope.names [])) s3.heap.objs.size X.env)) (compPostF (model X.prog X.w) X.A X.xe use Qf (.ref D) s3.heap.objs.size X.env.frame) { s3 with heap := pushCells (s3.heap.push { cls := .type "dict", data := .dict #[] }) scope.names }
  have nfp : ∀ b ∈ fp, (upd H2 D (.lst [])) b = none := fun b hb => (f3 b hb).1.1
  generalize hce : compEnvC scope (cellsFrom (s3.heap.objs.size + 1) scope.names (cloFrom X.env.cells scope.names [])) s3.heap.objs.size X.env = ce at I4 pg pt pe ⊢
  have cL : ce.locals = s3.heap.objs.size := by subst hce; rfl
  have cF : ce.frame = X.env.frame := by subst hce; rfl
  generalize hH3 : upd H2 D (.lst []) = H3 at I3 I4 pg pt pe w0 nfp f3
  generalize hs4 : ({ s3 with heap := pushCells (s3.heap.push { cls := .type "dict", data := .dict #[] }) scope.names } : Shared) = s4 at I4 ⊢
  have st4 : tn 0 s4.heap := T.keep _ _ _ st3 fun b _ o e => by rw [← hs4]; exact pushCells_keeps _ _ _ _ (Heap.get?_push_of_some _ e)
  have stat : ∀ {σ' : L2.St} {H' : Hp} {s' : Shared}, Inv (X.blk s3 H3 scope ce fp) [] σ' H' s' → (∀ b ∈ fp, H' b = none) → ∀ b ∈ fp, FpOk (X.blk s3 H3 scope ce fp) [] H' b := fun {σ' H' s'} I' hn b hb =>
    ⟨hn b hb, (I'.ok.exf b hb).1, I'.ok.exfs b hb, .inl hb, fun x c e => (I'.ok.exf b hb).2 x c e, fun p hp => absurd (show p ∈ ([] : List (Addr × Obj)) ++ [] from hp) (by simp)⟩
  -- what the item lets out
  have hp : Passes (L2.CX X.prog X.w) (blkW X s3 H3 scope ce fp (notedBy (model X.prog X.w) X.A ce fun e s' => compPostF (model X.prog X.w) X.A X.xe use Qf (.ref D) s3.heap.objs.size X.env.frame (.error e) s')) E := by
    intro pins' σ' H' s' e s'' I' c
    obtain ⟨a, B, H'', cls, d, rfl, fl, hokB, ub, na, os, ag, hE⟩ := c
    have J := I'.unwish
    have I7 : Inv X pins σ H' s' := I3.call' (ch := fp) J.os J.base J.hok J.bare fun b hb => ⟨(f3 b hb).1.2.2.2.1, (f3 b hb).1.2.1, (f3 b hb).1.2.2.2.2.1, (f3 b hb).1.2.2.2.2.2⟩
    have nC : H' s3.heap.objs.size = none := by
      have z : H' ce.locals = none := J.free
      rw [cL] at z
      exact z
    obtain ⟨m, hn, _⟩ := J.loc
    have hn : s'.heap.Ns ce.locals m := hn
    rw [cL] at hn
    exact blk_pass hst hf tk I7 cF (I3.fpOk (Nat.le_refl _) nC) hn fl hokB ub na os ag (hW _ _ _ _ hE)
  have pe := pe _ hp
  have loop : codeAny (model X.prog X.w) X.A (.compLoop (.ListComp elt [⟨tg, iter, ifs, 0⟩] scope pos) 0 (.ref it) (.ref D) ce) (compPostF (model X.prog X.w) X.A X.xe use Qf (.ref D) s3.heap.objs.size X.env.frame) s4 := by
    refine compLoop_any (fun n s' => ∃ i H', Inv (X.blk s3 H3 scope ce fp) [] (L2.wipe σ (own.map (·.2))) H' s' ∧ tn i s'.heap ∧ (∀ b ∈ fp, H' b = none) ∧ Wm i n H') ?_ m0 ⟨0, H3, I4, st4, nfp, w0⟩
    rintro n s5 ⟨i, H5, I5, st5, n5, w5⟩
    rcases turn i n H5 w5 with ⟨stop, qq⟩ | ⟨go, Nx, hNx, step⟩
    · have td := T.done (X.blk s3 H3 scope ce fp) rfl rfl rfl hc i [] s5 _ H5 (fun _ _ => False) I5 (stat I5 n5) st5 stop
      refine thnF td fun r s6 ⟨hr, I6⟩ => ?_
      subst hr
      -- back in the def's context
      have I7 : Inv X pins σ H5 s6 := I3.call' (ch := fp) I6.os I6.base I6.hok I6.bare fun b hb => ⟨(f3 b hb).1.2.2.2.1, (f3 b hb).1.2.1, (f3 b hb).1.2.2.2.2.1, (f3 b hb).1.2.2.2.2.2⟩
      have nC : H5 s3.heap.objs.size = none := by
        have z : H5 ce.locals = none := I6.free
        rw [cL] at z
        exact z
      obtain ⟨m, hn, _⟩ := I6.loc
      have hn : s6.heap.Ns ce.locals m := hn
      rw [cL] at hn
      exact hRR D s3.heap.objs.size s6 m H5 I7 qq hn (I3.fpOk (Nat.le_refl _) nC)
    · have ti := T.item (X.blk s3 H3 scope ce fp) rfl rfl rfl hc i [] s5 _ H5 (fun _ _ => False) I5 (stat I5 n5) st5 go
      refine thnF ti fun r s6 ⟨u, hr, h6⟩ => ?_
      subst hr
      refine thnF h6 fun _ s7 ⟨x, H7, I7, r7, y7, st7, n7⟩ => ?_
      have I7' := I7.pinned (stat I7 n7) (T.obj _ _ st7)
      refine thnF (pg.run _ s7 _ H7 x u _ I7' r7 (step x H7 y7)) fun _ s8 ⟨σ8, H8, I8, hw8, q8⟩ => ?_
      refine thnF (pt.run _ s8 σ8 H8 _ I8 q8) fun b s9 ⟨H9, I9, q9⟩ => ?_
      -- the turn's end
      have fin : ∀ {s' : Shared} {H' : Hp}, Inv (X.blk s3 H3 scope ce fp) ([] ++ pinsAt fp s7.heap) σ8 H' s' → Nx H' → ∃ m, m < n ∧ ∃ i H', Inv (X.blk s3 H3 scope ce fp) [] (L2.wipe σ (own.map (·.2))) H' s' ∧ tn i s'.heap ∧ (∀ b ∈ fp, H' b = none) ∧ Wm i m H' := fun {s' H'} I' nx => by
        obtain ⟨m', hm, w'⟩ := hNx H' nx
        have pin' : ∀ b ∈ fp, ∀ o, s7.heap.get? b = some o → s'.heap.get? b = some o ∧ H' b = none := fun b hb o e =>
          let z := I'.pin (b, o) (List.mem_append_right _ (List.mem_append_right _ (mem_pinsAt hb e)))
          ⟨z.1, z.2.1⟩
        have hl : (L2.wipe σ (own.map (·.2))).length = σ8.length := by rw [← hw8, wipe_length]
        refine ⟨m', hm, i + 1, H', (I'.unpinned (pins := [])).weak hl (fun j v e => ?_), T.keep _ _ _ st7 fun b hb o e => (pin' b hb o e).1, fun b hb => ?_, w'⟩
        · rw [← hw8] at e
          exact (wipe_some e).1
        · obtain ⟨o, e, _⟩ := T.obj _ _ st7 b hb
          exact (pin' b hb o e).2
      cases b with
      | false =>
        simp only [Bool.false_eq_true, if_false] at q9 ⊢
        exact fin I9 q9
      | true =>
        simp only [if_true] at q9 ⊢
        refine wpAny_mono (pe.run _ s9 σ8 H9 _ (I9.wish _) q9) (fun z s10 hz => ?_) fun _ _ hx => hx
        obtain ⟨yv, H10, I10', r10, acc, hD10, hz10, nx⟩ := hz
        have I10 := I10'.unwish
        exact app_ok (X := X.blk s3 H3 scope ce fp) I10 hD10 hz10 r10 fun s11 I11 => fin I11 nx
  exact codeAny_compStart_list loop (T.self X.A 0 _ _ _ st4 loop)
/-- as a value -/
theorem pe_lcX {elt tg iter : Expr} {ifs : List Expr} {scope : Scope} {own : List (Str × Nat)} {pos : Pos} {wi : TI} {g : TG} {tt : TT} {te : TE} {W : WX} {E : XK} (hc : X.calm = true) (hN : X.N.Nodup) (hst : X.stack = X.env :: X.outer) (hf : X.env.frame = some X.env.locals) (tk : Takes X W) (hW : ∀ cls d σ H, E cls d H → W cls d σ H) (hi : PI X tg iter wi) (ok : BlkOk X.N X.env.scope scope own)
    (hg : ∀ (s : Shared) (H : Hp) (C : Addr) (cl : List (Str × Addr)) (fp : List Addr), PG (X.blk s H scope (compEnvC scope cl C X.env) fp) tg g) (ht : ∀ (s : Shared) (H : Hp) (C : Addr) (cl : List (Str × Addr)) (fp : List Addr), PTs (X.blk s H scope (compEnvC scope cl C X.env) fp) ifs tt)
    (he : ∀ (s : Shared) (H : Hp) (C : Addr) (cl : List (Str × Addr)) (fp : List Addr) (xe : Value → Shared → Prop), Passes (L2.CX X.prog X.w) (blkW X s H scope (compEnvC scope cl C X.env) fp xe) E → PE (blkW X s H scope (compEnvC scope cl C X.env) fp xe) elt te) (hs : ∀ x, foldedSetIterable iter X.env x = pure x := by intro _; rfl) :
    PE X (.ListComp elt [⟨tg, iter, ifs, 0⟩] scope pos) (tLc wi g tt te (own.map (·.2))) := by
  refine ⟨fun pins s σ H Q I h => ?_⟩
  rw [eval_ListComp]
  refine lc_coreX hc hN I hi ok hst hf tk hW hg ht he hs h fun D C s' m H' I' q hn f => ⟨m, hn, fun h'' sb => ?_⟩
  obtain ⟨f0, f1, f2, f3, f4, f5⟩ := f
  exact ⟨.ref D, H', I'.turned (t' := s'.toks) (fun b o hb e => (sb.2 b hb).trans e) f0 f1 f3 f4 f5, rfl, q⟩
/-- name = [..] on one line, the name a local -/
theorem ps_setLcX {i : Nat} {y : Str} {py : Pos} {elt tg iter : Expr} {ifs : List Expr} {scope : Scope} {own : List (Str × Nat)} {pos spos : Pos} {wi : TI} {g : TG} {tt : TT} {te : TE} {W : WX} {E : XK} (hc : X.calm = true) (hN : X.N.Nodup) (hst : X.stack = X.env :: X.outer) (hf : X.env.frame = some X.env.locals) (tk : Takes X W) (hW : ∀ cls d σ H, E cls d H → W cls d σ H) (hy : X.N[i]? = some y) (hyl : X.env.scope.names.lookup y = some .local)
    (hsw : swapsWith (.ListComp elt [⟨tg, iter, ifs, 0⟩] scope pos) (some (.Name y py)) spos.line X.env = pure true) (hi : PI X tg iter wi) (ok : BlkOk X.N X.env.scope scope own)
    (hg : ∀ (s : Shared) (H : Hp) (C : Addr) (cl : List (Str × Addr)) (fp : List Addr), PG (X.blk s H scope (compEnvC scope cl C X.env) fp) tg g) (ht : ∀ (s : Shared) (H : Hp) (C : Addr) (cl : List (Str × Addr)) (fp : List Addr), PTs (X.blk s H scope (compEnvC scope cl C X.env) fp) ifs tt)
    (he : ∀ (s : Shared) (H : Hp) (C : Addr) (cl : List (Str × Addr)) (fp : List Addr) (xe : Value → Shared → Prop), Passes (L2.CX X.prog X.w) (blkW X s H scope (compEnvC scope cl C X.env) fp xe) E → PE (blkW X s H scope (compEnvC scope cl C X.env) fp xe) elt te) (hs : ∀ x, foldedSetIterable iter X.env x = pure x := by intro _; rfl) :
    PS X (.Assign [.Name y py] (.ListComp elt [⟨tg, iter, ifs, 0⟩] scope pos) spos) (tAsg (tLc wi g tt te (own.map (·.2))) (gName i)) := by
  refine ⟨fun pins s σ H D I h => ?_⟩
  rw [exec_Assign_Name_used _ _ _ _ hsw]
  refine wpAny_bind (wpAny_standAt (wpAny_bind ?_))
  show wpAny _ X.A (do let _ ← comprehension (.ListComp elt [⟨tg, iter, ifs, 0⟩] scope pos) scope X.env (firstIterPos [⟨tg, iter, ifs, 0⟩] pos) (newList []) false (eval iter X.env) (some (assign (.Name y py) X.env))) _ _ s
  have h : tLc wi g tt te (own.map (·.2)) σ H (fun x H1 => gName i x σ H1 D.nx) := h
  refine wpAny_bind (thn (lc_coreX (Qf := fun _ s' => SP X pins D .next s') hc hN I hi ok hst hf tk hW hg ht he hs h fun L C s' m H' I' q hn f => ?_) fun _ s' hq => wpAny_pure (wpAny_pure hq))
  show wpAny _ _ (assign (.Name y py) X.env (.ref L)) _ _ _
  refine wpAny_assign_Name (store_ok2 (v := V.ref L) I' hN hy (.inl hyl) rfl (fun s2 I2 ⟨a, sb, ha⟩ => ?_) (.inr hyl))
  obtain ⟨f0, f1, f2, f3, f4, f5⟩ := f
  have haC : C ≠ a := by
    rcases ha with z | z
    · rw [z]; exact f1
    · exact fun e => f4 y a z e.symm
  refine ⟨m, hn.sameBut sb haC, fun h3 sb3 => ?_⟩
  exact ⟨_, H', I2.turned (t' := s2.toks) (fun b o hb e => (sb3.2 b hb).trans e) f0 f1 f3 f4 f5, q⟩
end
end DW

namespace DW
open PySem PySem.Spec PyProof.Rows L2

section
variable {K : PySem.W.Frag} {B : Addr → Prop} {m m1 m2 m3 : Bool} {F H F1 H1 F' H' : Hp} {fps fps1 fps' : Fps} {σ σ' : L2.St} {es es1 es2 es3 es' : Es} {v : V} {fp fq : List Addr} {r r1 r2 r3 : Vl} {t t1 t2 : T} {x y : PyData} {te ta tb tc to ti : TE} {tt tu : TT} {i j : Int} {xs ys : List PyData} {z w : Str} {a : Nat} {p : List Stp} {ts : List T} {W : WX} {tsa tsb : TS} {D : Dn} {vs : List Nat} {c : Value}
/-- a comprehension whose kk-th item raises -/
theorem ex_lcE {wi : TI} {g : TG} {W : WX} {c0 : Value} {kk : Nat} {esk : Es} (hσ : ∀ σ σ' H, W c0 none σ H → W c0 none σ' H) (h : EI K true m1 wi es xs es1) (hkk : kk < xs.length) (esq : Nat → Es) (outs : Nat → List T) (h0 : esq 0 = es1) (o0 : outs 0 = [])
    (hs : ∀ i x, i < kk → xs[i]? = some x → ∃ es2 js b es3, GS K g x (wipeE (esq i) vs) es2 js ∧ (∀ j ∈ js, j ∈ vs) ∧ ET K true tt es2 b es3 ∧
      (b = true → ∃ t es4, EE K true te es3 (.o t) es4 ∧ esq (i + 1) = unw (esq i) es4 vs ∧ es4.length = (esq i).length ∧ outs (i + 1) = outs i ++ [t] ∧ (outs i).length < sizeLine) ∧ (b = false → esq (i + 1) = unw (esq i) es3 vs ∧ es3.length = (esq i).length ∧ outs (i + 1) = outs i))
    (hx : ∀ x, xs[kk]? = some x → ∃ es2 js es3, GS K g x (wipeE (esq kk) vs) es2 js ∧ (∀ j ∈ js, j ∈ vs) ∧ ET K true tt es2 true es3 ∧ EX K W te es3 c0 esk ∧ esk.length = (esq kk).length) :
    EX K W (tLc wi g tt te vs) es c0 (unw (esq kk) esk vs) := fun B F H σ fps R Q k =>
  h B F H σ fps R _ fun J F1 H1 fps1 R1 g1 wk => fun Dl hD => by
    refine ⟨fun i n H2 => n = xs.length - i ∧ i ≤ kk ∧ ∃ F2 fps2 acc fpa, Rep K B F2 H2 σ (esq i) fps2 ∧ Go true F1 H1 fps1 F2 H2 fps2 ∧ H2 Dl = some (.lst acc) ∧ F2 Dl = none ∧ (∀ j, Dl ∉ fps2 j) ∧ Rps K F2 H2 acc (outs i) fpa ∧ (Dl :: fpa).Nodup ∧ New H1 fps1 fpa ∧ ∀ b ∈ fpa, F2 b = none ∧ (∀ j, b ∉ fps2 j) ∧ ¬ B b,
      ⟨_, rfl, Nat.zero_le _, F1, fps1, [], [], by rw [h0]; exact R1.alloc hD, Go.refl.offF hD, upd_same, R1.f_none hD, R1.f_out hD, by rw [o0]; exact .nil, by simp, New.nil, fun _ h => nomatch h⟩, ?_⟩
    rintro i n H2 ⟨rfl, hi, F2, fps2, acc, fpa, R2, g2, hDl, fDl, oDl, ra, nda, na, outa⟩
    have bDl : ¬ B Dl := R1.b_out hD
    have gpu : Go true F1 H1 fps1 F2 H2 fps2 := g2
    by_cases c' : i < kk
    · have c : i < xs.length := by omega
      refine .inr ⟨wk.go i F2 H2 fps2 gpu R2.ex c, fun H3 => ∃ F3 fps3 acc fpa, Rep K B F3 H3 σ (esq (i + 1)) fps3 ∧ Go true F1 H1 fps1 F3 H3 fps3 ∧ H3 Dl = some (.lst acc) ∧ F3 Dl = none ∧ (∀ j, Dl ∉ fps3 j) ∧ Rps K F3 H3 acc (outs (i + 1)) fpa ∧ (Dl :: fpa).Nodup ∧ New H1 fps1 fpa ∧ ∀ b ∈ fpa, F3 b = none ∧ (∀ j, b ∉ fps3 j) ∧ ¬ B b, fun H3 q => ⟨_, by omega, rfl, c', q⟩, fun v H3 y => ?_⟩
      obtain ⟨x, F3, hx', R3, g3, d3⟩ := wk.yld i F2 H2 fps2 σ (esq i) v H3 gpu R2 c y
      obtain ⟨es4, js, b, es5, hg, hj, ht, hyes, hno⟩ := hs i x c' hx'
      refine hg B F3 H3 (L2.wipe σ vs) (fpw fps2 vs) v R3.wipe d3 _ fun σ4 fps4 R4 a4 b4 l4 => ?_
      have ef : fps4 = fpw fps2 vs := by
        funext j
        by_cases cj : j ∈ js
        · rcases a4 j with e | e
          · exact e
          · rw [e]
            exact (if_pos (hj j cj)).symm
        · exact (b4 j cj).2.2
      subst ef
      have hσ4 : ∀ j, j ∉ vs → σ4[j]? = σ[j]? := fun j hn => ((b4 j fun z => hn (hj j z)).1).trans (wipe_out hn)
      refine ⟨wipe_eq (l4.trans (wipe_length ..)) hσ4, ht B F3 H3 σ4 _ R4 _ fun F5 H5 fps5 R5 g5 => ?_⟩
      -- what the tail carries
      have gD : ∀ {F6 H6 : Hp} {fps6 : Fps} {mm : Bool}, Go mm F2 H2 fps2 F6 H6 fps6 → H6 Dl = some (.lst acc) ∧ F6 Dl = none ∧ (∀ j, Dl ∉ fps6 j) ∧ Rps K F6 H6 acc (outs i) fpa ∧ ∀ b ∈ fpa, F6 b = none ∧ (∀ j, b ∉ fps6 j) ∧ ¬ B b := fun {F6 H6 fps6 mm} gg => by
        refine ⟨gg.ou Dl _ hDl oDl, ?_, gg.out hDl oDl, ra.mono gg.ff fun b hb => ?_, fun b hb => ?_⟩
        · rcases gg.fn Dl fDl with z | z | ⟨j, z⟩
          · exact z
          · rw [hDl] at z
            cases z
          · exact absurd z (oDl j)
        · obtain ⟨o, ho⟩ := ra.ok b hb
          exact gg.at_ ho (outa b hb).2.1
        · obtain ⟨o, ho⟩ := ra.ok b hb
          refine ⟨?_, gg.out ho (outa b hb).2.1, (outa b hb).2.2⟩
          rcases gg.fn b (outa b hb).1 with z | z | ⟨j, z⟩
          · exact z
          · rw [ho] at z
            cases z
          · exact absurd z ((outa b hb).2.1 j)
      cases b with
      | false =>
        obtain ⟨q1, q2, q3⟩ := hno rfl
        obtain ⟨R6, g6⟩ := R3.unwipe g5 R5 hσ4 q2
        show ∃ F3 fps3 acc fpa, _
        have g26 : Go true F2 H2 fps2 F5 H5 _ := (g3.trans g6).wk id
        obtain ⟨k1, k2, k3, k4, k5⟩ := gD g26
        rw [q1, q3]
        exact ⟨F5, _, acc, fpa, R6, (g2.trans g26).wk fun _ => rfl, k1, k2, k3, k4, nda, na, k5⟩
      | true =>
        obtain ⟨t, es6, he, q1, q2, q3, hz⟩ := hyes rfl
        show te σ4 H5 _
        refine he B F5 H5 σ4 fps5 R5 _ fun u F6 H6 fps6 fp6 R6 g6 rv6 n6 => ?_
        obtain ⟨R7, g7⟩ := R3.unwipe (Go.wk (m' := true) (g5.trans g6) fun _ => rfl) R6 hσ4 q2
        have g27 : Go true F2 H2 fps2 F6 H6 _ := (g3.trans g7).wk id
        obtain ⟨k1, k2, k3, k4, k5⟩ := gD g27
        obtain ⟨j1, j2, j3⟩ := rv6
        -- the new item's nodes are its own
        have nw : ∀ b ∈ fp6, H3 b = none ∨ ∃ j, b ∈ fpw fps2 vs j := fun b hb => n6.trans g5 b hb
        have noD : Dl ∉ fp6 := fun z => by
          rcases nw Dl z with y | ⟨j, y⟩
          · have := g3.ou Dl _ hDl oDl
            rw [this] at y
            cases y
          · unfold fpw at y
            split at y
            · cases y
            · exact oDl j y
        have noA : ∀ b ∈ fp6, b ∉ fpa := fun b hb ha => by
          obtain ⟨o, ho⟩ := ra.ok b ha
          rcases nw b hb with y | ⟨j, y⟩
          · have := g3.ou b _ ho (outa b ha).2.1
            rw [this] at y
            cases y
          · unfold fpw at y
            split at y
            · cases y
            · exact (outa b ha).2.1 j y
        have noF : ∀ b ∈ fp6, ∀ j, b ∉ fpu fps2 fps6 vs j := fun b hb j hj' => by
          unfold fpu at hj'
          split at hj'
          · rename_i cj
            obtain ⟨o, ho⟩ := R2.there hj'
            rcases nw b hb with y | ⟨j2, y⟩
            · have : H3 b = some o := (g3.pu rfl).1 b o ho
              rw [this] at y
              cases y
            · unfold fpw at y
              split at y
              · cases y
              · rename_i cn
                exact R2.dj j j2 (fun z => cn (by rw [← z]; exact cj)) b hj' y
          · exact (j3 b hb).2.1 j hj'
        refine ⟨acc, k1, by rw [ra.length]; exact hz, F6, _, acc ++ [u], fpa ++ fp6, ?_, ?_, upd_same, k2, k3, ?_, ?_, ?_, ?_⟩
        · rw [q1]
          exact R7.off (by rw [k1]; simp) k2 k3 bDl
        · exact ((g2.trans g27).wk fun _ => rfl).offF hD
        · rw [q3]
          refine (k4.app (Rps.one j1)).mono (Same.refl _) fun b hb => upd_ne fun z => ?_
          subst z
          rcases List.mem_append.mp hb with y | y
          · exact (List.nodup_cons.mp nda).1 y
          · exact noD y
        · obtain ⟨nd1, nd2⟩ := List.nodup_cons.mp nda
          refine List.nodup_cons.mpr ⟨fun z => ?_, List.nodup_append.mpr ⟨nd2, j2, fun b hb d hd e => noA d hd (by rw [← e]; exact hb)⟩⟩
          rcases List.mem_append.mp z with y | y
          · exact nd1 y
          · exact noD y
        · intro b hb
          rcases List.mem_append.mp hb with y | y
          · exact na b y
          · have := nw b y
            rcases this with z | ⟨j, z⟩
            · exact .inl (g2.th b (g3.th b z))
            · unfold fpw at z
              split at z
              · cases z
              · exact g2.fp j b z
        · intro b hb
          rcases List.mem_append.mp hb with y | y
          · exact k5 b y
          · exact ⟨(j3 b y).1, noF b y, (j3 b y).2.2⟩
    · have e : i = kk := by omega
      subst e
      refine .inr ⟨wk.go i F2 H2 fps2 gpu R2.ex hkk, fun H3 => False, fun H3 q => q.elim, fun v H3 y => ?_⟩
      obtain ⟨x, F3, hx', R3, g3, d3⟩ := wk.yld i F2 H2 fps2 σ (esq i) v H3 gpu R2 hkk y
      obtain ⟨es4, js, es5, hg, hj, ht, hex, hlen⟩ := hx x hx'
      refine hg B F3 H3 (L2.wipe σ vs) (fpw fps2 vs) v R3.wipe d3 _ fun σ4 fps4 R4 a4 b4 l4 => ?_
      have ef : fps4 = fpw fps2 vs := by
        funext j
        by_cases cj : j ∈ js
        · rcases a4 j with e | e
          · exact e
          · rw [e]
            exact (if_pos (hj j cj)).symm
        · exact (b4 j cj).2.2
      subst ef
      have hσ4 : ∀ j, j ∉ vs → σ4[j]? = σ[j]? := fun j hn => ((b4 j fun z => hn (hj j z)).1).trans (wipe_out hn)
      refine ⟨wipe_eq (l4.trans (wipe_length ..)) hσ4, ht B F3 H3 σ4 _ R4 _ fun F5 H5 fps5 R5 g5 => ?_⟩
      show te σ4 H5 _
      refine hex B F5 H5 σ4 fps5 R5 _ fun F6 H6 fps6 R6 g6 => hσ σ σ4 H6 ?_
      obtain ⟨R7, g7⟩ := R3.unwipe (Go.wk (m' := true) (g5.trans g6) fun _ => rfl) R6 hσ4 hlen
      exact k F6 H6 _ R7 ((g1.trans (g2.trans (g3.trans g7))).wk fun _ => rfl)

/-! ### what raises, in its place -/
/-- arguments that raise -/
def EXA (K : PySem.W.Frag) (W : WX) (ta : TA) (es : Es) (c : Value) (es' : Es) : Prop := ∀ B F H σ fps, Rep K B F H σ es fps → ∀ Q : List V → Hp → Prop,
  (∀ F' H' fps', Rep K B F' H' σ es' fps' → Go true F H fps F' H' fps' → W c none σ H') → ta σ H Q
/-- an iterable that raises -/
def EXI (K : PySem.W.Frag) (W : WX) (wi : TI) (es : Es) (c : Value) (es' : Es) : Prop := ∀ B F H σ fps, Rep K B F H σ es fps → ∀ Q : It → Hp → Prop,
  (∀ F' H' fps', Rep K B F' H' σ es' fps' → Go true F H fps F' H' fps' → W c none σ H') → wi σ H Q
section
variable {W : WX} {ta2 tb2 : TA} {op op' : R2}
theorem EX.behind {Q : VK} {P : Prop} (g : Go m F H fps F1 H1 fps1) (k : ∀ F' H' fps', Rep K B F' H' σ es' fps' → Go true F H fps F' H' fps' → P) : ∀ F' H' fps', Rep K B F' H' σ es' fps' → Go true F1 H1 fps1 F' H' fps' → P := fun F' H' fps' R g' => k F' H' fps' R ((g.trans g').wk fun _ => rfl)
theorem ex_opL (h : EX K W ta es c es') : EX K W (tOp op ta tb) es c es' := fun B F H σ fps R Q k => h B F H σ fps R _ k
theorem ex_opR (h1 : EE K m ta es r es1) (h : EX K W tb es1 c es') : EX K W (tOp op ta tb) es c es' := fun B F H σ fps R Q k =>
  h1 B F H σ fps R _ fun v F1 H1 fps1 fp R1 g1 rv n => h B F1 H1 σ fps1 R1 _ fun F2 H2 fps2 R2 g2 => k F2 H2 fps2 R2 ((g1.trans g2).wk fun _ => rfl)
theorem exa_head (h : EX K W ta es c es') : EXA K W (tCons ta ta2) es c es' := fun B F H σ fps R Q k => h B F H σ fps R _ k
theorem exa_tail (h1 : EE K m ta es r es1) (h : EXA K W ta2 es1 c es') : EXA K W (tCons ta ta2) es c es' := fun B F H σ fps R Q k =>
  h1 B F H σ fps R _ fun v F1 H1 fps1 fp R1 g1 rv n => h B F1 H1 σ fps1 R1 _ fun F2 H2 fps2 R2 g2 => k F2 H2 fps2 R2 ((g1.trans g2).wk fun _ => rfl)
theorem ex_tup (h : EXA K W ta2 es c es') : EX K W (tTup ta2) es c es' := fun B F H σ fps R Q k => h B F H σ fps R _ k
theorem ex_lst (h : EXA K W ta2 es c es') : EX K W (tLst ta2) es c es' := fun B F H σ fps R Q k => h B F H σ fps R _ k
theorem ex_cb {f : List V → Hp → VK → Prop} (h : EXA K W ta2 es c es') : EX K W (tCB f ta2) es c es' := fun B F H σ fps R Q k => h B F H σ fps R _ k
theorem ex_args {sp : Sp} {E : L2.St → XK} (h : EXA K W ta2 es c es') : EX K W (tCallS sp E ta2) es c es' := fun B F H σ fps R Q k => h B F H σ fps R _ k
theorem ex_join (hz : EE K m ta es (.o (.d (.str z))) es1) (h : EX K W te es1 c es') : EX K W (tM1 (rJoin K) ta te) es c es' := fun B F H σ fps R Q k =>
  hz B F H σ fps R _ fun v F1 H1 fps1 fp R1 g1 rv n => by
    have e := dd_str rv.1.dinv
    subst e
    exact ⟨⟨z, rfl⟩, h B F1 H1 σ fps1 R1 _ fun F2 H2 fps2 R2 g2 => k F2 H2 fps2 R2 ((g1.trans g2).wk fun _ => rfl)⟩
theorem exi_range1 (h : EXA K W ta2 es c es') : EXI K W (iRng1 ta2) es c es' := fun B F H σ fps R Q k => h B F H σ fps R _ k
theorem ex_lcI {wi : TI} {g : TG} (h : EXI K W wi es c es') : EX K W (tLc wi g tt te vs) es c es' := fun B F H σ fps R Q k => h B F H σ fps R _ k
theorem ss_ifX (h : EX K W te es c es1) (k : D.ex c es1) : SS K W (tIfS (tTest te) tsa tsb) es D := fun B F H σ fps R E w => h B F H σ fps R _ fun F1 H1 fps1 R1 g1 => w.ex c es1 F1 H1 σ fps1 R1 g1 k
/-- a text, sign by sign -/
theorem ei_str {l : List Nat} (h : ED K m te es (.str (S l)) es') : EI K true m (iStr te) es (l.map fun c => .str (S [c])) es' := fun B F H σ fps R Q k =>
  h B F H σ fps R _ fun v F1 H1 fps1 fp R1 g1 rv n => by
    have e := dd_str rv.1.dinv
    subst e
    refine ⟨_, rfl, k _ F1 H1 fps1 R1 g1 ⟨fun i F2 H2 fps2 g e hi => ?_, fun F2 H2 fps2 g e => ?_, fun i F2 H2 fps2 σ2 es2 v H3 g R2 hi y => ?_⟩⟩
    · rw [List.length_map] at hi
      show i < l.toArray.size
      rw [List.size_toArray]
      exact hi
    · rw [List.length_map]
      show l.toArray.size ≤ l.length
      rw [List.size_toArray]
      exact Nat.le_refl _
    · obtain ⟨e, c, hc, rfl⟩ := y
      subst e
      have hc' : l[i]? = some c := by
        have : l.toArray[i]? = some c := hc
        rwa [List.getElem?_toArray] at this
      refine ⟨.str (S [c]), F2, ?_, R2, Go.refl, .str _⟩
      rw [List.getElem?_map, hc']
      rfl
end
end
end DW

namespace K12
open PySem PySem.Spec PyProof.Rows L2 DW
local macro_rules | `(tactic| walk_at "side") => `(tactic| first | rfl | assumption | omega | (simp only [szL, S_len, List.length_append, List.length_map, List.length_cons, List.length_nil]; omega) | decide)
local macro_rules | `(tactic| walk_at "els") => `(tactic| first | exact Els.l | exact Els.d)
local macro_rules | `(tactic| walk_at "pos") => `(tactic| first | assumption | decide | omega | exact Or.inr (by decide) | exact Or.inl (by decide) | exact ⟨by decide, by decide +kernel⟩ | exact ⟨by decide, by decide, by decide⟩)
local macro_rules | `(tactic| walk_at "at") => `(tactic| first | assumption | rfl)
local macro_rules | `(tactic| walk_at "O") => `(tactic| first
  | focus ((with_reducible apply od_plusI); (rfl); (rfl); (rfl); (rfl); done)
  | focus ((with_reducible apply od_plusS); (rfl); (rfl); (rfl); (rfl); (walk_at "side"); done)
  | focus ((with_reducible apply od_plusL); (rfl); (walk_at "els"); (rfl); (walk_at "els"); (walk_at "side"); done)
  | focus ((with_reducible apply od_plusT); (rfl); (rfl); (walk_at "side"); done)
  | focus ((with_reducible apply od_ixL); (rfl); (walk_at "els"); (rfl); (rfl); (walk_at "at"); done)
  | focus ((with_reducible apply od_ixT); (rfl); (rfl); (rfl); (walk_at "at"); done)
  | focus ((with_reducible apply od_ixS); (rfl); (rfl); (rfl); (rfl); (walk_at "side"); (walk_at "at"); done)
  | focus ((with_reducible apply od_ixC); (rfl); (rfl); (rfl); (walk_at "at"); done)
  | focus ((with_reducible apply od_ixRx); (rfl); (rfl); (rfl); (walk_at "at"); (walk_at "at"); (rfl); done)
  | focus ((with_reducible apply od_ixQx); (rfl); (rfl); (walk_at "at"); (walk_at "at"); (rfl); done)
  | focus ((with_reducible apply od_sub); (rfl); (rfl); (rfl); (rfl); done)
  | focus ((with_reducible apply od_fdiv); (rfl); (rfl); (rfl); (rfl); (walk_at "pos"); done)
  | focus ((with_reducible apply od_mod); (rfl); (rfl); (rfl); (rfl); (walk_at "pos"); done)
  | focus ((with_reducible apply od_pow); (rfl); (rfl); (rfl); (rfl); (walk_at "pos"); done)
  | focus ((with_reducible apply od_lt); (rfl); (rfl); (rfl); (rfl); done)
  | focus ((with_reducible apply od_le); (rfl); (rfl); (rfl); (rfl); done)
  | focus ((with_reducible apply od_gt); (rfl); (rfl); (rfl); (rfl); done)
  | focus ((with_reducible apply od_ge); (rfl); (rfl); (rfl); (rfl); done)
  | focus ((with_reducible apply od_eqI); (rfl); (rfl); (rfl); (rfl); done)
  | focus ((with_reducible apply od_eqS); (rfl); (rfl); (rfl); (rfl); done)
  | focus ((with_reducible apply od_eqB); (rfl); (rfl); (rfl); (rfl); done)
  | focus ((with_reducible apply od_neI); (rfl); (rfl); (rfl); (rfl); done)
  | focus ((with_reducible apply od_neS); (rfl); (rfl); (rfl); (rfl); done)
  | focus ((with_reducible apply od_neB); (rfl); (rfl); (rfl); (rfl); done)
  | focus ((with_reducible apply od_timesI); (rfl); (rfl); (rfl); (rfl); (walk_at "pos"); done)
  | focus ((with_reducible apply od_isN); (rfl); (rfl); done)
  | focus ((with_reducible apply od_isnotN); (rfl); (rfl); done)
  | focus ((with_reducible apply od_inT); (rfl); (rfl); (rfl); (rfl); (rfl); done)
  | focus ((with_reducible apply od_notinT); (rfl); (rfl); (rfl); (rfl); (rfl); done))
local macro_rules | `(tactic| walk_at "kit") => `(tactic| first | exact kit_NoneType_bool | exact kit_NoneType_int | exact kit_NoneType_str | exact kit_NoneType_list | exact kit_NoneType_tuple | exact kit_bool_bool | exact kit_bool_int | exact kit_bool_str | exact kit_bool_list | exact kit_bool_tuple | exact kit_int_bool | exact kit_int_int | exact kit_int_str | exact kit_int_list | exact kit_int_tuple | exact kit_str_bool | exact kit_str_int | exact kit_str_str | exact kit_str_list | exact kit_str_tuple | exact kit_list_bool | exact kit_list_int | exact kit_list_str | exact kit_list_list | exact kit_list_tuple | exact kit_tuple_bool | exact kit_tuple_int | exact kit_tuple_str | exact kit_tuple_list | exact kit_tuple_tuple | exact kit_dict_bool | exact kit_dict_int | exact kit_dict_str | exact kit_dict_list | exact kit_dict_tuple)
local macro_rules | `(tactic| walk_at "C") => `(tactic| fail)
local macro_rules | `(tactic| walk_at "E") => `(tactic| first
  | exact ee_int | exact ee_str | exact ee_bl | exact ee_non
  | exact ee_var rfl rfl
  | (walk_at "C")
  | focus ((with_reducible apply ee_op); (walk_at "E"); (walk_at "E"); (rfl); (walk_at "O"); done)
  | focus ((with_reducible apply ee_lst); (walk_at "A"); (walk_at "side"); done)
  | focus ((with_reducible apply ee_tup); (walk_at "A"); (walk_at "side"); done)
  | focus ((with_reducible apply ee_isi); (walk_at "E"); (rfl); (rfl); (walk_at "kit"); done)
  | focus ((with_reducible apply ee_isiT); (walk_at "E"); (rfl); (rfl); (walk_at "kit"); (walk_at "kit"); (rfl); done)
  | focus ((with_reducible apply ee_cb); (walk_at "EA"); (walk_at "F"); done)
  | focus ((with_reducible apply ee_not); (walk_at "E"); done)
  | focus ((with_reducible apply ee_and); (walk_at "E"); (intro; walk_at "E"); done)
  | focus ((with_reducible apply ee_or); (walk_at "E"); (intro; walk_at "E"); done)
  | focus ((with_reducible apply ee_sl); (walk_at "E"); (walk_at "EO"); (walk_at "EO"); (rfl); (walk_at "SD"); done)
  | focus ((with_reducible apply ee_neg); (walk_at "E"); (rfl); (rfl); done))
local macro_rules | `(tactic| walk_at "A") => `(tactic| first
  | exact ead_nil
  | focus ((with_reducible apply ead_cons); (walk_at "E"); (walk_at "A"); done))
local macro_rules | `(tactic| walk_at "EA") => `(tactic| first
  | exact ea_nil
  | focus ((with_reducible apply ea_cons); (walk_at "E"); (walk_at "EA"); (rfl); done))
local macro_rules | `(tactic| walk_at "F") => `(tactic| first
  | focus ((with_reducible apply cd_lenL); (rfl); (walk_at "els"); done)
  | focus ((with_reducible apply cd_lenT); (rfl); done)
  | focus ((with_reducible apply cd_lenS); (rfl); (rfl); (walk_at "side"); done)
  | focus ((with_reducible apply cd_lenC); (rfl); done)
  | focus ((with_reducible apply cd_lenO); (rfl); done)
  | focus ((with_reducible apply cd_int); (rfl); (rfl); done)
  | focus ((with_reducible apply cd_intB); (rfl); (rfl); done)
  | focus ((with_reducible apply cd_listC); (rfl); done)
  | focus ((with_reducible apply cd_list); (rfl); (walk_at "els"); done)
  | focus ((with_reducible apply cd_listT); (rfl); done)
  | focus ((with_reducible apply cd_tuple); (rfl); (walk_at "els"); done)
  | focus ((with_reducible apply cd_max); (rfl); (rfl); (rfl); (rfl); done)
  | focus ((with_reducible apply cd_min); (rfl); (rfl); (rfl); (rfl); done)
  | focus ((with_reducible apply cd_str); (rfl); (rfl); (walk_at "side"); done)
  | focus ((with_reducible apply cd_ord); (rfl); (rfl); (walk_at "side"); done))
local macro_rules | `(tactic| walk_at "T") => `(tactic| first
  | focus ((with_reducible apply et_test); (walk_at "E"); done)
  | focus ((with_reducible apply et_B); (walk_at "E"); done)
  | focus ((with_reducible apply et_not); (walk_at "T"); done)
  | exact et_yes
  | focus ((with_reducible apply et_and); (walk_at "T"); (intro; walk_at "T"); done)
  | focus ((with_reducible apply et_or); (walk_at "T"); (intro; walk_at "T"); done))
local macro_rules | `(tactic| walk_at "D") => `(tactic| first
  | (walk_at "E")
  | focus ((with_reducible apply ed_lst); (walk_at "E"); done))
local macro_rules | `(tactic| walk_at "A") => `(tactic| first
  | exact ead_nil
  | focus ((with_reducible apply ead_cons); (walk_at "D"); (walk_at "A"); done))
local macro_rules | `(tactic| walk_at "v") => `(tactic| (intro a0 z0; cases z0))
local macro_rules | `(tactic| walk_at "set") => `(tactic| ((with_reducible apply ss_asg); (walk_at "E"); (exact Nat.le_of_ble_eq_true rfl); (rfl); (walk_at "v"); (dsimp only [List.set_cons_zero, List.set_cons_succ, Vl.sl, upd1, List.getElem?_cons_zero, List.getElem?_cons_succ, T.set])))
local macro_rules | `(tactic| walk_at "n") => `(tactic| (dsimp only [List.set_cons_zero, List.set_cons_succ, Vl.sl, upd1, List.getElem?_cons_zero, List.getElem?_cons_succ, T.set, putT]))
local macro_rules | `(tactic| walk_at "setI") => `(tactic| ((with_reducible apply ss_setI); (walk_at "E"); (with_reducible apply ee_m); (walk_at "E"); (rfl); (with_reducible apply ee_m); (walk_at "E"); (rfl); (rfl); (walk_at "at"); (walk_at "n")))
local macro_rules | `(tactic| walk_at "EO") => `(tactic| first
  | exact eo_no
  | focus ((with_reducible apply eo_part); (walk_at "E"); (rfl); (rfl); done))
local macro_rules | `(tactic| walk_at "SD") => `(tactic| first
  | focus ((with_reducible apply sd_L); (rfl); (walk_at "els"); done)
  | focus ((with_reducible apply sd_S); (rfl); (rfl); (walk_at "side"); done)
  | focus ((with_reducible apply sd_T); (rfl); done))
structure CA where
  Reader : Addr
  DamagedPacket : Addr
structure CF (K : PySem.W.Frag) (c : CA) : Prop where
  cl_Reader : Cls K c.Reader
  na_Reader_data : NoAttr K c.Reader "data"
  na_Reader_at : NoAttr K c.Reader "at"
  ex_DamagedPacket : PySem.W.exmOne K (.ref c.DamagedPacket) (.ref c.DamagedPacket) = some true
/-! ### numbers -/
def numB (n : Nat) : List Int := if n < 128 then [(n : Int)] else ((n % 128 + 128 : Nat) : Int) :: numB (n / 128)
decreasing_by omega
theorem numB_lt {n : Nat} (h : n < 128) : numB n = [(n : Int)] := by rw [numB, if_pos h]
theorem numB_ge {n : Nat} (h : ¬ n < 128) : numB n = ((n % 128 + 128 : Nat) : Int) :: numB (n / 128) := by rw [numB, if_neg h]
/-- a number read: how many bytes, which one -/
def rdG : Nat → Bool → List Int → Option (Nat × Nat)
  | 0, _, _ => none
  | _ + 1, _, [] => none
  | f + 1, fst, b :: r => if b < 128 then (if b = 0 ∧ fst = false then none else some (1, (b % 128).toNat))
    else match rdG f false r with
      | none => none
      | some (u, v) => some (u + 1, (b % 128).toNat + 128 * v)
/-! ### what is written -/
abbrev Mk := Nat × Nat
inductive Dee where
  | back (n : Nat)
  | chg (m : List Nat) (r : List Mk) (b : Option Mk) (n : Nat) (t : List Nat)
abbrev Tri := Nat × Nat × Dee
def markD (m : Mk) : PyData := .tuple [.int (m.1 : Int), .int (m.2 : Int)]
def behD : Option Mk → PyData
  | none => .none
  | some m => markD m
def deedD : Dee → PyData
  | .back n => .tuple [.str "back", .int (n : Int)]
  | .chg m r b n t => .tuple [.str "change", .str (S m), .tuple (r.map markD), behD b, .int (n : Int), .str (S t)]
def triD (t : Tri) : PyData := .tuple [.int (t.1 : Int), .int (t.2.1 : Int), deedD t.2.2]
def txtB (t : List Nat) : List Int := numB t.length ++ t.flatMap numB
def mrkB (m : Mk) : List Int := numB m.1 ++ numB m.2
def behB : Option Mk → List Int
  | none => [0]
  | some m => [1] ++ mrkB m
def deeB : Dee → List Int
  | .back n => [1] ++ numB n
  | .chg m r b n t => [0] ++ txtB m ++ (numB r.length ++ r.flatMap mrkB) ++ behB b ++ numB n ++ txtB t
def tr1B (t : Tri) : List Int := numB t.1 ++ numB t.2.1 ++ deeB t.2.2
def triB (ts : List Tri) : List Int := numB ts.length ++ ts.flatMap tr1B
def pacB (ts : List Tri) : List Int := [1] ++ triB ts
/-! ### what is read: what stands at a place, and the place behind it -/
abbrev Ps (α : Type) := List Int → Nat → Option (α × Nat)
def bnd {α β : Type} (p : Ps α) (f : α → Ps β) : Ps β := fun bs a => match p bs a with
  | none => none
  | some (x, b) => f x bs b
def ret {α : Type} (x : α) : Ps α := fun _ a => some (x, a)
def rNum : Ps Nat := fun bs a => match rdG 60 true (bs.drop a) with
  | none => none
  | some (u, v) => some (v, a + u)
def rByte : Ps Int := fun bs a => match bs[a]? with
  | none => none
  | some b => some (b, a + 1)
def rCho (k : Int) : Ps Int := fun bs a => match bs[a]? with
  | none => none
  | some b => if k ≤ b then none else some (b, a + 1)
def rCnt : Ps Nat := fun bs a => match rNum bs a with
  | none => none
  | some (n, b) => if bs.length < n + b then none else some (n, b)
def okC (c : Nat) : Bool := c == 10 || (decide (32 ≤ c) && decide (c < 37)) || (decide (38 ≤ c) && decide (c < 127))
def rChr : Ps Nat := fun bs a => match rNum bs a with
  | none => none
  | some (n, b) => if okC n then some (n, b) else none
def rRep {α : Type} (p : Ps α) : Nat → Ps (List α)
  | 0 => fun _ a => some ([], a)
  | k + 1 => fun bs a => match rRep p k bs a with
    | none => none
    | some (l, b) => match p bs b with
      | none => none
      | some (x, d) => some (l ++ [x], d)
def rTxt : Ps (List Nat) := bnd rCnt (rRep rChr)
def rMrk : Ps Mk := bnd rNum fun n => bnd rNum fun m => ret (n, m)
def rMrks : Ps (List Mk) := bnd rCnt (rRep rMrk)
def rBeh : Ps (Option Mk) := bnd (rCho 2) fun b => if b = 1 then bnd rMrk fun m => ret (some m) else ret none
def rDee : Ps Dee := bnd (rCho 2) fun b => if b = 1 then bnd rNum fun n => ret (.back n)
  else bnd rTxt fun m => bnd rMrks fun r => bnd rBeh fun h => bnd rNum fun n => bnd rTxt fun t => ret (.chg m r h n t)
def rTr1 : Ps Tri := bnd rNum fun r => bnd rNum fun p => bnd rDee fun d => ret (r, p, d)
def rTri : Ps (List Tri) := bnd rCnt (rRep rTr1)
def rPac : Ps (List Tri) := bnd rByte fun b => if b = 1 then rTri else fun _ _ => none
/-! ### promises -/
def rdT (c : CA) (bs : List Int) (a : Nat) : T := .ins c.Reader [("data", T.L (bs.map .int)), ("at", .d (.int (a : Int)))]
/-- a method that reads -/
def RRd (c : CA) {α : Type} (p : Ps α) (vD : α → T) : Rl := fun as o => ∃ (bs : List Int) (a : Nat), bs.length ≤ 1000000 ∧ as = [.m (rdT c bs a)] ∧ o = (match p bs a with
  | some (x, b) => .ok [.m (rdT c bs b)] (vD x)
  | none => .exc (.ref c.DamagedPacket))
def nD (n : Nat) : T := .d (.int (n : Int))
def R_Reader_init (c : CA) : Rl := fun as o => ∃ bs : List Int, bs.length ≤ 1000000 ∧ as = [.m (.ins c.Reader []), .q (T.L (bs.map .int))] ∧ o = .ok [.m (rdT c bs 0), .q (T.L (bs.map .int))] (.d .none)
abbrev R_Reader_read_byte (c : CA) : Rl := RRd c rByte fun b => .d (.int b)
def R_Reader_read_choice (c : CA) : Rl := fun as o => ∃ (bs : List Int) (a : Nat) (k : Int), bs.length ≤ 1000000 ∧ as = [.m (rdT c bs a), .d (.int k)] ∧ o = (match rCho k bs a with
  | some (x, b) => .ok [.m (rdT c bs b), .d (.int k)] (.d (.int x))
  | none => .exc (.ref c.DamagedPacket))
def R_Reader_end (c : CA) : Rl := fun as o => ∃ (bs : List Int) (a : Nat), bs.length ≤ 1000000 ∧ as = [.m (rdT c bs a)] ∧ o = (if a < bs.length then .exc (.ref c.DamagedPacket) else .ok [.m (rdT c bs a)] (.d .none))
abbrev R_Reader_read_number (c : CA) : Rl := RRd c rNum nD
abbrev R_Reader_read_count (c : CA) : Rl := RRd c rCnt nD
abbrev R_Reader_read_character (c : CA) : Rl := RRd c rChr fun n => .d (.str (S [n]))
abbrev R_Reader_read_string (c : CA) : Rl := RRd c rTxt fun t => .d (.str (S t))
abbrev R_Reader_read_mark (c : CA) : Rl := RRd c rMrk fun m => .d (markD m)
abbrev R_Reader_read_deed (c : CA) : Rl := RRd c rDee fun d => .d (deedD d)
abbrev R_Reader_read_triple (c : CA) : Rl := RRd c rTr1 fun t => .d (triD t)
abbrev R_Reader_read_triples (c : CA) : Rl := RRd c rTri fun ts => T.L (ts.map triD)
abbrev R_Reader_read_packet (c : CA) : Rl := RRd c rPac fun ts => T.L (ts.map triD)
/-- a def that writes a thing -/
def RWr {α : Type} (D : α → PyData) (B : α → List Int) : Rl := fun as o => ∃ x : α, (B x).length ≤ 100000 ∧ as = [.d (D x)] ∧ o = .ok [.d (D x)] (T.L ((B x).map .int))
def intD (n : Nat) : PyData := .int (n : Int)
def txtD (t : List Nat) : PyData := .str (S t)
def lstB (ls : List (List Int)) : List Int := numB ls.length ++ ls.flatten
abbrev R_write_number : Rl := RWr intD numB
abbrev R_write_list : Rl := RWr (fun ls => .list (ls.map dI)) lstB
abbrev R_write_string : Rl := RWr txtD txtB
abbrev R_write_mark : Rl := RWr markD mrkB
abbrev R_write_deed : Rl := RWr deedD deeB
abbrev R_write_triples : Rl := RWr (fun ts => .list (ts.map triD)) triB
abbrev R_write_packet : Rl := RWr (fun ts => .list (ts.map triD)) pacB
/-! ### the law's own words -/
abbrev R_law_number : Rl := RWr intD numB
abbrev R_law_text : Rl := RWr txtD txtB
abbrev R_law_mark : Rl := RWr markD mrkB
abbrev R_law_deed : Rl := RWr deedD deeB
def trisD (ts : List Tri) : PyData := .list (ts.map triD)
abbrev R_law_triples : Rl := RWr trisD triB
abbrev R_law_next := R_next9
abbrev R_law_same := R_same9
def optD {α : Type} (D : α → PyData) : Option (α × Nat) → PyData
  | none => .none
  | some (x, a) => .tuple [D x, .int (a : Int)]
/-- a def of the law that reads -/
def RLr {α : Type} (p : Ps α) (D : α → PyData) : Rl := fun as o => ∃ (bs : List Int) (a : Nat), bs.length ≤ 1000000 ∧ (∀ b ∈ bs, 0 ≤ b) ∧ as = [.d (dI bs), .d (.int (a : Int))] ∧ o = .ok [.d (dI bs), .d (.int (a : Int))] (.d (optD D (p bs a)))
abbrev R_law_read_number : Rl := RLr rNum intD
abbrev R_law_read_text : Rl := RLr rTxt txtD
abbrev R_law_read_mark : Rl := RLr rMrk markD
abbrev R_law_read_deed : Rl := RLr rDee deedD
abbrev R_law_read_triples : Rl := RLr rTri trisD
abbrev R_law_read_packet : Rl := RLr rPac trisD
def R_law_sign : Rl := fun as o => ∃ n : Nat, okC n = true ∧ as = [.d (.int (n : Int))] ∧ o = .ok [.d (.int (n : Int))] (.d (.str (S [n])))
def kindD (k : Nat) (bs : List Int) : PyData := match k with
  | 0 => optD intD (rNum bs 0)
  | 1 => optD txtD (rTxt bs 0)
  | 2 => optD deedD (rDee bs 0)
  | 3 => optD trisD (rTri bs 0)
  | _ => optD trisD (rPac bs 0)
def R_law_own : Rl := fun as o => ∃ (k : Nat) (bs : List Int), k < 5 ∧ bs.length ≤ 1000000 ∧ (∀ b ∈ bs, 0 ≤ b) ∧ as = [.d (.int (k : Int)), .d (dI bs)] ∧ o = .ok [.d (.int (k : Int)), .d (dI bs)] (.d (kindD k bs))
def R_law_told (c : CA) : Rl := fun as o => ∃ (k : Nat) (bs : List Int), k < 5 ∧ bs.length ≤ 1000000 ∧ as = [.d (.int (k : Int)), .d (dI bs)] ∧ o = .ok [.d (.int (k : Int)), .d (dI bs)] (.d (kindD k bs))
/-! ### draws -/
def lims (k : Int) : Int := [3, 128, 300, 2097152, 1180591620717411303424].getD k.toNat 0
def dnF (l : LS) : Nat × LS := (((l.nx 5).2.nx (lims (l.nx 5).1)).1.toNat, ((l.nx 5).2.nx (lims (l.nx 5).1)).2)
def LET : List Nat := ("\n !\"#$&'()*+,-./0123456789:;<=>?@ABCDEFGHIJKLMNOPQRSTUVWXYZ[\\]^_`abcdefghijklmnopqrstuvwxyz{|}~" : Str).cps.toList
def txI : Nat → LS → List Nat × LS
  | 0, l => ([], l)
  | n + 1, l => ((txI n l).1 ++ [LET.getD ((txI n l).2.nx 95).1.toNat 0], ((txI n l).2.nx 95).2)
def txL (k : Int) : Int := [1, 4, 9, 140].getD k.toNat 0
def dtF (l : LS) : List Nat × LS := txI ((l.nx 4).2.nx (txL (l.nx 4).1)).1.toNat ((l.nx 4).2.nx (txL (l.nx 4).1)).2
def dmF (l : LS) : Mk × LS := (((dnF l).1, ((dnF l).2.nx 8).1.toNat), ((dnF l).2.nx 8).2)
def msI : Nat → LS → List Mk × LS
  | 0, l => ([], l)
  | n + 1, l => ((msI n l).1 ++ [(dmF (msI n l).2).1], (dmF (msI n l).2).2)
def dbF (l : LS) : Option Mk × LS := (if ((dmF l).2.nx 2).1 = 0 then none else some (dmF l).1, ((dmF l).2.nx 2).2)
def ddF (l : LS) : Dee × LS :=
  if (l.nx 3).1 = 0 then (.back (dnF (l.nx 3).2).1, (dnF (l.nx 3).2).2)
  else
    let m := msI ((l.nx 3).2.nx 4).1.toNat ((l.nx 3).2.nx 4).2
    let b := dbF m.2
    let t := dtF b.2
    let n := dnF t.2
    let u := dtF n.2
    (.chg t.1 m.1 b.1 n.1 u.1, u.2)
def R_law_drawn_number : Rl := fun as o => ∃ l : LS, l.ok ∧ as = [.m l.t] ∧ o = .ok [.m (dnF l).2.t] (.d (.int ((dnF l).1 : Int)))
def R_law_drawn_text : Rl := fun as o => ∃ l : LS, l.ok ∧ as = [.m l.t] ∧ o = .ok [.m (dtF l).2.t] (.d (.str (S (dtF l).1)))
def R_law_drawn_deed : Rl := fun as o => ∃ l : LS, l.ok ∧ as = [.m l.t] ∧ o = .ok [.m (ddF l).2.t] (.d (deedD (ddF l).1))
def byF (k : Int) : Int := [0, 1, 2, 37, 127, 128, 255].getD k.toNat 0
def raI : Nat → LS → List Int × LS
  | 0, l => ([], l)
  | n + 1, l => ((raI n l).1 ++ [(((raI n l).2.nx 2).2.nx ([3, 256].getD ((raI n l).2.nx 2).1.toNat 0)).1], (((raI n l).2.nx 2).2.nx ([3, 256].getD ((raI n l).2.nx 2).1.toNat 0)).2)
def spG (d : List Int) (pl : Nat) (y : Int) (p : Int) (l : LS) : List Int × LS :=
  if p = 0 then (d.take pl, l)
  else if p = 1 then (d.take pl ++ d.drop (pl + 1), l)
  else if p = 2 then (d.take pl ++ [y] ++ d.drop pl, l)
  else if p = 3 then (d.take pl ++ [y] ++ d.drop (pl + 1), l)
  else raI (l.nx 12).1.toNat (l.nx 12).2
def spF (d : List Int) (l : LS) : List Int × LS := spG d (l.nx ((d.length : Int) + 1)).1.toNat (byF ((l.nx ((d.length : Int) + 1)).2.nx 7).1) (((l.nx ((d.length : Int) + 1)).2.nx 7).2.nx 5).1 (((l.nx ((d.length : Int) + 1)).2.nx 7).2.nx 5).2
def R_law_spoilt : Rl := fun as o => ∃ (l : LS) (d : List Int), l.ok ∧ d.length ≤ 100000 ∧ as = [.m l.t, .q (T.L (d.map .int))] ∧ o = .ok [.m (spF d l).2.t, .q (T.L (d.map .int))] (T.L ((spF d l).1.map .int))
/-! ### good things: they are read back -/
def nOk (n : Nat) : Prop := n < 128 ^ 60
def mOk (m : Mk) : Prop := nOk m.1 ∧ nOk m.2
def tOk (t : List Nat) : Prop := t.length ≤ 10000 ∧ ∀ c ∈ t, okC c = true
def dOk : Dee → Prop
  | .back n => nOk n
  | .chg m r b n t => tOk m ∧ (r.length ≤ 10000 ∧ ∀ k ∈ r, mOk k) ∧ (∀ k, b = some k → mOk k) ∧ nOk n ∧ tOk t
def sOk (ts : List Tri) : Prop := ts.length ≤ 10000 ∧ ∀ t ∈ ts, nOk t.1 ∧ nOk t.2.1 ∧ dOk t.2.2
def R_law_in_a_row (c : CA) : Rl := fun as o => ∃ (n : Nat) (t : List Nat) (d : Dee) (ts : List Tri), nOk n ∧ tOk t ∧ dOk d ∧ sOk ts ∧ (numB n ++ txtB t ++ deeB d ++ triB ts ++ pacB ts).length ≤ 100000 ∧
  as = [.d (.list [intD n, txtD t, deedD d, trisD ts, trisD ts]), .d (.list [dI (numB n), dI (txtB t), dI (deeB d), dI (triB ts), dI (pacB ts)])] ∧
  o = .ok [.d (.list [intD n, txtD t, deedD d, trisD ts, trisD ts]), .d (.list [dI (numB n), dI (txtB t), dI (deeB d), dI (triB ts), dI (pacB ts)])] (.d (.bool true))
def R_law (c : CA) : Rl := fun as o => ∃ ns : List Int, as = [.s ns] ∧ o = .ok [.s ns] (.d (.bool true))
/-! ### the plain law -/
theorem numB_ne (n : Nat) : numB n ≠ [] := by
  by_cases h : n < 128
  · rw [numB_lt h]
    exact List.cons_ne_nil _ _
  · rw [numB_ge h]
    exact List.cons_ne_nil _ _
theorem numB_pos (n : Nat) : 0 < (numB n).length := List.length_pos_iff.mpr (numB_ne n)
theorem numB_len {n : Nat} (h : n ≤ 16000) : (numB n).length ≤ 2 := by
  by_cases c : n < 128
  · rw [numB_lt c]
    show 1 ≤ 2
    decide
  · rw [numB_ge c, numB_lt (n := n / 128) (by omega)]
    exact Nat.le_refl _
theorem rdG_num : ∀ (f n : Nat) (b : Bool) (r : List Int), (numB n).length ≤ f → (b = true ∨ n ≠ 0) → rdG f b (numB n ++ r) = some ((numB n).length, n)
  | 0, n, b, r, h, _ => absurd h (by have := numB_pos n; omega)
  | f + 1, n, b, r, h, hb => by
    by_cases c : n < 128
    · rw [numB_lt c]
      show (if (n : Int) < 128 then (if (n : Int) = 0 ∧ b = false then none else some (1, ((n : Int) % 128).toNat)) else _) = _
      rw [if_pos (by omega), if_neg]
      · have : ((n : Int) % 128).toNat = n := by omega
        rw [this]
        rfl
      · rintro ⟨h1, h2⟩
        rcases hb with hb | hb
        · rw [hb] at h2
          cases h2
        · exact hb (by omega)
    · rw [numB_ge c]
      rw [numB_ge c] at h
      show (if ((n % 128 + 128 : Nat) : Int) < 128 then _ else match rdG f false (numB (n / 128) ++ r) with
        | none => none
        | some (u, v) => some (u + 1, (((n % 128 + 128 : Nat) : Int) % 128).toNat + 128 * v)) = _
      rw [if_neg (by omega), rdG_num f (n / 128) false r (by simpa using h) (.inr (by omega))]
      show some ((numB (n / 128)).length + 1, (((n % 128 + 128 : Nat) : Int) % 128).toNat + 128 * (n / 128)) = some ((numB (n / 128)).length + 1, n)
      rw [show (((n % 128 + 128 : Nat) : Int) % 128).toNat + 128 * (n / 128) = n by omega]
theorem rdG_cut : ∀ (f n k : Nat) (b : Bool), k < (numB n).length → rdG f b ((numB n).take k) = none
  | 0, _, _, _, _ => rfl
  | f + 1, n, 0, b, _ => rfl
  | f + 1, n, k + 1, b, h => by
    by_cases c : n < 128
    · rw [numB_lt c] at h
      exact absurd h (by simp)
    · rw [numB_ge c] at h ⊢
      show (if ((n % 128 + 128 : Nat) : Int) < 128 then _ else match rdG f false ((numB (n / 128)).take k) with
        | none => none
        | some (u, v) => some (u + 1, (((n % 128 + 128 : Nat) : Int) % 128).toNat + 128 * v)) = _
      rw [if_neg (by omega), rdG_cut f (n / 128) k false (by simpa using h)]
theorem rdG_zero : ∀ (f : Nat) (l r : List Int) (b : Bool), (∀ x ∈ l, 128 ≤ x) → (l ≠ [] ∨ b = false) → rdG f b (l ++ 0 :: r) = none
  | 0, _, _, _, _, _ => rfl
  | f + 1, [], r, b, _, h => by
    rcases h with h | h
    · exact absurd rfl h
    · subst h
      rfl
  | f + 1, x :: l, r, b, hl, _ => by
    have hx := hl x List.mem_cons_self
    show (if x < 128 then _ else match rdG f false (l ++ 0 :: r) with
      | none => none
      | some (u, v) => some (u + 1, (x % 128).toNat + 128 * v)) = _
    rw [if_neg (by omega), rdG_zero f l r false (fun y hy => hl y (List.mem_cons_of_mem _ hy)) (.inr rfl)]
theorem numB_all (n : Nat) : ∀ b ∈ numB n, 0 ≤ b ∧ b < 256 := by
  induction n using Nat.strongRecOn with
  | ind n ih =>
    intro b hb
    by_cases c : n < 128
    · rw [numB_lt c, List.mem_singleton] at hb
      omega
    · rw [numB_ge c] at hb
      rcases List.mem_cons.mp hb with rfl | hb
      · omega
      · exact ih (n / 128) (by omega) b hb
theorem numB_le60 : ∀ (k n : Nat), n < 128 ^ (k + 1) → (numB n).length ≤ k + 1
  | 0, n, h => by
    rw [numB_lt (by omega)]
    exact Nat.le_refl _
  | k + 1, n, h => by
    by_cases c : n < 128
    · rw [numB_lt c]
      show 1 ≤ _
      omega
    · rw [numB_ge c]
      have := numB_le60 k (n / 128) (by rw [Nat.div_lt_iff_lt_mul (by decide)]; rw [Nat.pow_succ] at h; exact h)
      rw [List.length_cons]
      omega
end K12

namespace K12
open PySem PySem.Spec PyProof.Rows L2 DW
def top (i : Nat) : Stmt := PySem.Challenge.pw_orderwhole_k12_bytes_written_and_read.main.body.getD i (.Pass ⟨0, 0, 0, 0⟩)
abbrev s_Reader_init : Stmt := (inClass (top 8) 0)
abbrev N_Reader_init : List Str := ["self", "data"]
theorem sc_Reader_init : FnScope N_Reader_init ["self", "data"] (defScope s_Reader_init) := ⟨rfl, rfl, rfl, by decide +kernel, rfl, by decide +kernel, by decide +kernel⟩
abbrev s_Reader_read_byte : Stmt := (inClass (top 8) 1)
abbrev N_Reader_read_byte : List Str := ["self"]
theorem sc_Reader_read_byte : FnScope N_Reader_read_byte ["self"] (defScope s_Reader_read_byte) := ⟨rfl, rfl, rfl, by decide +kernel, rfl, by decide +kernel, by decide +kernel⟩
abbrev s_Reader_read_choice : Stmt := (inClass (top 8) 2)
abbrev N_Reader_read_choice : List Str := ["self", "count", "byte"]
theorem sc_Reader_read_choice : FnScope N_Reader_read_choice ["self", "count"] (defScope s_Reader_read_choice) := ⟨rfl, rfl, rfl, by decide +kernel, rfl, by decide +kernel, by decide +kernel⟩
abbrev s_Reader_end : Stmt := (inClass (top 8) 3)
abbrev N_Reader_end : List Str := ["self"]
theorem sc_Reader_end : FnScope N_Reader_end ["self"] (defScope s_Reader_end) := ⟨rfl, rfl, rfl, by decide +kernel, rfl, by decide +kernel, by decide +kernel⟩
abbrev s_Reader_read_number : Stmt := (inClass (top 8) 4)
abbrev N_Reader_read_number : List Str := ["self", "total", "factor", "index", "byte"]
theorem sc_Reader_read_number : FnScope N_Reader_read_number ["self"] (defScope s_Reader_read_number) := ⟨rfl, rfl, rfl, by decide +kernel, rfl, by decide +kernel, by decide +kernel⟩
abbrev s_Reader_read_count : Stmt := (inClass (top 8) 5)
abbrev N_Reader_read_count : List Str := ["self", "count"]
theorem sc_Reader_read_count : FnScope N_Reader_read_count ["self"] (defScope s_Reader_read_count) := ⟨rfl, rfl, rfl, by decide +kernel, rfl, by decide +kernel, by decide +kernel⟩
abbrev s_Reader_read_character : Stmt := (inClass (top 8) 6)
abbrev N_Reader_read_character : List Str := ["self", "code"]
theorem sc_Reader_read_character : FnScope N_Reader_read_character ["self"] (defScope s_Reader_read_character) := ⟨rfl, rfl, rfl, by decide +kernel, rfl, by decide +kernel, by decide +kernel⟩
abbrev s_Reader_read_string : Stmt := (inClass (top 8) 7)
abbrev N_Reader_read_string : List Str := ["self", "_"]
theorem sc_Reader_read_string : FnScope N_Reader_read_string ["self"] (defScope s_Reader_read_string) := ⟨rfl, rfl, rfl, by decide +kernel, rfl, by decide +kernel, by decide +kernel⟩
abbrev s_Reader_read_mark : Stmt := (inClass (top 8) 8)
abbrev N_Reader_read_mark : List Str := ["self", "number"]
theorem sc_Reader_read_mark : FnScope N_Reader_read_mark ["self"] (defScope s_Reader_read_mark) := ⟨rfl, rfl, rfl, by decide +kernel, rfl, by decide +kernel, by decide +kernel⟩
abbrev s_Reader_read_deed : Stmt := (inClass (top 8) 9)
abbrev N_Reader_read_deed : List Str := ["self", "module", "removed", "behind", "number", "_"]
theorem sc_Reader_read_deed : FnScope N_Reader_read_deed ["self"] (defScope s_Reader_read_deed) := ⟨rfl, rfl, rfl, by decide +kernel, rfl, by decide +kernel, by decide +kernel⟩
abbrev s_Reader_read_triple : Stmt := (inClass (top 8) 11)
abbrev N_Reader_read_triple : List Str := ["self", "replica", "place"]
theorem sc_Reader_read_triple : FnScope N_Reader_read_triple ["self"] (defScope s_Reader_read_triple) := ⟨rfl, rfl, rfl, by decide +kernel, rfl, by decide +kernel, by decide +kernel⟩
abbrev s_Reader_read_triples : Stmt := (inClass (top 8) 12)
abbrev N_Reader_read_triples : List Str := ["self", "_"]
theorem sc_Reader_read_triples : FnScope N_Reader_read_triples ["self"] (defScope s_Reader_read_triples) := ⟨rfl, rfl, rfl, by decide +kernel, rfl, by decide +kernel, by decide +kernel⟩
abbrev s_Reader_read_packet : Stmt := (inClass (top 8) 13)
abbrev N_Reader_read_packet : List Str := ["self"]
theorem sc_Reader_read_packet : FnScope N_Reader_read_packet ["self"] (defScope s_Reader_read_packet) := ⟨rfl, rfl, rfl, by decide +kernel, rfl, by decide +kernel, by decide +kernel⟩
abbrev s_write_number : Stmt := (top 10)
abbrev N_write_number : List Str := ["number", "data"]
theorem sc_write_number : FnScope N_write_number ["number"] (defScope s_write_number) := ⟨rfl, rfl, rfl, by decide +kernel, rfl, by decide +kernel, by decide +kernel⟩
abbrev s_write_list : Stmt := (top 11)
abbrev N_write_list : List Str := ["items", "data", "item"]
theorem sc_write_list : FnScope N_write_list ["items"] (defScope s_write_list) := ⟨rfl, rfl, rfl, by decide +kernel, rfl, by decide +kernel, by decide +kernel⟩
abbrev s_write_string : Stmt := (top 12)
abbrev N_write_string : List Str := ["text", "character"]
theorem sc_write_string : FnScope N_write_string ["text"] (defScope s_write_string) := ⟨rfl, rfl, rfl, by decide +kernel, rfl, by decide +kernel, by decide +kernel⟩
abbrev s_write_mark : Stmt := (top 13)
abbrev N_write_mark : List Str := ["mark"]
theorem sc_write_mark : FnScope N_write_mark ["mark"] (defScope s_write_mark) := ⟨rfl, rfl, rfl, by decide +kernel, rfl, by decide +kernel, by decide +kernel⟩
abbrev s_write_deed : Stmt := (top 14)
abbrev N_write_deed : List Str := ["deed", "_", "module", "removed", "behind", "number", "text", "data", "mark"]
theorem sc_write_deed : FnScope N_write_deed ["deed"] (defScope s_write_deed) := ⟨rfl, rfl, rfl, by decide +kernel, rfl, by decide +kernel, by decide +kernel⟩
abbrev s_write_triples : Stmt := (top 15)
abbrev N_write_triples : List Str := ["triples", "written", "replica", "place", "deed"]
theorem sc_write_triples : FnScope N_write_triples ["triples"] (defScope s_write_triples) := ⟨rfl, rfl, rfl, by decide +kernel, rfl, by decide +kernel, by decide +kernel⟩
abbrev s_write_packet : Stmt := (top 16)
abbrev N_write_packet : List Str := ["packet"]
theorem sc_write_packet : FnScope N_write_packet ["packet"] (defScope s_write_packet) := ⟨rfl, rfl, rfl, by decide +kernel, rfl, by decide +kernel, by decide +kernel⟩
abbrev s_law_next : Stmt := (top 18)
abbrev N_law_next : List Str := ["state", "limit", "cell", "value"]
theorem sc_law_next : FnScope N_law_next ["state", "limit"] (defScope s_law_next) := ⟨rfl, rfl, rfl, by decide +kernel, rfl, by decide +kernel, by decide +kernel⟩
abbrev s_law_same : Stmt := (top 19)
abbrev N_law_same : List Str := ["actual", "expected", "k"]
theorem sc_law_same : FnScope N_law_same ["actual", "expected"] (defScope s_law_same) := ⟨rfl, rfl, rfl, by decide +kernel, rfl, by decide +kernel, by decide +kernel⟩
abbrev s_law_number : Stmt := (top 20)
abbrev N_law_number : List Str := ["number", "data"]
theorem sc_law_number : FnScope N_law_number ["number"] (defScope s_law_number) := ⟨rfl, rfl, rfl, by decide +kernel, rfl, by decide +kernel, by decide +kernel⟩
abbrev s_law_text : Stmt := (top 21)
abbrev N_law_text : List Str := ["text", "data", "character"]
theorem sc_law_text : FnScope N_law_text ["text"] (defScope s_law_text) := ⟨rfl, rfl, rfl, by decide +kernel, rfl, by decide +kernel, by decide +kernel⟩
abbrev s_law_mark : Stmt := (top 22)
abbrev N_law_mark : List Str := ["mark"]
theorem sc_law_mark : FnScope N_law_mark ["mark"] (defScope s_law_mark) := ⟨rfl, rfl, rfl, by decide +kernel, rfl, by decide +kernel, by decide +kernel⟩
abbrev s_law_deed : Stmt := (top 23)
abbrev N_law_deed : List Str := ["deed", "data", "mark"]
theorem sc_law_deed : FnScope N_law_deed ["deed"] (defScope s_law_deed) := ⟨rfl, rfl, rfl, by decide +kernel, rfl, by decide +kernel, by decide +kernel⟩
abbrev s_law_triples : Stmt := (top 24)
abbrev N_law_triples : List Str := ["triples", "data", "replica", "place", "deed"]
theorem sc_law_triples : FnScope N_law_triples ["triples"] (defScope s_law_triples) := ⟨rfl, rfl, rfl, by decide +kernel, rfl, by decide +kernel, by decide +kernel⟩
abbrev s_law_read_number : Stmt := (top 25)
abbrev N_law_read_number : List Str := ["data", "at", "total", "factor", "k"]
theorem sc_law_read_number : FnScope N_law_read_number ["data", "at"] (defScope s_law_read_number) := ⟨rfl, rfl, rfl, by decide +kernel, rfl, by decide +kernel, by decide +kernel⟩
abbrev s_law_sign : Stmt := (top 26)
abbrev N_law_sign : List Str := ["code", "first", "rest"]
theorem sc_law_sign : FnScope N_law_sign ["code"] (defScope s_law_sign) := ⟨rfl, rfl, rfl, by decide +kernel, rfl, by decide +kernel, by decide +kernel⟩
abbrev s_law_read_text : Stmt := (top 27)
abbrev N_law_read_text : List Str := ["data", "at", "found", "count", "text", "k"]
theorem sc_law_read_text : FnScope N_law_read_text ["data", "at"] (defScope s_law_read_text) := ⟨rfl, rfl, rfl, by decide +kernel, rfl, by decide +kernel, by decide +kernel⟩
abbrev s_law_read_mark : Stmt := (top 28)
abbrev N_law_read_mark : List Str := ["data", "at", "first", "second"]
theorem sc_law_read_mark : FnScope N_law_read_mark ["data", "at"] (defScope s_law_read_mark) := ⟨rfl, rfl, rfl, by decide +kernel, rfl, by decide +kernel, by decide +kernel⟩
abbrev s_law_read_deed : Stmt := (top 29)
abbrev N_law_read_deed : List Str := ["data", "at", "found", "module", "count", "marks", "k", "behind", "number", "text"]
theorem sc_law_read_deed : FnScope N_law_read_deed ["data", "at"] (defScope s_law_read_deed) := ⟨rfl, rfl, rfl, by decide +kernel, rfl, by decide +kernel, by decide +kernel⟩
abbrev s_law_read_triples : Stmt := (top 30)
abbrev N_law_read_triples : List Str := ["data", "at", "count", "triples", "k", "pair", "deed"]
theorem sc_law_read_triples : FnScope N_law_read_triples ["data", "at"] (defScope s_law_read_triples) := ⟨rfl, rfl, rfl, by decide +kernel, rfl, by decide +kernel, by decide +kernel⟩
abbrev s_law_read_packet : Stmt := (top 31)
abbrev N_law_read_packet : List Str := ["data", "at"]
theorem sc_law_read_packet : FnScope N_law_read_packet ["data", "at"] (defScope s_law_read_packet) := ⟨rfl, rfl, rfl, by decide +kernel, rfl, by decide +kernel, by decide +kernel⟩
abbrev s_law_drawn_number : Stmt := (top 32)
abbrev N_law_drawn_number : List Str := ["state"]
theorem sc_law_drawn_number : FnScope N_law_drawn_number ["state"] (defScope s_law_drawn_number) := ⟨rfl, rfl, rfl, by decide +kernel, rfl, by decide +kernel, by decide +kernel⟩
abbrev s_law_drawn_text : Stmt := (top 33)
abbrev N_law_drawn_text : List Str := ["state", "letters", "k"]
theorem sc_law_drawn_text : FnScope N_law_drawn_text ["state"] (defScope s_law_drawn_text) := ⟨rfl, rfl, rfl, by decide +kernel, rfl, by decide +kernel, by decide +kernel⟩
abbrev s_law_drawn_deed : Stmt := (top 34)
abbrev N_law_drawn_deed : List Str := ["state", "marks", "behind", "k"]
theorem sc_law_drawn_deed : FnScope N_law_drawn_deed ["state"] (defScope s_law_drawn_deed) := ⟨rfl, rfl, rfl, by decide +kernel, rfl, by decide +kernel, by decide +kernel⟩
abbrev s_law_spoilt : Stmt := (top 35)
abbrev N_law_spoilt : List Str := ["state", "data", "place", "byte", "pick", "k"]
theorem sc_law_spoilt : FnScope N_law_spoilt ["state", "data"] (defScope s_law_spoilt) := ⟨rfl, rfl, rfl, by decide +kernel, rfl, by decide +kernel, by decide +kernel⟩
abbrev s_law_told : Stmt := (top 36)
abbrev N_law_told : List Str := ["kind", "data", "reader", "found", "at", "ended"]
theorem sc_law_told : FnScope N_law_told ["kind", "data"] (defScope s_law_told) := ⟨rfl, rfl, rfl, by decide +kernel, rfl, by decide +kernel, by decide +kernel⟩
abbrev s_law_own : Stmt := (top 37)
abbrev N_law_own : List Str := ["kind", "data"]
theorem sc_law_own : FnScope N_law_own ["kind", "data"] (defScope s_law_own) := ⟨rfl, rfl, rfl, by decide +kernel, rfl, by decide +kernel, by decide +kernel⟩
abbrev s_law_in_a_row : Stmt := (top 38)
abbrev N_law_in_a_row : List Str := ["things", "written", "data", "part", "reader", "told"]
theorem sc_law_in_a_row : FnScope N_law_in_a_row ["things", "written"] (defScope s_law_in_a_row) := ⟨rfl, rfl, rfl, by decide +kernel, rfl, by decide +kernel, by decide +kernel⟩
abbrev s_law : Stmt := (top 39)
abbrev N_law : List Str := ["script", "state", "k", "number", "text", "deed", "triples", "written", "own", "things", "long", "kind", "j", "data"]
theorem sc_law : FnScope N_law ["script"] (defScope s_law) := ⟨rfl, rfl, rfl, by decide +kernel, rfl, by decide +kernel, by decide +kernel⟩
abbrev lv_Reader_init : Nat := 1
abbrev lvr_Reader_init : Nat := 0
abbrev lv_Reader_read_byte : Nat := 1
abbrev lvr_Reader_read_byte : Nat := 0
abbrev lv_Reader_read_choice : Nat := 2
abbrev lvr_Reader_read_choice : Nat := 1
abbrev lv_Reader_end : Nat := 1
abbrev lvr_Reader_end : Nat := 0
abbrev lv_Reader_read_number : Nat := 2
abbrev lvr_Reader_read_number : Nat := 1
abbrev lv_Reader_read_count : Nat := 3
abbrev lvr_Reader_read_count : Nat := 2
abbrev lv_Reader_read_character : Nat := 3
abbrev lvr_Reader_read_character : Nat := 2
abbrev lv_Reader_read_string : Nat := 4
abbrev lvr_Reader_read_string : Nat := 3
abbrev lv_Reader_read_mark : Nat := 3
abbrev lvr_Reader_read_mark : Nat := 2
abbrev lv_Reader_read_deed : Nat := 5
abbrev lvr_Reader_read_deed : Nat := 4
abbrev lv_Reader_read_triple : Nat := 6
abbrev lvr_Reader_read_triple : Nat := 5
abbrev lv_Reader_read_triples : Nat := 7
abbrev lvr_Reader_read_triples : Nat := 6
abbrev lv_Reader_read_packet : Nat := 8
abbrev lvr_Reader_read_packet : Nat := 7
abbrev lv_write_number : Nat := 1
abbrev lvr_write_number : Nat := 0
abbrev lv_write_list : Nat := 2
abbrev lvr_write_list : Nat := 1
abbrev lv_write_string : Nat := 3
abbrev lvr_write_string : Nat := 2
abbrev lv_write_mark : Nat := 2
abbrev lvr_write_mark : Nat := 1
abbrev lv_write_deed : Nat := 4
abbrev lvr_write_deed : Nat := 3
abbrev lv_write_triples : Nat := 5
abbrev lvr_write_triples : Nat := 4
abbrev lv_write_packet : Nat := 6
abbrev lvr_write_packet : Nat := 5
abbrev lv_law_next : Nat := 1
abbrev lvr_law_next : Nat := 0
abbrev lv_law_same : Nat := 9
abbrev lvr_law_same : Nat := 8
abbrev lv_law_number : Nat := 1
abbrev lvr_law_number : Nat := 0
abbrev lv_law_text : Nat := 2
abbrev lvr_law_text : Nat := 1
abbrev lv_law_mark : Nat := 2
abbrev lvr_law_mark : Nat := 1
abbrev lv_law_deed : Nat := 3
abbrev lvr_law_deed : Nat := 2
abbrev lv_law_triples : Nat := 4
abbrev lvr_law_triples : Nat := 3
abbrev lv_law_read_number : Nat := 1
abbrev lvr_law_read_number : Nat := 0
abbrev lv_law_sign : Nat := 1
abbrev lvr_law_sign : Nat := 0
abbrev lv_law_read_text : Nat := 2
abbrev lvr_law_read_text : Nat := 1
abbrev lv_law_read_mark : Nat := 2
abbrev lvr_law_read_mark : Nat := 1
abbrev lv_law_read_deed : Nat := 3
abbrev lvr_law_read_deed : Nat := 2
abbrev lv_law_read_triples : Nat := 4
abbrev lvr_law_read_triples : Nat := 3
abbrev lv_law_read_packet : Nat := 5
abbrev lvr_law_read_packet : Nat := 4
abbrev lv_law_drawn_number : Nat := 2
abbrev lvr_law_drawn_number : Nat := 1
abbrev lv_law_drawn_text : Nat := 2
abbrev lvr_law_drawn_text : Nat := 1
abbrev lv_law_drawn_deed : Nat := 3
abbrev lvr_law_drawn_deed : Nat := 2
abbrev lv_law_spoilt : Nat := 2
abbrev lvr_law_spoilt : Nat := 1
abbrev lv_law_told : Nat := 9
abbrev lvr_law_told : Nat := 8
abbrev lv_law_own : Nat := 6
abbrev lvr_law_own : Nat := 5
abbrev lv_law_in_a_row : Nat := 10
abbrev lvr_law_in_a_row : Nat := 9
abbrev lv_law : Nat := 11
abbrev lvr_law : Nat := 10
def t_Reader_init (K : PySem.W.Frag) (c : CA) : TS := (tSeq (sFld K (tVar 0) (tCB (rListOf K) (tCons (tVar 1) tNil)) "data")
  (sFld K (tVar 0) (tC (.int 0)) "at"))
def t_Reader_read_byte (K : PySem.W.Frag) (c : CA) (E : XK) : TS := (tSeq (tIfS (tTest (tOp rGeI (tFld K (tVar 0) "at") (tCB (rLn K) (tCons (tFld K (tVar 0) "data") tNil)))) (tRs (WE0 E) c.DamagedPacket) tNext)
  (tSeq (sFldAug K (tVar 0) (tC (.int 1)) L2.rAdd "at")
  (tRet (tOp (rIx K) (tFld K (tVar 0) "data") (tOp rSubI (tFld K (tVar 0) "at") (tC (.int 1)))))))
def t_Reader_read_choice (K : PySem.W.Frag) (c : CA) (E : XK) : TS := (tSeq (tAsg (tSpc (spD K (R_Reader_read_byte c)) E (methA c.Reader "read_byte" (tVar 0) tNil)) (gName 2))
  (tSeq (tIfS (tTest (tOp rGeI (tVar 2) (tVar 1))) (tRs (WE0 E) c.DamagedPacket) tNext)
  (tRet (tVar 2))))
def t_Reader_end (K : PySem.W.Frag) (c : CA) (E : XK) : TS := (tIfS (tTest (tOp rLtI (tFld K (tVar 0) "at") (tCB (rLn K) (tCons (tFld K (tVar 0) "data") tNil)))) (tRs (WE0 E) c.DamagedPacket) tNext)
def t_Reader_read_number (K : PySem.W.Frag) (c : CA) (E : XK) : TS := (tSeq (tAsg (tC (.int 0)) (gName 1))
  (tSeq (tAsg (tC (.int 1)) (gName 2))
  (tSeq (tFor (iRng1 (tCons (tC (.int 60)) tNil)) (gName 3) (tSeq (tAsg (tSpc (spD K (R_Reader_read_byte c)) E (methA c.Reader "read_byte" (tVar 0) tNil)) (gName 4))
  (tSeq (tAug 1 (tOp (rTimes K) (tOp rModI (tVar 4) (tC (.int 128))) (tVar 2)) (ipI fun i j => i + j))
  (tSeq (tIfS (tTest (tOp rLtI (tVar 4) (tC (.int 128)))) (tSeq (tIfS (tAnd (tTest (tOp (rEqA K) (tVar 4) (tC (.int 0)))) (tTest (tOp rGtI (tVar 3) (tC (.int 0))))) (tRs (WE0 E) c.DamagedPacket) tNext)
  (tRet (tVar 1))) tNext)
  (tAsg (tOp (rTimes K) (tVar 2) (tC (.int 128))) (gName 2))))))
  (tRs (WE0 E) c.DamagedPacket))))
def t_Reader_read_count (K : PySem.W.Frag) (c : CA) (E : XK) : TS := (tSeq (tAsg (tSpc (spD K (R_Reader_read_number c)) E (methA c.Reader "read_number" (tVar 0) tNil)) (gName 1))
  (tSeq (tIfS (tTest (tOp rGtI (tVar 1) (tOp rSubI (tCB (rLn K) (tCons (tFld K (tVar 0) "data") tNil)) (tFld K (tVar 0) "at")))) (tRs (WE0 E) c.DamagedPacket) tNext)
  (tRet (tVar 1))))
def t_Reader_read_character (K : PySem.W.Frag) (c : CA) (E : XK) : TS := (tSeq (tAsg (tSpc (spD K (R_Reader_read_number c)) E (methA c.Reader "read_number" (tVar 0) tNil)) (gName 1))
  (tSeq (tIfS (tTest (tOp (rEqA K) (tVar 1) (tC (.int 10)))) (tRet (tC (.str "\n"))) tNext)
  (tSeq (tIfS (tTest (tChain rLeI rLtI (tC (.int 32)) (tVar 1) (tC (.int 37)))) (tRet (tOp (rIx K) (tC (.str " !\"#$")) (tOp rSubI (tVar 1) (tC (.int 32))))) tNext)
  (tSeq (tIfS (tTest (tChain rLeI rLtI (tC (.int 38)) (tVar 1) (tC (.int 127)))) (tRet (tOp (rIx K) (tC (.str "&'()*+,-./0123456789:;<=>?@ABCDEFGHIJKLMNOPQRSTUVWXYZ[\\]^_`abcdefghijklmnopqrstuvwxyz{|}~")) (tOp rSubI (tVar 1) (tC (.int 38))))) tNext)
  (tRs (WE0 E) c.DamagedPacket)))))
def t_Reader_read_string (K : PySem.W.Frag) (c : CA) (E : XK) : TS := (tRet (tM1 (rJoin K) (tC (.str "")) (tLc (iRng1 (tCons (tSpc (spD K (R_Reader_read_count c)) E (methA c.Reader "read_count" (tVar 0) tNil)) tNil)) (gName 1) tYes (tSpc (spD K (R_Reader_read_character c)) E (methA c.Reader "read_character" (tVar 0) tNil)) [1])))
def t_Reader_read_mark (K : PySem.W.Frag) (c : CA) (E : XK) : TS := (tSeq (tAsg (tSpc (spD K (R_Reader_read_number c)) E (methA c.Reader "read_number" (tVar 0) tNil)) (gName 1))
  (tRet (tTup (tCons (tVar 1) (tCons (tSpc (spD K (R_Reader_read_number c)) E (methA c.Reader "read_number" (tVar 0) tNil)) tNil)))))
def t_Reader_read_deed (K : PySem.W.Frag) (c : CA) (E : XK) : TS := (tSeq (tIfS (tTest (tOp (rEqA K) (tSpc (spD K (R_Reader_read_choice c)) E (methA c.Reader "read_choice" (tVar 0) (tCons (tC (.int 2)) tNil))) (tC (.int 1)))) (tRet (tTup (tCons (tC (.str "back")) (tCons (tSpc (spD K (R_Reader_read_number c)) E (methA c.Reader "read_number" (tVar 0) tNil)) tNil)))) tNext)
  (tSeq (tAsg (tSpc (spD K (R_Reader_read_string c)) E (methA c.Reader "read_string" (tVar 0) tNil)) (gName 1))
  (tSeq (tAsg (tCB (rTupOf K) (tCons (tLc (iRng1 (tCons (tSpc (spD K (R_Reader_read_count c)) E (methA c.Reader "read_count" (tVar 0) tNil)) tNil)) (gName 5) tYes (tSpc (spD K (R_Reader_read_mark c)) E (methA c.Reader "read_mark" (tVar 0) tNil)) [5]) tNil)) (gName 2))
  (tSeq (tAsg (tC .non) (gName 3))
  (tSeq (tIfS (tTest (tOp (rEqA K) (tSpc (spD K (R_Reader_read_choice c)) E (methA c.Reader "read_choice" (tVar 0) (tCons (tC (.int 2)) tNil))) (tC (.int 1)))) (tAsg (tSpc (spD K (R_Reader_read_mark c)) E (methA c.Reader "read_mark" (tVar 0) tNil)) (gName 3)) tNext)
  (tSeq (tAsg (tSpc (spD K (R_Reader_read_number c)) E (methA c.Reader "read_number" (tVar 0) tNil)) (gName 4))
  (tRet (tTup (tCons (tC (.str "change")) (tCons (tVar 1) (tCons (tVar 2) (tCons (tVar 3) (tCons (tVar 4) (tCons (tSpc (spD K (R_Reader_read_string c)) E (methA c.Reader "read_string" (tVar 0) tNil)) tNil))))))))))))))
def t_Reader_read_triple (K : PySem.W.Frag) (c : CA) (E : XK) : TS := (tSeq (tAsg (tSpc (spD K (R_Reader_read_number c)) E (methA c.Reader "read_number" (tVar 0) tNil)) (gName 1))
  (tSeq (tAsg (tSpc (spD K (R_Reader_read_number c)) E (methA c.Reader "read_number" (tVar 0) tNil)) (gName 2))
  (tRet (tTup (tCons (tVar 1) (tCons (tVar 2) (tCons (tSpc (spD K (R_Reader_read_deed c)) E (methA c.Reader "read_deed" (tVar 0) tNil)) tNil)))))))
def t_Reader_read_triples (K : PySem.W.Frag) (c : CA) (E : XK) : TS := (tRet (tLc (iRng1 (tCons (tSpc (spD K (R_Reader_read_count c)) E (methA c.Reader "read_count" (tVar 0) tNil)) tNil)) (gName 1) tYes (tSpc (spD K (R_Reader_read_triple c)) E (methA c.Reader "read_triple" (tVar 0) tNil)) [1]))
def t_Reader_read_packet (K : PySem.W.Frag) (c : CA) (E : XK) : TS := (tSeq (tIfS (tTest (tOp (rNeA K) (tSpc (spD K (R_Reader_read_byte c)) E (methA c.Reader "read_byte" (tVar 0) tNil)) (tC (.int 1)))) (tRs (WE0 E) c.DamagedPacket) tNext)
  (tRet (tSpc (spD K (R_Reader_read_triples c)) E (methA c.Reader "read_triples" (tVar 0) tNil))))
def t_write_number (K : PySem.W.Frag) : TS := (tSeq (tAsg (tLst tNil) (gName 1))
  (tSeq (tWhile (tTest (tOp rGeI (tVar 0) (tC (.int 128)))) (tSeq (tDrop (tBM K "list" rAppend (tVar 1) (tCons (tOp (rPlus K) (tOp rModI (tVar 0) (tC (.int 128))) (tC (.int 128))) tNil)))
  (tAsg (tOp rFdivI (tVar 0) (tC (.int 128))) (gName 0))))
  (tRet (tOp (rPlus K) (tVar 1) (tLst (tCons (tVar 0) tNil))))))
def t_write_list (K : PySem.W.Frag) : TS := (tSeq (tAsg (tSpc (spD K R_write_number) E0 (tCons (tCB (rLn K) (tCons (tVar 0) tNil)) tNil)) (gName 1))
  (tSeq (tFor (iList K (tVar 0)) (gName 2) (tDrop (tBM K "list" rExtend (tVar 1) (tCons (tVar 2) tNil))))
  (tRet (tVar 1))))
def t_write_string (K : PySem.W.Frag) : TS := (tRet (tSpc (spD K R_write_list) E0 (tCons (tLc (iStr (tVar 0)) (gName 1) tYes (tSpc (spD K R_write_number) E0 (tCons (tCB rOrd (tCons (tVar 1) tNil)) tNil)) [1]) tNil)))
def t_write_mark (K : PySem.W.Frag) : TS := (tRet (tOp (rPlus K) (tSpc (spD K R_write_number) E0 (tCons (tOp (rIx K) (tVar 0) (tC (.int 0))) tNil)) (tSpc (spD K R_write_number) E0 (tCons (tOp (rIx K) (tVar 0) (tC (.int 1))) tNil))))
def t_write_deed (K : PySem.W.Frag) : TS := (tSeq (tIfS (tTest (tOp (rEqA K) (tOp (rIx K) (tVar 0) (tC (.int 0))) (tC (.str "back")))) (tRet (tOp (rPlus K) (tLst (tCons (tC (.int 1)) tNil)) (tSpc (spD K R_write_number) E0 (tCons (tOp (rIx K) (tVar 0) (tC (.int 1))) tNil)))) tNext)
  (tSeq (tAsg (tVar 0) (gAny K 6 (gCons (gName 1) (gCons (gName 2) (gCons (gName 3) (gCons (gName 4) (gCons (gName 5) (gCons (gName 6) gNil))))))))
  (tSeq (tAsg (tOp (rPlus K) (tOp (rPlus K) (tLst (tCons (tC (.int 0)) tNil)) (tSpc (spD K R_write_string) E0 (tCons (tVar 2) tNil))) (tSpc (spD K R_write_list) E0 (tCons (tLc (iTup K (tVar 3)) (gName 8) tYes (tSpc (spD K R_write_mark) E0 (tCons (tVar 8) tNil)) [8]) tNil))) (gName 7))
  (tSeq (tDrop (tBM K "list" rExtend (tVar 7) (tCons (tIf (tTest (tOp rIsNon (tVar 4) (tC .non))) (tLst (tCons (tC (.int 0)) tNil)) (tOp (rPlus K) (tLst (tCons (tC (.int 1)) tNil)) (tSpc (spD K R_write_mark) E0 (tCons (tVar 4) tNil)))) tNil)))
  (tRet (tOp (rPlus K) (tOp (rPlus K) (tVar 7) (tSpc (spD K R_write_number) E0 (tCons (tVar 5) tNil))) (tSpc (spD K R_write_string) E0 (tCons (tVar 6) tNil))))))))
def t_write_triples (K : PySem.W.Frag) : TS := (tSeq (tAsg (tLst tNil) (gName 1))
  (tSeq (tFor (iList K (tVar 0)) (gAny K 3 (gCons (gName 2) (gCons (gName 3) (gCons (gName 4) gNil)))) (tDrop (tBM K "list" rAppend (tVar 1) (tCons (tOp (rPlus K) (tOp (rPlus K) (tSpc (spD K R_write_number) E0 (tCons (tVar 2) tNil)) (tSpc (spD K R_write_number) E0 (tCons (tVar 3) tNil))) (tSpc (spD K R_write_deed) E0 (tCons (tVar 4) tNil))) tNil))))
  (tRet (tSpc (spD K R_write_list) E0 (tCons (tVar 1) tNil)))))
def t_write_packet (K : PySem.W.Frag) : TS := (tRet (tOp (rPlus K) (tLst (tCons (tC (.int 1)) tNil)) (tSpc (spD K R_write_triples) E0 (tCons (tVar 0) tNil))))
abbrev t_law_next := t_next9
abbrev t_law_same := t_same9
def t_law_number (K : PySem.W.Frag) : TS := (tSeq (tAsg (tLst tNil) (gName 1))
  (tSeq (tWhile (tTest (tOp rGtI (tVar 0) (tC (.int 127)))) (tSeq (tDrop (tBM K "list" rAppend (tVar 1) (tCons (tOp (rPlus K) (tOp rModI (tVar 0) (tC (.int 128))) (tC (.int 128))) tNil)))
  (tAsg (tOp rFdivI (tVar 0) (tC (.int 128))) (gName 0))))
  (tRet (tOp (rPlus K) (tVar 1) (tLst (tCons (tVar 0) tNil))))))
def t_law_text (K : PySem.W.Frag) : TS := (tSeq (tAsg (tSpc (spD K R_law_number) E0 (tCons (tCB (rLn K) (tCons (tVar 0) tNil)) tNil)) (gName 1))
  (tSeq (tFor (iStr (tVar 0)) (gName 2) (tAsg (tOp (rPlus K) (tVar 1) (tSpc (spD K R_law_number) E0 (tCons (tCB rOrd (tCons (tVar 2) tNil)) tNil))) (gName 1)))
  (tRet (tVar 1))))
def t_law_mark (K : PySem.W.Frag) : TS := (tRet (tOp (rPlus K) (tSpc (spD K R_law_number) E0 (tCons (tOp (rIx K) (tVar 0) (tC (.int 0))) tNil)) (tSpc (spD K R_law_number) E0 (tCons (tOp (rIx K) (tVar 0) (tC (.int 1))) tNil))))
def t_law_deed (K : PySem.W.Frag) : TS := (tSeq (tIfS (tTest (tOp (rEqA K) (tOp (rIx K) (tVar 0) (tC (.int 0))) (tC (.str "back")))) (tRet (tOp (rPlus K) (tLst (tCons (tC (.int 1)) tNil)) (tSpc (spD K R_law_number) E0 (tCons (tOp (rIx K) (tVar 0) (tC (.int 1))) tNil)))) tNext)
  (tSeq (tAsg (tOp (rPlus K) (tOp (rPlus K) (tLst (tCons (tC (.int 0)) tNil)) (tSpc (spD K R_law_text) E0 (tCons (tOp (rIx K) (tVar 0) (tC (.int 1))) tNil))) (tSpc (spD K R_law_number) E0 (tCons (tCB (rLn K) (tCons (tOp (rIx K) (tVar 0) (tC (.int 2))) tNil)) tNil))) (gName 1))
  (tSeq (tFor (iTup K (tOp (rIx K) (tVar 0) (tC (.int 2)))) (gName 2) (tAsg (tOp (rPlus K) (tVar 1) (tSpc (spD K R_law_mark) E0 (tCons (tVar 2) tNil))) (gName 1)))
  (tSeq (tAsg (tOp (rPlus K) (tVar 1) (tIf (tTest (tOp rIsNon (tOp (rIx K) (tVar 0) (tC (.int 3))) (tC .non))) (tLst (tCons (tC (.int 0)) tNil)) (tOp (rPlus K) (tLst (tCons (tC (.int 1)) tNil)) (tSpc (spD K R_law_mark) E0 (tCons (tOp (rIx K) (tVar 0) (tC (.int 3))) tNil))))) (gName 1))
  (tRet (tOp (rPlus K) (tOp (rPlus K) (tVar 1) (tSpc (spD K R_law_number) E0 (tCons (tOp (rIx K) (tVar 0) (tC (.int 4))) tNil))) (tSpc (spD K R_law_text) E0 (tCons (tOp (rIx K) (tVar 0) (tC (.int 5))) tNil))))))))
def t_law_triples (K : PySem.W.Frag) : TS := (tSeq (tAsg (tSpc (spD K R_law_number) E0 (tCons (tCB (rLn K) (tCons (tVar 0) tNil)) tNil)) (gName 1))
  (tSeq (tFor (iList K (tVar 0)) (gAny K 3 (gCons (gName 2) (gCons (gName 3) (gCons (gName 4) gNil)))) (tAsg (tOp (rPlus K) (tOp (rPlus K) (tOp (rPlus K) (tVar 1) (tSpc (spD K R_law_number) E0 (tCons (tVar 2) tNil))) (tSpc (spD K R_law_number) E0 (tCons (tVar 3) tNil))) (tSpc (spD K R_law_deed) E0 (tCons (tVar 4) tNil))) (gName 1)))
  (tRet (tVar 1))))
def t_law_read_number (K : PySem.W.Frag) : TS := (tSeq (tAsg (tC (.int 0)) (gName 2))
  (tSeq (tAsg (tC (.int 1)) (gName 3))
  (tSeq (tFor (iRng1 (tCons (tC (.int 60)) tNil)) (gName 4) (tSeq (tIfS (tTest (tOp rGeI (tOp (rPlus K) (tVar 1) (tVar 4)) (tCB (rLn K) (tCons (tVar 0) tNil)))) (tRet (tC .non)) tNext)
  (tSeq (tAsg (tOp (rPlus K) (tVar 2) (tOp (rTimes K) (tOp rModI (tOp (rIx K) (tVar 0) (tOp (rPlus K) (tVar 1) (tVar 4))) (tC (.int 128))) (tVar 3))) (gName 2))
  (tSeq (tAsg (tOp (rTimes K) (tVar 3) (tC (.int 128))) (gName 3))
  (tIfS (tTest (tOp rLtI (tOp (rIx K) (tVar 0) (tOp (rPlus K) (tVar 1) (tVar 4))) (tC (.int 128)))) (tRet (tIf (tAnd (tTest (tOp rGtI (tVar 4) (tC (.int 0)))) (tTest (tOp (rEqA K) (tOp (rIx K) (tVar 0) (tOp (rPlus K) (tVar 1) (tVar 4))) (tC (.int 0))))) (tC .non) (tTup (tCons (tVar 2) (tCons (tOp (rPlus K) (tOp (rPlus K) (tVar 1) (tVar 4)) (tC (.int 1))) tNil))))) tNext)))))
  (tRet (tC .non)))))
def t_law_sign (K : PySem.W.Frag) : TS := (tSeq (tAsg (tC (.str " !\"#$")) (gName 1))
  (tSeq (tAsg (tC (.str "&'()*+,-./0123456789:;<=>?@ABCDEFGHIJKLMNOPQRSTUVWXYZ[\\]^_`abcdefghijklmnopqrstuvwxyz{|}~")) (gName 2))
  (tSeq (tIfS (tTest (tOp rLtI (tVar 0) (tC (.int 37)))) (tRet (tIf (tTest (tOp (rEqA K) (tVar 0) (tC (.int 10)))) (tC (.str "\n")) (tOp (rIx K) (tVar 1) (tOp rSubI (tVar 0) (tC (.int 32)))))) tNext)
  (tRet (tOp (rIx K) (tVar 2) (tOp rSubI (tVar 0) (tC (.int 38))))))))
def t_law_read_text (K : PySem.W.Frag) : TS := (tSeq (tAsg (tSpc (spD K R_law_read_number) E0 (tCons (tVar 0) (tCons (tVar 1) tNil))) (gName 2))
  (tSeq (tIfS (tOr (tTest (tOp rIsNon (tVar 2) (tC .non))) (tTest (tOp rGtI (tOp (rIx K) (tVar 2) (tC (.int 0))) (tOp rSubI (tCB (rLn K) (tCons (tVar 0) tNil)) (tOp (rIx K) (tVar 2) (tC (.int 1))))))) (tRet (tC .non)) tNext)
  (tSeq (tAsg (tVar 2) (gAny K 2 (gCons (gName 3) (gCons (gName 1) gNil))))
  (tSeq (tAsg (tC (.str "")) (gName 4))
  (tSeq (tFor (iRng1 (tCons (tVar 3) tNil)) (gName 5) (tSeq (tAsg (tSpc (spD K R_law_read_number) E0 (tCons (tVar 0) (tCons (tVar 1) tNil))) (gName 2))
  (tSeq (tIfS (tOr (tTest (tOp rIsNon (tVar 2) (tC .non))) (tOr (tAnd (tTest (tOp (rNeA K) (tOp (rIx K) (tVar 2) (tC (.int 0))) (tC (.int 10)))) (tNot (tTest (tChain rLeI rLeI (tC (.int 32)) (tOp (rIx K) (tVar 2) (tC (.int 0))) (tC (.int 126)))))) (tTest (tOp (rEqA K) (tOp (rIx K) (tVar 2) (tC (.int 0))) (tC (.int 37)))))) (tRet (tC .non)) tNext)
  (tSeq (tAsg (tOp (rPlus K) (tVar 4) (tSpc (spD K R_law_sign) E0 (tCons (tOp (rIx K) (tVar 2) (tC (.int 0))) tNil))) (gName 4))
  (tAsg (tOp (rIx K) (tVar 2) (tC (.int 1))) (gName 1))))))
  (tRet (tTup (tCons (tVar 4) (tCons (tVar 1) tNil)))))))))
def t_law_read_mark (K : PySem.W.Frag) : TS := (tSeq (tAsg (tSpc (spD K R_law_read_number) E0 (tCons (tVar 0) (tCons (tVar 1) tNil))) (gName 2))
  (tSeq (tAsg (tIf (tTest (tOp rIsNon (tVar 2) (tC .non))) (tC .non) (tSpc (spD K R_law_read_number) E0 (tCons (tVar 0) (tCons (tOp (rIx K) (tVar 2) (tC (.int 1))) tNil)))) (gName 3))
  (tRet (tIf (tTest (tOp rIsNon (tVar 3) (tC .non))) (tC .non) (tTup (tCons (tTup (tCons (tOp (rIx K) (tVar 2) (tC (.int 0))) (tCons (tOp (rIx K) (tVar 3) (tC (.int 0))) tNil))) (tCons (tOp (rIx K) (tVar 3) (tC (.int 1))) tNil)))))))
def t_law_read_deed (K : PySem.W.Frag) : TS := (tSeq (tIfS (tOr (tTest (tOp rGeI (tVar 1) (tCB (rLn K) (tCons (tVar 0) tNil)))) (tTest (tOp rGtI (tOp (rIx K) (tVar 0) (tVar 1)) (tC (.int 1))))) (tRet (tC .non)) tNext)
  (tSeq (tIfS (tTest (tOp (rEqA K) (tOp (rIx K) (tVar 0) (tVar 1)) (tC (.int 1)))) (tSeq (tAsg (tSpc (spD K R_law_read_number) E0 (tCons (tVar 0) (tCons (tOp (rPlus K) (tVar 1) (tC (.int 1))) tNil))) (gName 2))
  (tRet (tIf (tTest (tOp rIsNon (tVar 2) (tC .non))) (tC .non) (tTup (tCons (tTup (tCons (tC (.str "back")) (tCons (tOp (rIx K) (tVar 2) (tC (.int 0))) tNil))) (tCons (tOp (rIx K) (tVar 2) (tC (.int 1))) tNil)))))) tNext)
  (tSeq (tAsg (tSpc (spD K R_law_read_text) E0 (tCons (tVar 0) (tCons (tOp (rPlus K) (tVar 1) (tC (.int 1))) tNil))) (gName 3))
  (tSeq (tAsg (tIf (tTest (tOp rIsNon (tVar 3) (tC .non))) (tC .non) (tSpc (spD K R_law_read_number) E0 (tCons (tVar 0) (tCons (tOp (rIx K) (tVar 3) (tC (.int 1))) tNil)))) (gName 4))
  (tSeq (tIfS (tOr (tTest (tOp rIsNon (tVar 4) (tC .non))) (tTest (tOp rGtI (tOp (rIx K) (tVar 4) (tC (.int 0))) (tOp rSubI (tCB (rLn K) (tCons (tVar 0) tNil)) (tOp (rIx K) (tVar 4) (tC (.int 1))))))) (tRet (tC .non)) tNext)
  (tSeq (tAsg (tOp (rIx K) (tVar 4) (tC (.int 1))) (gName 1))
  (tSeq (tAsg (tLst tNil) (gName 5))
  (tSeq (tFor (iRng1 (tCons (tOp (rIx K) (tVar 4) (tC (.int 0))) tNil)) (gName 6) (tSeq (tAsg (tSpc (spD K R_law_read_mark) E0 (tCons (tVar 0) (tCons (tVar 1) tNil))) (gName 2))
  (tSeq (tIfS (tTest (tOp rIsNon (tVar 2) (tC .non))) (tRet (tC .non)) tNext)
  (tSeq (tDrop (tBM K "list" rAppend (tVar 5) (tCons (tOp (rIx K) (tVar 2) (tC (.int 0))) tNil)))
  (tAsg (tOp (rIx K) (tVar 2) (tC (.int 1))) (gName 1))))))
  (tSeq (tIfS (tOr (tTest (tOp rGeI (tVar 1) (tCB (rLn K) (tCons (tVar 0) tNil)))) (tTest (tOp rGtI (tOp (rIx K) (tVar 0) (tVar 1)) (tC (.int 1))))) (tRet (tC .non)) tNext)
  (tSeq (tAsg (tIf (tTest (tOp (rEqA K) (tOp (rIx K) (tVar 0) (tVar 1)) (tC (.int 0)))) (tTup (tCons (tC .non) (tCons (tOp (rPlus K) (tVar 1) (tC (.int 1))) tNil))) (tSpc (spD K R_law_read_mark) E0 (tCons (tVar 0) (tCons (tOp (rPlus K) (tVar 1) (tC (.int 1))) tNil)))) (gName 7))
  (tSeq (tAsg (tIf (tTest (tOp rIsNon (tVar 7) (tC .non))) (tC .non) (tSpc (spD K R_law_read_number) E0 (tCons (tVar 0) (tCons (tOp (rIx K) (tVar 7) (tC (.int 1))) tNil)))) (gName 8))
  (tSeq (tAsg (tIf (tTest (tOp rIsNon (tVar 8) (tC .non))) (tC .non) (tSpc (spD K R_law_read_text) E0 (tCons (tVar 0) (tCons (tOp (rIx K) (tVar 8) (tC (.int 1))) tNil)))) (gName 9))
  (tRet (tIf (tTest (tOp rIsNon (tVar 9) (tC .non))) (tC .non) (tTup (tCons (tTup (tCons (tC (.str "change")) (tCons (tOp (rIx K) (tVar 3) (tC (.int 0))) (tCons (tCB (rTupOf K) (tCons (tVar 5) tNil)) (tCons (tOp (rIx K) (tVar 7) (tC (.int 0))) (tCons (tOp (rIx K) (tVar 8) (tC (.int 0))) (tCons (tOp (rIx K) (tVar 9) (tC (.int 0))) tNil))))))) (tCons (tOp (rIx K) (tVar 9) (tC (.int 1))) tNil)))))))))))))))))
def t_law_read_triples (K : PySem.W.Frag) : TS := (tSeq (tAsg (tSpc (spD K R_law_read_number) E0 (tCons (tVar 0) (tCons (tVar 1) tNil))) (gName 2))
  (tSeq (tIfS (tOr (tTest (tOp rIsNon (tVar 2) (tC .non))) (tTest (tOp rGtI (tOp (rIx K) (tVar 2) (tC (.int 0))) (tOp rSubI (tCB (rLn K) (tCons (tVar 0) tNil)) (tOp (rIx K) (tVar 2) (tC (.int 1))))))) (tRet (tC .non)) tNext)
  (tSeq (tAsg (tOp (rIx K) (tVar 2) (tC (.int 1))) (gName 1))
  (tSeq (tAsg (tLst tNil) (gName 3))
  (tSeq (tFor (iRng1 (tCons (tOp (rIx K) (tVar 2) (tC (.int 0))) tNil)) (gName 4) (tSeq (tAsg (tSpc (spD K R_law_read_mark) E0 (tCons (tVar 0) (tCons (tVar 1) tNil))) (gName 5))
  (tSeq (tAsg (tIf (tTest (tOp rIsNon (tVar 5) (tC .non))) (tC .non) (tSpc (spD K R_law_read_deed) E0 (tCons (tVar 0) (tCons (tOp (rIx K) (tVar 5) (tC (.int 1))) tNil)))) (gName 6))
  (tSeq (tIfS (tTest (tOp rIsNon (tVar 6) (tC .non))) (tRet (tC .non)) tNext)
  (tSeq (tDrop (tBM K "list" rAppend (tVar 3) (tCons (tOp (rPlus K) (tOp (rIx K) (tVar 5) (tC (.int 0))) (tTup (tCons (tOp (rIx K) (tVar 6) (tC (.int 0))) tNil))) tNil)))
  (tAsg (tOp (rIx K) (tVar 6) (tC (.int 1))) (gName 1)))))))
  (tRet (tTup (tCons (tVar 3) (tCons (tVar 1) tNil)))))))))
def t_law_read_packet (K : PySem.W.Frag) : TS := (tSeq (tIfS (tOr (tTest (tOp rGeI (tVar 1) (tCB (rLn K) (tCons (tVar 0) tNil)))) (tTest (tOp (rNeA K) (tOp (rIx K) (tVar 0) (tVar 1)) (tC (.int 1))))) (tRet (tC .non)) tNext)
  (tRet (tSpc (spD K R_law_read_triples) E0 (tCons (tVar 0) (tCons (tOp (rPlus K) (tVar 1) (tC (.int 1))) tNil)))))
def t_law_drawn_number (K : PySem.W.Frag) : TS := (tRet (tSpc (spD K R_law_next) E0 (tCons (tVar 0) (tCons (tOp (rIx K) (tLst (tCons (tC (.int 3)) (tCons (tC (.int 128)) (tCons (tC (.int 300)) (tCons (tOp rPowI (tC (.int 128)) (tC (.int 3))) (tCons (tOp (rTimes K) (tOp rPowI (tC (.int 2)) (tC (.int 60))) (tC (.int 1024))) tNil)))))) (tSpc (spD K R_law_next) E0 (tCons (tVar 0) (tCons (tC (.int 5)) tNil)))) tNil))))
def t_law_drawn_text (K : PySem.W.Frag) : TS := (tSeq (tAsg (tC (.str "\n !\"#$&'()*+,-./0123456789:;<=>?@ABCDEFGHIJKLMNOPQRSTUVWXYZ[\\]^_`abcdefghijklmnopqrstuvwxyz{|}~")) (gName 1))
  (tRet (tM1 (rJoin K) (tC (.str "")) (tLc (iRng1 (tCons (tSpc (spD K R_law_next) E0 (tCons (tVar 0) (tCons (tOp (rIx K) (tLst (tCons (tC (.int 1)) (tCons (tC (.int 4)) (tCons (tC (.int 9)) (tCons (tC (.int 140)) tNil))))) (tSpc (spD K R_law_next) E0 (tCons (tVar 0) (tCons (tC (.int 4)) tNil)))) tNil))) tNil)) (gName 2) tYes (tOp (rIx K) (tVar 1) (tSpc (spD K R_law_next) E0 (tCons (tVar 0) (tCons (tCB (rLn K) (tCons (tVar 1) tNil)) tNil)))) [2]))))
def t_law_drawn_deed (K : PySem.W.Frag) : TS := (tSeq (tIfS (tTest (tOp (rEqA K) (tSpc (spD K R_law_next) E0 (tCons (tVar 0) (tCons (tC (.int 3)) tNil))) (tC (.int 0)))) (tRet (tTup (tCons (tC (.str "back")) (tCons (tSpc (spD K R_law_drawn_number) E0 (tCons (tVar 0) tNil)) tNil)))) tNext)
  (tSeq (tAsg (tCB (rTupOf K) (tCons (tLc (iRng1 (tCons (tSpc (spD K R_law_next) E0 (tCons (tVar 0) (tCons (tC (.int 4)) tNil))) tNil)) (gName 3) tYes (tTup (tCons (tSpc (spD K R_law_drawn_number) E0 (tCons (tVar 0) tNil)) (tCons (tSpc (spD K R_law_next) E0 (tCons (tVar 0) (tCons (tC (.int 8)) tNil))) tNil))) [3]) tNil)) (gName 1))
  (tSeq (tAsg (tOp (rIx K) (tLst (tCons (tC .non) (tCons (tTup (tCons (tSpc (spD K R_law_drawn_number) E0 (tCons (tVar 0) tNil)) (tCons (tSpc (spD K R_law_next) E0 (tCons (tVar 0) (tCons (tC (.int 8)) tNil))) tNil))) tNil))) (tSpc (spD K R_law_next) E0 (tCons (tVar 0) (tCons (tC (.int 2)) tNil)))) (gName 2))
  (tRet (tTup (tCons (tC (.str "change")) (tCons (tSpc (spD K R_law_drawn_text) E0 (tCons (tVar 0) tNil)) (tCons (tVar 1) (tCons (tVar 2) (tCons (tSpc (spD K R_law_drawn_number) E0 (tCons (tVar 0) tNil)) (tCons (tSpc (spD K R_law_drawn_text) E0 (tCons (tVar 0) tNil)) tNil)))))))))))
def t_law_spoilt (K : PySem.W.Frag) : TS := (tSeq (tAsg (tSpc (spD K R_law_next) E0 (tCons (tVar 0) (tCons (tOp (rPlus K) (tCB (rLn K) (tCons (tVar 1) tNil)) (tC (.int 1))) tNil))) (gName 2))
  (tSeq (tAsg (tOp (rIx K) (tLst (tCons (tC (.int 0)) (tCons (tC (.int 1)) (tCons (tC (.int 2)) (tCons (tC (.int 37)) (tCons (tC (.int 127)) (tCons (tC (.int 128)) (tCons (tC (.int 255)) tNil)))))))) (tSpc (spD K R_law_next) E0 (tCons (tVar 0) (tCons (tC (.int 7)) tNil)))) (gName 3))
  (tSeq (tAsg (tSpc (spD K R_law_next) E0 (tCons (tVar 0) (tCons (tC (.int 5)) tNil))) (gName 4))
  (tSeq (tIfS (tTest (tOp (rEqA K) (tVar 4) (tC (.int 0)))) (tRet (tSl (rSlAny K) (tVar 1) tNoPart (tPart (tVar 2)))) tNext)
  (tSeq (tIfS (tTest (tOp (rEqA K) (tVar 4) (tC (.int 1)))) (tRet (tOp (rPlus K) (tSl (rSlAny K) (tVar 1) tNoPart (tPart (tVar 2))) (tSl (rSlAny K) (tVar 1) (tPart (tOp (rPlus K) (tVar 2) (tC (.int 1)))) tNoPart))) tNext)
  (tSeq (tIfS (tTest (tOp (rEqA K) (tVar 4) (tC (.int 2)))) (tRet (tOp (rPlus K) (tOp (rPlus K) (tSl (rSlAny K) (tVar 1) tNoPart (tPart (tVar 2))) (tLst (tCons (tVar 3) tNil))) (tSl (rSlAny K) (tVar 1) (tPart (tVar 2)) tNoPart))) tNext)
  (tSeq (tIfS (tTest (tOp (rEqA K) (tVar 4) (tC (.int 3)))) (tRet (tOp (rPlus K) (tOp (rPlus K) (tSl (rSlAny K) (tVar 1) tNoPart (tPart (tVar 2))) (tLst (tCons (tVar 3) tNil))) (tSl (rSlAny K) (tVar 1) (tPart (tOp (rPlus K) (tVar 2) (tC (.int 1)))) tNoPart))) tNext)
  (tRet (tLc (iRng1 (tCons (tSpc (spD K R_law_next) E0 (tCons (tVar 0) (tCons (tC (.int 12)) tNil))) tNil)) (gName 5) tYes (tSpc (spD K R_law_next) E0 (tCons (tVar 0) (tCons (tOp (rIx K) (tLst (tCons (tC (.int 3)) (tCons (tC (.int 256)) tNil))) (tSpc (spD K R_law_next) E0 (tCons (tVar 0) (tCons (tC (.int 2)) tNil)))) tNil))) [5])))))))))
def t_law_told (K : PySem.W.Frag) (c : CA) : TS := (tSeq (tAsg (tMk c.Reader (spD K (R_Reader_init c)) E0 (tCons (tCB (rListOf K) (tCons (tVar 1) tNil)) tNil)) (gName 2))
  (tSeq (tTryO K (.ref c.DamagedPacket) (fun W => (tIfS (tTest (tOp (rEqA K) (tVar 0) (tC (.int 0)))) (tAsg (tCallS (spD K (R_Reader_read_number c)) (WE W) (methA c.Reader "read_number" (tVar 2) tNil)) (gName 3)) (tIfS (tTest (tOp (rEqA K) (tVar 0) (tC (.int 1)))) (tAsg (tCallS (spD K (R_Reader_read_string c)) (WE W) (methA c.Reader "read_string" (tVar 2) tNil)) (gName 3)) (tIfS (tTest (tOp (rEqA K) (tVar 0) (tC (.int 2)))) (tAsg (tCallS (spD K (R_Reader_read_deed c)) (WE W) (methA c.Reader "read_deed" (tVar 2) tNil)) (gName 3)) (tIfS (tTest (tOp (rEqA K) (tVar 0) (tC (.int 3)))) (tAsg (tCallS (spD K (R_Reader_read_triples c)) (WE W) (methA c.Reader "read_triples" (tVar 2) tNil)) (gName 3)) (tAsg (tCallS (spD K (R_Reader_read_packet c)) (WE W) (methA c.Reader "read_packet" (tVar 2) tNil)) (gName 3))))))) (tRet (tC .non)) (fun _ _ _ _ => False))
  (tSeq (tAsg (tFld K (tVar 2) "at") (gName 4))
  (tSeq (tTryO K (.ref c.DamagedPacket) (fun W => (tSeq (tDrop (tCallS (spD K (R_Reader_end c)) (WE W) (methA c.Reader "end" (tVar 2) tNil)))
  (tAsg (tC (.bl true)) (gName 5)))) (tAsg (tC (.bl false)) (gName 5)) (fun _ _ _ _ => False))
  (tRet (tIf (tTest (tOp (rEqA K) (tVar 5) (tOp (rEqA K) (tVar 4) (tCB (rLn K) (tCons (tVar 1) tNil))))) (tTup (tCons (tVar 3) (tCons (tVar 4) tNil))) (tTup (tCons (tC (.str "wrong end")) (tCons (tVar 4) tNil)))))))))
def t_law_own (K : PySem.W.Frag) : TS := (tSeq (tIfS (tTest (tOp (rEqA K) (tVar 0) (tC (.int 0)))) (tRet (tSpc (spD K R_law_read_number) E0 (tCons (tVar 1) (tCons (tC (.int 0)) tNil)))) tNext)
  (tSeq (tIfS (tTest (tOp (rEqA K) (tVar 0) (tC (.int 1)))) (tRet (tSpc (spD K R_law_read_text) E0 (tCons (tVar 1) (tCons (tC (.int 0)) tNil)))) tNext)
  (tSeq (tIfS (tTest (tOp (rEqA K) (tVar 0) (tC (.int 2)))) (tRet (tSpc (spD K R_law_read_deed) E0 (tCons (tVar 1) (tCons (tC (.int 0)) tNil)))) tNext)
  (tRet (tIf (tTest (tOp (rEqA K) (tVar 0) (tC (.int 3)))) (tSpc (spD K R_law_read_triples) E0 (tCons (tVar 1) (tCons (tC (.int 0)) tNil))) (tSpc (spD K R_law_read_packet) E0 (tCons (tVar 1) (tCons (tC (.int 0)) tNil))))))))
def t_law_in_a_row (K : PySem.W.Frag) (c : CA) : TS := (tSeq (tAsg (tLst tNil) (gName 2))
  (tSeq (tFor (iList K (tVar 1)) (gName 3) (tAsg (tOp (rPlus K) (tVar 2) (tVar 3)) (gName 2)))
  (tSeq (tAsg (tMk c.Reader (spD K (R_Reader_init c)) E0 (tCons (tVar 2) tNil)) (gName 4))
  (tSeq (tDrop (tBM K "list" rAppend (tVar 2) (tCons (tC (.int 7)) tNil)))
  (tSeq (tIfS (tTest (tOp (rNeA K) (tFld K (tVar 4) "at") (tC (.int 0)))) (tRet (tC (.bl false))) tNext)
  (tSeq (tAsg (tLst (tCons (tSpc (spD K (R_Reader_read_number c)) E0 (methA c.Reader "read_number" (tVar 4) tNil)) (tCons (tSpc (spD K (R_Reader_read_string c)) E0 (methA c.Reader "read_string" (tVar 4) tNil)) (tCons (tSpc (spD K (R_Reader_read_deed c)) E0 (methA c.Reader "read_deed" (tVar 4) tNil)) (tCons (tSpc (spD K (R_Reader_read_triples c)) E0 (methA c.Reader "read_triples" (tVar 4) tNil)) (tCons (tSpc (spD K (R_Reader_read_packet c)) E0 (methA c.Reader "read_packet" (tVar 4) tNil)) tNil)))))) (gName 5))
  (tSeq (tDrop (tSpc (spD K (R_Reader_end c)) E0 (methA c.Reader "end" (tVar 4) tNil)))
  (tRet (tSpc (spD K (R_law_same 8)) E0 (tCons (tVar 5) (tCons (tVar 0) tNil)))))))))))
def t_law (K : PySem.W.Frag) (c : CA) : TS := (tSeq (tAsg (tLst (tCons (tCB (rListOf K) (tCons (tVar 0) tNil)) (tCons (tC (.int 0)) (tCons (tC (.int 0)) (tCons (tC (.int 1)) tNil))))) (gName 1))
  (tSeq (tFor (iRng1 (tCons (tC (.int 4)) tNil)) (gName 2) (tSeq (tAsg (tSpc (spD K R_law_drawn_number) E0 (tCons (tVar 1) tNil)) (gName 3))
  (tSeq (tAsg (tSpc (spD K R_law_drawn_text) E0 (tCons (tVar 1) tNil)) (gName 4))
  (tSeq (tAsg (tSpc (spD K R_law_drawn_deed) E0 (tCons (tVar 1) tNil)) (gName 5))
  (tSeq (tAsg (tLc (iRng1 (tCons (tSpc (spD K R_law_next) E0 (tCons (tVar 1) (tCons (tC (.int 7)) tNil))) tNil)) (gName 12) tYes (tTup (tCons (tSpc (spD K R_law_next) E0 (tCons (tVar 1) (tCons (tC (.int 9)) tNil))) (tCons (tSpc (spD K R_law_drawn_number) E0 (tCons (tVar 1) tNil)) (tCons (tSpc (spD K R_law_drawn_deed) E0 (tCons (tVar 1) tNil)) tNil)))) [12]) (gName 6))
  (tSeq (tAsg (tLst (tCons (tSpc (spD K R_write_number) E0 (tCons (tVar 3) tNil)) (tCons (tSpc (spD K R_write_string) E0 (tCons (tVar 4) tNil)) (tCons (tSpc (spD K R_write_deed) E0 (tCons (tVar 5) tNil)) (tCons (tSpc (spD K R_write_triples) E0 (tCons (tCB (rListOf K) (tCons (tVar 6) tNil)) tNil)) (tCons (tSpc (spD K R_write_packet) E0 (tCons (tCB (rListOf K) (tCons (tVar 6) tNil)) tNil)) tNil)))))) (gName 7))
  (tSeq (tAsg (tSpc (spD K R_law_triples) E0 (tCons (tVar 6) tNil)) (gName 8))
  (tSeq (tIfS (tNot (tB (tSpc (spD K (R_law_same 8)) E0 (tCons (tVar 7) (tCons (tLst (tCons (tSpc (spD K R_law_number) E0 (tCons (tVar 3) tNil)) (tCons (tSpc (spD K R_law_text) E0 (tCons (tVar 4) tNil)) (tCons (tSpc (spD K R_law_deed) E0 (tCons (tVar 5) tNil)) (tCons (tVar 8) (tCons (tOp (rPlus K) (tLst (tCons (tC (.int 1)) tNil)) (tVar 8)) tNil)))))) tNil))))) (tRet (tC (.bl false))) tNext)
  (tSeq (tAsg (tLst (tCons (tVar 3) (tCons (tVar 4) (tCons (tVar 5) (tCons (tVar 6) (tCons (tVar 6) tNil)))))) (gName 9))
  (tSeq (tIfS (tNot (tB (tSpc (spD K (R_law_in_a_row c)) E0 (tCons (tVar 9) (tCons (tVar 7) tNil))))) (tRet (tC (.bl false))) tNext)
  (tSeq (tAsg (tOp (rPlus K) (tLc (iRng1 (tCons (tSpc (spD K R_law_next) E0 (tCons (tVar 1) (tCons (tC (.int 63)) tNil))) tNil)) (gName 12) tYes (tOp (rPlus K) (tC (.int 128)) (tSpc (spD K R_law_next) E0 (tCons (tVar 1) (tCons (tC (.int 128)) tNil)))) [12]) (tLst (tCons (tSpc (spD K R_law_next) E0 (tCons (tVar 1) (tCons (tC (.int 3)) tNil))) tNil))) (gName 10))
  (tSeq (tIfS (tNot (tB (tSpc (spD K (R_law_same 8)) E0 (tCons (tSpc (spD K (R_law_told c)) E0 (tCons (tC (.int 0)) (tCons (tVar 10) tNil))) (tCons (tSpc (spD K R_law_own) E0 (tCons (tC (.int 0)) (tCons (tVar 10) tNil))) tNil))))) (tRet (tC (.bl false))) tNext)
  (tFor (iRng1 (tCons (tC (.int 5)) tNil)) (gName 11) (tSeq (tIfS (tNot (tB (tSpc (spD K (R_law_same 8)) E0 (tCons (tSpc (spD K (R_law_told c)) E0 (tCons (tVar 11) (tCons (tOp (rIx K) (tVar 7) (tVar 11)) tNil))) (tCons (tTup (tCons (tOp (rIx K) (tVar 9) (tVar 11)) (tCons (tCB (rLn K) (tCons (tOp (rIx K) (tVar 7) (tVar 11)) tNil)) tNil))) tNil))))) (tRet (tC (.bl false))) tNext)
  (tFor (iRng1 (tCons (tC (.int 4)) tNil)) (gName 12) (tSeq (tAsg (tSpc (spD K R_law_spoilt) E0 (tCons (tVar 1) (tCons (tCB (rListOf K) (tCons (tOp (rIx K) (tVar 7) (tVar 11)) tNil)) tNil))) (gName 13))
  (tIfS (tNot (tB (tSpc (spD K (R_law_same 8)) E0 (tCons (tSpc (spD K (R_law_told c)) E0 (tCons (tVar 11) (tCons (tVar 13) tNil))) (tCons (tSpc (spD K R_law_own) E0 (tCons (tVar 11) (tCons (tVar 13) tNil))) tNil))))) (tRet (tC (.bl false))) tNext)))))))))))))))))
  (tRet (tC (.bl true)))))
section
variable {P : Program} {w : World} {K : PySem.W.Frag} {mg : Str → Option Value} {base : Heap}
theorem w_Reader_init {c : CA} {f : Addr} {cdv : Value} {A : Around} {outer : List Env} {s : Shared} {H : Hp} {E : XK} (T : Bt mg) (X : CF K c) (hr : Room lvr_Reader_init (A.deeper (envOfC "Reader.__init__" (defScope s_Reader_init) s.heap.objs.size f cdv))) :
  PSs (cxOf CX0 P w K mg base N_Reader_init "Reader.__init__" (defScope s_Reader_init) f cdv A outer s H E).nox (defBody s_Reader_init) (t_Reader_init K c) :=
  (pss_cons (ps_fld (pv 0) (pe_callTy dc_list (by rfl) T.list (by decide +kernel) (pa_cons (pv 1) pa_nil)) rfl)
  (pss_one (ps_fld (pv 0) pe_int rfl)))
theorem w_Reader_read_byte {c : CA} {f : Addr} {cdv : Value} {A : Around} {outer : List Env} {s : Shared} {H : Hp} {E : XK} (T : Bt mg) (X : CF K c) (e_DamagedPacket : Ce K mg "DamagedPacket" c.DamagedPacket) (hr : Room lvr_Reader_read_byte (A.deeper (envOfC "Reader.read_byte" (defScope s_Reader_read_byte) s.heap.objs.size f cdv))) :
  PSs (cxOf (L2.CX P w) P w K mg base N_Reader_read_byte "Reader.read_byte" (defScope s_Reader_read_byte) f cdv A outer s H E) (defBody s_Reader_read_byte) (t_Reader_read_byte K c E) :=
  (pss_cons (ps_if (pt_cmpR op_ge (pe_fld (pv 0) rfl) (pe_callB dc_len (by rfl) T.len (by decide +kernel) (pa_cons (pe_fld (pv 0) rfl) pa_nil)) (nomark _)) (pss_one (dps_raise rfl (takes_of rfl rfl rfl rfl) e_DamagedPacket (by rfl))) pss_nil)
  (pss_cons (ps_fldaug (pv 0) pe_int in_add)
  (pss_one (ps_ret (pe_ix ix_seq (pe_fld (pv 0) rfl) (pe_op op_sub (pe_fld (pv 0) rfl) pe_int) (fun _ _ => rfl))))))
theorem w_Reader_read_choice {f_Reader_read_byte : Addr} {d_Reader_read_byte : FuncData} {c : CA} {f : Addr} {cdv : Value} {A : Around} {outer : List Env} {s : Shared} {H : Hp} {E : XK} (T : Bt mg) (c_Reader_read_byte : Cm P w K mg base (L2.CX P w) c.Reader "read_byte" lv_Reader_read_byte ["self"] (R_Reader_read_byte c) f_Reader_read_byte d_Reader_read_byte) (X : CF K c) (e_DamagedPacket : Ce K mg "DamagedPacket" c.DamagedPacket) (hr : Room lvr_Reader_read_choice (A.deeper (envOfC "Reader.read_choice" (defScope s_Reader_read_choice) s.heap.objs.size f cdv))) :
  PSs (cxOf (L2.CX P w) P w K mg base N_Reader_read_choice "Reader.read_choice" (defScope s_Reader_read_choice) f cdv A outer s H E) (defBody s_Reader_read_choice) (t_Reader_read_choice K c E) :=
  (pss_cons (ps_set (i := 2) sc_Reader_read_choice.nd rfl (by first | exact Or.inl rfl | exact Or.inr rfl) (dpe_meth0 (pv 0) X.cl_Reader c_Reader_read_byte (hr.mono (by decide +kernel)) (pass1 (takes_of rfl rfl rfl rfl))))
  (pss_cons (ps_if (pt_cmpR op_ge (pv 2) (pv 1) (nomark _)) (pss_one (dps_raise rfl (takes_of rfl rfl rfl rfl) e_DamagedPacket (by rfl))) pss_nil)
  (pss_one (ps_ret (pv 2)))))
theorem w_Reader_end {c : CA} {f : Addr} {cdv : Value} {A : Around} {outer : List Env} {s : Shared} {H : Hp} {E : XK} (T : Bt mg) (X : CF K c) (e_DamagedPacket : Ce K mg "DamagedPacket" c.DamagedPacket) (hr : Room lvr_Reader_end (A.deeper (envOfC "Reader.end" (defScope s_Reader_end) s.heap.objs.size f cdv))) :
  PSs (cxOf (L2.CX P w) P w K mg base N_Reader_end "Reader.end" (defScope s_Reader_end) f cdv A outer s H E) (defBody s_Reader_end) (t_Reader_end K c E) :=
  (pss_one (ps_if (pt_cmpR op_lt (pe_fld (pv 0) rfl) (pe_callB dc_len (by rfl) T.len (by decide +kernel) (pa_cons (pe_fld (pv 0) rfl) pa_nil)) (nomark _)) (pss_one (dps_raise rfl (takes_of rfl rfl rfl rfl) e_DamagedPacket (by rfl))) pss_nil))
theorem w_Reader_read_number {f_Reader_read_byte : Addr} {d_Reader_read_byte : FuncData} {c : CA} {f : Addr} {cdv : Value} {A : Around} {outer : List Env} {s : Shared} {H : Hp} {E : XK} (T : Bt mg) (c_Reader_read_byte : Cm P w K mg base (L2.CX P w) c.Reader "read_byte" lv_Reader_read_byte ["self"] (R_Reader_read_byte c) f_Reader_read_byte d_Reader_read_byte) (X : CF K c) (e_DamagedPacket : Ce K mg "DamagedPacket" c.DamagedPacket) {tk_NUMBER_BYTES : Tok} (k_NUMBER_BYTES : mg "NUMBER_BYTES" = some (.int 60 tk_NUMBER_BYTES)) (hr : Room lvr_Reader_read_number (A.deeper (envOfC "Reader.read_number" (defScope s_Reader_read_number) s.heap.objs.size f cdv))) :
  PSs (cxOf (L2.CX P w) P w K mg base N_Reader_read_number "Reader.read_number" (defScope s_Reader_read_number) f cdv A outer s H E) (defBody s_Reader_read_number) (t_Reader_read_number K c E) :=
  (pss_cons (ps_set (i := 1) sc_Reader_read_number.nd rfl (by first | exact Or.inl rfl | exact Or.inr rfl) pe_int)
  (pss_cons (ps_set (i := 2) sc_Reader_read_number.nd rfl (by first | exact Or.inl rfl | exact Or.inr rfl) pe_int)
  (pss_cons (ps_for (passes_of rfl) rfl (pi_range1 (by rfl) T.range (pa_cons (pe_glob rfl k_NUMBER_BYTES ⟨_, rfl⟩) pa_nil)) (pg_name (i := 3) sc_Reader_read_number.nd rfl (by first | exact Or.inl rfl | exact Or.inr rfl)) (pss_cons (ps_set (i := 4) sc_Reader_read_number.nd rfl (by first | exact Or.inl rfl | exact Or.inr rfl) (dpe_meth0 (pv 0) X.cl_Reader c_Reader_read_byte (hr.mono (by decide +kernel)) (pass1 (takes_of rfl rfl rfl rfl))))
  (pss_cons (ps_aug (i := 1) sc_Reader_read_number.nd rfl (by first | exact Or.inl rfl | exact Or.inr rfl) (pe_op op_times (pe_op op_mod (pv 4) pe_int) (pv 2)) ip_add)
  (pss_cons (ps_if (pt_cmpR op_lt (pv 4) pe_int (nomark _)) (pss_cons (ps_if (PW.pt (pw_and (pt_cmpR (op_eqA hr.units) (pv 4) pe_int (nomark _)) (pw_and1 (pt_cmpR op_gt (pv 3) pe_int (nomark _))))) (pss_one (dps_raise rfl (takes_of rfl rfl rfl rfl) e_DamagedPacket (by rfl))) pss_nil)
  (pss_one (ps_ret (pv 1)))) pss_nil)
  (pss_one (ps_set (i := 2) sc_Reader_read_number.nd rfl (by first | exact Or.inl rfl | exact Or.inr rfl) (pe_op op_times (pv 2) pe_int)))))))
  (pss_one (dps_raise rfl (takes_of rfl rfl rfl rfl) e_DamagedPacket (by rfl))))))
theorem w_Reader_read_count {f_Reader_read_number : Addr} {d_Reader_read_number : FuncData} {c : CA} {f : Addr} {cdv : Value} {A : Around} {outer : List Env} {s : Shared} {H : Hp} {E : XK} (T : Bt mg) (c_Reader_read_number : Cm P w K mg base (L2.CX P w) c.Reader "read_number" lv_Reader_read_number ["self"] (R_Reader_read_number c) f_Reader_read_number d_Reader_read_number) (X : CF K c) (e_DamagedPacket : Ce K mg "DamagedPacket" c.DamagedPacket) (hr : Room lvr_Reader_read_count (A.deeper (envOfC "Reader.read_count" (defScope s_Reader_read_count) s.heap.objs.size f cdv))) :
  PSs (cxOf (L2.CX P w) P w K mg base N_Reader_read_count "Reader.read_count" (defScope s_Reader_read_count) f cdv A outer s H E) (defBody s_Reader_read_count) (t_Reader_read_count K c E) :=
  (pss_cons (ps_set (i := 1) sc_Reader_read_count.nd rfl (by first | exact Or.inl rfl | exact Or.inr rfl) (dpe_meth0 (pv 0) X.cl_Reader c_Reader_read_number (hr.mono (by decide +kernel)) (pass1 (takes_of rfl rfl rfl rfl))))
  (pss_cons (ps_if (pt_cmpR op_gt (pv 1) (pe_op op_sub (pe_callB dc_len (by rfl) T.len (by decide +kernel) (pa_cons (pe_fld (pv 0) rfl) pa_nil)) (pe_fld (pv 0) rfl)) (nomark _)) (pss_one (dps_raise rfl (takes_of rfl rfl rfl rfl) e_DamagedPacket (by rfl))) pss_nil)
  (pss_one (ps_ret (pv 1)))))
theorem w_Reader_read_character {f_Reader_read_number : Addr} {d_Reader_read_number : FuncData} {c : CA} {f : Addr} {cdv : Value} {A : Around} {outer : List Env} {s : Shared} {H : Hp} {E : XK} (T : Bt mg) (c_Reader_read_number : Cm P w K mg base (L2.CX P w) c.Reader "read_number" lv_Reader_read_number ["self"] (R_Reader_read_number c) f_Reader_read_number d_Reader_read_number) (X : CF K c) (e_DamagedPacket : Ce K mg "DamagedPacket" c.DamagedPacket) {tk_BEFORE_PERCENT : Tok} (k_BEFORE_PERCENT : mg "BEFORE_PERCENT" = some (.str " !\"#$" tk_BEFORE_PERCENT)) {tk_AFTER_PERCENT : Tok} (k_AFTER_PERCENT : mg "AFTER_PERCENT" = some (.str "&'()*+,-./0123456789:;<=>?@ABCDEFGHIJKLMNOPQRSTUVWXYZ[\\]^_`abcdefghijklmnopqrstuvwxyz{|}~" tk_AFTER_PERCENT)) (hr : Room lvr_Reader_read_character (A.deeper (envOfC "Reader.read_character" (defScope s_Reader_read_character) s.heap.objs.size f cdv))) :
  PSs (cxOf (L2.CX P w) P w K mg base N_Reader_read_character "Reader.read_character" (defScope s_Reader_read_character) f cdv A outer s H E) (defBody s_Reader_read_character) (t_Reader_read_character K c E) :=
  (pss_cons (ps_set (i := 1) sc_Reader_read_character.nd rfl (by first | exact Or.inl rfl | exact Or.inr rfl) (dpe_meth0 (pv 0) X.cl_Reader c_Reader_read_number (hr.mono (by decide +kernel)) (pass1 (takes_of rfl rfl rfl rfl))))
  (pss_cons (ps_if (pt_cmpR (op_eqA hr.units) (pv 1) pe_int (nomark _)) (pss_one (ps_ret pe_str)) pss_nil)
  (pss_cons (ps_if (pt_chain op_le op_lt pe_int (pv 1) pe_int) (pss_one (ps_ret (pe_ix ix_seq (pe_glob rfl k_BEFORE_PERCENT ⟨_, rfl⟩) (pe_op op_sub (pv 1) pe_int) (fun _ _ => rfl)))) pss_nil)
  (pss_cons (ps_if (pt_chain op_le op_lt pe_int (pv 1) pe_int) (pss_one (ps_ret (pe_ix ix_seq (pe_glob rfl k_AFTER_PERCENT ⟨_, rfl⟩) (pe_op op_sub (pv 1) pe_int) (fun _ _ => rfl)))) pss_nil)
  (pss_one (dps_raise rfl (takes_of rfl rfl rfl rfl) e_DamagedPacket (by rfl)))))))
theorem w_Reader_read_string {f_Reader_read_character : Addr} {d_Reader_read_character : FuncData} {f_Reader_read_count : Addr} {d_Reader_read_count : FuncData} {c : CA} {f : Addr} {cdv : Value} {A : Around} {outer : List Env} {s : Shared} {H : Hp} {E : XK} (T : Bt mg) (c_Reader_read_character : Cm P w K mg base (L2.CX P w) c.Reader "read_character" lv_Reader_read_character ["self"] (R_Reader_read_character c) f_Reader_read_character d_Reader_read_character) (c_Reader_read_count : Cm P w K mg base (L2.CX P w) c.Reader "read_count" lv_Reader_read_count ["self"] (R_Reader_read_count c) f_Reader_read_count d_Reader_read_count) (X : CF K c) (hr : Room lvr_Reader_read_string (A.deeper (envOfC "Reader.read_string" (defScope s_Reader_read_string) s.heap.objs.size f cdv))) :
  PSs (cxOf (L2.CX P w) P w K mg base N_Reader_read_string "Reader.read_string" (defScope s_Reader_read_string) f cdv A outer s H E) (defBody s_Reader_read_string) (t_Reader_read_string K c E) :=
  (pss_one (ps_ret (dpe_join pe_str (pe_lcX (own := [("_", 1)]) rfl sc_Reader_read_string.nd rfl rfl (takes_of rfl rfl rfl rfl) (fun _ _ _ _ h => h) (pi_range1 (by rfl) T.range (pa_cons (dpe_meth0 (pv 0) X.cl_Reader c_Reader_read_count (hr.mono (by decide +kernel)) (pass1 (takes_of rfl rfl rfl rfl))) pa_nil)) (blkOk_by (own := [("_", 1)]) (N := N_Reader_read_string) (sc := defScope s_Reader_read_string) (by decide +kernel)) (fun _ _ _ _ _ => (pg_name (i := 1) sc_Reader_read_string.nd rfl (by first | exact Or.inl rfl | exact Or.inr rfl))) (fun _ _ _ _ _ => pts_nil) (fun _ _ _ _ _ _ hp => (dpe_meth0 (pv 0) X.cl_Reader c_Reader_read_character (hr.mono (by decide +kernel)) hp))))))
theorem w_Reader_read_mark {f_Reader_read_number : Addr} {d_Reader_read_number : FuncData} {c : CA} {f : Addr} {cdv : Value} {A : Around} {outer : List Env} {s : Shared} {H : Hp} {E : XK} (T : Bt mg) (c_Reader_read_number : Cm P w K mg base (L2.CX P w) c.Reader "read_number" lv_Reader_read_number ["self"] (R_Reader_read_number c) f_Reader_read_number d_Reader_read_number) (X : CF K c) (hr : Room lvr_Reader_read_mark (A.deeper (envOfC "Reader.read_mark" (defScope s_Reader_read_mark) s.heap.objs.size f cdv))) :
  PSs (cxOf (L2.CX P w) P w K mg base N_Reader_read_mark "Reader.read_mark" (defScope s_Reader_read_mark) f cdv A outer s H E) (defBody s_Reader_read_mark) (t_Reader_read_mark K c E) :=
  (pss_cons (ps_set (i := 1) sc_Reader_read_mark.nd rfl (by first | exact Or.inl rfl | exact Or.inr rfl) (dpe_meth0 (pv 0) X.cl_Reader c_Reader_read_number (hr.mono (by decide +kernel)) (pass1 (takes_of rfl rfl rfl rfl))))
  (pss_one (ps_ret (pe_tup (pa_cons (pv 1) (pa_cons (dpe_meth0 (pv 0) X.cl_Reader c_Reader_read_number (hr.mono (by decide +kernel)) (pass1 (takes_of rfl rfl rfl rfl))) pa_nil))))))
theorem w_Reader_read_deed {f_Reader_read_choice : Addr} {d_Reader_read_choice : FuncData} {f_Reader_read_count : Addr} {d_Reader_read_count : FuncData} {f_Reader_read_mark : Addr} {d_Reader_read_mark : FuncData} {f_Reader_read_number : Addr} {d_Reader_read_number : FuncData} {f_Reader_read_string : Addr} {d_Reader_read_string : FuncData} {c : CA} {f : Addr} {cdv : Value} {A : Around} {outer : List Env} {s : Shared} {H : Hp} {E : XK} (T : Bt mg) (c_Reader_read_choice : Cm P w K mg base (L2.CX P w) c.Reader "read_choice" lv_Reader_read_choice ["self", "count"] (R_Reader_read_choice c) f_Reader_read_choice d_Reader_read_choice) (c_Reader_read_count : Cm P w K mg base (L2.CX P w) c.Reader "read_count" lv_Reader_read_count ["self"] (R_Reader_read_count c) f_Reader_read_count d_Reader_read_count) (c_Reader_read_mark : Cm P w K mg base (L2.CX P w) c.Reader "read_mark" lv_Reader_read_mark ["self"] (R_Reader_read_mark c) f_Reader_read_mark d_Reader_read_mark) (c_Reader_read_number : Cm P w K mg base (L2.CX P w) c.Reader "read_number" lv_Reader_read_number ["self"] (R_Reader_read_number c) f_Reader_read_number d_Reader_read_number) (c_Reader_read_string : Cm P w K mg base (L2.CX P w) c.Reader "read_string" lv_Reader_read_string ["self"] (R_Reader_read_string c) f_Reader_read_string d_Reader_read_string) (X : CF K c) (hr : Room lvr_Reader_read_deed (A.deeper (envOfC "Reader.read_deed" (defScope s_Reader_read_deed) s.heap.objs.size f cdv))) :
  PSs (cxOf (L2.CX P w) P w K mg base N_Reader_read_deed "Reader.read_deed" (defScope s_Reader_read_deed) f cdv A outer s H E) (defBody s_Reader_read_deed) (t_Reader_read_deed K c E) :=
  (pss_cons (ps_if (pt_cmpR (op_eqA hr.units) (dpe_meth (pv 0) X.cl_Reader c_Reader_read_choice (hr.mono (by decide +kernel)) (pass1 (takes_of rfl rfl rfl rfl)) (pa_cons pe_int pa_nil)) pe_int (nomark _)) (pss_one (ps_ret (pe_tup (pa_cons pe_str (pa_cons (dpe_meth0 (pv 0) X.cl_Reader c_Reader_read_number (hr.mono (by decide +kernel)) (pass1 (takes_of rfl rfl rfl rfl))) pa_nil))))) pss_nil)
  (pss_cons (ps_set (i := 1) sc_Reader_read_deed.nd rfl (by first | exact Or.inl rfl | exact Or.inr rfl) (dpe_meth0 (pv 0) X.cl_Reader c_Reader_read_string (hr.mono (by decide +kernel)) (pass1 (takes_of rfl rfl rfl rfl))))
  (pss_cons (ps_set (i := 2) sc_Reader_read_deed.nd rfl (by first | exact Or.inl rfl | exact Or.inr rfl) (pe_callTy dc_tuple (by rfl) T.tuple (by decide +kernel) (pa_cons (pe_lcX (own := [("_", 5)]) rfl sc_Reader_read_deed.nd rfl rfl (takes_of rfl rfl rfl rfl) (fun _ _ _ _ h => h) (pi_range1 (by rfl) T.range (pa_cons (dpe_meth0 (pv 0) X.cl_Reader c_Reader_read_count (hr.mono (by decide +kernel)) (pass1 (takes_of rfl rfl rfl rfl))) pa_nil)) (blkOk_by (own := [("_", 5)]) (N := N_Reader_read_deed) (sc := defScope s_Reader_read_deed) (by decide +kernel)) (fun _ _ _ _ _ => (pg_name (i := 5) sc_Reader_read_deed.nd rfl (by first | exact Or.inl rfl | exact Or.inr rfl))) (fun _ _ _ _ _ => pts_nil) (fun _ _ _ _ _ _ hp => (dpe_meth0 (pv 0) X.cl_Reader c_Reader_read_mark (hr.mono (by decide +kernel)) hp))) pa_nil)))
  (pss_cons (ps_set (i := 3) sc_Reader_read_deed.nd rfl (by first | exact Or.inl rfl | exact Or.inr rfl) pe_non)
  (pss_cons (ps_if (pt_cmpR (op_eqA hr.units) (dpe_meth (pv 0) X.cl_Reader c_Reader_read_choice (hr.mono (by decide +kernel)) (pass1 (takes_of rfl rfl rfl rfl)) (pa_cons pe_int pa_nil)) pe_int (nomark _)) (pss_one (ps_set (i := 3) sc_Reader_read_deed.nd rfl (by first | exact Or.inl rfl | exact Or.inr rfl) (dpe_meth0 (pv 0) X.cl_Reader c_Reader_read_mark (hr.mono (by decide +kernel)) (pass1 (takes_of rfl rfl rfl rfl))))) pss_nil)
  (pss_cons (ps_set (i := 4) sc_Reader_read_deed.nd rfl (by first | exact Or.inl rfl | exact Or.inr rfl) (dpe_meth0 (pv 0) X.cl_Reader c_Reader_read_number (hr.mono (by decide +kernel)) (pass1 (takes_of rfl rfl rfl rfl))))
  (pss_one (ps_ret (pe_tup (pa_cons pe_str (pa_cons (pv 1) (pa_cons (pv 2) (pa_cons (pv 3) (pa_cons (pv 4) (pa_cons (dpe_meth0 (pv 0) X.cl_Reader c_Reader_read_string (hr.mono (by decide +kernel)) (pass1 (takes_of rfl rfl rfl rfl))) pa_nil)))))))))))))))
theorem w_Reader_read_triple {f_Reader_read_deed : Addr} {d_Reader_read_deed : FuncData} {f_Reader_read_number : Addr} {d_Reader_read_number : FuncData} {c : CA} {f : Addr} {cdv : Value} {A : Around} {outer : List Env} {s : Shared} {H : Hp} {E : XK} (T : Bt mg) (c_Reader_read_deed : Cm P w K mg base (L2.CX P w) c.Reader "read_deed" lv_Reader_read_deed ["self"] (R_Reader_read_deed c) f_Reader_read_deed d_Reader_read_deed) (c_Reader_read_number : Cm P w K mg base (L2.CX P w) c.Reader "read_number" lv_Reader_read_number ["self"] (R_Reader_read_number c) f_Reader_read_number d_Reader_read_number) (X : CF K c) (hr : Room lvr_Reader_read_triple (A.deeper (envOfC "Reader.read_triple" (defScope s_Reader_read_triple) s.heap.objs.size f cdv))) :
  PSs (cxOf (L2.CX P w) P w K mg base N_Reader_read_triple "Reader.read_triple" (defScope s_Reader_read_triple) f cdv A outer s H E) (defBody s_Reader_read_triple) (t_Reader_read_triple K c E) :=
  (pss_cons (ps_set (i := 1) sc_Reader_read_triple.nd rfl (by first | exact Or.inl rfl | exact Or.inr rfl) (dpe_meth0 (pv 0) X.cl_Reader c_Reader_read_number (hr.mono (by decide +kernel)) (pass1 (takes_of rfl rfl rfl rfl))))
  (pss_cons (ps_set (i := 2) sc_Reader_read_triple.nd rfl (by first | exact Or.inl rfl | exact Or.inr rfl) (dpe_meth0 (pv 0) X.cl_Reader c_Reader_read_number (hr.mono (by decide +kernel)) (pass1 (takes_of rfl rfl rfl rfl))))
  (pss_one (ps_ret (pe_tup (pa_cons (pv 1) (pa_cons (pv 2) (pa_cons (dpe_meth0 (pv 0) X.cl_Reader c_Reader_read_deed (hr.mono (by decide +kernel)) (pass1 (takes_of rfl rfl rfl rfl))) pa_nil))))))))
theorem w_Reader_read_triples {f_Reader_read_count : Addr} {d_Reader_read_count : FuncData} {f_Reader_read_triple : Addr} {d_Reader_read_triple : FuncData} {c : CA} {f : Addr} {cdv : Value} {A : Around} {outer : List Env} {s : Shared} {H : Hp} {E : XK} (T : Bt mg) (c_Reader_read_count : Cm P w K mg base (L2.CX P w) c.Reader "read_count" lv_Reader_read_count ["self"] (R_Reader_read_count c) f_Reader_read_count d_Reader_read_count) (c_Reader_read_triple : Cm P w K mg base (L2.CX P w) c.Reader "read_triple" lv_Reader_read_triple ["self"] (R_Reader_read_triple c) f_Reader_read_triple d_Reader_read_triple) (X : CF K c) (hr : Room lvr_Reader_read_triples (A.deeper (envOfC "Reader.read_triples" (defScope s_Reader_read_triples) s.heap.objs.size f cdv))) :
  PSs (cxOf (L2.CX P w) P w K mg base N_Reader_read_triples "Reader.read_triples" (defScope s_Reader_read_triples) f cdv A outer s H E) (defBody s_Reader_read_triples) (t_Reader_read_triples K c E) :=
  (pss_one (ps_ret (pe_lcX (own := [("_", 1)]) rfl sc_Reader_read_triples.nd rfl rfl (takes_of rfl rfl rfl rfl) (fun _ _ _ _ h => h) (pi_range1 (by rfl) T.range (pa_cons (dpe_meth0 (pv 0) X.cl_Reader c_Reader_read_count (hr.mono (by decide +kernel)) (pass1 (takes_of rfl rfl rfl rfl))) pa_nil)) (blkOk_by (own := [("_", 1)]) (N := N_Reader_read_triples) (sc := defScope s_Reader_read_triples) (by decide +kernel)) (fun _ _ _ _ _ => (pg_name (i := 1) sc_Reader_read_triples.nd rfl (by first | exact Or.inl rfl | exact Or.inr rfl))) (fun _ _ _ _ _ => pts_nil) (fun _ _ _ _ _ _ hp => (dpe_meth0 (pv 0) X.cl_Reader c_Reader_read_triple (hr.mono (by decide +kernel)) hp)))))
theorem w_Reader_read_packet {f_Reader_read_byte : Addr} {d_Reader_read_byte : FuncData} {f_Reader_read_triples : Addr} {d_Reader_read_triples : FuncData} {c : CA} {f : Addr} {cdv : Value} {A : Around} {outer : List Env} {s : Shared} {H : Hp} {E : XK} (T : Bt mg) (c_Reader_read_byte : Cm P w K mg base (L2.CX P w) c.Reader "read_byte" lv_Reader_read_byte ["self"] (R_Reader_read_byte c) f_Reader_read_byte d_Reader_read_byte) (c_Reader_read_triples : Cm P w K mg base (L2.CX P w) c.Reader "read_triples" lv_Reader_read_triples ["self"] (R_Reader_read_triples c) f_Reader_read_triples d_Reader_read_triples) (X : CF K c) (e_DamagedPacket : Ce K mg "DamagedPacket" c.DamagedPacket) (hr : Room lvr_Reader_read_packet (A.deeper (envOfC "Reader.read_packet" (defScope s_Reader_read_packet) s.heap.objs.size f cdv))) :
  PSs (cxOf (L2.CX P w) P w K mg base N_Reader_read_packet "Reader.read_packet" (defScope s_Reader_read_packet) f cdv A outer s H E) (defBody s_Reader_read_packet) (t_Reader_read_packet K c E) :=
  (pss_cons (ps_if (pt_cmpR (op_neA hr.units) (dpe_meth0 (pv 0) X.cl_Reader c_Reader_read_byte (hr.mono (by decide +kernel)) (pass1 (takes_of rfl rfl rfl rfl))) pe_int (nomark _)) (pss_one (dps_raise rfl (takes_of rfl rfl rfl rfl) e_DamagedPacket (by rfl))) pss_nil)
  (pss_one (ps_ret (dpe_meth0 (pv 0) X.cl_Reader c_Reader_read_triples (hr.mono (by decide +kernel)) (pass1 (takes_of rfl rfl rfl rfl))))))
theorem w_write_number {f : Addr} {cdv : Value} {A : Around} {outer : List Env} {s : Shared} {H : Hp} {E : XK} (T : Bt mg) (hr : Room lvr_write_number (A.deeper (envOfC "write_number" (defScope s_write_number) s.heap.objs.size f cdv))) :
  PSs (cxOf CX0 P w K mg base N_write_number "write_number" (defScope s_write_number) f cdv A outer s H E).nox (defBody s_write_number) (t_write_number K) :=
  (pss_cons (ps_set (i := 1) sc_write_number.nd rfl (by first | exact Or.inl rfl | exact Or.inr rfl) (pe_lst pa_nil))
  (pss_cons (ps_while PassesOwn.never (pt_cmpR op_ge (pv 0) pe_int (nomark _)) (pss_cons (ps_expr (pe_bm PySem.F.plainAttrs_list PySem.F.slot_list_append PySem.F.type_list_append mt_append (pv 1) (pa_cons (pe_op op_plus (pe_op op_mod (pv 0) pe_int) pe_int) pa_nil)))
  (pss_one (ps_set (i := 0) sc_write_number.nd rfl (by first | exact Or.inl rfl | exact Or.inr rfl) (pe_op op_fdivW (pv 0) pe_int)))))
  (pss_one (ps_ret (pe_op op_plus (pv 1) (pe_lst (pa_cons (pv 0) pa_nil)))))))
theorem w_write_list {f_write_number : Addr} {d_write_number : FuncData} {f : Addr} {cdv : Value} {A : Around} {outer : List Env} {s : Shared} {H : Hp} {E : XK} (T : Bt mg) (c_write_number : Cl P w K mg base CX0 "write_number" lv_write_number ["number"] R_write_number f_write_number d_write_number) (hr : Room lvr_write_list (A.deeper (envOfC "write_list" (defScope s_write_list) s.heap.objs.size f cdv))) :
  PSs (cxOf CX0 P w K mg base N_write_list "write_list" (defScope s_write_list) f cdv A outer s H E).nox (defBody s_write_list) (t_write_list K) :=
  (pss_cons (ps_set (i := 1) sc_write_list.nd rfl (by first | exact Or.inl rfl | exact Or.inr rfl) (dpe_call c_write_number (hr.mono (by decide +kernel)) (by rfl) pass0 (pa_cons (pe_callB dc_len (by rfl) T.len (by decide +kernel) (pa_cons (pv 0) pa_nil)) pa_nil)))
  (pss_cons (ps_for PassesOwn.never rfl (pi_list (pv 0)) (pg_name (i := 2) sc_write_list.nd rfl (by first | exact Or.inl rfl | exact Or.inr rfl)) (pss_one (ps_expr (pe_bm PySem.F.plainAttrs_list PySem.F.slot_list_extend PySem.F.type_list_extend mt_extend (pv 1) (pa_cons (pv 2) pa_nil)))))
  (pss_one (ps_ret (pv 1)))))
theorem w_write_string {f_write_list : Addr} {d_write_list : FuncData} {f_write_number : Addr} {d_write_number : FuncData} {f : Addr} {cdv : Value} {A : Around} {outer : List Env} {s : Shared} {H : Hp} {E : XK} (T : Bt mg) (c_write_list : Cl P w K mg base CX0 "write_list" lv_write_list ["items"] R_write_list f_write_list d_write_list) (c_write_number : Cl P w K mg base CX0 "write_number" lv_write_number ["number"] R_write_number f_write_number d_write_number) (hr : Room lvr_write_string (A.deeper (envOfC "write_string" (defScope s_write_string) s.heap.objs.size f cdv))) :
  PSs (cxOf CX0 P w K mg base N_write_string "write_string" (defScope s_write_string) f cdv A outer s H E).nox (defBody s_write_string) (t_write_string K) :=
  (pss_one (ps_ret (dpe_call c_write_list (hr.mono (by decide +kernel)) (by rfl) pass0 (pa_cons (pe_lc (own := [("character", 1)]) rfl sc_write_string.nd (pi_str (pv 0)) (blkOk_by (own := [("character", 1)]) (N := N_write_string) (sc := defScope s_write_string) (by decide +kernel)) (fun _ _ _ _ _ => (pg_name (i := 1) sc_write_string.nd rfl (by first | exact Or.inl rfl | exact Or.inr rfl))) (fun _ _ _ _ _ => pts_nil) (fun _ _ _ _ _ => (dpe_call c_write_number (hr.mono (by decide +kernel)) (by rfl) pass0 (pa_cons (pe_callB dc_ord (by rfl) T.ord (by decide +kernel) (pa_cons (pv 1) pa_nil)) pa_nil)))) pa_nil))))
theorem w_write_mark {f_write_number : Addr} {d_write_number : FuncData} {f : Addr} {cdv : Value} {A : Around} {outer : List Env} {s : Shared} {H : Hp} {E : XK} (T : Bt mg) (c_write_number : Cl P w K mg base CX0 "write_number" lv_write_number ["number"] R_write_number f_write_number d_write_number) (hr : Room lvr_write_mark (A.deeper (envOfC "write_mark" (defScope s_write_mark) s.heap.objs.size f cdv))) :
  PSs (cxOf CX0 P w K mg base N_write_mark "write_mark" (defScope s_write_mark) f cdv A outer s H E).nox (defBody s_write_mark) (t_write_mark K) :=
  (pss_one (ps_ret (pe_op op_plus (dpe_call c_write_number (hr.mono (by decide +kernel)) (by rfl) pass0 (pa_cons (pe_ix ix_seq (pv 0) pe_int (fun _ _ => rfl)) pa_nil)) (dpe_call c_write_number (hr.mono (by decide +kernel)) (by rfl) pass0 (pa_cons (pe_ix ix_seq (pv 0) pe_int (fun _ _ => rfl)) pa_nil)))))
theorem w_write_deed {f_write_list : Addr} {d_write_list : FuncData} {f_write_mark : Addr} {d_write_mark : FuncData} {f_write_number : Addr} {d_write_number : FuncData} {f_write_string : Addr} {d_write_string : FuncData} {f : Addr} {cdv : Value} {A : Around} {outer : List Env} {s : Shared} {H : Hp} {E : XK} (T : Bt mg) (c_write_list : Cl P w K mg base CX0 "write_list" lv_write_list ["items"] R_write_list f_write_list d_write_list) (c_write_mark : Cl P w K mg base CX0 "write_mark" lv_write_mark ["mark"] R_write_mark f_write_mark d_write_mark) (c_write_number : Cl P w K mg base CX0 "write_number" lv_write_number ["number"] R_write_number f_write_number d_write_number) (c_write_string : Cl P w K mg base CX0 "write_string" lv_write_string ["text"] R_write_string f_write_string d_write_string) (hr : Room lvr_write_deed (A.deeper (envOfC "write_deed" (defScope s_write_deed) s.heap.objs.size f cdv))) :
  PSs (cxOf CX0 P w K mg base N_write_deed "write_deed" (defScope s_write_deed) f cdv A outer s H E).nox (defBody s_write_deed) (t_write_deed K) :=
  (pss_cons (ps_if (pt_cmpR (op_eqA hr.units) (pe_ix ix_seq (pv 0) pe_int (fun _ _ => rfl)) pe_str (nomark _)) (pss_one (ps_ret (pe_op op_plus (pe_lst (pa_cons pe_int pa_nil)) (dpe_call c_write_number (hr.mono (by decide +kernel)) (by rfl) pass0 (pa_cons (pe_ix ix_seq (pv 0) pe_int (fun _ _ => rfl)) pa_nil))))) pss_nil)
  (pss_cons (ps_asg (pv 0) (dpg_any rfl (pgs_cons (pg_name (i := 1) sc_write_deed.nd rfl (by first | exact Or.inl rfl | exact Or.inr rfl)) (pgs_cons (pg_name (i := 2) sc_write_deed.nd rfl (by first | exact Or.inl rfl | exact Or.inr rfl)) (pgs_cons (pg_name (i := 3) sc_write_deed.nd rfl (by first | exact Or.inl rfl | exact Or.inr rfl)) (pgs_cons (pg_name (i := 4) sc_write_deed.nd rfl (by first | exact Or.inl rfl | exact Or.inr rfl)) (pgs_cons (pg_name (i := 5) sc_write_deed.nd rfl (by first | exact Or.inl rfl | exact Or.inr rfl)) (pgs_cons (pg_name (i := 6) sc_write_deed.nd rfl (by first | exact Or.inl rfl | exact Or.inr rfl)) pgs_nil))))))))
  (pss_cons (ps_set (i := 7) sc_write_deed.nd rfl (by first | exact Or.inl rfl | exact Or.inr rfl) (pe_op op_plus (pe_op op_plus (pe_lst (pa_cons pe_int pa_nil)) (dpe_call c_write_string (hr.mono (by decide +kernel)) (by rfl) pass0 (pa_cons (pv 2) pa_nil))) (dpe_call c_write_list (hr.mono (by decide +kernel)) (by rfl) pass0 (pa_cons (pe_lc (own := [("mark", 8)]) rfl sc_write_deed.nd (pi_tup (pv 3)) (blkOk_by (own := [("mark", 8)]) (N := N_write_deed) (sc := defScope s_write_deed) (by decide +kernel)) (fun _ _ _ _ _ => (pg_name (i := 8) sc_write_deed.nd rfl (by first | exact Or.inl rfl | exact Or.inr rfl))) (fun _ _ _ _ _ => pts_nil) (fun _ _ _ _ _ => (dpe_call c_write_mark (hr.mono (by decide +kernel)) (by rfl) pass0 (pa_cons (pv 8) pa_nil)))) pa_nil))))
  (pss_cons (ps_expr (pe_bm PySem.F.plainAttrs_list PySem.F.slot_list_extend PySem.F.type_list_extend mt_extend (pv 7) (pa_cons (pe_ifExp (pt_cmpR op_isNon (pv 4) pe_non (nomark _)) (pe_lst (pa_cons pe_int pa_nil)) (pe_op op_plus (pe_lst (pa_cons pe_int pa_nil)) (dpe_call c_write_mark (hr.mono (by decide +kernel)) (by rfl) pass0 (pa_cons (pv 4) pa_nil)))) pa_nil)))
  (pss_one (ps_ret (pe_op op_plus (pe_op op_plus (pv 7) (dpe_call c_write_number (hr.mono (by decide +kernel)) (by rfl) pass0 (pa_cons (pv 5) pa_nil))) (dpe_call c_write_string (hr.mono (by decide +kernel)) (by rfl) pass0 (pa_cons (pv 6) pa_nil)))))))))
theorem w_write_triples {f_write_deed : Addr} {d_write_deed : FuncData} {f_write_list : Addr} {d_write_list : FuncData} {f_write_number : Addr} {d_write_number : FuncData} {f : Addr} {cdv : Value} {A : Around} {outer : List Env} {s : Shared} {H : Hp} {E : XK} (T : Bt mg) (c_write_deed : Cl P w K mg base CX0 "write_deed" lv_write_deed ["deed"] R_write_deed f_write_deed d_write_deed) (c_write_list : Cl P w K mg base CX0 "write_list" lv_write_list ["items"] R_write_list f_write_list d_write_list) (c_write_number : Cl P w K mg base CX0 "write_number" lv_write_number ["number"] R_write_number f_write_number d_write_number) (hr : Room lvr_write_triples (A.deeper (envOfC "write_triples" (defScope s_write_triples) s.heap.objs.size f cdv))) :
  PSs (cxOf CX0 P w K mg base N_write_triples "write_triples" (defScope s_write_triples) f cdv A outer s H E).nox (defBody s_write_triples) (t_write_triples K) :=
  (pss_cons (ps_set (i := 1) sc_write_triples.nd rfl (by first | exact Or.inl rfl | exact Or.inr rfl) (pe_lst pa_nil))
  (pss_cons (ps_for PassesOwn.never rfl (pi_list (pv 0)) (dpg_any rfl (pgs_cons (pg_name (i := 2) sc_write_triples.nd rfl (by first | exact Or.inl rfl | exact Or.inr rfl)) (pgs_cons (pg_name (i := 3) sc_write_triples.nd rfl (by first | exact Or.inl rfl | exact Or.inr rfl)) (pgs_cons (pg_name (i := 4) sc_write_triples.nd rfl (by first | exact Or.inl rfl | exact Or.inr rfl)) pgs_nil)))) (pss_one (ps_expr (pe_bm PySem.F.plainAttrs_list PySem.F.slot_list_append PySem.F.type_list_append mt_append (pv 1) (pa_cons (pe_op op_plus (pe_op op_plus (dpe_call c_write_number (hr.mono (by decide +kernel)) (by rfl) pass0 (pa_cons (pv 2) pa_nil)) (dpe_call c_write_number (hr.mono (by decide +kernel)) (by rfl) pass0 (pa_cons (pv 3) pa_nil))) (dpe_call c_write_deed (hr.mono (by decide +kernel)) (by rfl) pass0 (pa_cons (pv 4) pa_nil))) pa_nil)))))
  (pss_one (ps_ret (dpe_call c_write_list (hr.mono (by decide +kernel)) (by rfl) pass0 (pa_cons (pv 1) pa_nil))))))
theorem w_write_packet {f_write_triples : Addr} {d_write_triples : FuncData} {f : Addr} {cdv : Value} {A : Around} {outer : List Env} {s : Shared} {H : Hp} {E : XK} (T : Bt mg) (c_write_triples : Cl P w K mg base CX0 "write_triples" lv_write_triples ["triples"] R_write_triples f_write_triples d_write_triples) (hr : Room lvr_write_packet (A.deeper (envOfC "write_packet" (defScope s_write_packet) s.heap.objs.size f cdv))) :
  PSs (cxOf CX0 P w K mg base N_write_packet "write_packet" (defScope s_write_packet) f cdv A outer s H E).nox (defBody s_write_packet) (t_write_packet K) :=
  (pss_one (ps_ret (pe_op op_plus (pe_lst (pa_cons pe_int pa_nil)) (dpe_call c_write_triples (hr.mono (by decide +kernel)) (by rfl) pass0 (pa_cons (pv 0) pa_nil)))))
theorem w_law_next {f : Addr} {cdv : Value} {A : Around} {outer : List Env} {s : Shared} {H : Hp} {E : XK} (T : Bt mg) (hr : Room lvr_law_next (A.deeper (envOfC "_law_next" (defScope s_law_next) s.heap.objs.size f cdv))) :
  PSs (cxOf CX0 P w K mg base N_law_next "_law_next" (defScope s_law_next) f cdv A outer s H E).nox (defBody s_law_next) (t_law_next K) :=
  (pss_cons (ps_if (PW.pt (pw_and (pt_cmpR (op_eqA hr.units) (pe_ix ix_seq (pv 0) pe_int (fun _ _ => rfl)) pe_int (nomark _)) (pw_and1 (pt_cmpR op_lt (pe_ix ix_seq (pv 0) pe_int (fun _ _ => rfl)) (pe_callB dc_len (by rfl) T.len (by decide +kernel) (pa_cons (pe_ix ix_seq (pv 0) pe_int (fun _ _ => rfl)) pa_nil)) (nomark _))))) (pss_cons (ps_set (i := 2) sc_law_next.nd rfl (by first | exact Or.inl rfl | exact Or.inr rfl) (pe_ix ix_seq (pe_ix ix_seq (pv 0) pe_int (fun _ _ => rfl)) (pe_ix ix_seq (pv 0) pe_int (fun _ _ => rfl)) (fun _ _ => rfl)))
  (pss_cons (ps_augS (pv 0) pe_int get_list pe_int ip_add set_list)
  (pss_one (ps_if (pt_cmpR op_ge (pv 2) (pe_op op_pow pe_int pe_int) (nomark _)) (pss_one (ps_asg (pv 2) (pg_sub (pv 0) pe_int set_list))) (pss_one (ps_asg (pe_op op_mod (pe_callTy dc_int (by rfl) T.int (by decide +kernel) (pa_cons (pe_op op_plus (pe_op op_plus (pe_op op_times (pe_ix ix_seq (pv 0) pe_int (fun _ _ => rfl)) pe_int) (pe_op op_mod (pe_callTy dc_int (by rfl) T.int (by decide +kernel) (pa_cons (pv 2) pa_nil)) pe_int)) pe_int) pa_nil)) pe_int) (pg_sub (pv 0) pe_int set_list))))))) pss_nil)
  (pss_cons (ps_if (pt_cmpR op_gt (pe_ix ix_seq (pv 0) pe_int (fun _ _ => rfl)) pe_int (nomark _)) (pss_cons (ps_set (i := 3) sc_law_next.nd rfl (by first | exact Or.inl rfl | exact Or.inr rfl) (pe_op op_mod (pe_callTy dc_int (by rfl) T.int (by decide +kernel) (pa_cons (pe_ix ix_seq (pv 0) pe_int (fun _ _ => rfl)) pa_nil)) (pv 1)))
  (pss_cons (ps_asg (pe_op op_fdivW (pe_ix ix_seq (pv 0) pe_int (fun _ _ => rfl)) (pv 1)) (pg_sub (pv 0) pe_int set_list))
  (pss_one (ps_ret (pv 3))))) pss_nil)
  (pss_cons (ps_asg (pe_op op_mod (pe_callTy dc_int (by rfl) T.int (by decide +kernel) (pa_cons (pe_op op_plus (pe_op op_times (pe_ix ix_seq (pv 0) pe_int (fun _ _ => rfl)) pe_int) pe_int) pa_nil)) pe_int) (pg_sub (pv 0) pe_int set_list))
  (pss_one (ps_ret (pe_op op_mod (pe_callTy dc_int (by rfl) T.int (by decide +kernel) (pa_cons (pe_op op_fdivW (pe_ix ix_seq (pv 0) pe_int (fun _ _ => rfl)) pe_int) pa_nil)) (pv 1)))))))
theorem w_law_same {n : Nat} {Rn : Rl} {f_law_same : Addr} {d_law_same : FuncData} {f : Addr} {cdv : Value} {A : Around} {outer : List Env} {s : Shared} {H : Hp} {E : XK} (T : Bt mg) (c_law_same : Cl P w K mg base CX0 "_law_same" (n + 0) ["actual", "expected"] Rn f_law_same d_law_same) (hr : Room (n + 0) (A.deeper (envOfC "_law_same" (defScope s_law_same) s.heap.objs.size f cdv))) :
  PSs (cxOf CX0 P w K mg base N_law_same "_law_same" (defScope s_law_same) f cdv A outer s H E).nox (defBody s_law_same) (t_law_same K Rn) :=
  (pss_cons (ps_if (pt_cmpR op_isNon (pv 1) pe_non (nomark _)) (pss_one (ps_ret (pe_cmpR op_isNon (pv 0) pe_non (nomark _)))) pss_nil)
  (pss_cons (ps_if (pt_val (pe_callB call_isi (by rfl) T.isinstance (by decide +kernel) (pa_cons (pv 1) (pa_cons (pe_bltn (v := .ty "bool") (by rfl) T.bool (by decide +kernel) rfl) pa_nil)))) (pss_one (ps_ret (pe_and (pe_callB call_isi (by rfl) T.isinstance (by decide +kernel) (pa_cons (pv 0) (pa_cons (pe_bltn (v := .ty "bool") (by rfl) T.bool (by decide +kernel) rfl) pa_nil))) (pe_one (pe_cmpR (op_eqA hr.units) (pv 0) (pv 1) (nomark _)))))) pss_nil)
  (pss_cons (ps_if (pt_val (pe_callB call_isi (by rfl) T.isinstance (by decide +kernel) (pa_cons (pv 1) (pa_cons (pe_bltn (v := .ty "int") (by rfl) T.int (by decide +kernel) rfl) pa_nil)))) (pss_one (ps_ret (pe_and (pe_callB call_isi (by rfl) T.isinstance (by decide +kernel) (pa_cons (pv 0) (pa_cons (pe_bltn (v := .ty "int") (by rfl) T.int (by decide +kernel) rfl) pa_nil))) (pe_and (pe_not (pe_callB call_isi (by rfl) T.isinstance (by decide +kernel) (pa_cons (pv 0) (pa_cons (pe_bltn (v := .ty "bool") (by rfl) T.bool (by decide +kernel) rfl) pa_nil)))) (pe_one (pe_cmpR (op_eqA hr.units) (pv 0) (pv 1) (nomark _))))))) pss_nil)
  (pss_cons (ps_if (pt_val (pe_callB call_isi (by rfl) T.isinstance (by decide +kernel) (pa_cons (pv 1) (pa_cons (pe_bltn (v := .ty "str") (by rfl) T.str (by decide +kernel) rfl) pa_nil)))) (pss_one (ps_ret (pe_and (pe_callB call_isi (by rfl) T.isinstance (by decide +kernel) (pa_cons (pv 0) (pa_cons (pe_bltn (v := .ty "str") (by rfl) T.str (by decide +kernel) rfl) pa_nil))) (pe_one (pe_cmpR (op_eqA hr.units) (pv 0) (pv 1) (nomark _)))))) pss_nil)
  (pss_cons (ps_if (PW.pt (pw_and (pt_val (pe_callB call_isi (by rfl) T.isinstance (by decide +kernel) (pa_cons (pv 1) (pa_cons (pe_bltn (v := .ty "tuple") (by rfl) T.tuple (by decide +kernel) rfl) pa_nil)))) (pw_and1 (pt_not (pt_val (pe_callB call_isi (by rfl) T.isinstance (by decide +kernel) (pa_cons (pv 0) (pa_cons (pe_bltn (v := .ty "tuple") (by rfl) T.tuple (by decide +kernel) rfl) pa_nil)))))))) (pss_one (ps_ret pe_bl)) pss_nil)
  (pss_cons (ps_if (PW.pt (pw_and (pt_val (pe_callB call_isi (by rfl) T.isinstance (by decide +kernel) (pa_cons (pv 1) (pa_cons (pe_bltn (v := .ty "list") (by rfl) T.list (by decide +kernel) rfl) pa_nil)))) (pw_and1 (pt_not (pt_val (pe_callB call_isi (by rfl) T.isinstance (by decide +kernel) (pa_cons (pv 0) (pa_cons (pe_bltn (v := .ty "list") (by rfl) T.list (by decide +kernel) rfl) pa_nil)))))))) (pss_one (ps_ret pe_bl)) pss_nil)
  (pss_cons (ps_if (pt_cmpR (op_neA hr.units) (pe_callB dc_len (by rfl) T.len (by decide +kernel) (pa_cons (pv 0) pa_nil)) (pe_callB dc_len (by rfl) T.len (by decide +kernel) (pa_cons (pv 1) pa_nil)) (nomark _)) (pss_one (ps_ret pe_bl)) pss_nil)
  (pss_cons (ps_for PassesOwn.never rfl (pi_range1 (by rfl) T.range (pa_cons (pe_callB dc_len (by rfl) T.len (by decide +kernel) (pa_cons (pv 1) pa_nil)) pa_nil)) (pg_name (i := 2) sc_law_same.nd rfl (by first | exact Or.inl rfl | exact Or.inr rfl)) (pss_one (ps_if (pt_not (pt_val (dpe_call c_law_same hr (by rfl) pass0 (pa_cons (pe_ix ix_seq (pv 0) (pv 2) (fun _ _ => rfl)) (pa_cons (pe_ix ix_seq (pv 1) (pv 2) (fun _ _ => rfl)) pa_nil))))) (pss_one (ps_ret pe_bl)) pss_nil)))
  (pss_one (ps_ret pe_bl))))))))))
theorem w_law_number {f : Addr} {cdv : Value} {A : Around} {outer : List Env} {s : Shared} {H : Hp} {E : XK} (T : Bt mg) (hr : Room lvr_law_number (A.deeper (envOfC "_law_number" (defScope s_law_number) s.heap.objs.size f cdv))) :
  PSs (cxOf CX0 P w K mg base N_law_number "_law_number" (defScope s_law_number) f cdv A outer s H E).nox (defBody s_law_number) (t_law_number K) :=
  (pss_cons (ps_set (i := 1) sc_law_number.nd rfl (by first | exact Or.inl rfl | exact Or.inr rfl) (pe_lst pa_nil))
  (pss_cons (ps_while PassesOwn.never (pt_cmpR op_gt (pv 0) pe_int (nomark _)) (pss_cons (ps_expr (pe_bm PySem.F.plainAttrs_list PySem.F.slot_list_append PySem.F.type_list_append mt_append (pv 1) (pa_cons (pe_op op_plus (pe_op op_mod (pv 0) pe_int) pe_int) pa_nil)))
  (pss_one (ps_set (i := 0) sc_law_number.nd rfl (by first | exact Or.inl rfl | exact Or.inr rfl) (pe_op op_fdivW (pv 0) pe_int)))))
  (pss_one (ps_ret (pe_op op_plus (pv 1) (pe_lst (pa_cons (pv 0) pa_nil)))))))
theorem w_law_text {f_law_number : Addr} {d_law_number : FuncData} {f : Addr} {cdv : Value} {A : Around} {outer : List Env} {s : Shared} {H : Hp} {E : XK} (T : Bt mg) (c_law_number : Cl P w K mg base CX0 "_law_number" lv_law_number ["number"] R_law_number f_law_number d_law_number) (hr : Room lvr_law_text (A.deeper (envOfC "_law_text" (defScope s_law_text) s.heap.objs.size f cdv))) :
  PSs (cxOf CX0 P w K mg base N_law_text "_law_text" (defScope s_law_text) f cdv A outer s H E).nox (defBody s_law_text) (t_law_text K) :=
  (pss_cons (ps_set (i := 1) sc_law_text.nd rfl (by first | exact Or.inl rfl | exact Or.inr rfl) (dpe_call c_law_number (hr.mono (by decide +kernel)) (by rfl) pass0 (pa_cons (pe_callB dc_len (by rfl) T.len (by decide +kernel) (pa_cons (pv 0) pa_nil)) pa_nil)))
  (pss_cons (ps_for PassesOwn.never rfl (pi_str (pv 0)) (pg_name (i := 2) sc_law_text.nd rfl (by first | exact Or.inl rfl | exact Or.inr rfl)) (pss_one (ps_set (i := 1) sc_law_text.nd rfl (by first | exact Or.inl rfl | exact Or.inr rfl) (pe_op op_plus (pv 1) (dpe_call c_law_number (hr.mono (by decide +kernel)) (by rfl) pass0 (pa_cons (pe_callB dc_ord (by rfl) T.ord (by decide +kernel) (pa_cons (pv 2) pa_nil)) pa_nil))))))
  (pss_one (ps_ret (pv 1)))))
theorem w_law_mark {f_law_number : Addr} {d_law_number : FuncData} {f : Addr} {cdv : Value} {A : Around} {outer : List Env} {s : Shared} {H : Hp} {E : XK} (T : Bt mg) (c_law_number : Cl P w K mg base CX0 "_law_number" lv_law_number ["number"] R_law_number f_law_number d_law_number) (hr : Room lvr_law_mark (A.deeper (envOfC "_law_mark" (defScope s_law_mark) s.heap.objs.size f cdv))) :
  PSs (cxOf CX0 P w K mg base N_law_mark "_law_mark" (defScope s_law_mark) f cdv A outer s H E).nox (defBody s_law_mark) (t_law_mark K) :=
  (pss_one (ps_ret (pe_op op_plus (dpe_call c_law_number (hr.mono (by decide +kernel)) (by rfl) pass0 (pa_cons (pe_ix ix_seq (pv 0) pe_int (fun _ _ => rfl)) pa_nil)) (dpe_call c_law_number (hr.mono (by decide +kernel)) (by rfl) pass0 (pa_cons (pe_ix ix_seq (pv 0) pe_int (fun _ _ => rfl)) pa_nil)))))
theorem w_law_deed {f_law_mark : Addr} {d_law_mark : FuncData} {f_law_number : Addr} {d_law_number : FuncData} {f_law_text : Addr} {d_law_text : FuncData} {f : Addr} {cdv : Value} {A : Around} {outer : List Env} {s : Shared} {H : Hp} {E : XK} (T : Bt mg) (c_law_mark : Cl P w K mg base CX0 "_law_mark" lv_law_mark ["mark"] R_law_mark f_law_mark d_law_mark) (c_law_number : Cl P w K mg base CX0 "_law_number" lv_law_number ["number"] R_law_number f_law_number d_law_number) (c_law_text : Cl P w K mg base CX0 "_law_text" lv_law_text ["text"] R_law_text f_law_text d_law_text) (hr : Room lvr_law_deed (A.deeper (envOfC "_law_deed" (defScope s_law_deed) s.heap.objs.size f cdv))) :
  PSs (cxOf CX0 P w K mg base N_law_deed "_law_deed" (defScope s_law_deed) f cdv A outer s H E).nox (defBody s_law_deed) (t_law_deed K) :=
  (pss_cons (ps_if (pt_cmpR (op_eqA hr.units) (pe_ix ix_seq (pv 0) pe_int (fun _ _ => rfl)) pe_str (nomark _)) (pss_one (ps_ret (pe_op op_plus (pe_lst (pa_cons pe_int pa_nil)) (dpe_call c_law_number (hr.mono (by decide +kernel)) (by rfl) pass0 (pa_cons (pe_ix ix_seq (pv 0) pe_int (fun _ _ => rfl)) pa_nil))))) pss_nil)
  (pss_cons (ps_set (i := 1) sc_law_deed.nd rfl (by first | exact Or.inl rfl | exact Or.inr rfl) (pe_op op_plus (pe_op op_plus (pe_lst (pa_cons pe_int pa_nil)) (dpe_call c_law_text (hr.mono (by decide +kernel)) (by rfl) pass0 (pa_cons (pe_ix ix_seq (pv 0) pe_int (fun _ _ => rfl)) pa_nil))) (dpe_call c_law_number (hr.mono (by decide +kernel)) (by rfl) pass0 (pa_cons (pe_callB dc_len (by rfl) T.len (by decide +kernel) (pa_cons (pe_ix ix_seq (pv 0) pe_int (fun _ _ => rfl)) pa_nil)) pa_nil))))
  (pss_cons (ps_for PassesOwn.never rfl (pi_tup (pe_ix ix_seq (pv 0) pe_int (fun _ _ => rfl))) (pg_name (i := 2) sc_law_deed.nd rfl (by first | exact Or.inl rfl | exact Or.inr rfl)) (pss_one (ps_set (i := 1) sc_law_deed.nd rfl (by first | exact Or.inl rfl | exact Or.inr rfl) (pe_op op_plus (pv 1) (dpe_call c_law_mark (hr.mono (by decide +kernel)) (by rfl) pass0 (pa_cons (pv 2) pa_nil))))))
  (pss_cons (ps_set (i := 1) sc_law_deed.nd rfl (by first | exact Or.inl rfl | exact Or.inr rfl) (pe_op op_plus (pv 1) (pe_ifExp (pt_cmpR op_isNon (pe_ix ix_seq (pv 0) pe_int (fun _ _ => rfl)) pe_non (nomark _)) (pe_lst (pa_cons pe_int pa_nil)) (pe_op op_plus (pe_lst (pa_cons pe_int pa_nil)) (dpe_call c_law_mark (hr.mono (by decide +kernel)) (by rfl) pass0 (pa_cons (pe_ix ix_seq (pv 0) pe_int (fun _ _ => rfl)) pa_nil))))))
  (pss_one (ps_ret (pe_op op_plus (pe_op op_plus (pv 1) (dpe_call c_law_number (hr.mono (by decide +kernel)) (by rfl) pass0 (pa_cons (pe_ix ix_seq (pv 0) pe_int (fun _ _ => rfl)) pa_nil))) (dpe_call c_law_text (hr.mono (by decide +kernel)) (by rfl) pass0 (pa_cons (pe_ix ix_seq (pv 0) pe_int (fun _ _ => rfl)) pa_nil)))))))))
theorem w_law_triples {f_law_deed : Addr} {d_law_deed : FuncData} {f_law_number : Addr} {d_law_number : FuncData} {f : Addr} {cdv : Value} {A : Around} {outer : List Env} {s : Shared} {H : Hp} {E : XK} (T : Bt mg) (c_law_deed : Cl P w K mg base CX0 "_law_deed" lv_law_deed ["deed"] R_law_deed f_law_deed d_law_deed) (c_law_number : Cl P w K mg base CX0 "_law_number" lv_law_number ["number"] R_law_number f_law_number d_law_number) (hr : Room lvr_law_triples (A.deeper (envOfC "_law_triples" (defScope s_law_triples) s.heap.objs.size f cdv))) :
  PSs (cxOf CX0 P w K mg base N_law_triples "_law_triples" (defScope s_law_triples) f cdv A outer s H E).nox (defBody s_law_triples) (t_law_triples K) :=
  (pss_cons (ps_set (i := 1) sc_law_triples.nd rfl (by first | exact Or.inl rfl | exact Or.inr rfl) (dpe_call c_law_number (hr.mono (by decide +kernel)) (by rfl) pass0 (pa_cons (pe_callB dc_len (by rfl) T.len (by decide +kernel) (pa_cons (pv 0) pa_nil)) pa_nil)))
  (pss_cons (ps_for PassesOwn.never rfl (pi_list (pv 0)) (dpg_any rfl (pgs_cons (pg_name (i := 2) sc_law_triples.nd rfl (by first | exact Or.inl rfl | exact Or.inr rfl)) (pgs_cons (pg_name (i := 3) sc_law_triples.nd rfl (by first | exact Or.inl rfl | exact Or.inr rfl)) (pgs_cons (pg_name (i := 4) sc_law_triples.nd rfl (by first | exact Or.inl rfl | exact Or.inr rfl)) pgs_nil)))) (pss_one (ps_set (i := 1) sc_law_triples.nd rfl (by first | exact Or.inl rfl | exact Or.inr rfl) (pe_op op_plus (pe_op op_plus (pe_op op_plus (pv 1) (dpe_call c_law_number (hr.mono (by decide +kernel)) (by rfl) pass0 (pa_cons (pv 2) pa_nil))) (dpe_call c_law_number (hr.mono (by decide +kernel)) (by rfl) pass0 (pa_cons (pv 3) pa_nil))) (dpe_call c_law_deed (hr.mono (by decide +kernel)) (by rfl) pass0 (pa_cons (pv 4) pa_nil))))))
  (pss_one (ps_ret (pv 1)))))
theorem w_law_read_number {f : Addr} {cdv : Value} {A : Around} {outer : List Env} {s : Shared} {H : Hp} {E : XK} (T : Bt mg) (hr : Room lvr_law_read_number (A.deeper (envOfC "_law_read_number" (defScope s_law_read_number) s.heap.objs.size f cdv))) :
  PSs (cxOf CX0 P w K mg base N_law_read_number "_law_read_number" (defScope s_law_read_number) f cdv A outer s H E).nox (defBody s_law_read_number) (t_law_read_number K) :=
  (pss_cons (ps_set (i := 2) sc_law_read_number.nd rfl (by first | exact Or.inl rfl | exact Or.inr rfl) pe_int)
  (pss_cons (ps_set (i := 3) sc_law_read_number.nd rfl (by first | exact Or.inl rfl | exact Or.inr rfl) pe_int)
  (pss_cons (ps_for PassesOwn.never rfl (pi_range1 (by rfl) T.range (pa_cons pe_int pa_nil)) (pg_name (i := 4) sc_law_read_number.nd rfl (by first | exact Or.inl rfl | exact Or.inr rfl)) (pss_cons (ps_if (pt_cmpR op_ge (pe_op op_plus (pv 1) (pv 4)) (pe_callB dc_len (by rfl) T.len (by decide +kernel) (pa_cons (pv 0) pa_nil)) (nomark _)) (pss_one (ps_ret pe_non)) pss_nil)
  (pss_cons (ps_set (i := 2) sc_law_read_number.nd rfl (by first | exact Or.inl rfl | exact Or.inr rfl) (pe_op op_plus (pv 2) (pe_op op_times (pe_op op_mod (pe_ix ix_seq (pv 0) (pe_op op_plus (pv 1) (pv 4)) (fun _ _ => rfl)) pe_int) (pv 3))))
  (pss_cons (ps_set (i := 3) sc_law_read_number.nd rfl (by first | exact Or.inl rfl | exact Or.inr rfl) (pe_op op_times (pv 3) pe_int))
  (pss_one (ps_if (pt_cmpR op_lt (pe_ix ix_seq (pv 0) (pe_op op_plus (pv 1) (pv 4)) (fun _ _ => rfl)) pe_int (nomark _)) (pss_one (ps_ret (pe_ifExp (PW.pt (pw_and (pt_cmpR op_gt (pv 4) pe_int (nomark _)) (pw_and1 (pt_cmpR (op_eqA hr.units) (pe_ix ix_seq (pv 0) (pe_op op_plus (pv 1) (pv 4)) (fun _ _ => rfl)) pe_int (nomark _))))) pe_non (pe_tup (pa_cons (pv 2) (pa_cons (pe_op op_plus (pe_op op_plus (pv 1) (pv 4)) pe_int) pa_nil)))))) pss_nil))))))
  (pss_one (ps_ret pe_non)))))
theorem w_law_sign {f : Addr} {cdv : Value} {A : Around} {outer : List Env} {s : Shared} {H : Hp} {E : XK} (T : Bt mg) (hr : Room lvr_law_sign (A.deeper (envOfC "_law_sign" (defScope s_law_sign) s.heap.objs.size f cdv))) :
  PSs (cxOf CX0 P w K mg base N_law_sign "_law_sign" (defScope s_law_sign) f cdv A outer s H E).nox (defBody s_law_sign) (t_law_sign K) :=
  (pss_cons (ps_set (i := 1) sc_law_sign.nd rfl (by first | exact Or.inl rfl | exact Or.inr rfl) pe_str)
  (pss_cons (ps_set (i := 2) sc_law_sign.nd rfl (by first | exact Or.inl rfl | exact Or.inr rfl) pe_str)
  (pss_cons (ps_if (pt_cmpR op_lt (pv 0) pe_int (nomark _)) (pss_one (ps_ret (pe_ifExp (pt_cmpR (op_eqA hr.units) (pv 0) pe_int (nomark _)) pe_str (pe_ix ix_seq (pv 1) (pe_op op_sub (pv 0) pe_int) (fun _ _ => rfl))))) pss_nil)
  (pss_one (ps_ret (pe_ix ix_seq (pv 2) (pe_op op_sub (pv 0) pe_int) (fun _ _ => rfl)))))))
theorem w_law_read_text {f_law_read_number : Addr} {d_law_read_number : FuncData} {f_law_sign : Addr} {d_law_sign : FuncData} {f : Addr} {cdv : Value} {A : Around} {outer : List Env} {s : Shared} {H : Hp} {E : XK} (T : Bt mg) (c_law_read_number : Cl P w K mg base CX0 "_law_read_number" lv_law_read_number ["data", "at"] R_law_read_number f_law_read_number d_law_read_number) (c_law_sign : Cl P w K mg base CX0 "_law_sign" lv_law_sign ["code"] R_law_sign f_law_sign d_law_sign) (hr : Room lvr_law_read_text (A.deeper (envOfC "_law_read_text" (defScope s_law_read_text) s.heap.objs.size f cdv))) :
  PSs (cxOf CX0 P w K mg base N_law_read_text "_law_read_text" (defScope s_law_read_text) f cdv A outer s H E).nox (defBody s_law_read_text) (t_law_read_text K) :=
  (pss_cons (ps_set (i := 2) sc_law_read_text.nd rfl (by first | exact Or.inl rfl | exact Or.inr rfl) (dpe_call c_law_read_number (hr.mono (by decide +kernel)) (by rfl) pass0 (pa_cons (pv 0) (pa_cons (pv 1) pa_nil))))
  (pss_cons (ps_if (PW.pt (pw_or (pt_cmpR op_isNon (pv 2) pe_non (nomark _)) (pw_or1 (pt_cmpR op_gt (pe_ix ix_seq (pv 2) pe_int (fun _ _ => rfl)) (pe_op op_sub (pe_callB dc_len (by rfl) T.len (by decide +kernel) (pa_cons (pv 0) pa_nil)) (pe_ix ix_seq (pv 2) pe_int (fun _ _ => rfl))) (nomark _))))) (pss_one (ps_ret pe_non)) pss_nil)
  (pss_cons (ps_asg (pv 2) (dpg_any rfl (pgs_cons (pg_name (i := 3) sc_law_read_text.nd rfl (by first | exact Or.inl rfl | exact Or.inr rfl)) (pgs_cons (pg_name (i := 1) sc_law_read_text.nd rfl (by first | exact Or.inl rfl | exact Or.inr rfl)) pgs_nil))))
  (pss_cons (ps_set (i := 4) sc_law_read_text.nd rfl (by first | exact Or.inl rfl | exact Or.inr rfl) pe_str)
  (pss_cons (ps_for PassesOwn.never rfl (pi_range1 (by rfl) T.range (pa_cons (pv 3) pa_nil)) (pg_name (i := 5) sc_law_read_text.nd rfl (by first | exact Or.inl rfl | exact Or.inr rfl)) (pss_cons (ps_set (i := 2) sc_law_read_text.nd rfl (by first | exact Or.inl rfl | exact Or.inr rfl) (dpe_call c_law_read_number (hr.mono (by decide +kernel)) (by rfl) pass0 (pa_cons (pv 0) (pa_cons (pv 1) pa_nil))))
  (pss_cons (ps_if (PW.pt (pw_or (pt_cmpR op_isNon (pv 2) pe_non (nomark _)) (pw_or (PW.pt (pw_and (pt_cmpR (op_neA hr.units) (pe_ix ix_seq (pv 2) pe_int (fun _ _ => rfl)) pe_int (nomark _)) (pw_and1 (pt_not (pt_chain op_le op_le pe_int (pe_ix ix_seq (pv 2) pe_int (fun _ _ => rfl)) pe_int))))) (pw_or1 (pt_cmpR (op_eqA hr.units) (pe_ix ix_seq (pv 2) pe_int (fun _ _ => rfl)) pe_int (nomark _)))))) (pss_one (ps_ret pe_non)) pss_nil)
  (pss_cons (ps_set (i := 4) sc_law_read_text.nd rfl (by first | exact Or.inl rfl | exact Or.inr rfl) (pe_op op_plus (pv 4) (dpe_call c_law_sign (hr.mono (by decide +kernel)) (by rfl) pass0 (pa_cons (pe_ix ix_seq (pv 2) pe_int (fun _ _ => rfl)) pa_nil))))
  (pss_one (ps_set (i := 1) sc_law_read_text.nd rfl (by first | exact Or.inl rfl | exact Or.inr rfl) (pe_ix ix_seq (pv 2) pe_int (fun _ _ => rfl))))))))
  (pss_one (ps_ret (pe_tup (pa_cons (pv 4) (pa_cons (pv 1) pa_nil))))))))))
theorem w_law_read_mark {f_law_read_number : Addr} {d_law_read_number : FuncData} {f : Addr} {cdv : Value} {A : Around} {outer : List Env} {s : Shared} {H : Hp} {E : XK} (T : Bt mg) (c_law_read_number : Cl P w K mg base CX0 "_law_read_number" lv_law_read_number ["data", "at"] R_law_read_number f_law_read_number d_law_read_number) (hr : Room lvr_law_read_mark (A.deeper (envOfC "_law_read_mark" (defScope s_law_read_mark) s.heap.objs.size f cdv))) :
  PSs (cxOf CX0 P w K mg base N_law_read_mark "_law_read_mark" (defScope s_law_read_mark) f cdv A outer s H E).nox (defBody s_law_read_mark) (t_law_read_mark K) :=
  (pss_cons (ps_set (i := 2) sc_law_read_mark.nd rfl (by first | exact Or.inl rfl | exact Or.inr rfl) (dpe_call c_law_read_number (hr.mono (by decide +kernel)) (by rfl) pass0 (pa_cons (pv 0) (pa_cons (pv 1) pa_nil))))
  (pss_cons (ps_set (i := 3) sc_law_read_mark.nd rfl (by first | exact Or.inl rfl | exact Or.inr rfl) (pe_ifExp (pt_cmpR op_isNon (pv 2) pe_non (nomark _)) pe_non (dpe_call c_law_read_number (hr.mono (by decide +kernel)) (by rfl) pass0 (pa_cons (pv 0) (pa_cons (pe_ix ix_seq (pv 2) pe_int (fun _ _ => rfl)) pa_nil)))))
  (pss_one (ps_ret (pe_ifExp (pt_cmpR op_isNon (pv 3) pe_non (nomark _)) pe_non (pe_tup (pa_cons (pe_tup (pa_cons (pe_ix ix_seq (pv 2) pe_int (fun _ _ => rfl)) (pa_cons (pe_ix ix_seq (pv 3) pe_int (fun _ _ => rfl)) pa_nil))) (pa_cons (pe_ix ix_seq (pv 3) pe_int (fun _ _ => rfl)) pa_nil))))))))
theorem w_law_read_deed {f_law_read_mark : Addr} {d_law_read_mark : FuncData} {f_law_read_number : Addr} {d_law_read_number : FuncData} {f_law_read_text : Addr} {d_law_read_text : FuncData} {f : Addr} {cdv : Value} {A : Around} {outer : List Env} {s : Shared} {H : Hp} {E : XK} (T : Bt mg) (c_law_read_mark : Cl P w K mg base CX0 "_law_read_mark" lv_law_read_mark ["data", "at"] R_law_read_mark f_law_read_mark d_law_read_mark) (c_law_read_number : Cl P w K mg base CX0 "_law_read_number" lv_law_read_number ["data", "at"] R_law_read_number f_law_read_number d_law_read_number) (c_law_read_text : Cl P w K mg base CX0 "_law_read_text" lv_law_read_text ["data", "at"] R_law_read_text f_law_read_text d_law_read_text) (hr : Room lvr_law_read_deed (A.deeper (envOfC "_law_read_deed" (defScope s_law_read_deed) s.heap.objs.size f cdv))) :
  PSs (cxOf CX0 P w K mg base N_law_read_deed "_law_read_deed" (defScope s_law_read_deed) f cdv A outer s H E).nox (defBody s_law_read_deed) (t_law_read_deed K) :=
  (pss_cons (ps_if (PW.pt (pw_or (pt_cmpR op_ge (pv 1) (pe_callB dc_len (by rfl) T.len (by decide +kernel) (pa_cons (pv 0) pa_nil)) (nomark _)) (pw_or1 (pt_cmpR op_gt (pe_ix ix_seq (pv 0) (pv 1) (fun _ _ => rfl)) pe_int (nomark _))))) (pss_one (ps_ret pe_non)) pss_nil)
  (pss_cons (ps_if (pt_cmpR (op_eqA hr.units) (pe_ix ix_seq (pv 0) (pv 1) (fun _ _ => rfl)) pe_int (nomark _)) (pss_cons (ps_set (i := 2) sc_law_read_deed.nd rfl (by first | exact Or.inl rfl | exact Or.inr rfl) (dpe_call c_law_read_number (hr.mono (by decide +kernel)) (by rfl) pass0 (pa_cons (pv 0) (pa_cons (pe_op op_plus (pv 1) pe_int) pa_nil))))
  (pss_one (ps_ret (pe_ifExp (pt_cmpR op_isNon (pv 2) pe_non (nomark _)) pe_non (pe_tup (pa_cons (pe_tup (pa_cons pe_str (pa_cons (pe_ix ix_seq (pv 2) pe_int (fun _ _ => rfl)) pa_nil))) (pa_cons (pe_ix ix_seq (pv 2) pe_int (fun _ _ => rfl)) pa_nil))))))) pss_nil)
  (pss_cons (ps_set (i := 3) sc_law_read_deed.nd rfl (by first | exact Or.inl rfl | exact Or.inr rfl) (dpe_call c_law_read_text (hr.mono (by decide +kernel)) (by rfl) pass0 (pa_cons (pv 0) (pa_cons (pe_op op_plus (pv 1) pe_int) pa_nil))))
  (pss_cons (ps_set (i := 4) sc_law_read_deed.nd rfl (by first | exact Or.inl rfl | exact Or.inr rfl) (pe_ifExp (pt_cmpR op_isNon (pv 3) pe_non (nomark _)) pe_non (dpe_call c_law_read_number (hr.mono (by decide +kernel)) (by rfl) pass0 (pa_cons (pv 0) (pa_cons (pe_ix ix_seq (pv 3) pe_int (fun _ _ => rfl)) pa_nil)))))
  (pss_cons (ps_if (PW.pt (pw_or (pt_cmpR op_isNon (pv 4) pe_non (nomark _)) (pw_or1 (pt_cmpR op_gt (pe_ix ix_seq (pv 4) pe_int (fun _ _ => rfl)) (pe_op op_sub (pe_callB dc_len (by rfl) T.len (by decide +kernel) (pa_cons (pv 0) pa_nil)) (pe_ix ix_seq (pv 4) pe_int (fun _ _ => rfl))) (nomark _))))) (pss_one (ps_ret pe_non)) pss_nil)
  (pss_cons (ps_set (i := 1) sc_law_read_deed.nd rfl (by first | exact Or.inl rfl | exact Or.inr rfl) (pe_ix ix_seq (pv 4) pe_int (fun _ _ => rfl)))
  (pss_cons (ps_set (i := 5) sc_law_read_deed.nd rfl (by first | exact Or.inl rfl | exact Or.inr rfl) (pe_lst pa_nil))
  (pss_cons (ps_for PassesOwn.never rfl (pi_range1 (by rfl) T.range (pa_cons (pe_ix ix_seq (pv 4) pe_int (fun _ _ => rfl)) pa_nil)) (pg_name (i := 6) sc_law_read_deed.nd rfl (by first | exact Or.inl rfl | exact Or.inr rfl)) (pss_cons (ps_set (i := 2) sc_law_read_deed.nd rfl (by first | exact Or.inl rfl | exact Or.inr rfl) (dpe_call c_law_read_mark (hr.mono (by decide +kernel)) (by rfl) pass0 (pa_cons (pv 0) (pa_cons (pv 1) pa_nil))))
  (pss_cons (ps_if (pt_cmpR op_isNon (pv 2) pe_non (nomark _)) (pss_one (ps_ret pe_non)) pss_nil)
  (pss_cons (ps_expr (pe_bm PySem.F.plainAttrs_list PySem.F.slot_list_append PySem.F.type_list_append mt_append (pv 5) (pa_cons (pe_ix ix_seq (pv 2) pe_int (fun _ _ => rfl)) pa_nil)))
  (pss_one (ps_set (i := 1) sc_law_read_deed.nd rfl (by first | exact Or.inl rfl | exact Or.inr rfl) (pe_ix ix_seq (pv 2) pe_int (fun _ _ => rfl))))))))
  (pss_cons (ps_if (PW.pt (pw_or (pt_cmpR op_ge (pv 1) (pe_callB dc_len (by rfl) T.len (by decide +kernel) (pa_cons (pv 0) pa_nil)) (nomark _)) (pw_or1 (pt_cmpR op_gt (pe_ix ix_seq (pv 0) (pv 1) (fun _ _ => rfl)) pe_int (nomark _))))) (pss_one (ps_ret pe_non)) pss_nil)
  (pss_cons (ps_set (i := 7) sc_law_read_deed.nd rfl (by first | exact Or.inl rfl | exact Or.inr rfl) (pe_ifExp (pt_cmpR (op_eqA hr.units) (pe_ix ix_seq (pv 0) (pv 1) (fun _ _ => rfl)) pe_int (nomark _)) (pe_tup (pa_cons pe_non (pa_cons (pe_op op_plus (pv 1) pe_int) pa_nil))) (dpe_call c_law_read_mark (hr.mono (by decide +kernel)) (by rfl) pass0 (pa_cons (pv 0) (pa_cons (pe_op op_plus (pv 1) pe_int) pa_nil)))))
  (pss_cons (ps_set (i := 8) sc_law_read_deed.nd rfl (by first | exact Or.inl rfl | exact Or.inr rfl) (pe_ifExp (pt_cmpR op_isNon (pv 7) pe_non (nomark _)) pe_non (dpe_call c_law_read_number (hr.mono (by decide +kernel)) (by rfl) pass0 (pa_cons (pv 0) (pa_cons (pe_ix ix_seq (pv 7) pe_int (fun _ _ => rfl)) pa_nil)))))
  (pss_cons (ps_set (i := 9) sc_law_read_deed.nd rfl (by first | exact Or.inl rfl | exact Or.inr rfl) (pe_ifExp (pt_cmpR op_isNon (pv 8) pe_non (nomark _)) pe_non (dpe_call c_law_read_text (hr.mono (by decide +kernel)) (by rfl) pass0 (pa_cons (pv 0) (pa_cons (pe_ix ix_seq (pv 8) pe_int (fun _ _ => rfl)) pa_nil)))))
  (pss_one (ps_ret (pe_ifExp (pt_cmpR op_isNon (pv 9) pe_non (nomark _)) pe_non (pe_tup (pa_cons (pe_tup (pa_cons pe_str (pa_cons (pe_ix ix_seq (pv 3) pe_int (fun _ _ => rfl)) (pa_cons (pe_callTy dc_tuple (by rfl) T.tuple (by decide +kernel) (pa_cons (pv 5) pa_nil)) (pa_cons (pe_ix ix_seq (pv 7) pe_int (fun _ _ => rfl)) (pa_cons (pe_ix ix_seq (pv 8) pe_int (fun _ _ => rfl)) (pa_cons (pe_ix ix_seq (pv 9) pe_int (fun _ _ => rfl)) pa_nil))))))) (pa_cons (pe_ix ix_seq (pv 9) pe_int (fun _ _ => rfl)) pa_nil))))))))))))))))))
theorem w_law_read_triples {f_law_read_deed : Addr} {d_law_read_deed : FuncData} {f_law_read_mark : Addr} {d_law_read_mark : FuncData} {f_law_read_number : Addr} {d_law_read_number : FuncData} {f : Addr} {cdv : Value} {A : Around} {outer : List Env} {s : Shared} {H : Hp} {E : XK} (T : Bt mg) (c_law_read_deed : Cl P w K mg base CX0 "_law_read_deed" lv_law_read_deed ["data", "at"] R_law_read_deed f_law_read_deed d_law_read_deed) (c_law_read_mark : Cl P w K mg base CX0 "_law_read_mark" lv_law_read_mark ["data", "at"] R_law_read_mark f_law_read_mark d_law_read_mark) (c_law_read_number : Cl P w K mg base CX0 "_law_read_number" lv_law_read_number ["data", "at"] R_law_read_number f_law_read_number d_law_read_number) (hr : Room lvr_law_read_triples (A.deeper (envOfC "_law_read_triples" (defScope s_law_read_triples) s.heap.objs.size f cdv))) :
  PSs (cxOf CX0 P w K mg base N_law_read_triples "_law_read_triples" (defScope s_law_read_triples) f cdv A outer s H E).nox (defBody s_law_read_triples) (t_law_read_triples K) :=
  (pss_cons (ps_set (i := 2) sc_law_read_triples.nd rfl (by first | exact Or.inl rfl | exact Or.inr rfl) (dpe_call c_law_read_number (hr.mono (by decide +kernel)) (by rfl) pass0 (pa_cons (pv 0) (pa_cons (pv 1) pa_nil))))
  (pss_cons (ps_if (PW.pt (pw_or (pt_cmpR op_isNon (pv 2) pe_non (nomark _)) (pw_or1 (pt_cmpR op_gt (pe_ix ix_seq (pv 2) pe_int (fun _ _ => rfl)) (pe_op op_sub (pe_callB dc_len (by rfl) T.len (by decide +kernel) (pa_cons (pv 0) pa_nil)) (pe_ix ix_seq (pv 2) pe_int (fun _ _ => rfl))) (nomark _))))) (pss_one (ps_ret pe_non)) pss_nil)
  (pss_cons (ps_set (i := 1) sc_law_read_triples.nd rfl (by first | exact Or.inl rfl | exact Or.inr rfl) (pe_ix ix_seq (pv 2) pe_int (fun _ _ => rfl)))
  (pss_cons (ps_set (i := 3) sc_law_read_triples.nd rfl (by first | exact Or.inl rfl | exact Or.inr rfl) (pe_lst pa_nil))
  (pss_cons (ps_for PassesOwn.never rfl (pi_range1 (by rfl) T.range (pa_cons (pe_ix ix_seq (pv 2) pe_int (fun _ _ => rfl)) pa_nil)) (pg_name (i := 4) sc_law_read_triples.nd rfl (by first | exact Or.inl rfl | exact Or.inr rfl)) (pss_cons (ps_set (i := 5) sc_law_read_triples.nd rfl (by first | exact Or.inl rfl | exact Or.inr rfl) (dpe_call c_law_read_mark (hr.mono (by decide +kernel)) (by rfl) pass0 (pa_cons (pv 0) (pa_cons (pv 1) pa_nil))))
  (pss_cons (ps_set (i := 6) sc_law_read_triples.nd rfl (by first | exact Or.inl rfl | exact Or.inr rfl) (pe_ifExp (pt_cmpR op_isNon (pv 5) pe_non (nomark _)) pe_non (dpe_call c_law_read_deed (hr.mono (by decide +kernel)) (by rfl) pass0 (pa_cons (pv 0) (pa_cons (pe_ix ix_seq (pv 5) pe_int (fun _ _ => rfl)) pa_nil)))))
  (pss_cons (ps_if (pt_cmpR op_isNon (pv 6) pe_non (nomark _)) (pss_one (ps_ret pe_non)) pss_nil)
  (pss_cons (ps_expr (pe_bm PySem.F.plainAttrs_list PySem.F.slot_list_append PySem.F.type_list_append mt_append (pv 3) (pa_cons (pe_op op_plus (pe_ix ix_seq (pv 5) pe_int (fun _ _ => rfl)) (pe_tup (pa_cons (pe_ix ix_seq (pv 6) pe_int (fun _ _ => rfl)) pa_nil))) pa_nil)))
  (pss_one (ps_set (i := 1) sc_law_read_triples.nd rfl (by first | exact Or.inl rfl | exact Or.inr rfl) (pe_ix ix_seq (pv 6) pe_int (fun _ _ => rfl)))))))))
  (pss_one (ps_ret (pe_tup (pa_cons (pv 3) (pa_cons (pv 1) pa_nil))))))))))
theorem w_law_read_packet {f_law_read_triples : Addr} {d_law_read_triples : FuncData} {f : Addr} {cdv : Value} {A : Around} {outer : List Env} {s : Shared} {H : Hp} {E : XK} (T : Bt mg) (c_law_read_triples : Cl P w K mg base CX0 "_law_read_triples" lv_law_read_triples ["data", "at"] R_law_read_triples f_law_read_triples d_law_read_triples) (hr : Room lvr_law_read_packet (A.deeper (envOfC "_law_read_packet" (defScope s_law_read_packet) s.heap.objs.size f cdv))) :
  PSs (cxOf CX0 P w K mg base N_law_read_packet "_law_read_packet" (defScope s_law_read_packet) f cdv A outer s H E).nox (defBody s_law_read_packet) (t_law_read_packet K) :=
  (pss_cons (ps_if (PW.pt (pw_or (pt_cmpR op_ge (pv 1) (pe_callB dc_len (by rfl) T.len (by decide +kernel) (pa_cons (pv 0) pa_nil)) (nomark _)) (pw_or1 (pt_cmpR (op_neA hr.units) (pe_ix ix_seq (pv 0) (pv 1) (fun _ _ => rfl)) pe_int (nomark _))))) (pss_one (ps_ret pe_non)) pss_nil)
  (pss_one (ps_ret (dpe_call c_law_read_triples (hr.mono (by decide +kernel)) (by rfl) pass0 (pa_cons (pv 0) (pa_cons (pe_op op_plus (pv 1) pe_int) pa_nil))))))
theorem w_law_drawn_number {f_law_next : Addr} {d_law_next : FuncData} {f : Addr} {cdv : Value} {A : Around} {outer : List Env} {s : Shared} {H : Hp} {E : XK} (T : Bt mg) (c_law_next : Cl P w K mg base CX0 "_law_next" lv_law_next ["state", "limit"] R_law_next f_law_next d_law_next) (hr : Room lvr_law_drawn_number (A.deeper (envOfC "_law_drawn_number" (defScope s_law_drawn_number) s.heap.objs.size f cdv))) :
  PSs (cxOf CX0 P w K mg base N_law_drawn_number "_law_drawn_number" (defScope s_law_drawn_number) f cdv A outer s H E).nox (defBody s_law_drawn_number) (t_law_drawn_number K) :=
  (pss_one (ps_ret (dpe_call c_law_next (hr.mono (by decide +kernel)) (by rfl) pass0 (pa_cons (pv 0) (pa_cons (pe_ix ix_seq (pe_lst (pa_cons pe_int (pa_cons pe_int (pa_cons pe_int (pa_cons (pe_op op_pow pe_int pe_int) (pa_cons (pe_op op_times (pe_op op_pow pe_int pe_int) pe_int) pa_nil)))))) (dpe_call c_law_next (hr.mono (by decide +kernel)) (by rfl) pass0 (pa_cons (pv 0) (pa_cons pe_int pa_nil))) (fun _ _ => rfl)) pa_nil)))))
theorem w_law_drawn_text {f_law_next : Addr} {d_law_next : FuncData} {f : Addr} {cdv : Value} {A : Around} {outer : List Env} {s : Shared} {H : Hp} {E : XK} (T : Bt mg) (c_law_next : Cl P w K mg base CX0 "_law_next" lv_law_next ["state", "limit"] R_law_next f_law_next d_law_next) (hr : Room lvr_law_drawn_text (A.deeper (envOfC "_law_drawn_text" (defScope s_law_drawn_text) s.heap.objs.size f cdv))) :
  PSs (cxOf CX0 P w K mg base N_law_drawn_text "_law_drawn_text" (defScope s_law_drawn_text) f cdv A outer s H E).nox (defBody s_law_drawn_text) (t_law_drawn_text K) :=
  (pss_cons (ps_set (i := 1) sc_law_drawn_text.nd rfl (by first | exact Or.inl rfl | exact Or.inr rfl) pe_str)
  (pss_one (ps_ret (dpe_join pe_str (pe_lc (own := [("k", 2)]) rfl sc_law_drawn_text.nd (pi_range1 (by rfl) T.range (pa_cons (dpe_call c_law_next (hr.mono (by decide +kernel)) (by rfl) pass0 (pa_cons (pv 0) (pa_cons (pe_ix ix_seq (pe_lst (pa_cons pe_int (pa_cons pe_int (pa_cons pe_int (pa_cons pe_int pa_nil))))) (dpe_call c_law_next (hr.mono (by decide +kernel)) (by rfl) pass0 (pa_cons (pv 0) (pa_cons pe_int pa_nil))) (fun _ _ => rfl)) pa_nil))) pa_nil)) (blkOk_by (own := [("k", 2)]) (N := N_law_drawn_text) (sc := defScope s_law_drawn_text) (by decide +kernel)) (fun _ _ _ _ _ => (pg_name (i := 2) sc_law_drawn_text.nd rfl (by first | exact Or.inl rfl | exact Or.inr rfl))) (fun _ _ _ _ _ => pts_nil) (fun _ _ _ _ _ => (pe_ix ix_seq (pv 1) (dpe_call c_law_next (hr.mono (by decide +kernel)) (by rfl) pass0 (pa_cons (pv 0) (pa_cons (pe_callB dc_len (by rfl) T.len (by decide +kernel) (pa_cons (pv 1) pa_nil)) pa_nil))) (fun _ _ => rfl))))))))
theorem w_law_drawn_deed {f_law_drawn_number : Addr} {d_law_drawn_number : FuncData} {f_law_drawn_text : Addr} {d_law_drawn_text : FuncData} {f_law_next : Addr} {d_law_next : FuncData} {f : Addr} {cdv : Value} {A : Around} {outer : List Env} {s : Shared} {H : Hp} {E : XK} (T : Bt mg) (c_law_drawn_number : Cl P w K mg base CX0 "_law_drawn_number" lv_law_drawn_number ["state"] R_law_drawn_number f_law_drawn_number d_law_drawn_number) (c_law_drawn_text : Cl P w K mg base CX0 "_law_drawn_text" lv_law_drawn_text ["state"] R_law_drawn_text f_law_drawn_text d_law_drawn_text) (c_law_next : Cl P w K mg base CX0 "_law_next" lv_law_next ["state", "limit"] R_law_next f_law_next d_law_next) (hr : Room lvr_law_drawn_deed (A.deeper (envOfC "_law_drawn_deed" (defScope s_law_drawn_deed) s.heap.objs.size f cdv))) :
  PSs (cxOf CX0 P w K mg base N_law_drawn_deed "_law_drawn_deed" (defScope s_law_drawn_deed) f cdv A outer s H E).nox (defBody s_law_drawn_deed) (t_law_drawn_deed K) :=
  (pss_cons (ps_if (pt_cmpR (op_eqA hr.units) (dpe_call c_law_next (hr.mono (by decide +kernel)) (by rfl) pass0 (pa_cons (pv 0) (pa_cons pe_int pa_nil))) pe_int (nomark _)) (pss_one (ps_ret (pe_tup (pa_cons pe_str (pa_cons (dpe_call c_law_drawn_number (hr.mono (by decide +kernel)) (by rfl) pass0 (pa_cons (pv 0) pa_nil)) pa_nil))))) pss_nil)
  (pss_cons (ps_set (i := 1) sc_law_drawn_deed.nd rfl (by first | exact Or.inl rfl | exact Or.inr rfl) (pe_callTy dc_tuple (by rfl) T.tuple (by decide +kernel) (pa_cons (pe_lc (own := [("k", 3)]) rfl sc_law_drawn_deed.nd (pi_range1 (by rfl) T.range (pa_cons (dpe_call c_law_next (hr.mono (by decide +kernel)) (by rfl) pass0 (pa_cons (pv 0) (pa_cons pe_int pa_nil))) pa_nil)) (blkOk_by (own := [("k", 3)]) (N := N_law_drawn_deed) (sc := defScope s_law_drawn_deed) (by decide +kernel)) (fun _ _ _ _ _ => (pg_name (i := 3) sc_law_drawn_deed.nd rfl (by first | exact Or.inl rfl | exact Or.inr rfl))) (fun _ _ _ _ _ => pts_nil) (fun _ _ _ _ _ => (pe_tup (pa_cons (dpe_call c_law_drawn_number (hr.mono (by decide +kernel)) (by rfl) pass0 (pa_cons (pv 0) pa_nil)) (pa_cons (dpe_call c_law_next (hr.mono (by decide +kernel)) (by rfl) pass0 (pa_cons (pv 0) (pa_cons pe_int pa_nil))) pa_nil))))) pa_nil)))
  (pss_cons (ps_set (i := 2) sc_law_drawn_deed.nd rfl (by first | exact Or.inl rfl | exact Or.inr rfl) (pe_ix ix_seq (pe_lst (pa_cons pe_non (pa_cons (pe_tup (pa_cons (dpe_call c_law_drawn_number (hr.mono (by decide +kernel)) (by rfl) pass0 (pa_cons (pv 0) pa_nil)) (pa_cons (dpe_call c_law_next (hr.mono (by decide +kernel)) (by rfl) pass0 (pa_cons (pv 0) (pa_cons pe_int pa_nil))) pa_nil))) pa_nil))) (dpe_call c_law_next (hr.mono (by decide +kernel)) (by rfl) pass0 (pa_cons (pv 0) (pa_cons pe_int pa_nil))) (fun _ _ => rfl)))
  (pss_one (ps_ret (pe_tup (pa_cons pe_str (pa_cons (dpe_call c_law_drawn_text (hr.mono (by decide +kernel)) (by rfl) pass0 (pa_cons (pv 0) pa_nil)) (pa_cons (pv 1) (pa_cons (pv 2) (pa_cons (dpe_call c_law_drawn_number (hr.mono (by decide +kernel)) (by rfl) pass0 (pa_cons (pv 0) pa_nil)) (pa_cons (dpe_call c_law_drawn_text (hr.mono (by decide +kernel)) (by rfl) pass0 (pa_cons (pv 0) pa_nil)) pa_nil))))))))))))
theorem w_law_spoilt {f_law_next : Addr} {d_law_next : FuncData} {f : Addr} {cdv : Value} {A : Around} {outer : List Env} {s : Shared} {H : Hp} {E : XK} (T : Bt mg) (c_law_next : Cl P w K mg base CX0 "_law_next" lv_law_next ["state", "limit"] R_law_next f_law_next d_law_next) (hr : Room lvr_law_spoilt (A.deeper (envOfC "_law_spoilt" (defScope s_law_spoilt) s.heap.objs.size f cdv))) :
  PSs (cxOf CX0 P w K mg base N_law_spoilt "_law_spoilt" (defScope s_law_spoilt) f cdv A outer s H E).nox (defBody s_law_spoilt) (t_law_spoilt K) :=
  (pss_cons (ps_set (i := 2) sc_law_spoilt.nd rfl (by first | exact Or.inl rfl | exact Or.inr rfl) (dpe_call c_law_next (hr.mono (by decide +kernel)) (by rfl) pass0 (pa_cons (pv 0) (pa_cons (pe_op op_plus (pe_callB dc_len (by rfl) T.len (by decide +kernel) (pa_cons (pv 1) pa_nil)) pe_int) pa_nil))))
  (pss_cons (ps_set (i := 3) sc_law_spoilt.nd rfl (by first | exact Or.inl rfl | exact Or.inr rfl) (pe_ix ix_seq (pe_lst (pa_cons pe_int (pa_cons pe_int (pa_cons pe_int (pa_cons pe_int (pa_cons pe_int (pa_cons pe_int (pa_cons pe_int pa_nil)))))))) (dpe_call c_law_next (hr.mono (by decide +kernel)) (by rfl) pass0 (pa_cons (pv 0) (pa_cons pe_int pa_nil))) (fun _ _ => rfl)))
  (pss_cons (ps_set (i := 4) sc_law_spoilt.nd rfl (by first | exact Or.inl rfl | exact Or.inr rfl) (dpe_call c_law_next (hr.mono (by decide +kernel)) (by rfl) pass0 (pa_cons (pv 0) (pa_cons pe_int pa_nil))))
  (pss_cons (ps_if (pt_cmpR (op_eqA hr.units) (pv 4) pe_int (nomark _)) (pss_one (ps_ret (pe_slice dsl_any (pv 1) po_none (po_some (pv 2))))) pss_nil)
  (pss_cons (ps_if (pt_cmpR (op_eqA hr.units) (pv 4) pe_int (nomark _)) (pss_one (ps_ret (pe_op op_plus (pe_slice dsl_any (pv 1) po_none (po_some (pv 2))) (pe_slice dsl_any (pv 1) (po_some (pe_op op_plus (pv 2) pe_int)) po_none)))) pss_nil)
  (pss_cons (ps_if (pt_cmpR (op_eqA hr.units) (pv 4) pe_int (nomark _)) (pss_one (ps_ret (pe_op op_plus (pe_op op_plus (pe_slice dsl_any (pv 1) po_none (po_some (pv 2))) (pe_lst (pa_cons (pv 3) pa_nil))) (pe_slice dsl_any (pv 1) (po_some (pv 2)) po_none)))) pss_nil)
  (pss_cons (ps_if (pt_cmpR (op_eqA hr.units) (pv 4) pe_int (nomark _)) (pss_one (ps_ret (pe_op op_plus (pe_op op_plus (pe_slice dsl_any (pv 1) po_none (po_some (pv 2))) (pe_lst (pa_cons (pv 3) pa_nil))) (pe_slice dsl_any (pv 1) (po_some (pe_op op_plus (pv 2) pe_int)) po_none)))) pss_nil)
  (pss_one (ps_ret (pe_lc (own := [("k", 5)]) rfl sc_law_spoilt.nd (pi_range1 (by rfl) T.range (pa_cons (dpe_call c_law_next (hr.mono (by decide +kernel)) (by rfl) pass0 (pa_cons (pv 0) (pa_cons pe_int pa_nil))) pa_nil)) (blkOk_by (own := [("k", 5)]) (N := N_law_spoilt) (sc := defScope s_law_spoilt) (by decide +kernel)) (fun _ _ _ _ _ => (pg_name (i := 5) sc_law_spoilt.nd rfl (by first | exact Or.inl rfl | exact Or.inr rfl))) (fun _ _ _ _ _ => pts_nil) (fun _ _ _ _ _ => (dpe_call c_law_next (hr.mono (by decide +kernel)) (by rfl) pass0 (pa_cons (pv 0) (pa_cons (pe_ix ix_seq (pe_lst (pa_cons pe_int (pa_cons pe_int pa_nil))) (dpe_call c_law_next (hr.mono (by decide +kernel)) (by rfl) pass0 (pa_cons (pv 0) (pa_cons pe_int pa_nil))) (fun _ _ => rfl)) pa_nil))))))))))))))
theorem w_law_told {f_Reader_end : Addr} {d_Reader_end : FuncData} {f_Reader_init : Addr} {d_Reader_init : FuncData} {f_Reader_read_deed : Addr} {d_Reader_read_deed : FuncData} {f_Reader_read_number : Addr} {d_Reader_read_number : FuncData} {f_Reader_read_packet : Addr} {d_Reader_read_packet : FuncData} {f_Reader_read_string : Addr} {d_Reader_read_string : FuncData} {f_Reader_read_triples : Addr} {d_Reader_read_triples : FuncData} {c : CA} {f : Addr} {cdv : Value} {A : Around} {outer : List Env} {s : Shared} {H : Hp} {E : XK} (T : Bt mg) (c_Reader_end : Cm P w K mg base (L2.CX P w) c.Reader "end" lv_Reader_end ["self"] (R_Reader_end c) f_Reader_end d_Reader_end) (c_Reader_init : Cc P w K mg base CX0 "Reader" c.Reader lv_Reader_init ["self", "data"] (R_Reader_init c) f_Reader_init d_Reader_init) (c_Reader_read_deed : Cm P w K mg base (L2.CX P w) c.Reader "read_deed" lv_Reader_read_deed ["self"] (R_Reader_read_deed c) f_Reader_read_deed d_Reader_read_deed) (c_Reader_read_number : Cm P w K mg base (L2.CX P w) c.Reader "read_number" lv_Reader_read_number ["self"] (R_Reader_read_number c) f_Reader_read_number d_Reader_read_number) (c_Reader_read_packet : Cm P w K mg base (L2.CX P w) c.Reader "read_packet" lv_Reader_read_packet ["self"] (R_Reader_read_packet c) f_Reader_read_packet d_Reader_read_packet) (c_Reader_read_string : Cm P w K mg base (L2.CX P w) c.Reader "read_string" lv_Reader_read_string ["self"] (R_Reader_read_string c) f_Reader_read_string d_Reader_read_string) (c_Reader_read_triples : Cm P w K mg base (L2.CX P w) c.Reader "read_triples" lv_Reader_read_triples ["self"] (R_Reader_read_triples c) f_Reader_read_triples d_Reader_read_triples) (X : CF K c) (e_DamagedPacket : Ce K mg "DamagedPacket" c.DamagedPacket) (hr : Room lvr_law_told (A.deeper (envOfC "_law_told" (defScope s_law_told) s.heap.objs.size f cdv))) :
  PSs (cxOf CX0 P w K mg base N_law_told "_law_told" (defScope s_law_told) f cdv A outer s H E).nox (defBody s_law_told) (t_law_told K c) :=
  (pss_cons (ps_set (i := 2) sc_law_told.nd rfl (by first | exact Or.inl rfl | exact Or.inr rfl) (dpe_make c_Reader_init (hr.mono (by decide +kernel)) (by rfl) pass0 (pa_cons (pe_callTy dc_list (by rfl) T.list (by decide +kernel) (pa_cons (pv 1) pa_nil)) pa_nil)))
  (pss_cons (dps_try (tb := fun W => (tIfS (tTest (tOp (rEqA K) (tVar 0) (tC (.int 0)))) (tAsg (tCallS (spD K (R_Reader_read_number c)) (WE W) (methA c.Reader "read_number" (tVar 2) tNil)) (gName 3)) (tIfS (tTest (tOp (rEqA K) (tVar 0) (tC (.int 1)))) (tAsg (tCallS (spD K (R_Reader_read_string c)) (WE W) (methA c.Reader "read_string" (tVar 2) tNil)) (gName 3)) (tIfS (tTest (tOp (rEqA K) (tVar 0) (tC (.int 2)))) (tAsg (tCallS (spD K (R_Reader_read_deed c)) (WE W) (methA c.Reader "read_deed" (tVar 2) tNil)) (gName 3)) (tIfS (tTest (tOp (rEqA K) (tVar 0) (tC (.int 3)))) (tAsg (tCallS (spD K (R_Reader_read_triples c)) (WE W) (methA c.Reader "read_triples" (tVar 2) tNil)) (gName 3)) (tAsg (tCallS (spD K (R_Reader_read_packet c)) (WE W) (methA c.Reader "read_packet" (tVar 2) tNil)) (gName 3))))))) (ts := (tRet (tC .non))) (Wout := (fun _ _ _ _ => False)) rfl rfl ⟨rfl, by decide, .inl e_DamagedPacket.g⟩ takes0 (fun W pn xe tk own => (pss_one (ps_if (pt_cmpR (op_eqA hr.units) (pv 0) pe_int (nomark _)) (pss_one (ps_set (i := 3) sc_law_told.nd rfl (by first | exact Or.inl rfl | exact Or.inr rfl) (dpe_methS0 (pv 2) X.cl_Reader c_Reader_read_number (hr.mono (by decide +kernel)) (fun σ => passAt tk σ)))) (pss_one (ps_if (pt_cmpR (op_eqA hr.units) (pv 0) pe_int (nomark _)) (pss_one (ps_set (i := 3) sc_law_told.nd rfl (by first | exact Or.inl rfl | exact Or.inr rfl) (dpe_methS0 (pv 2) X.cl_Reader c_Reader_read_string (hr.mono (by decide +kernel)) (fun σ => passAt tk σ)))) (pss_one (ps_if (pt_cmpR (op_eqA hr.units) (pv 0) pe_int (nomark _)) (pss_one (ps_set (i := 3) sc_law_told.nd rfl (by first | exact Or.inl rfl | exact Or.inr rfl) (dpe_methS0 (pv 2) X.cl_Reader c_Reader_read_deed (hr.mono (by decide +kernel)) (fun σ => passAt tk σ)))) (pss_one (ps_if (pt_cmpR (op_eqA hr.units) (pv 0) pe_int (nomark _)) (pss_one (ps_set (i := 3) sc_law_told.nd rfl (by first | exact Or.inl rfl | exact Or.inr rfl) (dpe_methS0 (pv 2) X.cl_Reader c_Reader_read_triples (hr.mono (by decide +kernel)) (fun σ => passAt tk σ)))) (pss_one (ps_set (i := 3) sc_law_told.nd rfl (by first | exact Or.inl rfl | exact Or.inr rfl) (dpe_methS0 (pv 2) X.cl_Reader c_Reader_read_packet (hr.mono (by decide +kernel)) (fun σ => passAt tk σ))))))))))))) (fun a oe cls d pn _ _ => (pss_one (ps_ret pe_non))))
  (pss_cons (ps_set (i := 4) sc_law_told.nd rfl (by first | exact Or.inl rfl | exact Or.inr rfl) (pe_fld (pv 2) rfl))
  (pss_cons (dps_try (tb := fun W => (tSeq (tDrop (tCallS (spD K (R_Reader_end c)) (WE W) (methA c.Reader "end" (tVar 2) tNil)))
  (tAsg (tC (.bl true)) (gName 5)))) (ts := (tAsg (tC (.bl false)) (gName 5))) (Wout := (fun _ _ _ _ => False)) rfl rfl ⟨rfl, by decide, .inl e_DamagedPacket.g⟩ takes0 (fun W pn xe tk own => (pss_cons (ps_expr (dpe_methS0 (pv 2) X.cl_Reader c_Reader_end (hr.mono (by decide +kernel)) (fun σ => passAt tk σ)))
  (pss_one (ps_set (i := 5) sc_law_told.nd rfl (by first | exact Or.inl rfl | exact Or.inr rfl) pe_bl)))) (fun a oe cls d pn _ _ => (pss_one (ps_set (i := 5) sc_law_told.nd rfl (by first | exact Or.inl rfl | exact Or.inr rfl) pe_bl))))
  (pss_one (ps_ret (pe_ifExp (pt_cmpR (op_eqA hr.units) (pv 5) (pe_cmpR (op_eqA hr.units) (pv 4) (pe_callB dc_len (by rfl) T.len (by decide +kernel) (pa_cons (pv 1) pa_nil)) (nomark _)) (nomark _)) (pe_tup (pa_cons (pv 3) (pa_cons (pv 4) pa_nil))) (pe_tup (pa_cons pe_str (pa_cons (pv 4) pa_nil))))))))))
theorem w_law_own {f_law_read_deed : Addr} {d_law_read_deed : FuncData} {f_law_read_number : Addr} {d_law_read_number : FuncData} {f_law_read_packet : Addr} {d_law_read_packet : FuncData} {f_law_read_text : Addr} {d_law_read_text : FuncData} {f_law_read_triples : Addr} {d_law_read_triples : FuncData} {f : Addr} {cdv : Value} {A : Around} {outer : List Env} {s : Shared} {H : Hp} {E : XK} (T : Bt mg) (c_law_read_deed : Cl P w K mg base CX0 "_law_read_deed" lv_law_read_deed ["data", "at"] R_law_read_deed f_law_read_deed d_law_read_deed) (c_law_read_number : Cl P w K mg base CX0 "_law_read_number" lv_law_read_number ["data", "at"] R_law_read_number f_law_read_number d_law_read_number) (c_law_read_packet : Cl P w K mg base CX0 "_law_read_packet" lv_law_read_packet ["data", "at"] R_law_read_packet f_law_read_packet d_law_read_packet) (c_law_read_text : Cl P w K mg base CX0 "_law_read_text" lv_law_read_text ["data", "at"] R_law_read_text f_law_read_text d_law_read_text) (c_law_read_triples : Cl P w K mg base CX0 "_law_read_triples" lv_law_read_triples ["data", "at"] R_law_read_triples f_law_read_triples d_law_read_triples) (hr : Room lvr_law_own (A.deeper (envOfC "_law_own" (defScope s_law_own) s.heap.objs.size f cdv))) :
  PSs (cxOf CX0 P w K mg base N_law_own "_law_own" (defScope s_law_own) f cdv A outer s H E).nox (defBody s_law_own) (t_law_own K) :=
  (pss_cons (ps_if (pt_cmpR (op_eqA hr.units) (pv 0) pe_int (nomark _)) (pss_one (ps_ret (dpe_call c_law_read_number (hr.mono (by decide +kernel)) (by rfl) pass0 (pa_cons (pv 1) (pa_cons pe_int pa_nil))))) pss_nil)
  (pss_cons (ps_if (pt_cmpR (op_eqA hr.units) (pv 0) pe_int (nomark _)) (pss_one (ps_ret (dpe_call c_law_read_text (hr.mono (by decide +kernel)) (by rfl) pass0 (pa_cons (pv 1) (pa_cons pe_int pa_nil))))) pss_nil)
  (pss_cons (ps_if (pt_cmpR (op_eqA hr.units) (pv 0) pe_int (nomark _)) (pss_one (ps_ret (dpe_call c_law_read_deed (hr.mono (by decide +kernel)) (by rfl) pass0 (pa_cons (pv 1) (pa_cons pe_int pa_nil))))) pss_nil)
  (pss_one (ps_ret (pe_ifExp (pt_cmpR (op_eqA hr.units) (pv 0) pe_int (nomark _)) (dpe_call c_law_read_triples (hr.mono (by decide +kernel)) (by rfl) pass0 (pa_cons (pv 1) (pa_cons pe_int pa_nil))) (dpe_call c_law_read_packet (hr.mono (by decide +kernel)) (by rfl) pass0 (pa_cons (pv 1) (pa_cons pe_int pa_nil)))))))))
theorem w_law_in_a_row {f_Reader_end : Addr} {d_Reader_end : FuncData} {f_Reader_init : Addr} {d_Reader_init : FuncData} {f_Reader_read_deed : Addr} {d_Reader_read_deed : FuncData} {f_Reader_read_number : Addr} {d_Reader_read_number : FuncData} {f_Reader_read_packet : Addr} {d_Reader_read_packet : FuncData} {f_Reader_read_string : Addr} {d_Reader_read_string : FuncData} {f_Reader_read_triples : Addr} {d_Reader_read_triples : FuncData} {f_law_same : Addr} {d_law_same : FuncData} {c : CA} {f : Addr} {cdv : Value} {A : Around} {outer : List Env} {s : Shared} {H : Hp} {E : XK} (T : Bt mg) (c_Reader_end : Cm P w K mg base (L2.CX P w) c.Reader "end" lv_Reader_end ["self"] (R_Reader_end c) f_Reader_end d_Reader_end) (c_Reader_init : Cc P w K mg base CX0 "Reader" c.Reader lv_Reader_init ["self", "data"] (R_Reader_init c) f_Reader_init d_Reader_init) (c_Reader_read_deed : Cm P w K mg base (L2.CX P w) c.Reader "read_deed" lv_Reader_read_deed ["self"] (R_Reader_read_deed c) f_Reader_read_deed d_Reader_read_deed) (c_Reader_read_number : Cm P w K mg base (L2.CX P w) c.Reader "read_number" lv_Reader_read_number ["self"] (R_Reader_read_number c) f_Reader_read_number d_Reader_read_number) (c_Reader_read_packet : Cm P w K mg base (L2.CX P w) c.Reader "read_packet" lv_Reader_read_packet ["self"] (R_Reader_read_packet c) f_Reader_read_packet d_Reader_read_packet) (c_Reader_read_string : Cm P w K mg base (L2.CX P w) c.Reader "read_string" lv_Reader_read_string ["self"] (R_Reader_read_string c) f_Reader_read_string d_Reader_read_string) (c_Reader_read_triples : Cm P w K mg base (L2.CX P w) c.Reader "read_triples" lv_Reader_read_triples ["self"] (R_Reader_read_triples c) f_Reader_read_triples d_Reader_read_triples) (c_law_same : Cl P w K mg base CX0 "_law_same" lv_law_same ["actual", "expected"] (R_law_same 8) f_law_same d_law_same) (X : CF K c) (hr : Room lvr_law_in_a_row (A.deeper (envOfC "_law_in_a_row" (defScope s_law_in_a_row) s.heap.objs.size f cdv))) :
  PSs (cxOf CX0 P w K mg base N_law_in_a_row "_law_in_a_row" (defScope s_law_in_a_row) f cdv A outer s H E).nox (defBody s_law_in_a_row) (t_law_in_a_row K c) :=
  (pss_cons (ps_set (i := 2) sc_law_in_a_row.nd rfl (by first | exact Or.inl rfl | exact Or.inr rfl) (pe_lst pa_nil))
  (pss_cons (ps_for PassesOwn.never rfl (pi_list (pv 1)) (pg_name (i := 3) sc_law_in_a_row.nd rfl (by first | exact Or.inl rfl | exact Or.inr rfl)) (pss_one (ps_set (i := 2) sc_law_in_a_row.nd rfl (by first | exact Or.inl rfl | exact Or.inr rfl) (pe_op op_plus (pv 2) (pv 3)))))
  (pss_cons (ps_set (i := 4) sc_law_in_a_row.nd rfl (by first | exact Or.inl rfl | exact Or.inr rfl) (dpe_make c_Reader_init (hr.mono (by decide +kernel)) (by rfl) pass0 (pa_cons (pv 2) pa_nil)))
  (pss_cons (ps_expr (pe_bm PySem.F.plainAttrs_list PySem.F.slot_list_append PySem.F.type_list_append mt_append (pv 2) (pa_cons pe_int pa_nil)))
  (pss_cons (ps_if (pt_cmpR (op_neA hr.units) (pe_fld (pv 4) rfl) pe_int (nomark _)) (pss_one (ps_ret pe_bl)) pss_nil)
  (pss_cons (ps_set (i := 5) sc_law_in_a_row.nd rfl (by first | exact Or.inl rfl | exact Or.inr rfl) (pe_lst (pa_cons (dpe_meth0 (pv 4) X.cl_Reader c_Reader_read_number (hr.mono (by decide +kernel)) passL) (pa_cons (dpe_meth0 (pv 4) X.cl_Reader c_Reader_read_string (hr.mono (by decide +kernel)) passL) (pa_cons (dpe_meth0 (pv 4) X.cl_Reader c_Reader_read_deed (hr.mono (by decide +kernel)) passL) (pa_cons (dpe_meth0 (pv 4) X.cl_Reader c_Reader_read_triples (hr.mono (by decide +kernel)) passL) (pa_cons (dpe_meth0 (pv 4) X.cl_Reader c_Reader_read_packet (hr.mono (by decide +kernel)) passL) pa_nil)))))))
  (pss_cons (ps_expr (dpe_meth0 (pv 4) X.cl_Reader c_Reader_end (hr.mono (by decide +kernel)) passL))
  (pss_one (ps_ret (dpe_call c_law_same (hr.mono (by decide +kernel)) (by rfl) pass0 (pa_cons (pv 5) (pa_cons (pv 0) pa_nil))))))))))))
theorem w_law {f_law_deed : Addr} {d_law_deed : FuncData} {f_law_drawn_deed : Addr} {d_law_drawn_deed : FuncData} {f_law_drawn_number : Addr} {d_law_drawn_number : FuncData} {f_law_drawn_text : Addr} {d_law_drawn_text : FuncData} {f_law_in_a_row : Addr} {d_law_in_a_row : FuncData} {f_law_next : Addr} {d_law_next : FuncData} {f_law_number : Addr} {d_law_number : FuncData} {f_law_own : Addr} {d_law_own : FuncData} {f_law_same : Addr} {d_law_same : FuncData} {f_law_spoilt : Addr} {d_law_spoilt : FuncData} {f_law_text : Addr} {d_law_text : FuncData} {f_law_told : Addr} {d_law_told : FuncData} {f_law_triples : Addr} {d_law_triples : FuncData} {f_write_deed : Addr} {d_write_deed : FuncData} {f_write_number : Addr} {d_write_number : FuncData} {f_write_packet : Addr} {d_write_packet : FuncData} {f_write_string : Addr} {d_write_string : FuncData} {f_write_triples : Addr} {d_write_triples : FuncData} {c : CA} {f : Addr} {cdv : Value} {A : Around} {outer : List Env} {s : Shared} {H : Hp} {E : XK} (T : Bt mg) (c_law_deed : Cl P w K mg base CX0 "_law_deed" lv_law_deed ["deed"] R_law_deed f_law_deed d_law_deed) (c_law_drawn_deed : Cl P w K mg base CX0 "_law_drawn_deed" lv_law_drawn_deed ["state"] R_law_drawn_deed f_law_drawn_deed d_law_drawn_deed) (c_law_drawn_number : Cl P w K mg base CX0 "_law_drawn_number" lv_law_drawn_number ["state"] R_law_drawn_number f_law_drawn_number d_law_drawn_number) (c_law_drawn_text : Cl P w K mg base CX0 "_law_drawn_text" lv_law_drawn_text ["state"] R_law_drawn_text f_law_drawn_text d_law_drawn_text) (c_law_in_a_row : Cl P w K mg base CX0 "_law_in_a_row" lv_law_in_a_row ["things", "written"] (R_law_in_a_row c) f_law_in_a_row d_law_in_a_row) (c_law_next : Cl P w K mg base CX0 "_law_next" lv_law_next ["state", "limit"] R_law_next f_law_next d_law_next) (c_law_number : Cl P w K mg base CX0 "_law_number" lv_law_number ["number"] R_law_number f_law_number d_law_number) (c_law_own : Cl P w K mg base CX0 "_law_own" lv_law_own ["kind", "data"] R_law_own f_law_own d_law_own) (c_law_same : Cl P w K mg base CX0 "_law_same" lv_law_same ["actual", "expected"] (R_law_same 8) f_law_same d_law_same) (c_law_spoilt : Cl P w K mg base CX0 "_law_spoilt" lv_law_spoilt ["state", "data"] R_law_spoilt f_law_spoilt d_law_spoilt) (c_law_text : Cl P w K mg base CX0 "_law_text" lv_law_text ["text"] R_law_text f_law_text d_law_text) (c_law_told : Cl P w K mg base CX0 "_law_told" lv_law_told ["kind", "data"] (R_law_told c) f_law_told d_law_told) (c_law_triples : Cl P w K mg base CX0 "_law_triples" lv_law_triples ["triples"] R_law_triples f_law_triples d_law_triples) (c_write_deed : Cl P w K mg base CX0 "write_deed" lv_write_deed ["deed"] R_write_deed f_write_deed d_write_deed) (c_write_number : Cl P w K mg base CX0 "write_number" lv_write_number ["number"] R_write_number f_write_number d_write_number) (c_write_packet : Cl P w K mg base CX0 "write_packet" lv_write_packet ["packet"] R_write_packet f_write_packet d_write_packet) (c_write_string : Cl P w K mg base CX0 "write_string" lv_write_string ["text"] R_write_string f_write_string d_write_string) (c_write_triples : Cl P w K mg base CX0 "write_triples" lv_write_triples ["triples"] R_write_triples f_write_triples d_write_triples) (X : CF K c) (hr : Room lvr_law (A.deeper (envOfC "law" (defScope s_law) s.heap.objs.size f cdv))) :
  PSs (cxOf CX0 P w K mg base N_law "law" (defScope s_law) f cdv A outer s H E).nox (defBody s_law) (t_law K c) :=
  (pss_cons (ps_set (i := 1) sc_law.nd rfl (by first | exact Or.inl rfl | exact Or.inr rfl) (pe_lst (pa_cons (pe_callTy dc_list (by rfl) T.list (by decide +kernel) (pa_cons (pv 0) pa_nil)) (pa_cons pe_int (pa_cons pe_int (pa_cons pe_int pa_nil))))))
  (pss_cons (ps_for PassesOwn.never rfl (pi_range1 (by rfl) T.range (pa_cons pe_int pa_nil)) (pg_name (i := 2) sc_law.nd rfl (by first | exact Or.inl rfl | exact Or.inr rfl)) (pss_cons (ps_set (i := 3) sc_law.nd rfl (by first | exact Or.inl rfl | exact Or.inr rfl) (dpe_call c_law_drawn_number (hr.mono (by decide +kernel)) (by rfl) pass0 (pa_cons (pv 1) pa_nil)))
  (pss_cons (ps_set (i := 4) sc_law.nd rfl (by first | exact Or.inl rfl | exact Or.inr rfl) (dpe_call c_law_drawn_text (hr.mono (by decide +kernel)) (by rfl) pass0 (pa_cons (pv 1) pa_nil)))
  (pss_cons (ps_set (i := 5) sc_law.nd rfl (by first | exact Or.inl rfl | exact Or.inr rfl) (dpe_call c_law_drawn_deed (hr.mono (by decide +kernel)) (by rfl) pass0 (pa_cons (pv 1) pa_nil)))
  (pss_cons (ps_setLc (i := 6) (own := [("j", 12)]) rfl sc_law.nd rfl rfl (sw_true rfl rfl rfl (by decide +kernel)) (pi_range1 (by rfl) T.range (pa_cons (dpe_call c_law_next (hr.mono (by decide +kernel)) (by rfl) pass0 (pa_cons (pv 1) (pa_cons pe_int pa_nil))) pa_nil)) (blkOk_by (own := [("j", 12)]) (N := N_law) (sc := defScope s_law) (by decide +kernel)) (fun _ _ _ _ _ => (pg_name (i := 12) sc_law.nd rfl (by first | exact Or.inl rfl | exact Or.inr rfl))) (fun _ _ _ _ _ => pts_nil) (fun _ _ _ _ _ => (pe_tup (pa_cons (dpe_call c_law_next (hr.mono (by decide +kernel)) (by rfl) pass0 (pa_cons (pv 1) (pa_cons pe_int pa_nil))) (pa_cons (dpe_call c_law_drawn_number (hr.mono (by decide +kernel)) (by rfl) pass0 (pa_cons (pv 1) pa_nil)) (pa_cons (dpe_call c_law_drawn_deed (hr.mono (by decide +kernel)) (by rfl) pass0 (pa_cons (pv 1) pa_nil)) pa_nil))))))
  (pss_cons (ps_set (i := 7) sc_law.nd rfl (by first | exact Or.inl rfl | exact Or.inr rfl) (pe_lst (pa_cons (dpe_call c_write_number (hr.mono (by decide +kernel)) (by rfl) pass0 (pa_cons (pv 3) pa_nil)) (pa_cons (dpe_call c_write_string (hr.mono (by decide +kernel)) (by rfl) pass0 (pa_cons (pv 4) pa_nil)) (pa_cons (dpe_call c_write_deed (hr.mono (by decide +kernel)) (by rfl) pass0 (pa_cons (pv 5) pa_nil)) (pa_cons (dpe_call c_write_triples (hr.mono (by decide +kernel)) (by rfl) pass0 (pa_cons (pe_callTy dc_list (by rfl) T.list (by decide +kernel) (pa_cons (pv 6) pa_nil)) pa_nil)) (pa_cons (dpe_call c_write_packet (hr.mono (by decide +kernel)) (by rfl) pass0 (pa_cons (pe_callTy dc_list (by rfl) T.list (by decide +kernel) (pa_cons (pv 6) pa_nil)) pa_nil)) pa_nil)))))))
  (pss_cons (ps_set (i := 8) sc_law.nd rfl (by first | exact Or.inl rfl | exact Or.inr rfl) (dpe_call c_law_triples (hr.mono (by decide +kernel)) (by rfl) pass0 (pa_cons (pv 6) pa_nil)))
  (pss_cons (ps_if (pt_not (pt_val (dpe_call c_law_same (hr.mono (by decide +kernel)) (by rfl) pass0 (pa_cons (pv 7) (pa_cons (pe_lst (pa_cons (dpe_call c_law_number (hr.mono (by decide +kernel)) (by rfl) pass0 (pa_cons (pv 3) pa_nil)) (pa_cons (dpe_call c_law_text (hr.mono (by decide +kernel)) (by rfl) pass0 (pa_cons (pv 4) pa_nil)) (pa_cons (dpe_call c_law_deed (hr.mono (by decide +kernel)) (by rfl) pass0 (pa_cons (pv 5) pa_nil)) (pa_cons (pv 8) (pa_cons (pe_op op_plus (pe_lst (pa_cons pe_int pa_nil)) (pv 8)) pa_nil)))))) pa_nil))))) (pss_one (ps_ret pe_bl)) pss_nil)
  (pss_cons (ps_set (i := 9) sc_law.nd rfl (by first | exact Or.inl rfl | exact Or.inr rfl) (pe_lst (pa_cons (pv 3) (pa_cons (pv 4) (pa_cons (pv 5) (pa_cons (pv 6) (pa_cons (pv 6) pa_nil)))))))
  (pss_cons (ps_if (pt_not (pt_val (dpe_call c_law_in_a_row (hr.mono (by decide +kernel)) (by rfl) pass0 (pa_cons (pv 9) (pa_cons (pv 7) pa_nil))))) (pss_one (ps_ret pe_bl)) pss_nil)
  (pss_cons (ps_set (i := 10) sc_law.nd rfl (by first | exact Or.inl rfl | exact Or.inr rfl) (pe_op op_plus (pe_lc (own := [("j", 12)]) rfl sc_law.nd (pi_range1 (by rfl) T.range (pa_cons (dpe_call c_law_next (hr.mono (by decide +kernel)) (by rfl) pass0 (pa_cons (pv 1) (pa_cons pe_int pa_nil))) pa_nil)) (blkOk_by (own := [("j", 12)]) (N := N_law) (sc := defScope s_law) (by decide +kernel)) (fun _ _ _ _ _ => (pg_name (i := 12) sc_law.nd rfl (by first | exact Or.inl rfl | exact Or.inr rfl))) (fun _ _ _ _ _ => pts_nil) (fun _ _ _ _ _ => (pe_op op_plus pe_int (dpe_call c_law_next (hr.mono (by decide +kernel)) (by rfl) pass0 (pa_cons (pv 1) (pa_cons pe_int pa_nil)))))) (pe_lst (pa_cons (dpe_call c_law_next (hr.mono (by decide +kernel)) (by rfl) pass0 (pa_cons (pv 1) (pa_cons pe_int pa_nil))) pa_nil))))
  (pss_cons (ps_if (pt_not (pt_val (dpe_call c_law_same (hr.mono (by decide +kernel)) (by rfl) pass0 (pa_cons (dpe_call c_law_told (hr.mono (by decide +kernel)) (by rfl) pass0 (pa_cons pe_int (pa_cons (pv 10) pa_nil))) (pa_cons (dpe_call c_law_own (hr.mono (by decide +kernel)) (by rfl) pass0 (pa_cons pe_int (pa_cons (pv 10) pa_nil))) pa_nil))))) (pss_one (ps_ret pe_bl)) pss_nil)
  (pss_one (ps_for PassesOwn.never rfl (pi_range1 (by rfl) T.range (pa_cons pe_int pa_nil)) (pg_name (i := 11) sc_law.nd rfl (by first | exact Or.inl rfl | exact Or.inr rfl)) (pss_cons (ps_if (pt_not (pt_val (dpe_call c_law_same (hr.mono (by decide +kernel)) (by rfl) pass0 (pa_cons (dpe_call c_law_told (hr.mono (by decide +kernel)) (by rfl) pass0 (pa_cons (pv 11) (pa_cons (pe_ix ix_seq (pv 7) (pv 11) (fun _ _ => rfl)) pa_nil))) (pa_cons (pe_tup (pa_cons (pe_ix ix_seq (pv 9) (pv 11) (fun _ _ => rfl)) (pa_cons (pe_callB dc_len (by rfl) T.len (by decide +kernel) (pa_cons (pe_ix ix_seq (pv 7) (pv 11) (fun _ _ => rfl)) pa_nil)) pa_nil))) pa_nil))))) (pss_one (ps_ret pe_bl)) pss_nil)
  (pss_one (ps_for PassesOwn.never rfl (pi_range1 (by rfl) T.range (pa_cons pe_int pa_nil)) (pg_name (i := 12) sc_law.nd rfl (by first | exact Or.inl rfl | exact Or.inr rfl)) (pss_cons (ps_set (i := 13) sc_law.nd rfl (by first | exact Or.inl rfl | exact Or.inr rfl) (dpe_call c_law_spoilt (hr.mono (by decide +kernel)) (by rfl) pass0 (pa_cons (pv 1) (pa_cons (pe_callTy dc_list (by rfl) T.list (by decide +kernel) (pa_cons (pe_ix ix_seq (pv 7) (pv 11) (fun _ _ => rfl)) pa_nil)) pa_nil))))
  (pss_one (ps_if (pt_not (pt_val (dpe_call c_law_same (hr.mono (by decide +kernel)) (by rfl) pass0 (pa_cons (dpe_call c_law_told (hr.mono (by decide +kernel)) (by rfl) pass0 (pa_cons (pv 11) (pa_cons (pv 13) pa_nil))) (pa_cons (dpe_call c_law_own (hr.mono (by decide +kernel)) (by rfl) pass0 (pa_cons (pv 11) (pa_cons (pv 13) pa_nil))) pa_nil))))) (pss_one (ps_ret pe_bl)) pss_nil))))))))))))))))))))
  (pss_one (ps_ret pe_bl))))
end
end K12

namespace K12
open PySem PySem.Spec PyProof.Rows L2 DW
local macro_rules | `(tactic| walk_at "side") => `(tactic| first | rfl | assumption | omega | (simp only [szL, S_len, List.length_append, List.length_map, List.length_cons, List.length_nil]; omega) | decide)
local macro_rules | `(tactic| walk_at "els") => `(tactic| first | exact Els.l | exact Els.d)
local macro_rules | `(tactic| walk_at "pos") => `(tactic| first | assumption | decide | omega | exact Or.inr (by decide) | exact Or.inl (by decide) | exact ⟨by decide, by decide +kernel⟩ | exact ⟨by decide, by decide, by decide⟩)
local macro_rules | `(tactic| walk_at "at") => `(tactic| first | assumption | rfl)
local macro_rules | `(tactic| walk_at "O") => `(tactic| first
  | focus ((with_reducible apply od_plusI); (rfl); (rfl); (rfl); (rfl); done)
  | focus ((with_reducible apply od_plusS); (rfl); (rfl); (rfl); (rfl); (walk_at "side"); done)
  | focus ((with_reducible apply od_plusL); (rfl); (walk_at "els"); (rfl); (walk_at "els"); (walk_at "side"); done)
  | focus ((with_reducible apply od_plusT); (rfl); (rfl); (walk_at "side"); done)
  | focus ((with_reducible apply od_ixL); (rfl); (walk_at "els"); (rfl); (rfl); (walk_at "at"); done)
  | focus ((with_reducible apply od_ixT); (rfl); (rfl); (rfl); (walk_at "at"); done)
  | focus ((with_reducible apply od_ixS); (rfl); (rfl); (rfl); (rfl); (walk_at "side"); (walk_at "at"); done)
  | focus ((with_reducible apply od_ixC); (rfl); (rfl); (rfl); (walk_at "at"); done)
  | focus ((with_reducible apply od_ixRx); (rfl); (rfl); (rfl); (walk_at "at"); (walk_at "at"); (rfl); done)
  | focus ((with_reducible apply od_ixQx); (rfl); (rfl); (walk_at "at"); (walk_at "at"); (rfl); done)
  | focus ((with_reducible apply od_sub); (rfl); (rfl); (rfl); (rfl); done)
  | focus ((with_reducible apply od_fdiv); (rfl); (rfl); (rfl); (rfl); (walk_at "pos"); done)
  | focus ((with_reducible apply od_mod); (rfl); (rfl); (rfl); (rfl); (walk_at "pos"); done)
  | focus ((with_reducible apply od_pow); (rfl); (rfl); (rfl); (rfl); (walk_at "pos"); done)
  | focus ((with_reducible apply od_lt); (rfl); (rfl); (rfl); (rfl); done)
  | focus ((with_reducible apply od_le); (rfl); (rfl); (rfl); (rfl); done)
  | focus ((with_reducible apply od_gt); (rfl); (rfl); (rfl); (rfl); done)
  | focus ((with_reducible apply od_ge); (rfl); (rfl); (rfl); (rfl); done)
  | focus ((with_reducible apply od_eqI); (rfl); (rfl); (rfl); (rfl); done)
  | focus ((with_reducible apply od_eqS); (rfl); (rfl); (rfl); (rfl); done)
  | focus ((with_reducible apply od_eqB); (rfl); (rfl); (rfl); (rfl); done)
  | focus ((with_reducible apply od_neI); (rfl); (rfl); (rfl); (rfl); done)
  | focus ((with_reducible apply od_neS); (rfl); (rfl); (rfl); (rfl); done)
  | focus ((with_reducible apply od_neB); (rfl); (rfl); (rfl); (rfl); done)
  | focus ((with_reducible apply od_timesI); (rfl); (rfl); (rfl); (rfl); (walk_at "pos"); done)
  | focus ((with_reducible apply od_isN); (rfl); (rfl); done)
  | focus ((with_reducible apply od_isnotN); (rfl); (rfl); done)
  | focus ((with_reducible apply od_inT); (rfl); (rfl); (rfl); (rfl); (rfl); done)
  | focus ((with_reducible apply od_notinT); (rfl); (rfl); (rfl); (rfl); (rfl); done))
local macro_rules | `(tactic| walk_at "kit") => `(tactic| first | exact kit_NoneType_bool | exact kit_NoneType_int | exact kit_NoneType_str | exact kit_NoneType_list | exact kit_NoneType_tuple | exact kit_bool_bool | exact kit_bool_int | exact kit_bool_str | exact kit_bool_list | exact kit_bool_tuple | exact kit_int_bool | exact kit_int_int | exact kit_int_str | exact kit_int_list | exact kit_int_tuple | exact kit_str_bool | exact kit_str_int | exact kit_str_str | exact kit_str_list | exact kit_str_tuple | exact kit_list_bool | exact kit_list_int | exact kit_list_str | exact kit_list_list | exact kit_list_tuple | exact kit_tuple_bool | exact kit_tuple_int | exact kit_tuple_str | exact kit_tuple_list | exact kit_tuple_tuple | exact kit_dict_bool | exact kit_dict_int | exact kit_dict_str | exact kit_dict_list | exact kit_dict_tuple)
local macro_rules | `(tactic| walk_at "C") => `(tactic| fail)
local macro_rules | `(tactic| walk_at "E") => `(tactic| first
  | exact ee_int | exact ee_str | exact ee_bl | exact ee_non
  | exact ee_var rfl rfl
  | (walk_at "C")
  | focus ((with_reducible apply ee_op); (walk_at "E"); (walk_at "E"); (rfl); (walk_at "O"); done)
  | focus ((with_reducible apply ee_lst); (walk_at "A"); (walk_at "side"); done)
  | focus ((with_reducible apply ee_tup); (walk_at "A"); (walk_at "side"); done)
  | focus ((with_reducible apply ee_isi); (walk_at "E"); (rfl); (rfl); (walk_at "kit"); done)
  | focus ((with_reducible apply ee_isiT); (walk_at "E"); (rfl); (rfl); (walk_at "kit"); (walk_at "kit"); (rfl); done)
  | focus ((with_reducible apply ee_cb); (walk_at "EA"); (walk_at "F"); done)
  | focus ((with_reducible apply ee_not); (walk_at "E"); done)
  | focus ((with_reducible apply ee_and); (walk_at "E"); (intro; walk_at "E"); done)
  | focus ((with_reducible apply ee_or); (walk_at "E"); (intro; walk_at "E"); done)
  | focus ((with_reducible apply ee_sl); (walk_at "E"); (walk_at "EO"); (walk_at "EO"); (rfl); (walk_at "SD"); done)
  | focus ((with_reducible apply ee_neg); (walk_at "E"); (rfl); (rfl); done))
local macro_rules | `(tactic| walk_at "A") => `(tactic| first
  | exact ead_nil
  | focus ((with_reducible apply ead_cons); (walk_at "E"); (walk_at "A"); done))
local macro_rules | `(tactic| walk_at "EA") => `(tactic| first
  | exact ea_nil
  | focus ((with_reducible apply ea_cons); (walk_at "E"); (walk_at "EA"); (rfl); done))
local macro_rules | `(tactic| walk_at "F") => `(tactic| first
  | focus ((with_reducible apply cd_lenL); (rfl); (walk_at "els"); done)
  | focus ((with_reducible apply cd_lenT); (rfl); done)
  | focus ((with_reducible apply cd_lenS); (rfl); (rfl); (walk_at "side"); done)
  | focus ((with_reducible apply cd_lenC); (rfl); done)
  | focus ((with_reducible apply cd_lenO); (rfl); done)
  | focus ((with_reducible apply cd_int); (rfl); (rfl); done)
  | focus ((with_reducible apply cd_intB); (rfl); (rfl); done)
  | focus ((with_reducible apply cd_listC); (rfl); done)
  | focus ((with_reducible apply cd_list); (rfl); (walk_at "els"); done)
  | focus ((with_reducible apply cd_listT); (rfl); done)
  | focus ((with_reducible apply cd_tuple); (rfl); (walk_at "els"); done)
  | focus ((with_reducible apply cd_max); (rfl); (rfl); (rfl); (rfl); done)
  | focus ((with_reducible apply cd_min); (rfl); (rfl); (rfl); (rfl); done)
  | focus ((with_reducible apply cd_str); (rfl); (rfl); (walk_at "side"); done)
  | focus ((with_reducible apply cd_ord); (rfl); (rfl); (walk_at "side"); done))
local macro_rules | `(tactic| walk_at "T") => `(tactic| first
  | focus ((with_reducible apply et_test); (walk_at "E"); done)
  | focus ((with_reducible apply et_B); (walk_at "E"); done)
  | focus ((with_reducible apply et_not); (walk_at "T"); done)
  | exact et_yes
  | focus ((with_reducible apply et_and); (walk_at "T"); (intro; walk_at "T"); done)
  | focus ((with_reducible apply et_or); (walk_at "T"); (intro; walk_at "T"); done))
local macro_rules | `(tactic| walk_at "D") => `(tactic| first
  | (walk_at "E")
  | focus ((with_reducible apply ed_lst); (walk_at "E"); done))
local macro_rules | `(tactic| walk_at "A") => `(tactic| first
  | exact ead_nil
  | focus ((with_reducible apply ead_cons); (walk_at "D"); (walk_at "A"); done))
local macro_rules | `(tactic| walk_at "v") => `(tactic| (intro a0 z0; cases z0))
local macro_rules | `(tactic| walk_at "set") => `(tactic| ((with_reducible apply ss_asg); (walk_at "E"); (exact Nat.le_of_ble_eq_true rfl); (rfl); (walk_at "v"); (dsimp only [List.set_cons_zero, List.set_cons_succ, Vl.sl, upd1, List.getElem?_cons_zero, List.getElem?_cons_succ, T.set])))
local macro_rules | `(tactic| walk_at "n") => `(tactic| (dsimp only [List.set_cons_zero, List.set_cons_succ, Vl.sl, upd1, List.getElem?_cons_zero, List.getElem?_cons_succ, T.set, putT]))
local macro_rules | `(tactic| walk_at "setI") => `(tactic| ((with_reducible apply ss_setI); (walk_at "E"); (with_reducible apply ee_m); (walk_at "E"); (rfl); (with_reducible apply ee_m); (walk_at "E"); (rfl); (rfl); (walk_at "at"); (walk_at "n")))
local macro_rules | `(tactic| walk_at "EO") => `(tactic| first
  | exact eo_no
  | focus ((with_reducible apply eo_part); (walk_at "E"); (rfl); (rfl); done))
local macro_rules | `(tactic| walk_at "SD") => `(tactic| first
  | focus ((with_reducible apply sd_L); (rfl); (walk_at "els"); done)
  | focus ((with_reducible apply sd_S); (rfl); (rfl); (walk_at "side"); done)
  | focus ((with_reducible apply sd_T); (rfl); done))
section
variable {K : PySem.W.Frag} {W : WX} {vs : List V} {as : List Ag} {o : Out} {m : Bool} {es es1 : Es} {ta : TA} {te : TE} {i : Nat} {E : XK} {c : CA} {a : Option V} {bs d : List Int} {p : Nat}
theorem ints_app (a b : List Int) : (a ++ b).map PyData.int = a.map .int ++ b.map .int := List.map_append ..
theorem ints_snoc (a : List Int) (x : Int) : (a ++ [x]).map PyData.int = a.map .int ++ [.int x] := List.map_append ..
theorem ead_m {m m' : Bool} {xs : List PyData} (h : EAD K m ta es xs es1) (e : m = m') : EAD K m' ta es xs es1 := e ▸ h
/-- A WRITER CALLED -/
theorem ee_wr {α : Type} {D : α → PyData} {B : α → List Int} {x : α} {r : Vl} {t : T} (h : EA K m ta es [r] es1) (h1 : r.tr es1 = some t) (q1 : t.toD = some (D x)) (hz : (B x).length ≤ 100000) : EE K m (tSpc (spD K (RWr D B)) E ta) es (.o (T.L ((B x).map .int))) es1 := ee_callS h (.d h1 q1 .nil) ⟨x, hz, rfl, rfl⟩ (flat_ints _)
theorem ee_wnum {n : Nat} {x : Int} (h : EA K m ta es [.o (.d (.int x))] es1) (e : x = (n : Int)) (hz : (numB n).length ≤ 100000) : EE K m (tSpc (spD K R_write_number) E ta) es (.o (T.L ((numB n).map .int))) es1 := by
  subst e
  exact ee_wr (x := n) h rfl rfl hz
theorem body_write_number (h : R_write_number as o) (hl : as.length = vs.length) : SS K W (t_write_number K) (slots vs as ++ List.replicate 1 .n) (FD vs as o) := by
  obtain ⟨n, hz, rfl, rfl⟩ := h
  obtain ⟨v1, rfl⟩ := one_of hl rfl
  show SS K W (t_write_number K) [.o none (.d (.int (n : Int))), .n] _
  refine ss_seq ?_
  walk_at "set"
  refine ss_seq (ss_while (m := false) (fun k es => ∃ pre, pre ++ numB k = numB n ∧ es = [.o none (.d (.int (k : Int))), .o none (T.L (pre.map .int))]) n ⟨[], rfl, rfl⟩ ?_)
  rintro k es' ⟨pre, hp, rfl⟩
  have hlen : pre.length + (numB k).length = (numB n).length := by rw [← List.length_append, hp]
  refine ⟨decide ((128 : Int) ≤ (k : Int)), _, et_test (ee_m (ee_op (ee_var rfl rfl) ee_int rfl (od_ge rfl rfl rfl rfl)) rfl), fun hc => ?_, fun hc => ?_⟩
  · have hc' : ¬ k < 128 := by have := of_decide_eq_true hc; omega
    have hz2 : (pre.map PyData.int).length < sizeLine := by rw [List.length_map, szL]; omega
    refine ss_seq (ss_drop (ee_appD (xs := pre.map PyData.int) (ee_var rfl rfl) (by walk_at "E") rfl rfl rfl hz2) ?_)
    walk_at "n"
    walk_at "set"
    refine ⟨k / 128, by omega, pre ++ [((k % 128 + 128 : Nat) : Int)], ?_, ?_⟩
    · rw [← hp, numB_ge hc', List.append_assoc]
      rfl
    · rw [ints_snoc]
      have e1 : (k : Int) / 128 = ((k / 128 : Nat) : Int) := by omega
      have e2 : (k : Int) % 128 + 128 = ((k % 128 + 128 : Nat) : Int) := by omega
      rw [e1, e2]
  · have hc' : k < 128 := by have := of_decide_eq_false hc; omega
    have hz2 : (pre.map PyData.int).length + 1 ≤ sizeLine := by rw [List.length_map, szL]; omega
    refine ss_ret (ee_op (ee_var rfl rfl) (ee_lst (by walk_at "A") (Nat.le_of_ble_eq_true rfl)) rfl (od_plusL rfl Els.l rfl Els.l hz2)) ?_
    rw [numB_lt hc'] at hp
    rw [← hp]
    refine ⟨_, _, rfl, ?_, rfl, trivial⟩
    rw [ints_snoc]
theorem body_law_number (h : R_law_number as o) (hl : as.length = vs.length) : SS K W (t_law_number K) (slots vs as ++ List.replicate 1 .n) (FD vs as o) := by
  obtain ⟨n, hz, rfl, rfl⟩ := h
  obtain ⟨v1, rfl⟩ := one_of hl rfl
  show SS K W (t_law_number K) [.o none (.d (.int (n : Int))), .n] _
  refine ss_seq ?_
  walk_at "set"
  refine ss_seq (ss_while (m := false) (fun k es => ∃ pre, pre ++ numB k = numB n ∧ es = [.o none (.d (.int (k : Int))), .o none (T.L (pre.map .int))]) n ⟨[], rfl, rfl⟩ ?_)
  rintro k es' ⟨pre, hp, rfl⟩
  have hlen : pre.length + (numB k).length = (numB n).length := by rw [← List.length_append, hp]
  refine ⟨decide ((127 : Int) < (k : Int)), _, et_test (ee_m (ee_op (ee_var rfl rfl) ee_int rfl (od_gt rfl rfl rfl rfl)) rfl), fun hc => ?_, fun hc => ?_⟩
  · have hc' : ¬ k < 128 := by have := of_decide_eq_true hc; omega
    have hz2 : (pre.map PyData.int).length < sizeLine := by rw [List.length_map, szL]; omega
    refine ss_seq (ss_drop (ee_appD (xs := pre.map PyData.int) (ee_var rfl rfl) (by walk_at "E") rfl rfl rfl hz2) ?_)
    walk_at "n"
    walk_at "set"
    refine ⟨k / 128, by omega, pre ++ [((k % 128 + 128 : Nat) : Int)], ?_, ?_⟩
    · rw [← hp, numB_ge hc', List.append_assoc]
      rfl
    · rw [ints_snoc]
      have e1 : (k : Int) / 128 = ((k / 128 : Nat) : Int) := by omega
      have e2 : (k : Int) % 128 + 128 = ((k % 128 + 128 : Nat) : Int) := by omega
      rw [e1, e2]
  · have hc' : k < 128 := by have := of_decide_eq_false hc; omega
    have hz2 : (pre.map PyData.int).length + 1 ≤ sizeLine := by rw [List.length_map, szL]; omega
    refine ss_ret (ee_op (ee_var rfl rfl) (ee_lst (by walk_at "A") (Nat.le_of_ble_eq_true rfl)) rfl (od_plusL rfl Els.l rfl Els.l hz2)) ?_
    rw [numB_lt hc'] at hp
    rw [← hp]
    refine ⟨_, _, rfl, ?_, rfl, trivial⟩
    rw [ints_snoc]
theorem body_write_list (h : R_write_list as o) (hl : as.length = vs.length) : SS K W (t_write_list K) (slots vs as ++ List.replicate 2 .n) (FD vs as o) := by
  obtain ⟨ls, hz, rfl, rfl⟩ := h
  obtain ⟨v1, rfl⟩ := one_of hl rfl
  show SS K W (t_write_list K) [.o none (.d (.list (ls.map dI))), .n, .n] _
  have hz' := hz
  rw [lstB, List.length_append] at hz'
  refine ss_seq (ss_set (ee_wnum (n := ls.length) (ea_cons (ee_cb (ea_cons (ee_var rfl rfl) ea_nil rfl) (cd_lenL rfl Els.d)) ea_nil rfl) (by rw [List.length_map]) (by omega)) (Nat.le_of_ble_eq_true rfl) ?_)
  walk_at "n"
  refine ss_seq (ss_for (ei_list (xs := ls.map dI) (ee_var rfl rfl)) (fun i es => ∃ u, es = [.o none (.d (.list (ls.map dI))), .o none (T.L ((numB ls.length ++ (ls.take i).flatten).map .int)), u]) ⟨.n, by rw [List.take_zero, List.flatten_nil, List.append_nil]⟩ ?_ ?_)
  · rintro i y es' hy ⟨u, rfl⟩
    rw [List.getElem?_map] at hy
    cases hs : ls[i]? with
    | none => rw [hs] at hy; cases hy
    | some l =>
      rw [hs] at hy
      cases hy
      have htk : ls.take (i + 1) = ls.take i ++ [l] := by rw [List.take_add_one, hs]; rfl
      have hfl : (ls.take i).flatten.length + l.length ≤ ls.flatten.length := by
        have h1 : ls.flatten = (ls.take (i + 1)).flatten ++ (ls.drop (i + 1)).flatten := by rw [← List.flatten_append, List.take_append_drop]
        rw [h1, htk, List.flatten_append, List.length_append, List.length_append, List.flatten_singleton]
        omega
      refine ⟨_, _, gs_name (Nat.le_of_ble_eq_true rfl), ?_⟩
      walk_at "n"
      refine ss_drop (ee_extD (xs := (numB ls.length ++ (ls.take i).flatten).map .int) (ys := l.map .int) (ee_var rfl rfl) (ee_var rfl rfl) rfl rfl rfl rfl Els.d (by rw [List.length_map, List.length_map, List.length_append, szL]; omega)) ?_
      rw [upd1_set rfl, ← ints_app, List.append_assoc]
      walk_at "n"
      rw [htk, List.flatten_append, List.flatten_singleton]
      exact ⟨_, rfl⟩
  · rintro es' ⟨u, rfl⟩
    rw [List.length_map, List.take_length]
    refine ss_retO (ee_var rfl rfl) rfl ?_
    exact ⟨_, _, rfl, rfl, rfl, trivial⟩
/-- a list of written things -/
theorem ee_wlist {α : Type} {f : α → List Int} {xs : List α} {r : Vl} (h : EA K m ta es [r] es1) (h1 : r.tr es1 = some (T.L (xs.map fun x => dI (f x)))) (hz : (numB xs.length ++ xs.flatMap f).length ≤ 100000) : EE K m (tSpc (spD K R_write_list) E ta) es (.o (T.L ((numB xs.length ++ xs.flatMap f).map .int))) es1 := by
  have e : lstB (xs.map f) = numB xs.length ++ xs.flatMap f := by
    unfold lstB
    rw [List.length_map, List.flatMap_def]
  have e2 : T.toD (T.L (xs.map fun x => dI (f x))) = some ((fun ls : List (List Int) => PyData.list (ls.map dI)) (xs.map f)) := by
    show _ = some (PyData.list ((xs.map f).map dI))
    rw [toD_lst, List.map_map]
    rfl
  have h2 := ee_wr (E := E) (D := fun ls : List (List Int) => PyData.list (ls.map dI)) (B := lstB) (x := xs.map f) h h1 e2 (by rw [e]; exact hz)
  rw [e] at h2
  exact h2
theorem flat_mem {α : Type} {f : α → List Int} {xs : List α} {i : Nat} {x : α} (h : xs[i]? = some x) : (f x).length ≤ (xs.flatMap f).length := by
  have hm := List.mem_of_getElem? h
  obtain ⟨l1, l2, rfl⟩ := List.append_of_mem hm
  rw [List.flatMap_append, List.flatMap_cons, List.length_append, List.length_append]
  omega
theorem flat_take {α : Type} {f : α → List Int} {xs : List α} {i : Nat} {x : α} (h : xs[i]? = some x) : (xs.take (i + 1)).flatMap f = (xs.take i).flatMap f ++ f x ∧ ((xs.take i).flatMap f).length + (f x).length ≤ (xs.flatMap f).length := by
  have htk : xs.take (i + 1) = xs.take i ++ [x] := by rw [List.take_add_one, h]; rfl
  have e : (xs.take (i + 1)).flatMap f = (xs.take i).flatMap f ++ f x := by rw [htk, List.flatMap_append, List.flatMap_cons, List.flatMap_nil, List.append_nil]
  refine ⟨e, ?_⟩
  have h1 : xs.flatMap f = (xs.take (i + 1)).flatMap f ++ (xs.drop (i + 1)).flatMap f := by rw [← List.flatMap_append, List.take_append_drop]
  rw [h1, e, List.length_append, List.length_append]
  omega
theorem str_le (t : List Nat) : t.length ≤ (t.flatMap numB).length := by
  induction t with
  | nil => exact Nat.le_refl _
  | cons c t ih =>
    have := numB_pos c
    rw [List.flatMap_cons, List.length_append, List.length_cons]
    omega
theorem body_write_string (h : R_write_string as o) (hl : as.length = vs.length) : SS K W (t_write_string K) (slots vs as ++ List.replicate 1 .n) (FD vs as o) := by
  obtain ⟨t, hz, rfl, rfl⟩ := h
  obtain ⟨v1, rfl⟩ := one_of hl rfl
  show SS K W (t_write_string K) [.o none (.d (.str (S t))), .n] _
  have hz' := hz
  rw [txtB, List.length_append] at hz'
  have htl : t.length ≤ (t.flatMap numB).length := by
    clear hz hz' hl
    induction t with
    | nil => exact Nat.le_refl _
    | cons c t ih =>
      have := numB_pos c
      rw [List.flatMap_cons, List.length_append, List.length_cons]
      omega
  have hlc : EE K false (tLc (iStr (tVar 0)) (gName 1) tYes (tSpc (spD K R_write_number) E0 (tCons (tCB rOrd (tCons (tVar 1) tNil)) tNil)) [1]) [.o none (.d (.str (S t))), .n] (.o (T.L (t.map fun c => dI (numB c)))) [.o none (.d (.str (S t))), .n] := by
    refine ee_lcP (m := false) (pu := true) (xs := t.map fun c => .str (S [c])) (ei_str (ee_var rfl rfl)) (by simp) (by rw [List.length_map, szL]; omega) ?_
    intro i x hx
    rw [List.getElem?_map] at hx
    cases hq : t[i]? with
    | none => rw [hq] at hx; cases hx
    | some c =>
      rw [hq] at hx
      cases hx
      have hcl := flat_mem (f := numB) hq
      have h2 : ED K false (tSpc (spD K R_write_number) E0 (tCons (tCB rOrd (tCons (tVar 1) tNil)) tNil)) [.o none (.d (.str (S t))), .o none (.d (.str (S [c])))] (dI (numB c)) [.o none (.d (.str (S t))), .o none (.d (.str (S [c])))] :=
        ed_lst (ee_m (ee_wnum (n := c) (ea_cons (ee_cb (ea_cons (ee_var rfl rfl) ea_nil rfl) (cd_ord rfl rfl (by rw [S_len]; rfl))) ea_nil rfl) rfl (by omega)) rfl)
      refine ⟨_, _, _, .d (dI (numB c)), gs_name (Nat.le_of_ble_eq_true rfl), by decide, h2, ?_, rfl, rfl⟩
      rw [List.getElem?_map, List.getElem?_map, hq]
      rfl
  refine ss_ret (ee_wlist (f := numB) (xs := t) (ea_cons hlc ea_nil rfl) rfl hz) ?_
  exact ⟨_, _, rfl, rfl, rfl, trivial⟩
theorem body_write_mark (h : R_write_mark as o) (hl : as.length = vs.length) : SS K W (t_write_mark K) (slots vs as ++ List.replicate 0 .n) (FD vs as o) := by
  obtain ⟨k, hz, rfl, rfl⟩ := h
  obtain ⟨v1, rfl⟩ := one_of hl rfl
  show SS K W (t_write_mark K) [.o none (.d (.tuple [.int (k.1 : Int), .int (k.2 : Int)]))] _
  have hz' := hz
  rw [mrkB, List.length_append] at hz'
  refine ss_ret (ee_op (ee_wnum (n := k.1) (ea_cons (by walk_at "E") ea_nil rfl) rfl (by omega)) (ee_wnum (n := k.2) (ea_cons (by walk_at "E") ea_nil rfl) rfl (by omega)) rfl (od_plusL rfl Els.l rfl Els.l (by rw [List.length_map, List.length_map, szL]; omega))) ?_
  refine ⟨_, _, rfl, ?_, rfl, trivial⟩
  rw [mrkB, ints_app]
theorem body_law_mark (h : R_law_mark as o) (hl : as.length = vs.length) : SS K W (t_law_mark K) (slots vs as ++ List.replicate 0 .n) (FD vs as o) := body_write_mark h hl
theorem body_write_deed (h : R_write_deed as o) (hl : as.length = vs.length) : SS K W (t_write_deed K) (slots vs as ++ List.replicate 8 .n) (FD vs as o) := by
  obtain ⟨d, hz, rfl, rfl⟩ := h
  obtain ⟨v1, rfl⟩ := one_of hl rfl
  cases d with
  | back n =>
    show SS K W (t_write_deed K) [.o none (.d (.tuple [.str "back", .int (n : Int)])), .n, .n, .n, .n, .n, .n, .n, .n] _
    have hz' : 1 + (numB n).length ≤ 100000 := by
      have : (deeB (.back n)).length = 1 + (numB n).length := by rw [deeB, List.length_append]; rfl
      omega
    refine ss_seq (ss_tt (by walk_at "T") (by decide +kernel) ?_)
    refine ss_ret (ee_op (ee_lst (by walk_at "A") (Nat.le_of_ble_eq_true rfl)) (ee_wnum (n := n) (ea_cons (by walk_at "E") ea_nil rfl) rfl (by omega)) rfl (od_plusL rfl Els.l rfl Els.l (by rw [List.length_map, szL]; show 1 + _ ≤ _; omega))) ?_
    refine ⟨_, _, rfl, ?_, rfl, trivial⟩
    rw [deeB, ints_app]
    rfl
  | chg md rm bh nu tx =>
    show SS K W (t_write_deed K) [.o none (.d (.tuple [.str "change", .str (S md), .tuple (rm.map markD), behD bh, .int (nu : Int), .str (S tx)])), .n, .n, .n, .n, .n, .n, .n, .n] _
    have hz' := hz
    simp only [deeB, List.length_append, List.length_cons, List.length_nil] at hz'
    refine ss_seq (ss_ff (by walk_at "T") (by decide +kernel) (ss_next ?_))
    refine ss_seq (ss_asgD (ee_var rfl rfl) (gs_tup (gss_cons (gs_name (Nat.le_of_ble_eq_true rfl)) (gss_cons (gs_name (Nat.le_of_ble_eq_true rfl)) (gss_cons (gs_name (Nat.le_of_ble_eq_true rfl)) (gss_cons (gs_name (Nat.le_of_ble_eq_true rfl)) (gss_cons (gs_name (Nat.le_of_ble_eq_true rfl)) (gss_cons (gs_name (Nat.le_of_ble_eq_true rfl)) gss_nil)))))) rfl) ?_)
    generalize hd0 : PyData.tuple [.str "change", .str (S md), .tuple (rm.map markD), behD bh, .int (nu : Int), .str (S tx)] = d0
    walk_at "n"
    have hrl : rm.length ≤ (rm.flatMap mrkB).length := by
      clear hz hz' hl hd0
      induction rm with
      | nil => exact Nat.le_refl _
      | cons c t ih =>
        have := numB_pos c.1
        rw [List.flatMap_cons, List.length_append, List.length_cons, mrkB, List.length_append]
        omega
    have hlc : EE K false (tLc (iTup K (tVar 3)) (gName 8) tYes (tSpc (spD K R_write_mark) E0 (tCons (tVar 8) tNil)) [8]) [.o none (.d d0), .o none (.d (.str "change")), .o none (.d (.str (S md))), .o none (.d (.tuple (rm.map markD))), .o none (.d (behD bh)), .o none (.d (.int (nu : Int))), .o none (.d (.str (S tx))), .n, .n] (.o (T.L (rm.map fun k => dI (mrkB k)))) [.o none (.d d0), .o none (.d (.str "change")), .o none (.d (.str (S md))), .o none (.d (.tuple (rm.map markD))), .o none (.d (behD bh)), .o none (.d (.int (nu : Int))), .o none (.d (.str (S tx))), .n, .n] := by
      refine ee_lcP (m := false) (pu := true) (xs := rm.map markD) (ei_tup (ee_var rfl rfl)) (by simp) (by rw [List.length_map, szL]; omega) ?_
      intro i x hx
      rw [List.getElem?_map] at hx
      cases hq : rm[i]? with
      | none => rw [hq] at hx; cases hx
      | some k =>
        rw [hq] at hx
        cases hx
        have hcl := flat_mem (f := mrkB) hq
        have h2 : ED K false (tSpc (spD K R_write_mark) E0 (tCons (tVar 8) tNil)) [.o none (.d d0), .o none (.d (.str "change")), .o none (.d (.str (S md))), .o none (.d (.tuple (rm.map markD))), .o none (.d (behD bh)), .o none (.d (.int (nu : Int))), .o none (.d (.str (S tx))), .n, .o none (.d (markD k))] (dI (mrkB k)) [.o none (.d d0), .o none (.d (.str "change")), .o none (.d (.str (S md))), .o none (.d (.tuple (rm.map markD))), .o none (.d (behD bh)), .o none (.d (.int (nu : Int))), .o none (.d (.str (S tx))), .n, .o none (.d (markD k))] :=
          ed_lst (ee_m (ee_wr (x := k) (ea_cons (ee_var rfl rfl) ea_nil rfl) rfl rfl (by omega)) rfl)
        refine ⟨_, _, _, .d (dI (mrkB k)), gs_name (Nat.le_of_ble_eq_true rfl), by decide, h2, ?_, rfl, rfl⟩
        rw [List.getElem?_map, List.getElem?_map, hq]
        rfl
    have z1 : [PyData.int 0].length + ((txtB md).map PyData.int).length ≤ sizeLine := by rw [List.length_map, szL]; show 1 + _ ≤ _; omega
    have z2 : ([PyData.int 0] ++ (txtB md).map PyData.int).length + ((numB rm.length ++ rm.flatMap mrkB).map PyData.int).length ≤ sizeLine := by rw [List.length_append, List.length_map, List.length_map, List.length_append, szL]; show 1 + _ + _ ≤ _; omega
    refine ss_seq (ss_set (ee_op (ee_op (ee_lst (by walk_at "A") (Nat.le_of_ble_eq_true rfl)) (ee_wr (D := txtD) (B := txtB) (x := md) (ea_cons (ee_var rfl rfl) ea_nil rfl) rfl rfl (by omega)) rfl (od_plusL rfl Els.l rfl Els.l (by exact z1))) (ee_wlist (f := mrkB) (xs := rm) (ea_cons hlc ea_nil rfl) rfl (by rw [List.length_append]; omega)) rfl (od_plusL rfl Els.l rfl Els.l (by exact z2))) (Nat.le_of_ble_eq_true rfl) ?_)
    walk_at "n"
    have e1 : [PyData.int 0] ++ (txtB md).map PyData.int ++ (numB rm.length ++ rm.flatMap mrkB).map PyData.int = ([0] ++ txtB md ++ (numB rm.length ++ rm.flatMap mrkB)).map PyData.int := by
      rw [ints_app ([0] ++ txtB md), ints_app [0]]
      rfl
    rw [e1]
    have hl1 : ([0] ++ txtB md ++ (numB rm.length ++ rm.flatMap mrkB)).length = 0 + 1 + (txtB md).length + ((numB rm.length).length + (rm.flatMap mrkB).length) := by simp only [List.length_append, List.length_cons, List.length_nil]
    generalize hd1 : [0] ++ txtB md ++ (numB rm.length ++ rm.flatMap mrkB) = d1 at hl1 hz
    have hb : EE K false (tIf (tTest (tOp rIsNon (tVar 4) (tC .non))) (tLst (tCons (tC (.int 0)) tNil)) (tOp (rPlus K) (tLst (tCons (tC (.int 1)) tNil)) (tSpc (spD K R_write_mark) E0 (tCons (tVar 4) tNil)))) [.o none (.d d0), .o none (.d (.str "change")), .o none (.d (.str (S md))), .o none (.d (.tuple (rm.map markD))), .o none (.d (behD bh)), .o none (.d (.int (nu : Int))), .o none (.d (.str (S tx))), .o none (T.L (d1.map .int)), .n] (.o (T.L ((behB bh).map .int))) [.o none (.d d0), .o none (.d (.str "change")), .o none (.d (.str (S md))), .o none (.d (.tuple (rm.map markD))), .o none (.d (behD bh)), .o none (.d (.int (nu : Int))), .o none (.d (.str (S tx))), .o none (T.L (d1.map .int)), .n] := by
      cases bh with
      | none =>
        simp only [behD]
        exact ee_eq (ee_m (ee_ifT (et_is (by walk_at "T") (by rfl)) (ee_lst (xs := [.int 0]) (by walk_at "A") (Nat.le_of_ble_eq_true rfl))) (by rfl)) rfl rfl
      | some k =>
        have hk : (behB (some k)).length = 1 + (mrkB k).length := by rw [behB, List.length_append]; rfl
        have zk : [PyData.int 1].length + ((mrkB k).map PyData.int).length ≤ sizeLine := by rw [List.length_map, szL]; show 1 + _ ≤ _; omega
        simp only [behD, markD]
        refine ee_eq (ee_m (ee_ifF (et_is (by walk_at "T") (by rfl)) (ee_op (ee_lst (by walk_at "A") (Nat.le_of_ble_eq_true rfl)) (ee_wr (D := markD) (B := mrkB) (x := k) (ea_cons (ee_var rfl rfl) ea_nil rfl) rfl rfl (by omega)) rfl (od_plusL rfl Els.l rfl Els.l (by exact zk)))) (by rfl)) ?_ rfl
        rw [behB, ints_app]
        rfl
    refine ss_seq (ss_drop (ee_extD (xs := d1.map .int) (ys := (behB bh).map .int) (ee_var rfl rfl) hb rfl rfl rfl rfl Els.l (by rw [List.length_map, List.length_map, szL]; omega)) ?_)
    rw [upd1_set rfl, ← ints_app]
    walk_at "n"
    have z3 : ((d1 ++ behB bh).map PyData.int).length + ((numB nu).map PyData.int).length ≤ sizeLine := by rw [List.length_map, List.length_map, List.length_append, szL]; omega
    have z4 : ((d1 ++ behB bh).map PyData.int ++ (numB nu).map PyData.int).length + ((txtB tx).map PyData.int).length ≤ sizeLine := by rw [List.length_append, List.length_map, List.length_map, List.length_map, List.length_append, szL]; omega
    refine ss_ret (ee_op (ee_op (ee_var rfl rfl) (ee_wnum (n := nu) (ea_cons (ee_var rfl rfl) ea_nil rfl) rfl (by omega)) rfl (od_plusL rfl Els.l rfl Els.l z3)) (ee_wr (D := txtD) (B := txtB) (x := tx) (ea_cons (ee_var rfl rfl) ea_nil rfl) rfl rfl (by omega)) rfl (od_plusL rfl Els.l rfl Els.l z4)) ?_
    have e9 : deeB (.chg md rm bh nu tx) = [0] ++ txtB md ++ (numB rm.length ++ rm.flatMap mrkB) ++ behB bh ++ numB nu ++ txtB tx := rfl
    refine ⟨_, _, rfl, ?_, rfl, trivial⟩
    rw [← ints_app, ← ints_app, e9, hd1]
/-- a list written: its parts -/
theorem num3 {r : Nat} {q : Nat} {d : Dee} {ts : List Tri} {i : Nat} (h : ts[i]? = some (r, q, d)) (hz : (triB ts).length ≤ 100000) : (numB r).length + (numB q).length + (deeB d).length ≤ 100000 ∧ (numB r).length ≤ 100000 ∧ (numB q).length ≤ 100000 ∧ (deeB d).length ≤ 100000 := by
  have h1 := flat_mem (f := tr1B) h
  rw [triB, List.length_append] at hz
  have h2 : (tr1B (r, q, d)).length = (numB r).length + (numB q).length + (deeB d).length := by rw [tr1B, List.length_append, List.length_append]
  omega
theorem tri_le : ∀ (ts : List Tri), ts.length ≤ (ts.flatMap tr1B).length
  | [] => Nat.le_refl _
  | t :: ts => by
    have := tri_le ts
    have := numB_pos t.1
    rw [List.flatMap_cons, List.length_append, List.length_cons, tr1B, List.length_append, List.length_append]
    omega
theorem body_write_triples (h : R_write_triples as o) (hl : as.length = vs.length) : SS K W (t_write_triples K) (slots vs as ++ List.replicate 4 .n) (FD vs as o) := by
  obtain ⟨ts, hz, rfl, rfl⟩ := h
  obtain ⟨v1, rfl⟩ := one_of hl rfl
  show SS K W (t_write_triples K) [.o none (.d (.list (ts.map triD))), .n, .n, .n, .n] _
  have hz' := hz
  rw [triB, List.length_append] at hz'
  have htl := tri_le ts
  refine ss_seq ?_
  walk_at "set"
  refine ss_seq (ss_for (ei_list (xs := ts.map triD) (ee_var rfl rfl)) (fun i es => ∃ u1 u2 u3, es = [.o none (.d (.list (ts.map triD))), .o none (T.L ((ts.take i).map fun t => dI (tr1B t))), u1, u2, u3]) ⟨.n, .n, .n, rfl⟩ ?_ ?_)
  · rintro i y es' hy ⟨u1, u2, u3, rfl⟩
    rw [List.getElem?_map] at hy
    cases hs : ts[i]? with
    | none => rw [hs] at hy; cases hy
    | some t =>
      rw [hs] at hy
      cases hy
      obtain ⟨r, q, d⟩ := t
      have htk : ts.take (i + 1) = ts.take i ++ [(r, q, d)] := by rw [List.take_add_one, hs]; rfl
      obtain ⟨b0, b1, b2, b3⟩ := num3 hs hz
      refine ⟨_, _, gs_tup (gss_cons (gs_name (Nat.le_of_ble_eq_true rfl)) (gss_cons (gs_name (Nat.le_of_ble_eq_true rfl)) (gss_cons (gs_name (Nat.le_of_ble_eq_true rfl)) gss_nil))) rfl, ?_⟩
      walk_at "n"
      have z1 : ((numB r).map PyData.int).length + ((numB q).map PyData.int).length ≤ sizeLine := by rw [List.length_map, List.length_map, szL]; omega
      have z2 : ((numB r).map PyData.int ++ (numB q).map PyData.int).length + ((deeB d).map PyData.int).length ≤ sizeLine := by rw [List.length_append, List.length_map, List.length_map, List.length_map, szL]; omega
      have he : EE K false (tOp (rPlus K) (tOp (rPlus K) (tSpc (spD K R_write_number) E0 (tCons (tVar 2) tNil)) (tSpc (spD K R_write_number) E0 (tCons (tVar 3) tNil))) (tSpc (spD K R_write_deed) E0 (tCons (tVar 4) tNil))) [.o none (.d (.list (ts.map triD))), .o none (T.L ((ts.take i).map fun t => dI (tr1B t))), .o none (.d (.int (r : Int))), .o none (.d (.int (q : Int))), .o none (.d (deedD d))] (.o (T.L ((tr1B (r, q, d)).map .int))) [.o none (.d (.list (ts.map triD))), .o none (T.L ((ts.take i).map fun t => dI (tr1B t))), .o none (.d (.int (r : Int))), .o none (.d (.int (q : Int))), .o none (.d (deedD d))] := by
        refine ee_eq (ee_m (ee_op (ee_op (ee_wnum (n := r) (ea_cons (ee_var rfl rfl) ea_nil rfl) rfl b1) (ee_wnum (n := q) (ea_cons (ee_var rfl rfl) ea_nil rfl) rfl b2) rfl (od_plusL rfl Els.l rfl Els.l z1)) (ee_wr (D := deedD) (B := deeB) (x := d) (ea_cons (ee_var rfl rfl) ea_nil rfl) rfl rfl b3) rfl (od_plusL rfl Els.l rfl Els.l z2)) (by rfl)) ?_ rfl
        rw [tr1B, ints_app, ints_app]
      refine ss_drop (ee_appD (xs := (ts.take i).map fun t => dI (tr1B t)) (ee_var rfl rfl) (ed_lst he) rfl rfl rfl (by rw [List.length_map, List.length_take, szL]; omega)) ?_
      walk_at "n"
      have e4 : (ts.take i).map (fun t => dI (tr1B t)) ++ [PyData.list ((tr1B (r, q, d)).map .int)] = (ts.take (i + 1)).map fun t => dI (tr1B t) := by
        rw [htk, List.map_append]
        rfl
      rw [e4]
      exact ⟨_, _, _, rfl⟩
  · rintro es' ⟨u1, u2, u3, rfl⟩
    rw [List.length_map, List.take_length]
    refine ss_ret (ee_wlist (f := tr1B) (xs := ts) (ea_cons (ee_var rfl rfl) ea_nil rfl) rfl hz) ?_
    exact ⟨_, _, rfl, rfl, rfl, trivial⟩
theorem body_write_packet (h : R_write_packet as o) (hl : as.length = vs.length) : SS K W (t_write_packet K) (slots vs as ++ List.replicate 0 .n) (FD vs as o) := by
  obtain ⟨ts, hz, rfl, rfl⟩ := h
  obtain ⟨v1, rfl⟩ := one_of hl rfl
  show SS K W (t_write_packet K) [.o none (.d (.list (ts.map triD)))] _
  have hz' : (pacB ts).length = 1 + (triB ts).length := by rw [pacB, List.length_append]; rfl
  have z1 : [PyData.int 1].length + ((triB ts).map PyData.int).length ≤ sizeLine := by rw [List.length_map, szL]; show 1 + _ ≤ _; omega
  refine ss_ret (ee_op (ee_lst (by walk_at "A") (Nat.le_of_ble_eq_true rfl)) (ee_wr (D := fun ts => .list (ts.map triD)) (B := triB) (x := ts) (ea_cons (ee_var rfl rfl) ea_nil rfl) rfl rfl (by omega)) rfl (od_plusL rfl Els.l rfl Els.l (by exact z1))) ?_
  refine ⟨_, _, rfl, ?_, rfl, trivial⟩
  rw [pacB, ints_app]
  rfl
/-! ### the law's writers -/
theorem body_law_text (h : R_law_text as o) (hl : as.length = vs.length) : SS K W (t_law_text K) (slots vs as ++ List.replicate 2 .n) (FD vs as o) := by
  obtain ⟨t, hz, rfl, rfl⟩ := h
  obtain ⟨v1, rfl⟩ := one_of hl rfl
  show SS K W (t_law_text K) [.o none (.d (.str (S t))), .n, .n] _
  have hz' := hz
  rw [txtB, List.length_append] at hz'
  refine ss_seq (ss_set (ee_wnum (n := t.length) (ea_cons (ee_cb (ea_cons (ee_var rfl rfl) ea_nil rfl) (cd_lenS rfl rfl (by rw [S_len, szL]; exact Nat.le_trans (str_le t) (by omega)))) ea_nil rfl) (by rw [S_len]) (by omega)) (Nat.le_of_ble_eq_true rfl) ?_)
  walk_at "n"
  refine ss_seq (ss_for (xs := t.map fun c => .str (S [c])) (ei_str (ee_var rfl rfl)) (fun i es => ∃ u, es = [.o none (.d (.str (S t))), .o none (T.L ((numB t.length ++ (t.take i).flatMap numB).map .int)), u]) ⟨.n, by rw [List.take_zero, List.flatMap_nil, List.append_nil]⟩ ?_ ?_)
  · rintro i y es' hy ⟨u, rfl⟩
    rw [List.getElem?_map] at hy
    cases hs : t[i]? with
    | none => rw [hs] at hy; cases hy
    | some k =>
      rw [hs] at hy
      cases hy
      obtain ⟨e, hle⟩ := flat_take (f := numB) hs
      refine ⟨_, _, gs_name (Nat.le_of_ble_eq_true rfl), ?_⟩
      walk_at "n"
      have z1 : ((numB t.length ++ (t.take i).flatMap numB).map PyData.int).length + ((numB k).map PyData.int).length ≤ sizeLine := by rw [List.length_map, List.length_map, List.length_append, szL]; omega
      refine ss_set (ee_op (ee_var rfl rfl) (ee_wnum (n := k) (ea_cons (ee_cb (ea_cons (ee_var rfl rfl) ea_nil rfl) (cd_ord rfl rfl (by rw [S_len]; rfl))) ea_nil rfl) rfl (by omega)) rfl (od_plusL rfl Els.l rfl Els.l (by exact z1))) (Nat.le_of_ble_eq_true rfl) ?_
      walk_at "n"
      rw [← ints_app, List.append_assoc, ← e]
      exact ⟨_, rfl⟩
  · rintro es' ⟨u, rfl⟩
    rw [List.length_map, List.take_length]
    refine ss_retO (ee_var rfl rfl) rfl ?_
    exact ⟨_, _, rfl, rfl, rfl, trivial⟩
theorem body_law_deed (h : R_law_deed as o) (hl : as.length = vs.length) : SS K W (t_law_deed K) (slots vs as ++ List.replicate 2 .n) (FD vs as o) := by
  obtain ⟨d, hz, rfl, rfl⟩ := h
  obtain ⟨v1, rfl⟩ := one_of hl rfl
  cases d with
  | back n =>
    show SS K W (t_law_deed K) [.o none (.d (.tuple [.str "back", .int (n : Int)])), .n, .n] _
    have hz' : 1 + (numB n).length ≤ 100000 := by
      have : (deeB (.back n)).length = 1 + (numB n).length := by rw [deeB, List.length_append]; rfl
      omega
    refine ss_seq (ss_tt (by walk_at "T") (by decide +kernel) ?_)
    refine ss_ret (ee_op (ee_lst (by walk_at "A") (Nat.le_of_ble_eq_true rfl)) (ee_wnum (n := n) (ea_cons (by walk_at "E") ea_nil rfl) rfl (by omega)) rfl (od_plusL rfl Els.l rfl Els.l (by rw [List.length_map, szL]; show 1 + _ ≤ _; omega))) ?_
    refine ⟨_, _, rfl, ?_, rfl, trivial⟩
    rw [deeB, ints_app]
    rfl
  | chg md rm bh nu tx =>
    show SS K W (t_law_deed K) [.o none (.d (.tuple [.str "change", .str (S md), .tuple (rm.map markD), behD bh, .int (nu : Int), .str (S tx)])), .n, .n] _
    have hz' := hz
    simp only [deeB, List.length_append, List.length_cons, List.length_nil] at hz'
    refine ss_seq (ss_ff (by walk_at "T") (by decide +kernel) (ss_next ?_))
    have z1 : [PyData.int 0].length + ((txtB md).map PyData.int).length ≤ sizeLine := by rw [List.length_map, szL]; show 1 + _ ≤ _; omega
    have z2 : ([PyData.int 0] ++ (txtB md).map PyData.int).length + ((numB rm.length).map PyData.int).length ≤ sizeLine := by rw [List.length_append, List.length_map, List.length_map, szL]; show 1 + _ + _ ≤ _; omega
    refine ss_seq (ss_set (ee_op (ee_op (ee_lst (by walk_at "A") (Nat.le_of_ble_eq_true rfl)) (ee_wr (D := txtD) (B := txtB) (x := md) (ea_cons (by walk_at "E") ea_nil rfl) rfl rfl (by omega)) rfl (od_plusL rfl Els.l rfl Els.l (by exact z1))) (ee_wnum (n := rm.length) (ea_cons (ee_cb (ea_cons (by walk_at "E") ea_nil rfl) (cd_lenT rfl)) ea_nil rfl) (by rw [List.length_map]) (by omega)) rfl (od_plusL rfl Els.l rfl Els.l (by exact z2))) (Nat.le_of_ble_eq_true rfl) ?_)
    walk_at "n"
    have e1 : [PyData.int 0] ++ (txtB md).map PyData.int ++ (numB rm.length).map PyData.int = ([0] ++ txtB md ++ numB rm.length).map PyData.int := by
      rw [ints_app ([0] ++ txtB md), ints_app [0]]
      rfl
    rw [e1]
    have hl1 : ([0] ++ txtB md ++ numB rm.length).length = 0 + 1 + (txtB md).length + (numB rm.length).length := by simp only [List.length_append, List.length_cons, List.length_nil]
    generalize hd1 : [0] ++ txtB md ++ numB rm.length = d1 at hl1 hz
    refine ss_seq (ss_for (xs := rm.map markD) (ei_tup (ee_op (ee_var rfl rfl) ee_int rfl (od_ixT rfl rfl rfl rfl))) (fun i es => ∃ u, es = [.o none (.d (.tuple [.str "change", .str (S md), .tuple (rm.map markD), behD bh, .int (nu : Int), .str (S tx)])), .o none (T.L ((d1 ++ (rm.take i).flatMap mrkB).map .int)), u]) ⟨.n, by rw [List.take_zero, List.flatMap_nil, List.append_nil]⟩ ?_ ?_)
    · rintro i y es' hy ⟨u, rfl⟩
      rw [List.getElem?_map] at hy
      cases hs : rm[i]? with
      | none => rw [hs] at hy; cases hy
      | some k =>
        rw [hs] at hy
        cases hy
        obtain ⟨e, hle⟩ := flat_take (f := mrkB) hs
        refine ⟨_, _, gs_name (Nat.le_of_ble_eq_true rfl), ?_⟩
        walk_at "n"
        have z3 : ((d1 ++ (rm.take i).flatMap mrkB).map PyData.int).length + ((mrkB k).map PyData.int).length ≤ sizeLine := by rw [List.length_map, List.length_map, List.length_append, szL]; omega
        refine ss_set (ee_op (ee_var rfl rfl) (ee_wr (D := markD) (B := mrkB) (x := k) (ea_cons (ee_var rfl rfl) ea_nil rfl) rfl rfl (by omega)) rfl (od_plusL rfl Els.l rfl Els.l (by exact z3))) (Nat.le_of_ble_eq_true rfl) ?_
        walk_at "n"
        rw [← ints_app, List.append_assoc, ← e]
        exact ⟨_, rfl⟩
    · rintro es' ⟨u, rfl⟩
      rw [List.length_map, List.take_length]
      have hb : EE K false (tIf (tTest (tOp rIsNon (tOp (rIx K) (tVar 0) (tC (.int 3))) (tC .non))) (tLst (tCons (tC (.int 0)) tNil)) (tOp (rPlus K) (tLst (tCons (tC (.int 1)) tNil)) (tSpc (spD K R_law_mark) E0 (tCons (tOp (rIx K) (tVar 0) (tC (.int 3))) tNil)))) [.o none (.d (.tuple [.str "change", .str (S md), .tuple (rm.map markD), behD bh, .int (nu : Int), .str (S tx)])), .o none (T.L ((d1 ++ rm.flatMap mrkB).map .int)), u] (.o (T.L ((behB bh).map .int))) [.o none (.d (.tuple [.str "change", .str (S md), .tuple (rm.map markD), behD bh, .int (nu : Int), .str (S tx)])), .o none (T.L ((d1 ++ rm.flatMap mrkB).map .int)), u] := by
        cases bh with
        | none =>
          simp only [behD]
          exact ee_eq (ee_m (ee_ifT (et_is (by walk_at "T") (by rfl)) (ee_lst (xs := [.int 0]) (by walk_at "A") (Nat.le_of_ble_eq_true rfl))) (by rfl)) rfl rfl
        | some k =>
          have hk : (behB (some k)).length = 1 + (mrkB k).length := by rw [behB, List.length_append]; rfl
          have zk : [PyData.int 1].length + ((mrkB k).map PyData.int).length ≤ sizeLine := by rw [List.length_map, szL]; show 1 + _ ≤ _; omega
          simp only [behD, markD]
          refine ee_eq (ee_m (ee_ifF (et_is (by walk_at "T") (by rfl)) (ee_op (ee_lst (by walk_at "A") (Nat.le_of_ble_eq_true rfl)) (ee_wr (D := markD) (B := mrkB) (x := k) (ea_cons (by walk_at "E") ea_nil rfl) rfl rfl (by omega)) rfl (od_plusL rfl Els.l rfl Els.l (by exact zk)))) (by rfl)) ?_ rfl
          rw [behB, ints_app]
          rfl
      have z4 : ((d1 ++ rm.flatMap mrkB).map PyData.int).length + ((behB bh).map PyData.int).length ≤ sizeLine := by rw [List.length_map, List.length_map, List.length_append, szL]; omega
      refine ss_seq (ss_set (ee_op (ee_var rfl rfl) hb rfl (od_plusL rfl Els.l rfl Els.l (by exact z4))) (Nat.le_of_ble_eq_true rfl) ?_)
      rw [← ints_app]
      walk_at "n"
      have z5 : ((d1 ++ rm.flatMap mrkB ++ behB bh).map PyData.int).length + ((numB nu).map PyData.int).length ≤ sizeLine := by rw [List.length_map, List.length_map, List.length_append, List.length_append, szL]; omega
      have z6 : ((d1 ++ rm.flatMap mrkB ++ behB bh).map PyData.int ++ (numB nu).map PyData.int).length + ((txtB tx).map PyData.int).length ≤ sizeLine := by rw [List.length_append, List.length_map, List.length_map, List.length_map, List.length_append, List.length_append, szL]; omega
      refine ss_ret (ee_op (ee_op (ee_var rfl rfl) (ee_wnum (n := nu) (ea_cons (by walk_at "E") ea_nil rfl) rfl (by omega)) rfl (od_plusL rfl Els.l rfl Els.l z5)) (ee_wr (D := txtD) (B := txtB) (x := tx) (ea_cons (by walk_at "E") ea_nil rfl) rfl rfl (by omega)) rfl (od_plusL rfl Els.l rfl Els.l z6)) ?_
      have e9 : deeB (.chg md rm bh nu tx) = [0] ++ txtB md ++ numB rm.length ++ rm.flatMap mrkB ++ behB bh ++ numB nu ++ txtB tx := by
        simp only [deeB, List.append_assoc]
      refine ⟨_, _, rfl, ?_, rfl, trivial⟩
      rw [← ints_app, ← ints_app, e9, hd1]
theorem body_law_triples (h : R_law_triples as o) (hl : as.length = vs.length) : SS K W (t_law_triples K) (slots vs as ++ List.replicate 4 .n) (FD vs as o) := by
  obtain ⟨ts, hz, rfl, rfl⟩ := h
  obtain ⟨v1, rfl⟩ := one_of hl rfl
  show SS K W (t_law_triples K) [.o none (.d (.list (ts.map triD))), .n, .n, .n, .n] _
  have hz' := hz
  rw [triB, List.length_append] at hz'
  have htl := tri_le ts
  refine ss_seq (ss_set (ee_wnum (n := ts.length) (ea_cons (ee_cb (ea_cons (ee_var rfl rfl) ea_nil rfl) (cd_lenL rfl Els.d)) ea_nil rfl) (by rw [List.length_map]) (by omega)) (Nat.le_of_ble_eq_true rfl) ?_)
  walk_at "n"
  refine ss_seq (ss_for (ei_list (xs := ts.map triD) (ee_var rfl rfl)) (fun i es => ∃ u1 u2 u3, es = [.o none (.d (.list (ts.map triD))), .o none (T.L ((numB ts.length ++ (ts.take i).flatMap tr1B).map .int)), u1, u2, u3]) ⟨.n, .n, .n, by rw [List.take_zero, List.flatMap_nil, List.append_nil]⟩ ?_ ?_)
  · rintro i y es' hy ⟨u1, u2, u3, rfl⟩
    rw [List.getElem?_map] at hy
    cases hs : ts[i]? with
    | none => rw [hs] at hy; cases hy
    | some t =>
      rw [hs] at hy
      cases hy
      obtain ⟨e, hle⟩ := flat_take (f := tr1B) hs
      obtain ⟨r, q, d⟩ := t
      obtain ⟨b0, b1, b2, b3⟩ := num3 hs hz
      have hd : (tr1B (r, q, d)).length = (numB r).length + (numB q).length + (deeB d).length := by rw [tr1B, List.length_append, List.length_append]
      refine ⟨_, _, gs_tup (gss_cons (gs_name (Nat.le_of_ble_eq_true rfl)) (gss_cons (gs_name (Nat.le_of_ble_eq_true rfl)) (gss_cons (gs_name (Nat.le_of_ble_eq_true rfl)) gss_nil))) rfl, ?_⟩
      walk_at "n"
      have z1 : ((numB ts.length ++ (ts.take i).flatMap tr1B).map PyData.int).length + ((numB r).map PyData.int).length ≤ sizeLine := by rw [List.length_map, List.length_map, List.length_append, szL]; omega
      have z2 : ((numB ts.length ++ (ts.take i).flatMap tr1B).map PyData.int ++ (numB r).map PyData.int).length + ((numB q).map PyData.int).length ≤ sizeLine := by rw [List.length_append, List.length_map, List.length_map, List.length_map, List.length_append, szL]; omega
      have z3 : ((numB ts.length ++ (ts.take i).flatMap tr1B).map PyData.int ++ (numB r).map PyData.int ++ (numB q).map PyData.int).length + ((deeB d).map PyData.int).length ≤ sizeLine := by rw [List.length_append, List.length_append, List.length_map, List.length_map, List.length_map, List.length_map, List.length_append, szL]; omega
      refine ss_set (ee_op (ee_op (ee_op (ee_var rfl rfl) (ee_wnum (n := r) (ea_cons (ee_var rfl rfl) ea_nil rfl) rfl b1) rfl (od_plusL rfl Els.l rfl Els.l z1)) (ee_wnum (n := q) (ea_cons (ee_var rfl rfl) ea_nil rfl) rfl b2) rfl (od_plusL rfl Els.l rfl Els.l z2)) (ee_wr (D := deedD) (B := deeB) (x := d) (ea_cons (ee_var rfl rfl) ea_nil rfl) rfl rfl b3) rfl (od_plusL rfl Els.l rfl Els.l z3)) (Nat.le_of_ble_eq_true rfl) ?_
      walk_at "n"
      have e4 : (numB ts.length ++ (ts.take i).flatMap tr1B).map PyData.int ++ (numB r).map PyData.int ++ (numB q).map PyData.int ++ (deeB d).map PyData.int = (numB ts.length ++ (ts.take (i + 1)).flatMap tr1B).map PyData.int := by
        rw [e, ← ints_app, ← ints_app, ← ints_app]
        simp only [tr1B, List.append_assoc]
      rw [e4]
      exact ⟨_, _, _, rfl⟩
  · rintro es' ⟨u1, u2, u3, rfl⟩
    rw [List.length_map, List.take_length]
    refine ss_retO (ee_var rfl rfl) rfl ?_
    exact ⟨_, _, rfl, rfl, rfl, trivial⟩
end
end K12

namespace K12
open PySem PySem.Spec PyProof.Rows L2 DW
local macro_rules | `(tactic| walk_at "side") => `(tactic| first | rfl | assumption | omega | (simp only [szL, S_len, List.length_append, List.length_map, List.length_cons, List.length_nil]; omega) | decide)
local macro_rules | `(tactic| walk_at "els") => `(tactic| first | exact Els.l | exact Els.d)
local macro_rules | `(tactic| walk_at "pos") => `(tactic| first | assumption | decide | omega | exact Or.inr (by decide) | exact Or.inl (by decide) | exact ⟨by decide, by decide +kernel⟩ | exact ⟨by decide, by decide, by decide⟩)
local macro_rules | `(tactic| walk_at "at") => `(tactic| first | assumption | rfl)
local macro_rules | `(tactic| walk_at "O") => `(tactic| first
  | focus ((with_reducible apply od_plusI); (rfl); (rfl); (rfl); (rfl); done)
  | focus ((with_reducible apply od_plusS); (rfl); (rfl); (rfl); (rfl); (walk_at "side"); done)
  | focus ((with_reducible apply od_plusL); (rfl); (walk_at "els"); (rfl); (walk_at "els"); (walk_at "side"); done)
  | focus ((with_reducible apply od_plusT); (rfl); (rfl); (walk_at "side"); done)
  | focus ((with_reducible apply od_ixL); (rfl); (walk_at "els"); (rfl); (rfl); (walk_at "at"); done)
  | focus ((with_reducible apply od_ixT); (rfl); (rfl); (rfl); (walk_at "at"); done)
  | focus ((with_reducible apply od_ixS); (rfl); (rfl); (rfl); (rfl); (walk_at "side"); (walk_at "at"); done)
  | focus ((with_reducible apply od_ixC); (rfl); (rfl); (rfl); (walk_at "at"); done)
  | focus ((with_reducible apply od_ixRx); (rfl); (rfl); (rfl); (walk_at "at"); (walk_at "at"); (rfl); done)
  | focus ((with_reducible apply od_ixQx); (rfl); (rfl); (walk_at "at"); (walk_at "at"); (rfl); done)
  | focus ((with_reducible apply od_sub); (rfl); (rfl); (rfl); (rfl); done)
  | focus ((with_reducible apply od_fdiv); (rfl); (rfl); (rfl); (rfl); (walk_at "pos"); done)
  | focus ((with_reducible apply od_mod); (rfl); (rfl); (rfl); (rfl); (walk_at "pos"); done)
  | focus ((with_reducible apply od_pow); (rfl); (rfl); (rfl); (rfl); (walk_at "pos"); done)
  | focus ((with_reducible apply od_lt); (rfl); (rfl); (rfl); (rfl); done)
  | focus ((with_reducible apply od_le); (rfl); (rfl); (rfl); (rfl); done)
  | focus ((with_reducible apply od_gt); (rfl); (rfl); (rfl); (rfl); done)
  | focus ((with_reducible apply od_ge); (rfl); (rfl); (rfl); (rfl); done)
  | focus ((with_reducible apply od_eqI); (rfl); (rfl); (rfl); (rfl); done)
  | focus ((with_reducible apply od_eqS); (rfl); (rfl); (rfl); (rfl); done)
  | focus ((with_reducible apply od_eqB); (rfl); (rfl); (rfl); (rfl); done)
  | focus ((with_reducible apply od_neI); (rfl); (rfl); (rfl); (rfl); done)
  | focus ((with_reducible apply od_neS); (rfl); (rfl); (rfl); (rfl); done)
  | focus ((with_reducible apply od_neB); (rfl); (rfl); (rfl); (rfl); done)
  | focus ((with_reducible apply od_timesI); (rfl); (rfl); (rfl); (rfl); (walk_at "pos"); done)
  | focus ((with_reducible apply od_isN); (rfl); (rfl); done)
  | focus ((with_reducible apply od_isnotN); (rfl); (rfl); done)
  | focus ((with_reducible apply od_inT); (rfl); (rfl); (rfl); (rfl); (rfl); done)
  | focus ((with_reducible apply od_notinT); (rfl); (rfl); (rfl); (rfl); (rfl); done))
local macro_rules | `(tactic| walk_at "kit") => `(tactic| first | exact kit_NoneType_bool | exact kit_NoneType_int | exact kit_NoneType_str | exact kit_NoneType_list | exact kit_NoneType_tuple | exact kit_bool_bool | exact kit_bool_int | exact kit_bool_str | exact kit_bool_list | exact kit_bool_tuple | exact kit_int_bool | exact kit_int_int | exact kit_int_str | exact kit_int_list | exact kit_int_tuple | exact kit_str_bool | exact kit_str_int | exact kit_str_str | exact kit_str_list | exact kit_str_tuple | exact kit_list_bool | exact kit_list_int | exact kit_list_str | exact kit_list_list | exact kit_list_tuple | exact kit_tuple_bool | exact kit_tuple_int | exact kit_tuple_str | exact kit_tuple_list | exact kit_tuple_tuple | exact kit_dict_bool | exact kit_dict_int | exact kit_dict_str | exact kit_dict_list | exact kit_dict_tuple)
local macro_rules | `(tactic| walk_at "C") => `(tactic| fail)
local macro_rules | `(tactic| walk_at "E") => `(tactic| first
  | exact ee_int | exact ee_str | exact ee_bl | exact ee_non
  | exact ee_var rfl rfl
  | (walk_at "C")
  | focus ((with_reducible apply ee_op); (walk_at "E"); (walk_at "E"); (rfl); (walk_at "O"); done)
  | focus ((with_reducible apply ee_lst); (walk_at "A"); (walk_at "side"); done)
  | focus ((with_reducible apply ee_tup); (walk_at "A"); (walk_at "side"); done)
  | focus ((with_reducible apply ee_isi); (walk_at "E"); (rfl); (rfl); (walk_at "kit"); done)
  | focus ((with_reducible apply ee_isiT); (walk_at "E"); (rfl); (rfl); (walk_at "kit"); (walk_at "kit"); (rfl); done)
  | focus ((with_reducible apply ee_cb); (walk_at "EA"); (walk_at "F"); done)
  | focus ((with_reducible apply ee_not); (walk_at "E"); done)
  | focus ((with_reducible apply ee_and); (walk_at "E"); (intro; walk_at "E"); done)
  | focus ((with_reducible apply ee_or); (walk_at "E"); (intro; walk_at "E"); done)
  | focus ((with_reducible apply ee_sl); (walk_at "E"); (walk_at "EO"); (walk_at "EO"); (rfl); (walk_at "SD"); done)
  | focus ((with_reducible apply ee_neg); (walk_at "E"); (rfl); (rfl); done))
local macro_rules | `(tactic| walk_at "A") => `(tactic| first
  | exact ead_nil
  | focus ((with_reducible apply ead_cons); (walk_at "E"); (walk_at "A"); done))
local macro_rules | `(tactic| walk_at "EA") => `(tactic| first
  | exact ea_nil
  | focus ((with_reducible apply ea_cons); (walk_at "E"); (walk_at "EA"); (rfl); done))
local macro_rules | `(tactic| walk_at "F") => `(tactic| first
  | focus ((with_reducible apply cd_lenL); (rfl); (walk_at "els"); done)
  | focus ((with_reducible apply cd_lenT); (rfl); done)
  | focus ((with_reducible apply cd_lenS); (rfl); (rfl); (walk_at "side"); done)
  | focus ((with_reducible apply cd_lenC); (rfl); done)
  | focus ((with_reducible apply cd_lenO); (rfl); done)
  | focus ((with_reducible apply cd_int); (rfl); (rfl); done)
  | focus ((with_reducible apply cd_intB); (rfl); (rfl); done)
  | focus ((with_reducible apply cd_listC); (rfl); done)
  | focus ((with_reducible apply cd_list); (rfl); (walk_at "els"); done)
  | focus ((with_reducible apply cd_listT); (rfl); done)
  | focus ((with_reducible apply cd_tuple); (rfl); (walk_at "els"); done)
  | focus ((with_reducible apply cd_max); (rfl); (rfl); (rfl); (rfl); done)
  | focus ((with_reducible apply cd_min); (rfl); (rfl); (rfl); (rfl); done)
  | focus ((with_reducible apply cd_str); (rfl); (rfl); (walk_at "side"); done)
  | focus ((with_reducible apply cd_ord); (rfl); (rfl); (walk_at "side"); done))
local macro_rules | `(tactic| walk_at "T") => `(tactic| first
  | focus ((with_reducible apply et_test); (walk_at "E"); done)
  | focus ((with_reducible apply et_B); (walk_at "E"); done)
  | focus ((with_reducible apply et_not); (walk_at "T"); done)
  | exact et_yes
  | focus ((with_reducible apply et_and); (walk_at "T"); (intro; walk_at "T"); done)
  | focus ((with_reducible apply et_or); (walk_at "T"); (intro; walk_at "T"); done))
local macro_rules | `(tactic| walk_at "D") => `(tactic| first
  | (walk_at "E")
  | focus ((with_reducible apply ed_lst); (walk_at "E"); done))
local macro_rules | `(tactic| walk_at "A") => `(tactic| first
  | exact ead_nil
  | focus ((with_reducible apply ead_cons); (walk_at "D"); (walk_at "A"); done))
local macro_rules | `(tactic| walk_at "v") => `(tactic| (intro a0 z0; cases z0))
local macro_rules | `(tactic| walk_at "set") => `(tactic| ((with_reducible apply ss_asg); (walk_at "E"); (exact Nat.le_of_ble_eq_true rfl); (rfl); (walk_at "v"); (dsimp only [List.set_cons_zero, List.set_cons_succ, Vl.sl, upd1, List.getElem?_cons_zero, List.getElem?_cons_succ, T.set])))
local macro_rules | `(tactic| walk_at "n") => `(tactic| (dsimp only [List.set_cons_zero, List.set_cons_succ, Vl.sl, upd1, List.getElem?_cons_zero, List.getElem?_cons_succ, T.set, putT]))
local macro_rules | `(tactic| walk_at "setI") => `(tactic| ((with_reducible apply ss_setI); (walk_at "E"); (with_reducible apply ee_m); (walk_at "E"); (rfl); (with_reducible apply ee_m); (walk_at "E"); (rfl); (rfl); (walk_at "at"); (walk_at "n")))
local macro_rules | `(tactic| walk_at "EO") => `(tactic| first
  | exact eo_no
  | focus ((with_reducible apply eo_part); (walk_at "E"); (rfl); (rfl); done))
local macro_rules | `(tactic| walk_at "SD") => `(tactic| first
  | focus ((with_reducible apply sd_L); (rfl); (walk_at "els"); done)
  | focus ((with_reducible apply sd_S); (rfl); (rfl); (walk_at "side"); done)
  | focus ((with_reducible apply sd_T); (rfl); done))
section
variable {K : PySem.W.Frag} {W : WX} {vs : List V} {as : List Ag} {o : Out} {m : Bool} {es es1 : Es} {ta : TA} {te : TE} {i : Nat} {E : XK} {c : CA} {a : Option V} {bs d : List Int} {p : Nat}
/-! ### what reads -/
section
variable {α β : Type}
theorem bnd_no {q : Ps α} {f : α → Ps β} (h : q bs p = none) : bnd q f bs p = none := by
  unfold bnd
  rw [h]
theorem bnd_ok {q : Ps α} {f : α → Ps β} {x : α} {b : Nat} (h : q bs p = some (x, b)) : bnd q f bs p = f x bs b := by
  unfold bnd
  rw [h]
theorem rRep_no {q : Ps α} {k : Nat} (h : rRep q k bs p = none) : rRep q (k + 1) bs p = none := by
  show (match rRep q k bs p with | none => none | some (l, b) => _) = _
  rw [h]
theorem rRep_ok {q : Ps α} {k : Nat} {l : List α} {b : Nat} (h : rRep q k bs p = some (l, b)) : rRep q (k + 1) bs p = (match q bs b with | none => none | some (x, d) => some (l ++ [x], d)) := by
  show (match rRep q k bs p with | none => none | some (l, b) => (match q bs b with | none => none | some (x, d) => some (l ++ [x], d))) = _
  rw [h]
theorem rRep_mono {q : Ps α} {k : Nat} (h : rRep q k bs p = none) : ∀ n, k ≤ n → rRep q n bs p = none := fun n hn => by
  obtain ⟨j, rfl⟩ := Nat.le.dest hn
  induction j with
  | zero => exact h
  | succ j ih => exact rRep_no (ih (by omega))
theorem rRep_len {q : Ps α} : ∀ {k : Nat} {l : List α} {b : Nat}, rRep q k bs p = some (l, b) → l.length = k
  | 0, l, b, h => by
    cases h
    rfl
  | k + 1, l, b, h => by
    cases h1 : rRep q k bs p with
    | none => rw [rRep_no h1] at h; cases h
    | some r =>
      obtain ⟨l1, b1⟩ := r
      rw [rRep_ok h1] at h
      cases h2 : q bs b1 with
      | none => rw [h2] at h; cases h
      | some s =>
        obtain ⟨x, d⟩ := s
        rw [h2] at h
        cases h
        rw [List.length_append, rRep_len h1]
        rfl
/-- the place behind i things, and the i-th thing -/
def rAt (q : Ps α) (bs : List Int) (p i : Nat) : Nat := match rRep q i bs p with
  | none => 0
  | some (_, b) => b
def rOut (q : Ps α) (D : α → PyData) (bs : List Int) (p i : Nat) : PyData := match q bs (rAt q bs p i) with
  | none => .none
  | some (x, _) => D x
theorem rAt_of {q : Ps α} {k : Nat} {l : List α} {b : Nat} (h : rRep q k bs p = some (l, b)) : rAt q bs p k = b := by
  unfold rAt
  rw [h]
/-- each thing ahead is read -/
theorem rRep_step {q : Ps α} {n i : Nat} {l : List α} {b : Nat} (h : rRep q n bs p = some (l, b)) (hi : i < n) : ∃ x, q bs (rAt q bs p i) = some (x, rAt q bs p (i + 1)) := by
  cases h1 : rRep q (i + 1) bs p with
  | none => rw [rRep_mono h1 n hi] at h; cases h
  | some r =>
    obtain ⟨l1, b1⟩ := r
    cases h2 : rRep q i bs p with
    | none => rw [rRep_no h2] at h1; cases h1
    | some s =>
      obtain ⟨l2, b2⟩ := s
      have h3 := h1
      rw [rRep_ok h2] at h1
      rw [rAt_of h2, rAt_of h3]
      cases h4 : q bs b2 with
      | none => rw [h4] at h1; cases h1
      | some u =>
        obtain ⟨x, d⟩ := u
        rw [h4] at h1
        cases h1
        exact ⟨x, rfl⟩
theorem rRep_out {q : Ps α} {D : α → PyData} : ∀ {n : Nat} {l : List α} {b : Nat}, rRep q n bs p = some (l, b) → (List.range n).map (rOut q D bs p) = l.map D
  | 0, l, b, h => by
    cases h
    rfl
  | n + 1, l, b, h => by
    cases h2 : rRep q n bs p with
    | none => rw [rRep_no h2] at h; cases h
    | some s =>
      obtain ⟨l2, b2⟩ := s
      rw [rRep_ok h2] at h
      rw [List.range_succ, List.map_append, rRep_out h2]
      cases h4 : q bs b2 with
      | none => rw [h4] at h; cases h
      | some u =>
        obtain ⟨x, d⟩ := u
        rw [h4] at h
        cases h
        rw [List.map_append]
        congr 1
        show [rOut q D bs p n] = [D x]
        unfold rOut
        rw [rAt_of h2, h4]
/-- the first thing that is none -/
theorem rRep_first {q : Ps α} : ∀ {n : Nat}, rRep q n bs p = none → ∃ k l b, k < n ∧ rRep q k bs p = some (l, b) ∧ q bs b = none
  | 0, h => nomatch h
  | n + 1, h => by
    cases h2 : rRep q n bs p with
    | none =>
      obtain ⟨k, l, b, h3, h4, h5⟩ := rRep_first h2
      exact ⟨k, l, b, by omega, h4, h5⟩
    | some s =>
      obtain ⟨l2, b2⟩ := s
      rw [rRep_ok h2] at h
      refine ⟨n, l2, b2, Nat.lt_succ_self _, h2, ?_⟩
      cases h4 : q bs b2 with
      | none => rfl
      | some u => rw [h4] at h; cases h
theorem rCnt_ok {n b : Nat} (h : rCnt bs p = some (n, b)) : rNum bs p = some (n, b) ∧ n + b ≤ bs.length := by
  unfold rCnt at h
  cases h1 : rNum bs p with
  | none => rw [h1] at h; cases h
  | some q =>
    obtain ⟨n1, b1⟩ := q
    rw [h1] at h
    have h' : (if bs.length < n1 + b1 then none else some (n1, b1)) = some (n, b) := h
    by_cases hc : bs.length < n1 + b1
    · rw [if_pos hc] at h'; cases h'
    · rw [if_neg hc] at h'
      cases h'
      exact ⟨rfl, by omega⟩
end
/-! ### the reader -/
theorem ne1 : ¬ ("data" : Str) = "at" := by decide +kernel
theorem get1 {a b : T} : List.lookup ("data" : Str) [("data", a), ("at", b)] = some a := lookup_cons_eq _ _ _
theorem get2 {a b : T} : List.lookup ("at" : Str) [("data", a), ("at", b)] = some b := by
  rw [lookup_cons_ne _ _ ne1]
  exact lookup_cons_eq _ _ _
theorem put2 {a b u : T} : putT ("at" : Str) u [("data", a), ("at", b)] = ([("data", a), ("at", u)] : List (Str × T)) := by
  rw [putT_ne ne1, putT_eq]
theorem rno {a b : T} {f : Str} (h1 : ¬ ("data" : Str) = f) (h2 : ¬ ("at" : Str) = f) : List.lookup f [("data", a), ("at", b)] = none := by
  rw [lookup_cons_ne _ _ h1, lookup_cons_ne _ _ h2]
  rfl
/-- a name that is no field -/
def NoF (f : Str) : Prop := ¬ ("data" : Str) = f ∧ ¬ ("at" : Str) = f
theorem NoF.no {a b : T} {f : Str} (h : NoF f) : List.lookup f [("data", a), ("at", b)] = none := rno h.1 h.2
theorem nf_byte : NoF "read_byte" := ⟨by decide +kernel, by decide +kernel⟩
theorem nf_choice : NoF "read_choice" := ⟨by decide +kernel, by decide +kernel⟩
theorem nf_end : NoF "end" := ⟨by decide +kernel, by decide +kernel⟩
theorem nf_number : NoF "read_number" := ⟨by decide +kernel, by decide +kernel⟩
theorem nf_count : NoF "read_count" := ⟨by decide +kernel, by decide +kernel⟩
theorem nf_character : NoF "read_character" := ⟨by decide +kernel, by decide +kernel⟩
theorem nf_string : NoF "read_string" := ⟨by decide +kernel, by decide +kernel⟩
theorem nf_mark : NoF "read_mark" := ⟨by decide +kernel, by decide +kernel⟩
theorem nf_deed : NoF "read_deed" := ⟨by decide +kernel, by decide +kernel⟩
theorem nf_triple : NoF "read_triple" := ⟨by decide +kernel, by decide +kernel⟩
theorem nf_triples : NoF "read_triples" := ⟨by decide +kernel, by decide +kernel⟩
theorem nf_packet : NoF "read_packet" := ⟨by decide +kernel, by decide +kernel⟩
theorem at1 {p : Nat} : (rdT c bs p).at [.fd "data"] = some (T.L (bs.map .int)) := by
  unfold rdT
  rw [T.at_fd get1]
  rfl
theorem ee_dataR (X : CF K c) (h : es[i]? = some (.o a (rdT c bs p))) : EE K false (tFld K (tVar i) "data") es (.r i [.fd "data"]) es := ee_fldR X.cl_Reader X.na_Reader_data (ee_var h rfl) (tr_at h T.at_nil) get1
theorem ee_atR (X : CF K c) (h : es[i]? = some (.o a (rdT c bs p))) : EE K false (tFld K (tVar i) "at") es (.o (.d (.int (p : Int)))) es := ee_fldR X.cl_Reader X.na_Reader_at (ee_var h rfl) (tr_at h T.at_nil) get2
theorem body_Reader_init (X : CF K c) (h : R_Reader_init c as o) (hl : as.length = vs.length) : SS K W (t_Reader_init K c) (slots vs as ++ List.replicate 0 .n) (FD vs as o) := by
  obtain ⟨bs, hz, rfl, rfl⟩ := h
  obtain ⟨v1, v2, rfl⟩ := two_of hl rfl
  show SS K W (t_Reader_init K c) [.o (some v1) (.ins c.Reader []), .q (some v2) (T.L (bs.map .int))] _
  refine ss_seq (ss_fld X.cl_Reader X.na_Reader_data (ee_cb (ea_cons (ee_var rfl rfl) ea_nil rfl) (cd_list rfl Els.l)) (ee_var rfl rfl) (tr_at rfl rfl) (by decide) ?_)
  refine ss_fld X.cl_Reader X.na_Reader_at (by walk_at "E") (ee_var rfl rfl) (tr_at rfl rfl) (by show 1 < 1000; decide) ?_
  refine ⟨_, rfl, ⟨_, rfl, ?_⟩, rfl, trivial⟩
  show some (Sl.o (some v1) (.ins c.Reader (putT "at" _ [("data", _)]))) = _
  rw [putT_ne ne1]
  rfl
/-- A METHOD THAT READS, CALLED -/
theorem ee_rd {α : Type} {q : Ps α} {vD : α → T} {mt : Str} {x : α} {b : Nat} (nf : NoF mt) (h : es[i]? = some (.o a (rdT c bs p))) (hz : bs.length ≤ 1000000) (hb : q bs p = some (x, b)) : EE K true (tSpc (spD K (RRd c q vD)) E (methA c.Reader mt (tVar i) tNil)) es (.o (vD x)) (es.set i (.o a (rdT c bs b))) :=
  ee_eq (ee_callM (R := RRd c q vD) (i := i) (p := []) (k := 0) (t2 := rdT c bs b) (t := vD x) (ea_meth (ee_var h rfl) (tr_at h T.at_nil) nf.no ea_nil rfl) (.here (tr_at h T.at_nil) .nil) ⟨bs, p, hz, rfl, by rw [hb]⟩) rfl (upd1_set h)
theorem ex_rd {α : Type} {q : Ps α} {vD : α → T} {mt : Str} {E' : L2.St → XK} (nf : NoF mt) (h : es[i]? = some (.o a (rdT c bs p))) (hz : bs.length ≤ 1000000) (hb : q bs p = none) (hE : ∀ σ H, W (.ref c.DamagedPacket) none σ H → E' σ (.ref c.DamagedPacket) none H) : EX K W (tCallS (spD K (RRd c q vD)) E' (methA c.Reader mt (tVar i) tNil)) es (.ref c.DamagedPacket) (es.set i .n) :=
  ex_callM (R := RRd c q vD) (i := i) (p := []) (k := 0) (t2 := rdT c bs p) (ea_meth (ee_var h rfl) (tr_at h T.at_nil) nf.no ea_nil rfl) (.here (tr_at h T.at_nil) .nil) ⟨bs, p, hz, rfl, by rw [hb]⟩ hE
theorem ee_cho {b : Int} {r : Nat} {k : Int} (h : es[i]? = some (.o a (rdT c bs p))) (hz : bs.length ≤ 1000000) (hb : rCho k bs p = some (b, r)) : EE K true (tSpc (spD K (R_Reader_read_choice c)) E (methA c.Reader "read_choice" (tVar i) (tCons (tC (.int k)) tNil))) es (.o (.d (.int b))) (es.set i (.o a (rdT c bs r))) :=
  ee_eq (ee_callM (R := R_Reader_read_choice c) (i := i) (p := []) (k := 0) (t2 := rdT c bs r) (t := .d (.int b)) (ea_meth (ee_var h rfl) (tr_at h T.at_nil) nf_choice.no (ea_cons ee_int ea_nil rfl) rfl) (.here (tr_at h T.at_nil) (.d .nil)) ⟨bs, p, k, hz, rfl, by rw [hb]⟩) rfl (upd1_set h)
theorem ex_cho {k : Int} {E' : L2.St → XK} (h : es[i]? = some (.o a (rdT c bs p))) (hz : bs.length ≤ 1000000) (hb : rCho k bs p = none) (hE : ∀ σ H, W (.ref c.DamagedPacket) none σ H → E' σ (.ref c.DamagedPacket) none H) : EX K W (tCallS (spD K (R_Reader_read_choice c)) E' (methA c.Reader "read_choice" (tVar i) (tCons (tC (.int k)) tNil))) es (.ref c.DamagedPacket) (es.set i .n) :=
  ex_callM (R := R_Reader_read_choice c) (i := i) (p := []) (k := 0) (t2 := rdT c bs p) (ea_meth (ee_var h rfl) (tr_at h T.at_nil) nf_choice.no (ea_cons ee_int ea_nil rfl) rfl) (.here (tr_at h T.at_nil) (.d .nil)) ⟨bs, p, k, hz, rfl, by rw [hb]⟩ hE
/-! ### things behind one another -/
theorem set_self {tl : Es} {k : Nat} (hk : tl[k]? = some .n) : tl.set k .n = tl := by
  obtain ⟨h1, h2⟩ := List.getElem?_eq_some_iff.mp hk
  rw [← h2]
  exact List.set_getElem_self h1
section
variable {α : Type} {q : Ps α} {D : α → PyData} {mt : Str} {tl : Es} {k n b : Nat} {l : List α} {wi : TI} {mI : Bool}
theorem unw_tl {r r' x : Sl} (hk : tl[k]? = some .n) : unw (r :: tl) (r' :: (tl.set k x)) [k + 1] = r' :: tl := by
  show r' :: ((tl.set k x).set k ((tl[k]?).getD .n)) = _
  rw [hk, List.set_set]
  show r' :: tl.set k .n = _
  rw [set_self hk]
theorem gs_tl {r : Sl} {x : PyData} (hk : tl[k]? = some .n) : GS K (gName (k + 1)) x (wipeE (r :: tl) [k + 1]) (r :: (tl.set k (.o none (.d x)))) [k + 1] := by
  have h1 : k < tl.length := (List.getElem?_eq_some_iff.mp hk).1
  have e : wipeE (r :: tl) [k + 1] = r :: tl := by
    show r :: tl.set k .n = _
    rw [set_self hk]
  rw [e]
  exact gs_name (n := k + 1) (es := r :: tl) (by rw [List.length_cons]; omega)
theorem ee_lcRd (nf : NoF mt) (hz : bs.length ≤ 1000000) (hn : n ≤ 1000000) (hI : EI K true mI wi es (rangeD 0 n) (.o a (rdT c bs p) :: tl)) (hk : tl[k]? = some .n) (hr : rRep q n bs p = some (l, b)) : EE K true (tLc wi (gName (k + 1)) tYes (tSpc (spD K (RRd c q fun x => .d (D x))) E (methA c.Reader mt (tVar 0) tNil)) [k + 1]) es (.o (T.L (l.map D))) (.o a (rdT c bs b) :: tl) := by
  have e := ee_lcR (K := K) (out := rOut q D bs p) (g := gName (k + 1)) (vs := [k + 1]) (te := tSpc (spD K (RRd c q fun x => .d (D x))) E (methA c.Reader mt (tVar 0) tNil)) hI (by rw [rangeD_len, szL]; omega) (fun i => .o a (rdT c bs (rAt q bs p i)) :: tl) rfl (fun i x hx => by
    have hi : i < n := by
      have := (List.getElem?_eq_some_iff.mp hx).1
      rwa [rangeD_len] at this
    obtain ⟨y, hy⟩ := rRep_step hr hi
    have h2 : ED K true (tSpc (spD K (RRd c q fun x => .d (D x))) E (methA c.Reader mt (tVar 0) tNil)) (.o a (rdT c bs (rAt q bs p i)) :: tl.set k (.o none (.d x))) (rOut q D bs p i) (.o a (rdT c bs (rAt q bs p (i + 1))) :: tl.set k (.o none (.d x))) := by
      have e2 : rOut q D bs p i = D y := by
        unfold rOut
        rw [hy]
      rw [e2]
      exact ee_rd nf rfl hz hy
    refine ⟨_, _, _, gs_tl hk, fun j hj => hj, h2, (unw_tl hk).symm, ?_⟩
    rw [List.length_cons, List.length_cons, List.length_set])
  rw [rangeD_len, rRep_out hr, rAt_of hr] at e
  exact e
theorem ex_lcRd (nf : NoF mt) (hz : bs.length ≤ 1000000) (hn : n ≤ 1000000) (hI : EI K true mI wi es (rangeD 0 n) (.o a (rdT c bs p) :: tl)) (hk : tl[k]? = some .n) (hr : rRep q n bs p = none) (hE : ∀ σ H, W (.ref c.DamagedPacket) none σ H → E (.ref c.DamagedPacket) none H) (hσ : ∀ σ σ' H, W (.ref c.DamagedPacket) none σ H → W (.ref c.DamagedPacket) none σ' H) : ∃ es', EX K W (tLc wi (gName (k + 1)) tYes (tSpc (spD K (RRd c q fun x => .d (D x))) E (methA c.Reader mt (tVar 0) tNil)) [k + 1]) es (.ref c.DamagedPacket) es' := by
  obtain ⟨kk, l, b, hkk, h1, h2⟩ := rRep_first hr
  have e := ex_lcE (K := K) (W := W) (c0 := .ref c.DamagedPacket) (kk := kk) (esk := .n :: tl.set k (.o none (.d (.int (0 + (kk : Int)))))) (g := gName (k + 1)) (tt := tYes) (vs := [k + 1]) (te := tSpc (spD K (RRd c q fun x => .d (D x))) E (methA c.Reader mt (tVar 0) tNil)) hσ hI (by rw [rangeD_len]; exact hkk) (fun i => .o a (rdT c bs (rAt q bs p i)) :: tl) (fun i => ((List.range i).map (rOut q D bs p)).map T.d) rfl rfl (fun i x hi hx => by
    obtain ⟨y, hy⟩ := rRep_step h1 hi
    refine ⟨_, _, true, _, gs_tl hk, fun j hj => hj, et_wk et_yes (fun z => nomatch z), fun _ => ⟨.d (rOut q D bs p i), .o a (rdT c bs (rAt q bs p (i + 1))) :: tl.set k (.o none (.d x)), ?_, (unw_tl hk).symm, ?_, ?_, ?_⟩, fun z => nomatch z⟩
    · have e2 : rOut q D bs p i = D y := by
        unfold rOut
        rw [hy]
      rw [e2]
      exact ee_rd nf rfl hz hy
    · rw [List.length_cons, List.length_cons, List.length_set]
    · rw [List.range_succ, List.map_append, List.map_append]
      rfl
    · rw [List.length_map, List.length_map, List.length_range, szL]
      omega) (fun x hx => by
    rw [rangeD_get hkk] at hx
    cases hx
    refine ⟨_, _, _, gs_tl hk, fun j hj => hj, et_wk et_yes (fun z => nomatch z), ?_, ?_⟩
    · rw [rAt_of h1]
      exact ex_rd (E' := fun _ => E) nf rfl hz h2 hE
    · rw [List.length_cons, List.length_cons, List.length_set])
  exact ⟨_, e⟩
/-- a list: its number, and its things -/
theorem ee_rdL (nf : NoF mt) (hz : bs.length ≤ 1000000) (hk : tl[k]? = some .n) (hr : bnd rCnt (rRep q) bs p = some (l, b)) : EE K true (tLc (iRng1 (tCons (tSpc (spD K (R_Reader_read_count c)) E (methA c.Reader "read_count" (tVar 0) tNil)) tNil)) (gName (k + 1)) tYes (tSpc (spD K (RRd c q fun x => .d (D x))) E (methA c.Reader mt (tVar 0) tNil)) [k + 1]) (.o a (rdT c bs p) :: tl) (.o (T.L (l.map D))) (.o a (rdT c bs b) :: tl) := by
  cases h1 : rCnt bs p with
  | none => rw [bnd_no h1] at hr; cases hr
  | some u =>
    obtain ⟨n, b1⟩ := u
    rw [bnd_ok h1] at hr
    have h2 := (rCnt_ok h1).2
    have hI : EI K true true (iRng1 (tCons (tSpc (spD K (R_Reader_read_count c)) E (methA c.Reader "read_count" (tVar 0) tNil)) tNil)) (.o a (rdT c bs p) :: tl) (rangeD 0 n) (.o a (rdT c bs b1) :: tl) :=
      ei_m (ei_range1 (j := (n : Int)) (ead_cons (ee_rd (i := 0) nf_count rfl hz h1) ead_nil) ⟨by omega, by omega⟩) rfl
    exact ee_lcRd nf hz (by omega) hI hk hr
theorem ex_rdL (nf : NoF mt) (hz : bs.length ≤ 1000000) (hk : tl[k]? = some .n) (hr : bnd rCnt (rRep q) bs p = none) (hE : ∀ σ H, W (.ref c.DamagedPacket) none σ H → E (.ref c.DamagedPacket) none H) (hσ : ∀ σ σ' H, W (.ref c.DamagedPacket) none σ H → W (.ref c.DamagedPacket) none σ' H) : ∃ es', EX K W (tLc (iRng1 (tCons (tSpc (spD K (R_Reader_read_count c)) E (methA c.Reader "read_count" (tVar 0) tNil)) tNil)) (gName (k + 1)) tYes (tSpc (spD K (RRd c q fun x => .d (D x))) E (methA c.Reader mt (tVar 0) tNil)) [k + 1]) (.o a (rdT c bs p) :: tl) (.ref c.DamagedPacket) es' := by
  cases h1 : rCnt bs p with
  | none => exact ⟨_, ex_lcI (exi_range1 (exa_head (ex_rd (i := 0) (E' := fun _ => E) nf_count rfl hz h1 hE)))⟩
  | some u =>
    obtain ⟨n, b1⟩ := u
    rw [bnd_ok h1] at hr
    have h2 := (rCnt_ok h1).2
    have hI : EI K true true (iRng1 (tCons (tSpc (spD K (R_Reader_read_count c)) E (methA c.Reader "read_count" (tVar 0) tNil)) tNil)) (.o a (rdT c bs p) :: tl) (rangeD 0 n) (.o a (rdT c bs b1) :: tl) :=
      ei_m (ei_range1 (j := (n : Int)) (ead_cons (ee_rd (i := 0) nf_count rfl hz h1) ead_nil) ⟨by omega, by omega⟩) rfl
    exact ex_lcRd nf hz (by omega) hI hk hr hE hσ
end
end
end K12

namespace K12
open PySem PySem.Spec PyProof.Rows L2 DW
local macro_rules | `(tactic| walk_at "side") => `(tactic| first | rfl | assumption | omega | (simp only [szL, S_len, List.length_append, List.length_map, List.length_cons, List.length_nil]; omega) | decide)
local macro_rules | `(tactic| walk_at "els") => `(tactic| first | exact Els.l | exact Els.d)
local macro_rules | `(tactic| walk_at "pos") => `(tactic| first | assumption | decide | omega | exact Or.inr (by decide) | exact Or.inl (by decide) | exact ⟨by decide, by decide +kernel⟩ | exact ⟨by decide, by decide, by decide⟩)
local macro_rules | `(tactic| walk_at "at") => `(tactic| first | assumption | rfl)
local macro_rules | `(tactic| walk_at "O") => `(tactic| first
  | focus ((with_reducible apply od_plusI); (rfl); (rfl); (rfl); (rfl); done)
  | focus ((with_reducible apply od_plusS); (rfl); (rfl); (rfl); (rfl); (walk_at "side"); done)
  | focus ((with_reducible apply od_plusL); (rfl); (walk_at "els"); (rfl); (walk_at "els"); (walk_at "side"); done)
  | focus ((with_reducible apply od_plusT); (rfl); (rfl); (walk_at "side"); done)
  | focus ((with_reducible apply od_ixL); (rfl); (walk_at "els"); (rfl); (rfl); (walk_at "at"); done)
  | focus ((with_reducible apply od_ixT); (rfl); (rfl); (rfl); (walk_at "at"); done)
  | focus ((with_reducible apply od_ixS); (rfl); (rfl); (rfl); (rfl); (walk_at "side"); (walk_at "at"); done)
  | focus ((with_reducible apply od_ixC); (rfl); (rfl); (rfl); (walk_at "at"); done)
  | focus ((with_reducible apply od_ixRx); (rfl); (rfl); (rfl); (walk_at "at"); (walk_at "at"); (rfl); done)
  | focus ((with_reducible apply od_ixQx); (rfl); (rfl); (walk_at "at"); (walk_at "at"); (rfl); done)
  | focus ((with_reducible apply od_sub); (rfl); (rfl); (rfl); (rfl); done)
  | focus ((with_reducible apply od_fdiv); (rfl); (rfl); (rfl); (rfl); (walk_at "pos"); done)
  | focus ((with_reducible apply od_mod); (rfl); (rfl); (rfl); (rfl); (walk_at "pos"); done)
  | focus ((with_reducible apply od_pow); (rfl); (rfl); (rfl); (rfl); (walk_at "pos"); done)
  | focus ((with_reducible apply od_lt); (rfl); (rfl); (rfl); (rfl); done)
  | focus ((with_reducible apply od_le); (rfl); (rfl); (rfl); (rfl); done)
  | focus ((with_reducible apply od_gt); (rfl); (rfl); (rfl); (rfl); done)
  | focus ((with_reducible apply od_ge); (rfl); (rfl); (rfl); (rfl); done)
  | focus ((with_reducible apply od_eqI); (rfl); (rfl); (rfl); (rfl); done)
  | focus ((with_reducible apply od_eqS); (rfl); (rfl); (rfl); (rfl); done)
  | focus ((with_reducible apply od_eqB); (rfl); (rfl); (rfl); (rfl); done)
  | focus ((with_reducible apply od_neI); (rfl); (rfl); (rfl); (rfl); done)
  | focus ((with_reducible apply od_neS); (rfl); (rfl); (rfl); (rfl); done)
  | focus ((with_reducible apply od_neB); (rfl); (rfl); (rfl); (rfl); done)
  | focus ((with_reducible apply od_timesI); (rfl); (rfl); (rfl); (rfl); (walk_at "pos"); done)
  | focus ((with_reducible apply od_isN); (rfl); (rfl); done)
  | focus ((with_reducible apply od_isnotN); (rfl); (rfl); done)
  | focus ((with_reducible apply od_inT); (rfl); (rfl); (rfl); (rfl); (rfl); done)
  | focus ((with_reducible apply od_notinT); (rfl); (rfl); (rfl); (rfl); (rfl); done))
local macro_rules | `(tactic| walk_at "kit") => `(tactic| first | exact kit_NoneType_bool | exact kit_NoneType_int | exact kit_NoneType_str | exact kit_NoneType_list | exact kit_NoneType_tuple | exact kit_bool_bool | exact kit_bool_int | exact kit_bool_str | exact kit_bool_list | exact kit_bool_tuple | exact kit_int_bool | exact kit_int_int | exact kit_int_str | exact kit_int_list | exact kit_int_tuple | exact kit_str_bool | exact kit_str_int | exact kit_str_str | exact kit_str_list | exact kit_str_tuple | exact kit_list_bool | exact kit_list_int | exact kit_list_str | exact kit_list_list | exact kit_list_tuple | exact kit_tuple_bool | exact kit_tuple_int | exact kit_tuple_str | exact kit_tuple_list | exact kit_tuple_tuple | exact kit_dict_bool | exact kit_dict_int | exact kit_dict_str | exact kit_dict_list | exact kit_dict_tuple)
local macro_rules | `(tactic| walk_at "C") => `(tactic| fail)
local macro_rules | `(tactic| walk_at "E") => `(tactic| first
  | exact ee_int | exact ee_str | exact ee_bl | exact ee_non
  | exact ee_var rfl rfl
  | (walk_at "C")
  | focus ((with_reducible apply ee_op); (walk_at "E"); (walk_at "E"); (rfl); (walk_at "O"); done)
  | focus ((with_reducible apply ee_lst); (walk_at "A"); (walk_at "side"); done)
  | focus ((with_reducible apply ee_tup); (walk_at "A"); (walk_at "side"); done)
  | focus ((with_reducible apply ee_isi); (walk_at "E"); (rfl); (rfl); (walk_at "kit"); done)
  | focus ((with_reducible apply ee_isiT); (walk_at "E"); (rfl); (rfl); (walk_at "kit"); (walk_at "kit"); (rfl); done)
  | focus ((with_reducible apply ee_cb); (walk_at "EA"); (walk_at "F"); done)
  | focus ((with_reducible apply ee_not); (walk_at "E"); done)
  | focus ((with_reducible apply ee_and); (walk_at "E"); (intro; walk_at "E"); done)
  | focus ((with_reducible apply ee_or); (walk_at "E"); (intro; walk_at "E"); done)
  | focus ((with_reducible apply ee_sl); (walk_at "E"); (walk_at "EO"); (walk_at "EO"); (rfl); (walk_at "SD"); done)
  | focus ((with_reducible apply ee_neg); (walk_at "E"); (rfl); (rfl); done))
local macro_rules | `(tactic| walk_at "A") => `(tactic| first
  | exact ead_nil
  | focus ((with_reducible apply ead_cons); (walk_at "E"); (walk_at "A"); done))
local macro_rules | `(tactic| walk_at "EA") => `(tactic| first
  | exact ea_nil
  | focus ((with_reducible apply ea_cons); (walk_at "E"); (walk_at "EA"); (rfl); done))
local macro_rules | `(tactic| walk_at "F") => `(tactic| first
  | focus ((with_reducible apply cd_lenL); (rfl); (walk_at "els"); done)
  | focus ((with_reducible apply cd_lenT); (rfl); done)
  | focus ((with_reducible apply cd_lenS); (rfl); (rfl); (walk_at "side"); done)
  | focus ((with_reducible apply cd_lenC); (rfl); done)
  | focus ((with_reducible apply cd_lenO); (rfl); done)
  | focus ((with_reducible apply cd_int); (rfl); (rfl); done)
  | focus ((with_reducible apply cd_intB); (rfl); (rfl); done)
  | focus ((with_reducible apply cd_listC); (rfl); done)
  | focus ((with_reducible apply cd_list); (rfl); (walk_at "els"); done)
  | focus ((with_reducible apply cd_listT); (rfl); done)
  | focus ((with_reducible apply cd_tuple); (rfl); (walk_at "els"); done)
  | focus ((with_reducible apply cd_max); (rfl); (rfl); (rfl); (rfl); done)
  | focus ((with_reducible apply cd_min); (rfl); (rfl); (rfl); (rfl); done)
  | focus ((with_reducible apply cd_str); (rfl); (rfl); (walk_at "side"); done)
  | focus ((with_reducible apply cd_ord); (rfl); (rfl); (walk_at "side"); done))
local macro_rules | `(tactic| walk_at "T") => `(tactic| first
  | focus ((with_reducible apply et_test); (walk_at "E"); done)
  | focus ((with_reducible apply et_B); (walk_at "E"); done)
  | focus ((with_reducible apply et_not); (walk_at "T"); done)
  | exact et_yes
  | focus ((with_reducible apply et_and); (walk_at "T"); (intro; walk_at "T"); done)
  | focus ((with_reducible apply et_or); (walk_at "T"); (intro; walk_at "T"); done))
local macro_rules | `(tactic| walk_at "D") => `(tactic| first
  | (walk_at "E")
  | focus ((with_reducible apply ed_lst); (walk_at "E"); done))
local macro_rules | `(tactic| walk_at "A") => `(tactic| first
  | exact ead_nil
  | focus ((with_reducible apply ead_cons); (walk_at "D"); (walk_at "A"); done))
local macro_rules | `(tactic| walk_at "v") => `(tactic| (intro a0 z0; cases z0))
local macro_rules | `(tactic| walk_at "set") => `(tactic| ((with_reducible apply ss_asg); (walk_at "E"); (exact Nat.le_of_ble_eq_true rfl); (rfl); (walk_at "v"); (dsimp only [List.set_cons_zero, List.set_cons_succ, Vl.sl, upd1, List.getElem?_cons_zero, List.getElem?_cons_succ, T.set])))
local macro_rules | `(tactic| walk_at "n") => `(tactic| (dsimp only [List.set_cons_zero, List.set_cons_succ, Vl.sl, upd1, List.getElem?_cons_zero, List.getElem?_cons_succ, T.set, putT]))
local macro_rules | `(tactic| walk_at "setI") => `(tactic| ((with_reducible apply ss_setI); (walk_at "E"); (with_reducible apply ee_m); (walk_at "E"); (rfl); (with_reducible apply ee_m); (walk_at "E"); (rfl); (rfl); (walk_at "at"); (walk_at "n")))
local macro_rules | `(tactic| walk_at "EO") => `(tactic| first
  | exact eo_no
  | focus ((with_reducible apply eo_part); (walk_at "E"); (rfl); (rfl); done))
local macro_rules | `(tactic| walk_at "SD") => `(tactic| first
  | focus ((with_reducible apply sd_L); (rfl); (walk_at "els"); done)
  | focus ((with_reducible apply sd_S); (rfl); (rfl); (walk_at "side"); done)
  | focus ((with_reducible apply sd_T); (rfl); done))
section
variable {K : PySem.W.Frag} {W : WX} {vs : List V} {as : List Ag} {o : Out} {m : Bool} {es es1 : Es} {ta : TA} {te : TE} {i : Nat} {E : XK} {c : CA} {a : Option V} {bs d : List Int} {p : Nat}
theorem join0 : ∀ ys : List (List Nat), Txt.join (S []) (ys.map S) = S ys.flatten := by
  have j : ∀ ys : List (List Nat), Str.join (S []) (ys.map S) = S ys.flatten := by
    intro ys
    induction ys with
    | nil => rfl
    | cons a ys ih =>
      cases ys with
      | nil =>
        show S a = S (a ++ [])
        rw [List.append_nil]
      | cons b ys =>
        show S a ++ S [] ++ Str.join (S []) ((b :: ys).map S) = S (a ++ (b :: ys).flatten)
        rw [ih, S_app, S_app, List.append_nil]
  intro ys
  rw [TL.join_eq]
  exact j ys
theorem join1 (t : List Nat) : Txt.join (S []) (t.map fun n => S [n]) = S t := by
  have h := join0 (t.map fun n => [n])
  rw [List.map_map] at h
  rw [show (t.map fun n => S [n]) = t.map (S ∘ fun n => [n]) from rfl, h]
  congr 1
  clear h
  induction t with
  | nil => rfl
  | cons x t ih => rw [List.map_cons, List.flatten_cons, ih]; rfl
theorem ee_joinS {t : List Nat} (h : EE K m te es (.o (T.L (t.map fun n => .str (S [n])))) es1) (hz : t.length ≤ 1000000) : EE K m (tM1 (rJoin K) (tC (.str "")) te) es (.o (.d (.str (S t)))) es1 := by
  have hz2 : ((t.map fun n => S [n]).map (·.length)).sum + (t.map fun n => S [n]).length * (S []).length ≤ 16777216 := by
    have e : ((t.map fun n => S [n]).map (·.length)).sum = t.length := by
      clear h hz
      induction t with
      | nil => rfl
      | cons x t ih =>
        rw [List.map_cons, List.map_cons, List.sum_cons, ih, List.length_cons, S_len]
        show 1 + _ = _
        omega
    rw [e, S_len]
    show _ + _ * 0 ≤ _
    omega
  have e1 : (t.map fun n => PyData.str (S [n])) = (t.map fun n => S [n]).map PyData.str := by
    rw [List.map_map]
    rfl
  rw [e1] at h
  have h2 := ee_join (K := K) (z := S []) (ys := t.map fun n => S [n]) (m1 := false) (es := es) (es1 := es) (ta := tC (.str "")) ee_str (fun _ => rfl) h rfl Els.l hz2
  rw [join1] at h2
  exact ee_m h2 (by cases m <;> rfl)
theorem body_Reader_read_byte (X : CF K c) (h : R_Reader_read_byte c as o) (hl : as.length = vs.length) : SS K (WE0 E) (t_Reader_read_byte K c E) (slots vs as ++ List.replicate 0 .n) (FD vs as o) := by
  obtain ⟨bs, p, hz, rfl, ho⟩ := h
  obtain ⟨v1, rfl⟩ := one_of hl rfl
  show SS K (WE0 E) (t_Reader_read_byte K c E) [.o (some v1) (rdT c bs p)] _
  have hT : ET K false (tTest (tOp rGeI (tFld K (tVar 0) "at") (tCB (rLn K) (tCons (tFld K (tVar 0) "data") tNil)))) [.o (some v1) (rdT c bs p)] (decide ((bs.length : Int) ≤ (p : Int))) [.o (some v1) (rdT c bs p)] := by
    have h1 : ET K false (tTest (tOp rGeI (tFld K (tVar 0) "at") (tCB (rLn K) (tCons (tFld K (tVar 0) "data") tNil)))) [.o (some v1) (rdT c bs p)] (decide (((bs.map PyData.int).length : Int) ≤ (p : Int))) [.o (some v1) (rdT c bs p)] := et_test (ee_op (ee_atR X rfl) (ee_cb (ea_cons (ee_dataR X rfl) ea_nil rfl) (cd_lenL (tr_at rfl at1) Els.l)) rfl (od_ge rfl rfl rfl rfl))
    rw [List.length_map] at h1
    exact h1
  cases hb : bs[p]? with
  | none =>
    have e : rByte bs p = none := by
      unfold rByte
      rw [hb]
    rw [e] at ho
    subst ho
    have hp : bs.length ≤ p := List.getElem?_eq_none_iff.mp hb
    exact ss_seq (ss_tt hT (decide_eq_true (by omega)) (ss_raise rfl))
  | some b =>
    have e : rByte bs p = some (b, p + 1) := by
      unfold rByte
      rw [hb]
    rw [e] at ho
    subst ho
    have hp : p < bs.length := (List.getElem?_eq_some_iff.mp hb).1
    refine ss_seq (ss_ff hT (decide_eq_false (by omega)) (ss_next ?_))
    refine ss_seq (ss_fldaug X.cl_Reader X.na_Reader_at (ee_var rfl rfl) (tr_at rfl T.at_nil) get2 ee_int (by show 2 < 1000; decide) ?_)
    rw [put2, upd1_set rfl]
    show SS K (WE0 E) _ [.o (some v1) (rdT c bs (p + 1))] _
    have ha : atI (bs.map PyData.int) (((p + 1 : Nat) : Int) - 1) = some (.int b) := by
      rw [show ((p + 1 : Nat) : Int) - 1 = (p : Int) by omega]
      exact at_nat (by rw [List.getElem?_map, hb]; rfl)
    refine ss_ret (ee_op (ee_dataR X rfl) (ee_op (ee_atR X rfl) ee_int rfl (od_sub rfl rfl rfl rfl)) rfl (od_ixL (tr_at rfl at1) Els.l rfl rfl ha)) ?_
    exact ⟨_, _, rfl, rfl, ⟨_, rfl, rfl⟩, trivial⟩
theorem body_Reader_read_choice (X : CF K c) (h : R_Reader_read_choice c as o) (hl : as.length = vs.length) : SS K (WE0 E) (t_Reader_read_choice K c E) (slots vs as ++ List.replicate 1 .n) (FD vs as o) := by
  obtain ⟨bs, p, k, hz, rfl, ho⟩ := h
  obtain ⟨v1, v2, rfl⟩ := two_of hl rfl
  show SS K (WE0 E) (t_Reader_read_choice K c E) [.o (some v1) (rdT c bs p), .o none (.d (.int k)), .n] _
  cases hb : bs[p]? with
  | none =>
    have e : rCho k bs p = none := by
      unfold rCho
      rw [hb]
    have e2 : rByte bs p = none := by
      unfold rByte
      rw [hb]
    rw [e] at ho
    subst ho
    exact ss_seq (ss_asgX (ex_rd (i := 0) (E' := fun _ => E) nf_byte rfl hz e2 fun _ _ h => h) rfl)
  | some b =>
    have e : rCho k bs p = if k ≤ b then none else some (b, p + 1) := by
      unfold rCho
      rw [hb]
    have e2 : rByte bs p = some (b, p + 1) := by
      unfold rByte
      rw [hb]
    rw [e] at ho
    refine ss_seq (ss_set (ee_rd (i := 0) nf_byte rfl hz e2) (Nat.le_of_ble_eq_true rfl) ?_)
    walk_at "n"
    by_cases hc : k ≤ b
    · rw [if_pos hc] at ho
      subst ho
      exact ss_seq (ss_tt (b := decide (k ≤ b)) (et_test (ee_m (ee_op (ee_var rfl rfl) (ee_var rfl rfl) rfl (od_ge rfl rfl rfl rfl)) rfl)) (decide_eq_true hc) (ss_raise rfl))
    · rw [if_neg hc] at ho
      subst ho
      refine ss_seq (ss_ff (b := decide (k ≤ b)) (et_test (ee_m (ee_op (ee_var rfl rfl) (ee_var rfl rfl) rfl (od_ge rfl rfl rfl rfl)) rfl)) (decide_eq_false hc) (ss_next ?_))
      refine ss_ret (ee_var rfl rfl) ?_
      exact ⟨_, _, rfl, rfl, ⟨_, rfl, rfl⟩, rfl, trivial⟩
theorem body_Reader_end (X : CF K c) (h : R_Reader_end c as o) (hl : as.length = vs.length) : SS K (WE0 E) (t_Reader_end K c E) (slots vs as ++ List.replicate 0 .n) (FD vs as o) := by
  obtain ⟨bs, p, hz, rfl, ho⟩ := h
  obtain ⟨v1, rfl⟩ := one_of hl rfl
  show SS K (WE0 E) (t_Reader_end K c E) [.o (some v1) (rdT c bs p)] _
  have hT : ET K false (tTest (tOp rLtI (tFld K (tVar 0) "at") (tCB (rLn K) (tCons (tFld K (tVar 0) "data") tNil)))) [.o (some v1) (rdT c bs p)] (decide ((p : Int) < (bs.length : Int))) [.o (some v1) (rdT c bs p)] := by
    have h1 : ET K false (tTest (tOp rLtI (tFld K (tVar 0) "at") (tCB (rLn K) (tCons (tFld K (tVar 0) "data") tNil)))) [.o (some v1) (rdT c bs p)] (decide ((p : Int) < ((bs.map PyData.int).length : Int))) [.o (some v1) (rdT c bs p)] := et_test (ee_op (ee_atR X rfl) (ee_cb (ea_cons (ee_dataR X rfl) ea_nil rfl) (cd_lenL (tr_at rfl at1) Els.l)) rfl (od_lt rfl rfl rfl rfl))
    rw [List.length_map] at h1
    exact h1
  by_cases hc : p < bs.length
  · rw [if_pos hc] at ho
    subst ho
    exact ss_tt hT (decide_eq_true (by omega)) (ss_raise rfl)
  · rw [if_neg hc] at ho
    subst ho
    refine ss_ff hT (decide_eq_false (by omega)) (ss_next ?_)
    exact ⟨_, rfl, ⟨_, rfl, rfl⟩, trivial⟩
theorem body_Reader_read_number (X : CF K c) (h : R_Reader_read_number c as o) (hl : as.length = vs.length) : SS K (WE0 E) (t_Reader_read_number K c E) (slots vs as ++ List.replicate 4 .n) (FD vs as o) := by
  obtain ⟨bs, p, hz, rfl, ho⟩ := h
  obtain ⟨v1, rfl⟩ := one_of hl rfl
  show SS K (WE0 E) (t_Reader_read_number K c E) [.o (some v1) (rdT c bs p), .n, .n, .n, .n] _
  refine ss_seq ?_
  walk_at "set"
  refine ss_seq ?_
  walk_at "set"
  refine ss_seq (ss_for (ei_range1 (j := 60) (by walk_at "A") ⟨by decide, by decide⟩) (fun i es => ∃ (t : Nat) (u1 u2 : Sl), rdG 60 true (bs.drop p) = (match rdG (60 - i) (i == 0) (bs.drop (p + i)) with | none => none | some (u, v) => some (u + i, t + 128 ^ i * v)) ∧ es = [.o (some v1) (rdT c bs (p + i)), .o none (.d (.int (t : Int))), .o none (.d (.int ((128 ^ i : Nat) : Int))), u1, u2]) ⟨0, .n, .n, ?_, rfl⟩ ?_ ?_)
  · show _ = (match rdG 60 true (bs.drop p) with | none => none | some (u, v) => some (u + 0, 0 + 128 ^ 0 * v))
    cases rdG 60 true (bs.drop p) with
    | none => rfl
    | some q => simp
  · rintro i y es' hy ⟨t, u1, u2, hr, rfl⟩
    have hil : i < 60 := by
      have := (List.getElem?_eq_some_iff.mp hy).1
      rwa [rangeD_len] at this
    have hy' : (rangeD 0 60)[i]? = some y := hy
    rw [rangeD_get hil] at hy'
    cases hy'
    refine ⟨_, _, gs_name (Nat.le_of_ble_eq_true rfl), ?_⟩
    walk_at "n"
    obtain ⟨f, hf⟩ : ∃ f, 60 - i = f + 1 := ⟨59 - i, by omega⟩
    rw [hf] at hr
    cases hb : bs[p + i]? with
    | none =>
      have hd : bs.drop (p + i) = [] := List.drop_of_length_le (List.getElem?_eq_none_iff.mp hb)
      rw [hd] at hr
      have e2 : rByte bs (p + i) = none := by
        unfold rByte
        rw [hb]
      have e : rNum bs p = none := by
        unfold rNum
        rw [hr]
        rfl
      rw [e] at ho
      subst ho
      exact ss_seq (ss_asgX (ex_rd (i := 0) (W := WE0 E) (E' := fun _ => E) nf_byte rfl hz e2 fun _ _ h => h) rfl)
    | some b =>
      have e2 : rByte bs (p + i) = some (b, p + i + 1) := by
        unfold rByte
        rw [hb]
      have hp := (List.getElem?_eq_some_iff.mp hb).1
      have hd : bs.drop (p + i) = b :: bs.drop (p + (i + 1)) := by
        rw [List.drop_eq_getElem_cons hp, ← Nat.add_assoc]
        congr 1
        exact (List.getElem?_eq_some_iff.mp hb).2
      rw [hd] at hr
      have hr' : rdG 60 true (bs.drop p) = (match (if b < 128 then (if b = 0 ∧ (i == 0) = false then none else some (1, (b % 128).toNat)) else match rdG f false (bs.drop (p + (i + 1))) with | none => none | some (u, v) => some (u + 1, (b % 128).toNat + 128 * v)) with | none => none | some (u, v) => some (u + i, t + 128 ^ i * v)) := hr
      clear hr
      have hm := Int.emod_nonneg b (b := 128) (by decide)
      have hm2 := Int.emod_lt_of_pos b (b := 128) (by decide)
      have hmul : CMul (b % 128) ((128 ^ i : Nat) : Int) := Or.inl ⟨by omega, by omega⟩
      refine ss_seq (ss_set (ee_rd (i := 0) nf_byte rfl hz e2) (Nat.le_of_ble_eq_true rfl) ?_)
      walk_at "n"
      refine ss_seq (ss_aug (i := (t : Int)) rfl (by walk_at "E") (Nat.le_of_ble_eq_true rfl) ?_)
      walk_at "n"
      have et : (t : Int) + b % 128 * ((128 ^ i : Nat) : Int) = ((t + 128 ^ i * (b % 128).toNat : Nat) : Int) := by
        have : ((b % 128).toNat : Int) = b % 128 := Int.toNat_of_nonneg hm
        rw [Int.natCast_add, Int.natCast_mul, this, Int.mul_comm]
      rw [et]
      refine ss_seq (ss_if (b := decide (b < 128)) (by walk_at "T") (fun hc => ?_) fun hc => ?_)
      · have hc' : b < 128 := of_decide_eq_true hc
        rw [if_pos hc'] at hr'
        by_cases hq : b = 0 ∧ (i == 0) = false
        · rw [if_pos hq] at hr'
          have hi : 0 < i := by
            have := hq.2
            simp at this
            omega
          have e : rNum bs p = none := by
            unfold rNum
            rw [hr']
          rw [e] at ho
          subst ho
          refine ss_seq (ss_tt (et_and (et_test (ee_m (ee_op (ee_var rfl rfl) ee_int rfl (od_eqI rfl rfl rfl rfl)) rfl)) (fun _ => et_test (ee_m (ee_op (ee_var rfl rfl) ee_int rfl (od_gt rfl rfl rfl rfl)) rfl))) ?_ (ss_raise rfl))
          rw [Bool.and_eq_true]
          exact ⟨decide_eq_true hq.1, decide_eq_true (by omega)⟩
        · rw [if_neg hq] at hr'
          have e : rNum bs p = some (t + 128 ^ i * (b % 128).toNat, p + (1 + i)) := by
            unfold rNum
            rw [hr']
          rw [e] at ho
          subst ho
          refine ss_seq (ss_ff (et_and (et_test (ee_m (ee_op (ee_var rfl rfl) ee_int rfl (od_eqI rfl rfl rfl rfl)) rfl)) (fun _ => et_test (ee_m (ee_op (ee_var rfl rfl) ee_int rfl (od_gt rfl rfl rfl rfl)) rfl))) ?_ (ss_next ?_))
          · rw [Bool.and_eq_false_iff]
            by_cases h0 : b = 0
            · right
              have : ¬ (i == 0) = false := fun z => hq ⟨h0, z⟩
              refine decide_eq_false ?_
              simp at this
              omega
            · exact .inl (decide_eq_false h0)
          · refine ss_ret (ee_var rfl rfl) ?_
            refine ⟨_, _, rfl, rfl, ⟨_, rfl, ?_⟩, trivial⟩
            show some (Sl.o (some v1) (rdT c bs (p + i + 1))) = some (Sl.o (some v1) (rdT c bs (p + (1 + i))))
            rw [show p + (1 + i) = p + i + 1 by omega]
      · have hc' : ¬ b < 128 := of_decide_eq_false hc
        rw [if_neg hc'] at hr'
        refine ss_next ?_
        walk_at "set"
        have ef : ((128 ^ i : Nat) : Int) * 128 = ((128 ^ (i + 1) : Nat) : Int) := by
          rw [Nat.pow_succ, Int.natCast_mul]
          rfl
        rw [ef]
        refine ⟨t + 128 ^ i * (b % 128).toNat, _, _, ?_, rfl⟩
        rw [hr', show 60 - (i + 1) = f by omega, show ((i + 1) == 0) = false from rfl]
        cases rdG f false (bs.drop (p + (i + 1))) with
        | none => rfl
        | some q =>
          obtain ⟨u, v⟩ := q
          show some (u + 1 + i, t + 128 ^ i * ((b % 128).toNat + 128 * v)) = some (u + (i + 1), t + 128 ^ i * (b % 128).toNat + 128 ^ (i + 1) * v)
          rw [Nat.pow_succ, Nat.mul_add, Nat.add_assoc, Nat.add_assoc, Nat.mul_assoc, Nat.add_comm 1 i]
  · rintro es' ⟨t, u1, u2, hr, rfl⟩
    rw [rangeD_len] at hr
    have e : rNum bs p = none := by
      unfold rNum
      rw [hr]
      rfl
    rw [e] at ho
    subst ho
    exact ss_raise rfl
theorem body_Reader_read_count (X : CF K c) (h : R_Reader_read_count c as o) (hl : as.length = vs.length) : SS K (WE0 E) (t_Reader_read_count K c E) (slots vs as ++ List.replicate 1 .n) (FD vs as o) := by
  obtain ⟨bs, p, hz, rfl, ho⟩ := h
  obtain ⟨v1, rfl⟩ := one_of hl rfl
  show SS K (WE0 E) (t_Reader_read_count K c E) [.o (some v1) (rdT c bs p), .n] _
  cases h1 : rNum bs p with
  | none =>
    have e : rCnt bs p = none := by
      unfold rCnt
      rw [h1]
    rw [e] at ho
    subst ho
    exact ss_seq (ss_asgX (ex_rd (i := 0) (E' := fun _ => E) nf_number rfl hz h1 fun _ _ h => h) rfl)
  | some u =>
    obtain ⟨n, b⟩ := u
    have e : rCnt bs p = if bs.length < n + b then none else some (n, b) := by
      unfold rCnt
      rw [h1]
    rw [e] at ho
    refine ss_seq (ss_set (ee_rd (i := 0) nf_number rfl hz h1) (Nat.le_of_ble_eq_true rfl) ?_)
    walk_at "n"
    have hT : ET K false (tTest (tOp rGtI (tVar 1) (tOp rSubI (tCB (rLn K) (tCons (tFld K (tVar 0) "data") tNil)) (tFld K (tVar 0) "at")))) [.o (some v1) (rdT c bs b), .o none (.d (.int (n : Int)))] (decide (((bs.length : Int) - (b : Int)) < (n : Int))) [.o (some v1) (rdT c bs b), .o none (.d (.int (n : Int)))] := by
      have h2 : ET K false (tTest (tOp rGtI (tVar 1) (tOp rSubI (tCB (rLn K) (tCons (tFld K (tVar 0) "data") tNil)) (tFld K (tVar 0) "at")))) [.o (some v1) (rdT c bs b), .o none (.d (.int (n : Int)))] (decide ((((bs.map PyData.int).length : Int) - (b : Int)) < (n : Int))) [.o (some v1) (rdT c bs b), .o none (.d (.int (n : Int)))] := et_test (ee_op (ee_var rfl rfl) (ee_op (ee_cb (ea_cons (ee_dataR X rfl) ea_nil rfl) (cd_lenL (tr_at rfl at1) Els.l)) (ee_atR X rfl) rfl (od_sub rfl rfl rfl rfl)) rfl (od_gt rfl rfl rfl rfl))
      rw [List.length_map] at h2
      exact h2
    by_cases hc : bs.length < n + b
    · rw [if_pos hc] at ho
      subst ho
      exact ss_seq (ss_tt hT (decide_eq_true (by omega)) (ss_raise rfl))
    · rw [if_neg hc] at ho
      subst ho
      refine ss_seq (ss_ff hT (decide_eq_false (by omega)) (ss_next ?_))
      refine ss_ret (ee_var rfl rfl) ?_
      exact ⟨_, _, rfl, rfl, ⟨_, rfl, rfl⟩, trivial⟩
theorem ee_rng {lo hi n : Int} (h : es[i]? = some (.o none (.d (.int n)))) : EE K true (tChain rLeI rLtI (tC (.int lo)) (tVar i) (tC (.int hi))) es (.o (.d (.bool (decide (lo ≤ n) && decide (n < hi))))) es := by
  have hv : EE K false (tVar i) es (.o (.d (.int n))) es := ee_var h rfl
  by_cases c : lo ≤ n
  · rw [decide_eq_true c, Bool.true_and]
    have ho : OpD K es rLeI (.o (.d (.int lo))) (.o (.d (.int n))) (.o (.d (.bool true))) := od_is (od_le rfl rfl rfl rfl) (by rw [decide_eq_true c])
    exact ee_chainT ee_int hv rfl ho ee_int rfl (od_lt rfl rfl rfl rfl)
  · rw [decide_eq_false c, Bool.false_and]
    have ho : OpD K es rLeI (.o (.d (.int lo))) (.o (.d (.int n))) (.o (.d (.bool false))) := od_is (od_le rfl rfl rfl rfl) (by rw [decide_eq_false c])
    exact ee_chainF ee_int hv rfl ho
theorem sig1 : ∀ n < 37, 32 ≤ n → (" !\"#$" : Str).cps.toList[n - 32]? = some n := by decide +kernel
theorem sig2 : ∀ n < 127, 38 ≤ n → ("&'()*+,-./0123456789:;<=>?@ABCDEFGHIJKLMNOPQRSTUVWXYZ[\\]^_`abcdefghijklmnopqrstuvwxyz{|}~" : Str).cps.toList[n - 38]? = some n := by decide +kernel
theorem body_Reader_read_character (X : CF K c) (h : R_Reader_read_character c as o) (hl : as.length = vs.length) : SS K (WE0 E) (t_Reader_read_character K c E) (slots vs as ++ List.replicate 1 .n) (FD vs as o) := by
  obtain ⟨bs, p, hz, rfl, ho⟩ := h
  obtain ⟨v1, rfl⟩ := one_of hl rfl
  show SS K (WE0 E) (t_Reader_read_character K c E) [.o (some v1) (rdT c bs p), .n] _
  cases h1 : rNum bs p with
  | none =>
    have e : rChr bs p = none := by
      unfold rChr
      rw [h1]
    rw [e] at ho
    subst ho
    exact ss_seq (ss_asgX (ex_rd (i := 0) (E' := fun _ => E) nf_number rfl hz h1 fun _ _ h => h) rfl)
  | some u =>
    obtain ⟨n, b⟩ := u
    have e : rChr bs p = if okC n then some (n, b) else none := by
      unfold rChr
      rw [h1]
    rw [e] at ho
    refine ss_seq (ss_set (ee_rd (i := 0) nf_number rfl hz h1) (Nat.le_of_ble_eq_true rfl) ?_)
    walk_at "n"
    have hs (hc : n ≠ 10) : SS K (WE0 E) (tSeq (tIfS (tTest (tChain rLeI rLtI (tC (.int 32)) (tVar 1) (tC (.int 37)))) (tRet (tOp (rIx K) (tC (.str " !\"#$")) (tOp rSubI (tVar 1) (tC (.int 32))))) tNext)
  (tSeq (tIfS (tTest (tChain rLeI rLtI (tC (.int 38)) (tVar 1) (tC (.int 127)))) (tRet (tOp (rIx K) (tC (.str "&'()*+,-./0123456789:;<=>?@ABCDEFGHIJKLMNOPQRSTUVWXYZ[\\]^_`abcdefghijklmnopqrstuvwxyz{|}~")) (tOp rSubI (tVar 1) (tC (.int 38))))) tNext)
  (tRs (WE0 E) c.DamagedPacket))) [.o (some v1) (rdT c bs b), .o none (.d (.int (n : Int)))] (FD [v1] [.m (rdT c bs p)] o) := by
      clear e
      refine ss_seq (ss_if (et_test (ee_rng rfl)) (fun h => ?_) fun h => ss_next ?_)
      · rw [Bool.and_eq_true, decide_eq_true_iff, decide_eq_true_iff] at h
        have hk : okC n = true := by
          unfold okC
          rw [decide_eq_true (show 32 ≤ n by omega), decide_eq_true (show n < 37 by omega), Bool.and_self, Bool.or_true, Bool.true_or]
        rw [hk] at ho
        subst ho
        have ha : atI (" !\"#$" : Str).cps.toList ((n : Int) - 32) = some n := by
          rw [show (n : Int) - 32 = ((n - 32 : Nat) : Int) by omega]
          exact at_nat (sig1 n (by omega) (by omega))
        refine ss_ret (ee_op ee_str (ee_op (ee_var rfl rfl) ee_int rfl (od_sub rfl rfl rfl rfl)) rfl (od_ixS rfl rfl rfl rfl (Nat.le_of_ble_eq_true rfl) ha)) ?_
        exact ⟨_, _, rfl, rfl, ⟨_, rfl, rfl⟩, trivial⟩
      · refine ss_seq (ss_if (et_test (ee_rng rfl)) (fun h2 => ?_) fun h2 => ss_next ?_)
        · rw [Bool.and_eq_true, decide_eq_true_iff, decide_eq_true_iff] at h2
          have hk : okC n = true := by
            unfold okC
            rw [decide_eq_true (show 38 ≤ n by omega), decide_eq_true (show n < 127 by omega), Bool.and_self, Bool.or_true]
          rw [hk] at ho
          subst ho
          have ha : atI ("&'()*+,-./0123456789:;<=>?@ABCDEFGHIJKLMNOPQRSTUVWXYZ[\\]^_`abcdefghijklmnopqrstuvwxyz{|}~" : Str).cps.toList ((n : Int) - 38) = some n := by
            rw [show (n : Int) - 38 = ((n - 38 : Nat) : Int) by omega]
            exact at_nat (sig2 n (by omega) (by omega))
          refine ss_ret (ee_op ee_str (ee_op (ee_var rfl rfl) ee_int rfl (od_sub rfl rfl rfl rfl)) rfl (od_ixS rfl rfl rfl rfl (Nat.le_of_ble_eq_true rfl) ha)) ?_
          exact ⟨_, _, rfl, rfl, ⟨_, rfl, rfl⟩, trivial⟩
        · rw [Bool.and_eq_false_iff, decide_eq_false_iff_not, decide_eq_false_iff_not] at h h2
          have hk : ¬ okC n = true := by
            unfold okC
            intro z
            rw [Bool.or_eq_true, Bool.or_eq_true, Bool.and_eq_true, Bool.and_eq_true, decide_eq_true_iff, decide_eq_true_iff, decide_eq_true_iff, decide_eq_true_iff, beq_iff_eq] at z
            omega
          rw [if_neg hk] at ho
          subst ho
          exact ss_raise rfl
    by_cases hc : n = 10
    · subst hc
      have hk : okC 10 = true := by decide
      rw [hk] at ho
      subst ho
      refine ss_seq (ss_tt (b := decide (((10 : Nat) : Int) = 10)) (et_test (ee_m (ee_op (ee_var rfl rfl) ee_int rfl (od_eqI rfl rfl rfl rfl)) rfl)) (by decide) ?_)
      refine ss_ret ee_str ?_
      exact ⟨_, _, rfl, rfl, ⟨_, rfl, rfl⟩, trivial⟩
    · refine ss_seq (ss_ff (b := decide ((n : Int) = 10)) (et_test (ee_m (ee_op (ee_var rfl rfl) ee_int rfl (od_eqI rfl rfl rfl rfl)) rfl)) (decide_eq_false (by omega)) (ss_next (hs hc)))
theorem rdL_len {α : Type} {q : Ps α} {l : List α} {b : Nat} (h : bnd rCnt (rRep q) bs p = some (l, b)) : l.length ≤ bs.length := by
  cases h1 : rCnt bs p with
  | none => rw [bnd_no h1] at h; cases h
  | some u =>
    obtain ⟨n, b1⟩ := u
    rw [bnd_ok h1] at h
    have := (rCnt_ok h1).2
    rw [rRep_len h]
    omega
theorem body_Reader_read_string (X : CF K c) (h : R_Reader_read_string c as o) (hl : as.length = vs.length) : SS K (WE0 E) (t_Reader_read_string K c E) (slots vs as ++ List.replicate 1 .n) (FD vs as o) := by
  obtain ⟨bs, p, hz, rfl, ho⟩ := h
  obtain ⟨v1, rfl⟩ := one_of hl rfl
  show SS K (WE0 E) (t_Reader_read_string K c E) [.o (some v1) (rdT c bs p), .n] _
  cases h1 : rTxt bs p with
  | none =>
    rw [h1] at ho
    subst ho
    obtain ⟨es', hx⟩ := ex_rdL (K := K) (W := WE0 E) (E := E) (a := some v1) (q := rChr) (D := fun n => .str (S [n])) (tl := [.n]) (k := 0) nf_character hz rfl h1 (fun _ _ h => h) (fun _ _ _ h => h)
    exact ss_retX (ex_join ee_str hx) rfl
  | some u =>
    obtain ⟨t, b⟩ := u
    rw [h1] at ho
    subst ho
    have hlen := rdL_len h1
    refine ss_ret (ee_joinS (ee_rdL (a := some v1) (q := rChr) (D := fun n => .str (S [n])) (tl := [.n]) (k := 0) nf_character hz rfl h1) (by omega)) ?_
    exact ⟨_, _, rfl, rfl, ⟨_, rfl, rfl⟩, trivial⟩
theorem body_Reader_read_mark (X : CF K c) (h : R_Reader_read_mark c as o) (hl : as.length = vs.length) : SS K (WE0 E) (t_Reader_read_mark K c E) (slots vs as ++ List.replicate 1 .n) (FD vs as o) := by
  obtain ⟨bs, p, hz, rfl, ho⟩ := h
  obtain ⟨v1, rfl⟩ := one_of hl rfl
  show SS K (WE0 E) (t_Reader_read_mark K c E) [.o (some v1) (rdT c bs p), .n] _
  cases h1 : rNum bs p with
  | none =>
    have e : rMrk bs p = none := bnd_no h1
    rw [e] at ho
    subst ho
    exact ss_seq (ss_asgX (ex_rd (i := 0) (E' := fun _ => E) nf_number rfl hz h1 fun _ _ h => h) rfl)
  | some u =>
    obtain ⟨n, b⟩ := u
    refine ss_seq (ss_set (ee_rd (i := 0) nf_number rfl hz h1) (Nat.le_of_ble_eq_true rfl) ?_)
    walk_at "n"
    cases h2 : rNum bs b with
    | none =>
      have e : rMrk bs p = none := by
        unfold rMrk
        rw [bnd_ok h1]
        exact bnd_no h2
      rw [e] at ho
      subst ho
      exact ss_retX (ex_tup (exa_tail (ee_var rfl rfl) (exa_head (ex_rd (i := 0) (E' := fun _ => E) nf_number rfl hz h2 fun _ _ h => h)))) rfl
    | some u2 =>
      obtain ⟨n2, b2⟩ := u2
      have e : rMrk bs p = some ((n, n2), b2) := by
        unfold rMrk
        rw [bnd_ok h1, bnd_ok h2]
        rfl
      rw [e] at ho
      subst ho
      refine ss_ret (ee_tup (ead_cons (ee_var rfl rfl) (ead_cons (ee_rd (i := 0) nf_number rfl hz h2) ead_nil)) (Nat.le_of_ble_eq_true rfl)) ?_
      exact ⟨_, _, rfl, rfl, ⟨_, rfl, rfl⟩, trivial⟩
theorem body_Reader_read_deed (X : CF K c) (h : R_Reader_read_deed c as o) (hl : as.length = vs.length) : SS K (WE0 E) (t_Reader_read_deed K c E) (slots vs as ++ List.replicate 5 .n) (FD vs as o) := by
  obtain ⟨bs, p, hz, rfl, ho⟩ := h
  obtain ⟨v1, rfl⟩ := one_of hl rfl
  show SS K (WE0 E) (t_Reader_read_deed K c E) [.o (some v1) (rdT c bs p), .n, .n, .n, .n, .n] _
  have hE : ∀ (σ : L2.St) H, WE0 E (.ref c.DamagedPacket) none σ H → (fun _ => E) σ (.ref c.DamagedPacket) none H := fun _ _ h => h
  cases hc : rCho 2 bs p with
  | none =>
    have e : rDee bs p = none := bnd_no hc
    rw [e] at ho
    subst ho
    exact ss_seq (ss_ifX (ex_opL (ex_cho (i := 0) rfl hz hc hE)) rfl)
  | some u =>
    obtain ⟨ch, b0⟩ := u
    have e0 : rDee bs p = (if ch = 1 then bnd rNum (fun n => ret (.back n)) else bnd rTxt fun m => bnd rMrks fun r => bnd rBeh fun h => bnd rNum fun n => bnd rTxt fun t => ret (.chg m r h n t)) bs b0 := by
      unfold rDee
      rw [bnd_ok hc]
    have hT : ET K true (tTest (tOp (rEqA K) (tSpc (spD K (R_Reader_read_choice c)) E (methA c.Reader "read_choice" (tVar 0) (tCons (tC (.int 2)) tNil))) (tC (.int 1)))) [.o (some v1) (rdT c bs p), .n, .n, .n, .n, .n] (decide (ch = 1)) [.o (some v1) (rdT c bs b0), .n, .n, .n, .n, .n] := et_test (ee_m (ee_op (ee_cho (i := 0) rfl hz hc) ee_int rfl (od_eqI rfl rfl rfl rfl)) rfl)
    by_cases hb : ch = 1
    · rw [if_pos hb] at e0
      refine ss_seq (ss_tt hT (decide_eq_true hb) ?_)
      cases h1 : rNum bs b0 with
      | none =>
        rw [e0, bnd_no h1] at ho
        subst ho
        exact ss_retX (ex_tup (exa_tail ee_str (exa_head (ex_rd (i := 0) nf_number rfl hz h1 hE)))) rfl
      | some u1 =>
        obtain ⟨n1, b1⟩ := u1
        rw [e0, bnd_ok h1] at ho
        subst ho
        refine ss_ret (ee_tup (ead_cons ee_str (ead_cons (ee_rd (i := 0) nf_number rfl hz h1) ead_nil)) (Nat.le_of_ble_eq_true rfl)) ?_
        exact ⟨_, _, rfl, rfl, ⟨_, rfl, rfl⟩, trivial⟩
    rw [if_neg hb] at e0
    refine ss_seq (ss_ff hT (decide_eq_false hb) (ss_next ?_))
    cases h1 : rTxt bs b0 with
    | none =>
      rw [e0, bnd_no h1] at ho
      subst ho
      exact ss_seq (ss_asgX (ex_rd (i := 0) nf_string rfl hz h1 hE) rfl)
    | some u1 =>
    obtain ⟨md, b1⟩ := u1
    rw [bnd_ok h1] at e0
    refine ss_seq (ss_set (ee_rd (i := 0) nf_string rfl hz h1) (Nat.le_of_ble_eq_true rfl) ?_)
    walk_at "n"
    cases h2 : rMrks bs b1 with
    | none =>
      rw [e0, bnd_no h2] at ho
      subst ho
      obtain ⟨es', hx⟩ := ex_rdL (K := K) (W := WE0 E) (E := E) (a := some v1) (q := rMrk) (D := markD) (tl := [.o none (.d (.str (S md))), .n, .n, .n, .n]) (k := 4) nf_mark hz rfl h2 (fun _ _ h => h) (fun _ _ _ h => h)
      exact ss_seq (ss_asgX (ex_cb (exa_head hx)) rfl)
    | some u2 =>
    obtain ⟨rm, b2⟩ := u2
    rw [bnd_ok h2] at e0
    refine ss_seq (ss_set (ee_cb (ea_cons (ee_rdL (a := some v1) (q := rMrk) (D := markD) (tl := [.o none (.d (.str (S md))), .n, .n, .n, .n]) (k := 4) nf_mark hz rfl h2) ea_nil rfl) (cd_tuple rfl Els.l)) (Nat.le_of_ble_eq_true rfl) ?_)
    walk_at "n"
    refine ss_seq ?_
    walk_at "set"
    have rest : ∀ (bh : Option Mk) (b4 : Nat), rBeh bs b2 = some (bh, b4) → SS K (WE0 E) (tSeq (tAsg (tSpc (spD K (R_Reader_read_number c)) E (methA c.Reader "read_number" (tVar 0) tNil)) (gName 4))
  (tRet (tTup (tCons (tC (.str "change")) (tCons (tVar 1) (tCons (tVar 2) (tCons (tVar 3) (tCons (tVar 4) (tCons (tSpc (spD K (R_Reader_read_string c)) E (methA c.Reader "read_string" (tVar 0) tNil)) tNil)))))))))
        [.o (some v1) (rdT c bs b4), .o none (.d (.str (S md))), .o none (.d (.tuple (rm.map markD))), .o none (.d (behD bh)), .n, .n] (FD [v1] [.m (rdT c bs p)] o) := by
      intro bh b4 h4
      rw [bnd_ok h4] at e0
      cases h5 : rNum bs b4 with
      | none =>
        rw [e0, bnd_no h5] at ho
        subst ho
        exact ss_seq (ss_asgX (ex_rd (i := 0) nf_number rfl hz h5 hE) rfl)
      | some u5 =>
      obtain ⟨nu, b5⟩ := u5
      rw [bnd_ok h5] at e0
      refine ss_seq (ss_set (ee_rd (i := 0) nf_number rfl hz h5) (Nat.le_of_ble_eq_true rfl) ?_)
      walk_at "n"
      cases h6 : rTxt bs b5 with
      | none =>
        rw [e0, bnd_no h6] at ho
        subst ho
        exact ss_retX (ex_tup (exa_tail ee_str (exa_tail (ee_var rfl rfl) (exa_tail (ee_var rfl rfl) (exa_tail (ee_var rfl rfl) (exa_tail (ee_var rfl rfl) (exa_head (ex_rd (i := 0) nf_string rfl hz h6 hE)))))))) rfl
      | some u6 =>
        obtain ⟨tx, b6⟩ := u6
        rw [e0, bnd_ok h6] at ho
        subst ho
        refine ss_ret (ee_tup (ead_cons ee_str (ead_cons (ee_var rfl rfl) (ead_cons (ee_var rfl rfl) (ead_cons (ee_var rfl rfl) (ead_cons (ee_var rfl rfl) (ead_cons (ee_rd (i := 0) nf_string rfl hz h6) ead_nil)))))) (Nat.le_of_ble_eq_true rfl)) ?_
        exact ⟨_, _, rfl, rfl, ⟨_, rfl, rfl⟩, trivial⟩
    cases h3 : rCho 2 bs b2 with
    | none =>
      have e : rBeh bs b2 = none := bnd_no h3
      rw [e0, bnd_no e] at ho
      subst ho
      exact ss_seq (ss_ifX (ex_opL (ex_cho (i := 0) rfl hz h3 hE)) rfl)
    | some u3 =>
    obtain ⟨c3, b3⟩ := u3
    have e3 : rBeh bs b2 = (if c3 = 1 then bnd rMrk (fun m => ret (some m)) else ret none) bs b3 := by
      unfold rBeh
      rw [bnd_ok h3]
    have hT : ET K true (tTest (tOp (rEqA K) (tSpc (spD K (R_Reader_read_choice c)) E (methA c.Reader "read_choice" (tVar 0) (tCons (tC (.int 2)) tNil))) (tC (.int 1)))) [.o (some v1) (rdT c bs b2), .o none (.d (.str (S md))), .o none (.d (.tuple (rm.map markD))), .o none (.d .none), .n, .n] (decide (c3 = 1)) [.o (some v1) (rdT c bs b3), .o none (.d (.str (S md))), .o none (.d (.tuple (rm.map markD))), .o none (.d .none), .n, .n] := et_test (ee_m (ee_op (ee_cho (i := 0) rfl hz h3) ee_int rfl (od_eqI rfl rfl rfl rfl)) rfl)
    by_cases hb3 : c3 = 1
    · rw [if_pos hb3] at e3
      refine ss_seq (ss_tt hT (decide_eq_true hb3) ?_)
      cases h4 : rMrk bs b3 with
      | none =>
        rw [bnd_no h4] at e3
        rw [e0, bnd_no e3] at ho
        subst ho
        exact ss_asgX (ex_rd (i := 0) nf_mark rfl hz h4 hE) rfl
      | some u4 =>
        obtain ⟨mk, b4⟩ := u4
        rw [bnd_ok h4] at e3
        exact ss_set (ee_rd (i := 0) nf_mark rfl hz h4) (Nat.le_of_ble_eq_true rfl) (rest (some mk) b4 e3)
    · rw [if_neg hb3] at e3
      exact ss_seq (ss_ff hT (decide_eq_false hb3) (ss_next (rest none b3 e3)))
theorem body_Reader_read_triple (X : CF K c) (h : R_Reader_read_triple c as o) (hl : as.length = vs.length) : SS K (WE0 E) (t_Reader_read_triple K c E) (slots vs as ++ List.replicate 2 .n) (FD vs as o) := by
  obtain ⟨bs, p, hz, rfl, ho⟩ := h
  obtain ⟨v1, rfl⟩ := one_of hl rfl
  show SS K (WE0 E) (t_Reader_read_triple K c E) [.o (some v1) (rdT c bs p), .n, .n] _
  have hE : ∀ (σ : L2.St) H, WE0 E (.ref c.DamagedPacket) none σ H → (fun _ => E) σ (.ref c.DamagedPacket) none H := fun _ _ h => h
  cases h1 : rNum bs p with
  | none =>
    have e : rTr1 bs p = none := bnd_no h1
    rw [e] at ho
    subst ho
    exact ss_seq (ss_asgX (ex_rd (i := 0) nf_number rfl hz h1 hE) rfl)
  | some u1 =>
  obtain ⟨n1, b1⟩ := u1
  have e0 : rTr1 bs p = bnd rNum (fun p => bnd rDee fun d => ret (n1, p, d)) bs b1 := by
    unfold rTr1
    rw [bnd_ok h1]
  refine ss_seq (ss_set (ee_rd (i := 0) nf_number rfl hz h1) (Nat.le_of_ble_eq_true rfl) ?_)
  walk_at "n"
  cases h2 : rNum bs b1 with
  | none =>
    rw [e0, bnd_no h2] at ho
    subst ho
    exact ss_seq (ss_asgX (ex_rd (i := 0) nf_number rfl hz h2 hE) rfl)
  | some u2 =>
  obtain ⟨n2, b2⟩ := u2
  rw [bnd_ok h2] at e0
  refine ss_seq (ss_set (ee_rd (i := 0) nf_number rfl hz h2) (Nat.le_of_ble_eq_true rfl) ?_)
  walk_at "n"
  cases h3 : rDee bs b2 with
  | none =>
    rw [e0, bnd_no h3] at ho
    subst ho
    exact ss_retX (ex_tup (exa_tail (ee_var rfl rfl) (exa_tail (ee_var rfl rfl) (exa_head (ex_rd (i := 0) nf_deed rfl hz h3 hE))))) rfl
  | some u3 =>
    obtain ⟨d3, b3⟩ := u3
    rw [e0, bnd_ok h3] at ho
    subst ho
    refine ss_ret (ee_tup (ead_cons (ee_var rfl rfl) (ead_cons (ee_var rfl rfl) (ead_cons (ee_rd (i := 0) nf_deed rfl hz h3) ead_nil))) (Nat.le_of_ble_eq_true rfl)) ?_
    exact ⟨_, _, rfl, rfl, ⟨_, rfl, rfl⟩, trivial⟩
theorem body_Reader_read_triples (X : CF K c) (h : R_Reader_read_triples c as o) (hl : as.length = vs.length) : SS K (WE0 E) (t_Reader_read_triples K c E) (slots vs as ++ List.replicate 1 .n) (FD vs as o) := by
  obtain ⟨bs, p, hz, rfl, ho⟩ := h
  obtain ⟨v1, rfl⟩ := one_of hl rfl
  show SS K (WE0 E) (t_Reader_read_triples K c E) [.o (some v1) (rdT c bs p), .n] _
  cases h1 : rTri bs p with
  | none =>
    rw [h1] at ho
    subst ho
    obtain ⟨es', hx⟩ := ex_rdL (K := K) (W := WE0 E) (E := E) (a := some v1) (q := rTr1) (D := triD) (tl := [.n]) (k := 0) nf_triple hz rfl h1 (fun _ _ h => h) (fun _ _ _ h => h)
    exact ss_retX hx rfl
  | some u =>
    obtain ⟨t, b⟩ := u
    rw [h1] at ho
    subst ho
    refine ss_ret (ee_rdL (a := some v1) (q := rTr1) (D := triD) (tl := [.n]) (k := 0) nf_triple hz rfl h1) ?_
    exact ⟨_, _, rfl, rfl, ⟨_, rfl, rfl⟩, trivial⟩
theorem body_Reader_read_packet (X : CF K c) (h : R_Reader_read_packet c as o) (hl : as.length = vs.length) : SS K (WE0 E) (t_Reader_read_packet K c E) (slots vs as ++ List.replicate 0 .n) (FD vs as o) := by
  obtain ⟨bs, p, hz, rfl, ho⟩ := h
  obtain ⟨v1, rfl⟩ := one_of hl rfl
  show SS K (WE0 E) (t_Reader_read_packet K c E) [.o (some v1) (rdT c bs p)] _
  have hE : ∀ (σ : L2.St) H, WE0 E (.ref c.DamagedPacket) none σ H → (fun _ => E) σ (.ref c.DamagedPacket) none H := fun _ _ h => h
  cases h1 : rByte bs p with
  | none =>
    have e : rPac bs p = none := bnd_no h1
    rw [e] at ho
    subst ho
    exact ss_seq (ss_ifX (ex_opL (ex_rd (i := 0) nf_byte rfl hz h1 hE)) rfl)
  | some u1 =>
  obtain ⟨b, b1⟩ := u1
  have e0 : rPac bs p = (if b = 1 then rTri else fun _ _ => none) bs b1 := by
    unfold rPac
    rw [bnd_ok h1]
  have hT : ET K true (tTest (tOp (rNeA K) (tSpc (spD K (R_Reader_read_byte c)) E (methA c.Reader "read_byte" (tVar 0) tNil)) (tC (.int 1)))) [.o (some v1) (rdT c bs p)] (!decide (b = 1)) [.o (some v1) (rdT c bs b1)] := et_test (ee_m (ee_op (ee_rd (i := 0) nf_byte rfl hz h1) ee_int rfl (od_neI rfl rfl rfl rfl)) rfl)
  by_cases hb : b = 1
  · rw [if_pos hb] at e0
    refine ss_seq (ss_ff hT (by rw [decide_eq_true hb]; rfl) (ss_next ?_))
    cases h2 : rTri bs b1 with
    | none =>
      rw [e0, h2] at ho
      subst ho
      exact ss_retX (ex_rd (i := 0) nf_triples rfl hz h2 hE) rfl
    | some u2 =>
      obtain ⟨t, b2⟩ := u2
      rw [e0, h2] at ho
      subst ho
      refine ss_ret (ee_rd (i := 0) nf_triples rfl hz h2) ?_
      exact ⟨_, _, rfl, rfl, ⟨_, rfl, rfl⟩, trivial⟩
  · rw [if_neg hb] at e0
    have ho' : o = .exc (.ref c.DamagedPacket) := by
      rw [e0] at ho
      exact ho
    subst ho'
    exact ss_seq (ss_tt hT (by rw [decide_eq_false hb]; rfl) (ss_raise rfl))
end
end K12

namespace K12
open PySem PySem.Spec PyProof.Rows L2 DW
local macro_rules | `(tactic| walk_at "side") => `(tactic| first | rfl | assumption | omega | (simp only [szL, S_len, List.length_append, List.length_map, List.length_cons, List.length_nil]; omega) | decide)
local macro_rules | `(tactic| walk_at "els") => `(tactic| first | exact Els.l | exact Els.d)
local macro_rules | `(tactic| walk_at "pos") => `(tactic| first | assumption | decide | omega | exact Or.inr (by decide) | exact Or.inl (by decide) | exact ⟨by decide, by decide +kernel⟩ | exact ⟨by decide, by decide, by decide⟩)
local macro_rules | `(tactic| walk_at "at") => `(tactic| first | assumption | rfl)
local macro_rules | `(tactic| walk_at "O") => `(tactic| first
  | focus ((with_reducible apply od_plusI); (rfl); (rfl); (rfl); (rfl); done)
  | focus ((with_reducible apply od_plusS); (rfl); (rfl); (rfl); (rfl); (walk_at "side"); done)
  | focus ((with_reducible apply od_plusL); (rfl); (walk_at "els"); (rfl); (walk_at "els"); (walk_at "side"); done)
  | focus ((with_reducible apply od_plusT); (rfl); (rfl); (walk_at "side"); done)
  | focus ((with_reducible apply od_ixL); (rfl); (walk_at "els"); (rfl); (rfl); (walk_at "at"); done)
  | focus ((with_reducible apply od_ixT); (rfl); (rfl); (rfl); (walk_at "at"); done)
  | focus ((with_reducible apply od_ixS); (rfl); (rfl); (rfl); (rfl); (walk_at "side"); (walk_at "at"); done)
  | focus ((with_reducible apply od_ixC); (rfl); (rfl); (rfl); (walk_at "at"); done)
  | focus ((with_reducible apply od_ixRx); (rfl); (rfl); (rfl); (walk_at "at"); (walk_at "at"); (rfl); done)
  | focus ((with_reducible apply od_ixQx); (rfl); (rfl); (walk_at "at"); (walk_at "at"); (rfl); done)
  | focus ((with_reducible apply od_sub); (rfl); (rfl); (rfl); (rfl); done)
  | focus ((with_reducible apply od_fdiv); (rfl); (rfl); (rfl); (rfl); (walk_at "pos"); done)
  | focus ((with_reducible apply od_mod); (rfl); (rfl); (rfl); (rfl); (walk_at "pos"); done)
  | focus ((with_reducible apply od_pow); (rfl); (rfl); (rfl); (rfl); (walk_at "pos"); done)
  | focus ((with_reducible apply od_lt); (rfl); (rfl); (rfl); (rfl); done)
  | focus ((with_reducible apply od_le); (rfl); (rfl); (rfl); (rfl); done)
  | focus ((with_reducible apply od_gt); (rfl); (rfl); (rfl); (rfl); done)
  | focus ((with_reducible apply od_ge); (rfl); (rfl); (rfl); (rfl); done)
  | focus ((with_reducible apply od_eqI); (rfl); (rfl); (rfl); (rfl); done)
  | focus ((with_reducible apply od_eqS); (rfl); (rfl); (rfl); (rfl); done)
  | focus ((with_reducible apply od_eqB); (rfl); (rfl); (rfl); (rfl); done)
  | focus ((with_reducible apply od_neI); (rfl); (rfl); (rfl); (rfl); done)
  | focus ((with_reducible apply od_neS); (rfl); (rfl); (rfl); (rfl); done)
  | focus ((with_reducible apply od_neB); (rfl); (rfl); (rfl); (rfl); done)
  | focus ((with_reducible apply od_timesI); (rfl); (rfl); (rfl); (rfl); (walk_at "pos"); done)
  | focus ((with_reducible apply od_isN); (rfl); (rfl); done)
  | focus ((with_reducible apply od_isnotN); (rfl); (rfl); done)
  | focus ((with_reducible apply od_inT); (rfl); (rfl); (rfl); (rfl); (rfl); done)
  | focus ((with_reducible apply od_notinT); (rfl); (rfl); (rfl); (rfl); (rfl); done))
local macro_rules | `(tactic| walk_at "kit") => `(tactic| first | exact kit_NoneType_bool | exact kit_NoneType_int | exact kit_NoneType_str | exact kit_NoneType_list | exact kit_NoneType_tuple | exact kit_bool_bool | exact kit_bool_int | exact kit_bool_str | exact kit_bool_list | exact kit_bool_tuple | exact kit_int_bool | exact kit_int_int | exact kit_int_str | exact kit_int_list | exact kit_int_tuple | exact kit_str_bool | exact kit_str_int | exact kit_str_str | exact kit_str_list | exact kit_str_tuple | exact kit_list_bool | exact kit_list_int | exact kit_list_str | exact kit_list_list | exact kit_list_tuple | exact kit_tuple_bool | exact kit_tuple_int | exact kit_tuple_str | exact kit_tuple_list | exact kit_tuple_tuple | exact kit_dict_bool | exact kit_dict_int | exact kit_dict_str | exact kit_dict_list | exact kit_dict_tuple)
local macro_rules | `(tactic| walk_at "C") => `(tactic| fail)
local macro_rules | `(tactic| walk_at "E") => `(tactic| first
  | exact ee_int | exact ee_str | exact ee_bl | exact ee_non
  | exact ee_var rfl rfl
  | (walk_at "C")
  | focus ((with_reducible apply ee_op); (walk_at "E"); (walk_at "E"); (rfl); (walk_at "O"); done)
  | focus ((with_reducible apply ee_lst); (walk_at "A"); (walk_at "side"); done)
  | focus ((with_reducible apply ee_tup); (walk_at "A"); (walk_at "side"); done)
  | focus ((with_reducible apply ee_isi); (walk_at "E"); (rfl); (rfl); (walk_at "kit"); done)
  | focus ((with_reducible apply ee_isiT); (walk_at "E"); (rfl); (rfl); (walk_at "kit"); (walk_at "kit"); (rfl); done)
  | focus ((with_reducible apply ee_cb); (walk_at "EA"); (walk_at "F"); done)
  | focus ((with_reducible apply ee_not); (walk_at "E"); done)
  | focus ((with_reducible apply ee_and); (walk_at "E"); (intro; walk_at "E"); done)
  | focus ((with_reducible apply ee_or); (walk_at "E"); (intro; walk_at "E"); done)
  | focus ((with_reducible apply ee_sl); (walk_at "E"); (walk_at "EO"); (walk_at "EO"); (rfl); (walk_at "SD"); done)
  | focus ((with_reducible apply ee_neg); (walk_at "E"); (rfl); (rfl); done))
local macro_rules | `(tactic| walk_at "A") => `(tactic| first
  | exact ead_nil
  | focus ((with_reducible apply ead_cons); (walk_at "E"); (walk_at "A"); done))
local macro_rules | `(tactic| walk_at "EA") => `(tactic| first
  | exact ea_nil
  | focus ((with_reducible apply ea_cons); (walk_at "E"); (walk_at "EA"); (rfl); done))
local macro_rules | `(tactic| walk_at "F") => `(tactic| first
  | focus ((with_reducible apply cd_lenL); (rfl); (walk_at "els"); done)
  | focus ((with_reducible apply cd_lenT); (rfl); done)
  | focus ((with_reducible apply cd_lenS); (rfl); (rfl); (walk_at "side"); done)
  | focus ((with_reducible apply cd_lenC); (rfl); done)
  | focus ((with_reducible apply cd_lenO); (rfl); done)
  | focus ((with_reducible apply cd_int); (rfl); (rfl); done)
  | focus ((with_reducible apply cd_intB); (rfl); (rfl); done)
  | focus ((with_reducible apply cd_listC); (rfl); done)
  | focus ((with_reducible apply cd_list); (rfl); (walk_at "els"); done)
  | focus ((with_reducible apply cd_listT); (rfl); done)
  | focus ((with_reducible apply cd_tuple); (rfl); (walk_at "els"); done)
  | focus ((with_reducible apply cd_max); (rfl); (rfl); (rfl); (rfl); done)
  | focus ((with_reducible apply cd_min); (rfl); (rfl); (rfl); (rfl); done)
  | focus ((with_reducible apply cd_str); (rfl); (rfl); (walk_at "side"); done)
  | focus ((with_reducible apply cd_ord); (rfl); (rfl); (walk_at "side"); done))
local macro_rules | `(tactic| walk_at "T") => `(tactic| first
  | focus ((with_reducible apply et_test); (walk_at "E"); done)
  | focus ((with_reducible apply et_B); (walk_at "E"); done)
  | focus ((with_reducible apply et_not); (walk_at "T"); done)
  | exact et_yes
  | focus ((with_reducible apply et_and); (walk_at "T"); (intro; walk_at "T"); done)
  | focus ((with_reducible apply et_or); (walk_at "T"); (intro; walk_at "T"); done))
local macro_rules | `(tactic| walk_at "D") => `(tactic| first
  | (walk_at "E")
  | focus ((with_reducible apply ed_lst); (walk_at "E"); done))
local macro_rules | `(tactic| walk_at "A") => `(tactic| first
  | exact ead_nil
  | focus ((with_reducible apply ead_cons); (walk_at "D"); (walk_at "A"); done))
local macro_rules | `(tactic| walk_at "v") => `(tactic| (intro a0 z0; cases z0))
local macro_rules | `(tactic| walk_at "set") => `(tactic| ((with_reducible apply ss_asg); (walk_at "E"); (exact Nat.le_of_ble_eq_true rfl); (rfl); (walk_at "v"); (dsimp only [List.set_cons_zero, List.set_cons_succ, Vl.sl, upd1, List.getElem?_cons_zero, List.getElem?_cons_succ, T.set])))
local macro_rules | `(tactic| walk_at "n") => `(tactic| (dsimp only [List.set_cons_zero, List.set_cons_succ, Vl.sl, upd1, List.getElem?_cons_zero, List.getElem?_cons_succ, T.set, putT]))
local macro_rules | `(tactic| walk_at "setI") => `(tactic| ((with_reducible apply ss_setI); (walk_at "E"); (with_reducible apply ee_m); (walk_at "E"); (rfl); (with_reducible apply ee_m); (walk_at "E"); (rfl); (rfl); (walk_at "at"); (walk_at "n")))
local macro_rules | `(tactic| walk_at "EO") => `(tactic| first
  | exact eo_no
  | focus ((with_reducible apply eo_part); (walk_at "E"); (rfl); (rfl); done))
local macro_rules | `(tactic| walk_at "SD") => `(tactic| first
  | focus ((with_reducible apply sd_L); (rfl); (walk_at "els"); done)
  | focus ((with_reducible apply sd_S); (rfl); (rfl); (walk_at "side"); done)
  | focus ((with_reducible apply sd_T); (rfl); done))
section
variable {K : PySem.W.Frag} {W : WX} {vs : List V} {as : List Ag} {o : Out} {m : Bool} {es es1 : Es} {ta : TA} {te : TE} {i : Nat} {E : XK} {c : CA} {a : Option V} {bs d : List Int} {p : Nat}
theorem et_isN {r : Vl} {t : T} {b : Bool} (h : EE K m te es r es1) (h1 : r.tr es1 = some t) (e : t.isN = b) : ET K m (tTest (tOp rIsNon te (tC .non))) es b es1 := by
  subst e
  have h2 := ee_op h ee_non (by cases r with | o _ => rfl | q _ => rfl | r a p => cases p <;> rfl) (od_isN h1 rfl)
  rw [Bool.or_false] at h2
  exact et_test h2
section
variable {α β : Type} {q : Ps α} {D : α → PyData} {D' : β → PyData} {r r2 : Vl} {t1 : T} {x : Int} {v : Option (α × Nat)}
theorem ee_lr (h : EA K m ta es [.o (.d (dI bs)), .o (.d (.int x))] es1) (hx : x = (p : Int)) (hz : bs.length ≤ 1000000) (hb : ∀ b ∈ bs, 0 ≤ b) (hv : q bs p = v) : EE K m (tSpc (spD K (RLr q D)) E ta) es (.o (.d (optD D v))) es1 := by
  subst hx
  subst hv
  exact ee_callP h (.d (.d .nil)) ⟨bs, p, hz, hb, rfl, rfl⟩
def thenO (w : Option (β × Nat)) (q : Ps α) (bs : List Int) : Option (α × Nat) := match w with
  | none => none
  | some (_, b) => q bs b
theorem ee_then {w : Option (β × Nat)} (h0 : es[0]? = some (.o none (.d (dI bs)))) (h1 : es[i]? = some (.o none (.d (optD D' w)))) (hz : bs.length ≤ 1000000) (hb : ∀ b ∈ bs, 0 ≤ b) (hv : thenO w q bs = v) : EE K false (tIf (tTest (tOp rIsNon (tVar i) (tC .non))) (tC .non) (tSpc (spD K (RLr q D)) E (tCons (tVar 0) (tCons (tOp (rIx K) (tVar i) (tC (.int 1))) tNil)))) es (.o (.d (optD D v))) es := by
  have e0 : EE K false (tVar 0) es (.o (.d (dI bs))) es := ee_var h0 rfl
  have e1 : EE K false (tVar i) es (.o (.d (optD D' w))) es := ee_var h1 rfl
  cases w with
  | none =>
    subst hv
    exact ee_m (ee_ifT (et_isN e1 rfl rfl) ee_non) rfl
  | some u =>
    obtain ⟨y, b⟩ := u
    exact ee_m (ee_ifF (et_isN e1 rfl rfl) (ee_lr (p := b) (ea_cons e0 (ea_cons (ee_op e1 ee_int rfl (od_ixT rfl rfl rfl rfl)) ea_nil rfl) rfl) rfl hz hb hv)) rfl
end
local macro_rules | `(tactic| walk_at "ar") => `(tactic| exact ea_cons (ee_var rfl rfl) (ea_cons (by walk_at "E") ea_nil rfl) rfl)
theorem rCnt_no (h : rNum bs p = none) : rCnt bs p = none := by
  unfold rCnt
  rw [h]
theorem rCnt_if {n b : Nat} (h : rNum bs p = some (n, b)) : rCnt bs p = if bs.length < n + b then none else some (n, b) := by
  unfold rCnt
  rw [h]
theorem body_law_read_number (h : R_law_read_number as o) (hl : as.length = vs.length) : SS K W (t_law_read_number K) (slots vs as ++ List.replicate 3 .n) (FD vs as o) := by
  obtain ⟨bs, p, hz, hb0, rfl, ho⟩ := h
  obtain ⟨v1, v2, rfl⟩ := two_of hl rfl
  show SS K W (t_law_read_number K) [.o none (.d (dI bs)), .o none (.d (.int (p : Int))), .n, .n, .n] _
  refine ss_seq ?_
  walk_at "set"
  refine ss_seq ?_
  walk_at "set"
  refine ss_seq (ss_for (ei_range1 (j := 60) (by walk_at "A") ⟨by decide, by decide⟩) (fun i es => ∃ (t : Nat) (u2 : Sl), rdG 60 true (bs.drop p) = (match rdG (60 - i) (i == 0) (bs.drop (p + i)) with | none => none | some (u, v) => some (u + i, t + 128 ^ i * v)) ∧ es = [.o none (.d (dI bs)), .o none (.d (.int (p : Int))), .o none (.d (.int (t : Int))), .o none (.d (.int ((128 ^ i : Nat) : Int))), u2]) ⟨0, .n, ?_, rfl⟩ ?_ ?_)
  · show _ = (match rdG 60 true (bs.drop p) with | none => none | some (u, v) => some (u + 0, 0 + 128 ^ 0 * v))
    cases rdG 60 true (bs.drop p) with
    | none => rfl
    | some q => simp
  · rintro i y es' hy ⟨t, u2, hr, rfl⟩
    have hil : i < 60 := by
      have := (List.getElem?_eq_some_iff.mp hy).1
      rwa [rangeD_len] at this
    have hy' : (rangeD 0 60)[i]? = some y := hy
    rw [rangeD_get hil] at hy'
    cases hy'
    refine ⟨_, _, gs_name (Nat.le_of_ble_eq_true rfl), ?_⟩
    walk_at "n"
    obtain ⟨f, hf⟩ : ∃ f, 60 - i = f + 1 := ⟨59 - i, by omega⟩
    rw [hf] at hr
    cases hb : bs[p + i]? with
    | none =>
      have hn := List.getElem?_eq_none_iff.mp hb
      have hd : bs.drop (p + i) = [] := List.drop_of_length_le hn
      rw [hd] at hr
      have e : rNum bs p = none := by
        unfold rNum
        rw [hr]
        rfl
      rw [e] at ho
      subst ho
      refine ss_seq (ss_tt (by walk_at "T") (decide_eq_true ?_) (ss_ret ee_non ?_))
      · rw [List.length_map]
        omega
      · exact ⟨_, _, rfl, rfl, rfl, rfl, trivial⟩
    | some b =>
      have hp := (List.getElem?_eq_some_iff.mp hb).1
      have hd : bs.drop (p + i) = b :: bs.drop (p + (i + 1)) := by
        rw [List.drop_eq_getElem_cons hp, ← Nat.add_assoc]
        congr 1
        exact (List.getElem?_eq_some_iff.mp hb).2
      rw [hd] at hr
      have hr' : rdG 60 true (bs.drop p) = (match (if b < 128 then (if b = 0 ∧ (i == 0) = false then none else some (1, (b % 128).toNat)) else match rdG f false (bs.drop (p + (i + 1))) with | none => none | some (u, v) => some (u + 1, (b % 128).toNat + 128 * v)) with | none => none | some (u, v) => some (u + i, t + 128 ^ i * v)) := hr
      clear hr
      have hm := Int.emod_nonneg b (b := 128) (by decide)
      have hm2 := Int.emod_lt_of_pos b (b := 128) (by decide)
      have hmul : CMul (b % 128) ((128 ^ i : Nat) : Int) := Or.inl ⟨by omega, by omega⟩
      have ha : atI (bs.map PyData.int) ((p : Int) + (0 + (i : Int))) = some (.int b) := by
        rw [show (p : Int) + (0 + (i : Int)) = ((p + i : Nat) : Int) by omega]
        exact at_nat (by rw [List.getElem?_map, hb]; rfl)
      refine ss_seq (ss_ff (by walk_at "T") (decide_eq_false (by rw [List.length_map]; omega)) (ss_next ?_))
      refine ss_seq ?_
      walk_at "set"
      have et : (t : Int) + b % 128 * ((128 ^ i : Nat) : Int) = ((t + 128 ^ i * (b % 128).toNat : Nat) : Int) := by
        have : ((b % 128).toNat : Int) = b % 128 := Int.toNat_of_nonneg hm
        rw [Int.natCast_add, Int.natCast_mul, this, Int.mul_comm]
      rw [et]
      have ef : ((128 ^ i : Nat) : Int) * 128 = ((128 ^ (i + 1) : Nat) : Int) := by
        rw [Nat.pow_succ, Int.natCast_mul]
        rfl
      refine ss_seq ?_
      walk_at "set"
      rw [ef]
      refine ss_if (b := decide (b < 128)) (by walk_at "T") (fun hc => ?_) fun hc => ?_
      · have hc' : b < 128 := of_decide_eq_true hc
        rw [if_pos hc'] at hr'
        by_cases hq : b = 0 ∧ (i == 0) = false
        · rw [if_pos hq] at hr'
          have hi : 0 < i := by
            have := hq.2
            simp at this
            omega
          have e : rNum bs p = none := by
            unfold rNum
            rw [hr']
          rw [e] at ho
          subst ho
          have hq1 := hq.1
          subst hq1
          refine ss_ret (ee_ifT (et_is (et_and (et_test (ee_m (ee_op (ee_var rfl rfl) ee_int rfl (od_gt rfl rfl rfl rfl)) rfl)) (fun _ => et_test (ee_m (by walk_at "E") rfl))) ?_) ee_non) ?_
          · rw [decide_eq_true (show (0 : Int) < 0 + (i : Int) by omega)]
            rfl
          · exact ⟨_, _, rfl, rfl, rfl, rfl, trivial⟩
        · rw [if_neg hq] at hr'
          have e : rNum bs p = some (t + 128 ^ i * (b % 128).toNat, p + (1 + i)) := by
            unfold rNum
            rw [hr']
          rw [e] at ho
          subst ho
          refine ss_ret (ee_ifF (et_is (et_and (et_test (ee_m (ee_op (ee_var rfl rfl) ee_int rfl (od_gt rfl rfl rfl rfl)) rfl)) (fun _ => et_test (ee_m (by walk_at "E") rfl))) ?_) (by walk_at "E")) ?_
          · rw [Bool.and_eq_false_iff]
            by_cases h0 : b = 0
            · left
              have : ¬ (i == 0) = false := fun z => hq ⟨h0, z⟩
              refine decide_eq_false ?_
              simp at this
              omega
            · exact .inr (decide_eq_false h0)
          · refine ⟨_, _, rfl, ?_, rfl, rfl, trivial⟩
            rw [show (p : Int) + (0 + (i : Int)) + 1 = ((p + (1 + i) : Nat) : Int) by omega]
            rfl
      · have hc' : ¬ b < 128 := of_decide_eq_false hc
        rw [if_neg hc'] at hr'
        refine ss_next ?_
        refine ⟨t + 128 ^ i * (b % 128).toNat, _, ?_, rfl⟩
        rw [hr', show 60 - (i + 1) = f by omega, show ((i + 1) == 0) = false from rfl]
        cases rdG f false (bs.drop (p + (i + 1))) with
        | none => rfl
        | some q =>
          obtain ⟨u, v⟩ := q
          show some (u + 1 + i, t + 128 ^ i * ((b % 128).toNat + 128 * v)) = some (u + (i + 1), t + 128 ^ i * (b % 128).toNat + 128 ^ (i + 1) * v)
          rw [Nat.pow_succ, Nat.mul_add, Nat.add_assoc, Nat.add_assoc, Nat.mul_assoc, Nat.add_comm 1 i]
  · rintro es' ⟨t, u2, hr, rfl⟩
    rw [rangeD_len] at hr
    have e : rNum bs p = none := by
      unfold rNum
      rw [hr]
      rfl
    rw [e] at ho
    subst ho
    exact ss_ret ee_non ⟨_, _, rfl, rfl, rfl, rfl, trivial⟩
theorem body_law_sign (h : R_law_sign as o) (hl : as.length = vs.length) : SS K W (t_law_sign K) (slots vs as ++ List.replicate 2 .n) (FD vs as o) := by
  obtain ⟨n, hk, rfl, rfl⟩ := h
  obtain ⟨v1, rfl⟩ := one_of hl rfl
  show SS K W (t_law_sign K) [.o none (.d (.int (n : Int))), .n, .n] _
  have hk' : n = 10 ∨ (32 ≤ n ∧ n < 37) ∨ 38 ≤ n ∧ n < 127 := by
    unfold okC at hk
    rw [Bool.or_eq_true, Bool.or_eq_true, Bool.and_eq_true, Bool.and_eq_true, decide_eq_true_iff, decide_eq_true_iff, decide_eq_true_iff, decide_eq_true_iff, beq_iff_eq] at hk
    omega
  refine ss_seq ?_
  walk_at "set"
  refine ss_seq ?_
  walk_at "set"
  refine ss_seq (ss_if (b := decide ((n : Int) < 37)) (by walk_at "T") (fun hc => ?_) fun hc => ss_next ?_)
  · have hc' : (n : Int) < 37 := of_decide_eq_true hc
    by_cases h10 : n = 10
    · refine ss_ret (ee_ifT (et_is (by walk_at "T") (decide_eq_true (by omega))) ee_str) ?_
      rw [h10]
      exact ⟨_, _, rfl, rfl, rfl, trivial⟩
    · have ha : atI (" !\"#$" : Str).cps.toList ((n : Int) - 32) = some n := by
        rw [show (n : Int) - 32 = ((n - 32 : Nat) : Int) by omega]
        exact at_nat (sig1 n (by omega) (by omega))
      refine ss_ret (ee_ifF (et_is (by walk_at "T") (decide_eq_false (by omega))) (ee_op (ee_var rfl rfl) (ee_op (ee_var rfl rfl) ee_int rfl (od_sub rfl rfl rfl rfl)) rfl (od_ixS rfl rfl rfl rfl (Nat.le_of_ble_eq_true rfl) ha))) ?_
      exact ⟨_, _, rfl, rfl, rfl, trivial⟩
  · have hc' : ¬ (n : Int) < 37 := of_decide_eq_false hc
    have ha : atI ("&'()*+,-./0123456789:;<=>?@ABCDEFGHIJKLMNOPQRSTUVWXYZ[\\]^_`abcdefghijklmnopqrstuvwxyz{|}~" : Str).cps.toList ((n : Int) - 38) = some n := by
      rw [show (n : Int) - 38 = ((n - 38 : Nat) : Int) by omega]
      exact at_nat (sig2 n (by omega) (by omega))
    refine ss_ret (ee_op (ee_var rfl rfl) (ee_op (ee_var rfl rfl) ee_int rfl (od_sub rfl rfl rfl rfl)) rfl (od_ixS rfl rfl rfl rfl (Nat.le_of_ble_eq_true rfl) ha)) ?_
    exact ⟨_, _, rfl, rfl, rfl, trivial⟩
theorem ee_rngE {lo hi n : Int} (hv : EE K false te es (.o (.d (.int n))) es) : EE K true (tChain rLeI rLeI (tC (.int lo)) te (tC (.int hi))) es (.o (.d (.bool (decide (lo ≤ n) && decide (n ≤ hi))))) es := by
  by_cases c : lo ≤ n
  · rw [decide_eq_true c, Bool.true_and]
    have ho : OpD K es rLeI (.o (.d (.int lo))) (.o (.d (.int n))) (.o (.d (.bool true))) := od_is (od_le rfl rfl rfl rfl) (by rw [decide_eq_true c])
    exact ee_chainT ee_int hv rfl ho ee_int rfl (od_le rfl rfl rfl rfl)
  · rw [decide_eq_false c, Bool.false_and]
    have ho : OpD K es rLeI (.o (.d (.int lo))) (.o (.d (.int n))) (.o (.d (.bool false))) := od_is (od_le rfl rfl rfl rfl) (by rw [decide_eq_false c])
    exact ee_chainF ee_int hv rfl ho
theorem body_law_read_text (h : R_law_read_text as o) (hl : as.length = vs.length) : SS K W (t_law_read_text K) (slots vs as ++ List.replicate 4 .n) (FD vs as o) := by
  obtain ⟨bs, p, hz, hb0, rfl, ho⟩ := h
  obtain ⟨v1, v2, rfl⟩ := two_of hl rfl
  show SS K W (t_law_read_text K) [.o none (.d (dI bs)), .o none (.d (.int (p : Int))), .n, .n, .n, .n] _
  cases h1 : rNum bs p with
  | none =>
    have e : rTxt bs p = none := bnd_no (rCnt_no h1)
    rw [e] at ho
    subst ho
    refine ss_seq (ss_set (ee_lr (by walk_at "ar") rfl hz hb0 h1) (Nat.le_of_ble_eq_true rfl) ?_)
    walk_at "n"
    exact ss_seq (ss_tt (et_orT (et_isN (ee_var rfl rfl) rfl rfl)) rfl (ss_ret ee_non ⟨_, _, rfl, rfl, rfl, rfl, trivial⟩))
  | some u =>
  obtain ⟨n, b0⟩ := u
  refine ss_seq (ss_set (ee_lr (by walk_at "ar") rfl hz hb0 h1) (Nat.le_of_ble_eq_true rfl) ?_)
  walk_at "n"
  have hT : ET K false (tOr (tTest (tOp rIsNon (tVar 2) (tC .non))) (tTest (tOp rGtI (tOp (rIx K) (tVar 2) (tC (.int 0))) (tOp rSubI (tCB (rLn K) (tCons (tVar 0) tNil)) (tOp (rIx K) (tVar 2) (tC (.int 1))))))) [.o none (.d (dI bs)), .o none (.d (.int (p : Int))), .o none (.d (.tuple [.int (n : Int), .int (b0 : Int)])), .n, .n, .n] (decide (((bs.map PyData.int).length : Int) - (b0 : Int) < (n : Int))) [.o none (.d (dI bs)), .o none (.d (.int (p : Int))), .o none (.d (.tuple [.int (n : Int), .int (b0 : Int)])), .n, .n, .n] := et_wk (et_orF (et_isN (ee_var rfl rfl) rfl rfl) (et_test (ee_op (ee_op (ee_var rfl rfl) ee_int rfl (od_ixT rfl rfl rfl rfl)) (ee_op (ee_cb (ea_cons (ee_var rfl rfl) ea_nil rfl) (cd_lenL rfl Els.d)) (ee_op (ee_var rfl rfl) ee_int rfl (od_ixT rfl rfl rfl rfl)) rfl (od_sub rfl rfl rfl rfl)) rfl (od_gt rfl rfl rfl rfl)))) (fun z => z)
  by_cases hc : bs.length < n + b0
  · have e : rTxt bs p = none := bnd_no (by rw [rCnt_if h1, if_pos hc])
    rw [e] at ho
    subst ho
    exact ss_seq (ss_tt hT (decide_eq_true (by rw [List.length_map]; omega)) (ss_ret ee_non ⟨_, _, rfl, rfl, rfl, rfl, trivial⟩))
  have e0 : rTxt bs p = rRep rChr n bs b0 := by
    unfold rTxt
    rw [bnd_ok (x := n) (b := b0) (by rw [rCnt_if h1, if_neg hc])]
  refine ss_seq (ss_ff hT (decide_eq_false (by rw [List.length_map]; omega)) (ss_next ?_))
  refine ss_seq (ss_asgD (ee_var rfl rfl) (gs_tup (gss_cons (gs_name (Nat.le_of_ble_eq_true rfl)) (gss_cons (gs_name (Nat.le_of_ble_eq_true rfl)) gss_nil)) rfl) ?_)
  walk_at "n"
  refine ss_seq ?_
  walk_at "set"
  refine ss_seq (ss_for (ei_range1 (j := (n : Int)) (by walk_at "A") ⟨by omega, by omega⟩) (fun i es => ∃ l b u2 u5, rRep rChr i bs b0 = some (l, b) ∧ es = [.o none (.d (dI bs)), .o none (.d (.int (b : Int))), u2, .o none (.d (.int (n : Int))), .o none (.d (.str (S l))), u5]) ⟨[], b0, _, _, rfl, rfl⟩ ?_ ?_)
  · rintro i y es' hy ⟨l, b, u2, u5, hr, rfl⟩
    have hil : i < n := by
      have := (List.getElem?_eq_some_iff.mp hy).1
      rwa [rangeD_len] at this
    have hll := rRep_len hr
    refine ⟨_, _, gs_name (Nat.le_of_ble_eq_true rfl), ?_⟩
    walk_at "n"
    cases h2 : rNum bs b with
    | none =>
      have e1 : rChr bs b = none := by
        unfold rChr
        rw [h2]
      have e : rTxt bs p = none := by
        rw [e0]
        exact rRep_mono (k := i + 1) (by rw [rRep_ok hr, e1]) n (by omega)
      rw [e] at ho
      subst ho
      refine ss_seq (ss_set (ee_lr (by walk_at "ar") rfl hz hb0 h2) (Nat.le_of_ble_eq_true rfl) ?_)
      walk_at "n"
      exact ss_seq (ss_tt (et_orT (et_isN (ee_var rfl rfl) rfl rfl)) rfl (ss_ret ee_non ⟨_, _, rfl, rfl, rfl, rfl, trivial⟩))
    | some u =>
    obtain ⟨k, b2⟩ := u
    refine ss_seq (ss_set (ee_lr (by walk_at "ar") rfl hz hb0 h2) (Nat.le_of_ble_eq_true rfl) ?_)
    walk_at "n"
    have e1 : rChr bs b = if okC k then some (k, b2) else none := by
      unfold rChr
      rw [h2]
    have hf0 : EE K false (tOp (rIx K) (tVar 2) (tC (.int 0))) [.o none (.d (dI bs)), .o none (.d (.int (b : Int))), .o none (.d (.tuple [.int (k : Int), .int (b2 : Int)])), .o none (.d (.int (n : Int))), .o none (.d (.str (S l))), .o none (.d y)] (.o (.d (.int (k : Int)))) [.o none (.d (dI bs)), .o none (.d (.int (b : Int))), .o none (.d (.tuple [.int (k : Int), .int (b2 : Int)])), .o none (.d (.int (n : Int))), .o none (.d (.str (S l))), .o none (.d y)] := ee_op (ee_var rfl rfl) ee_int rfl (od_ixT rfl rfl rfl rfl)
    have hT2 : ET K true (tOr (tTest (tOp rIsNon (tVar 2) (tC .non))) (tOr (tAnd (tTest (tOp (rNeA K) (tOp (rIx K) (tVar 2) (tC (.int 0))) (tC (.int 10)))) (tNot (tTest (tChain rLeI rLeI (tC (.int 32)) (tOp (rIx K) (tVar 2) (tC (.int 0))) (tC (.int 126)))))) (tTest (tOp (rEqA K) (tOp (rIx K) (tVar 2) (tC (.int 0))) (tC (.int 37)))))) [.o none (.d (dI bs)), .o none (.d (.int (b : Int))), .o none (.d (.tuple [.int (k : Int), .int (b2 : Int)])), .o none (.d (.int (n : Int))), .o none (.d (.str (S l))), .o none (.d y)] (((!decide ((k : Int) = 10)) && !(decide (32 ≤ (k : Int)) && decide ((k : Int) ≤ 126))) || decide ((k : Int) = 37)) [.o none (.d (dI bs)), .o none (.d (.int (b : Int))), .o none (.d (.tuple [.int (k : Int), .int (b2 : Int)])), .o none (.d (.int (n : Int))), .o none (.d (.str (S l))), .o none (.d y)] :=
      et_wk (et_orF (et_isN (ee_var rfl rfl) rfl rfl) (et_or (et_and (et_test (ee_op hf0 ee_int rfl (od_neI rfl rfl rfl rfl))) (fun _ => et_not (et_test (ee_rngE hf0)))) (fun _ => et_test (ee_op hf0 ee_int rfl (od_eqI rfl rfl rfl rfl))))) (fun _ => rfl)
    have hok : (((!decide ((k : Int) = 10)) && !(decide (32 ≤ (k : Int)) && decide ((k : Int) ≤ 126))) || decide ((k : Int) = 37)) = !okC k := by
      unfold okC
      by_cases a1 : k = 10
      · subst a1; rfl
      · rw [decide_eq_false (show ¬ (k : Int) = 10 by omega), show (k == 10) = false by simpa using a1]
        by_cases a2 : k < 32
        · rw [decide_eq_false (show ¬ (32 : Int) ≤ (k : Int) by omega), decide_eq_false (show ¬ 32 ≤ k by omega), decide_eq_false (show ¬ 38 ≤ k by omega)]
          rfl
        · rw [decide_eq_true (show (32 : Int) ≤ (k : Int) by omega), decide_eq_true (show 32 ≤ k by omega)]
          by_cases a3 : k < 37
          · rw [decide_eq_true a3, decide_eq_true (show (k : Int) ≤ 126 by omega), decide_eq_false (show ¬ (k : Int) = 37 by omega)]
            rfl
          · rw [decide_eq_false a3]
            by_cases a4 : k = 37
            · subst a4; rfl
            · rw [decide_eq_false (show ¬ (k : Int) = 37 by omega), decide_eq_true (show 38 ≤ k by omega)]
              by_cases a5 : k < 127
              · rw [decide_eq_true a5, decide_eq_true (show (k : Int) ≤ 126 by omega)]; rfl
              · rw [decide_eq_false a5, decide_eq_false (show ¬ (k : Int) ≤ 126 by omega)]; rfl
    rw [hok] at hT2
    by_cases hk : okC k = true
    · rw [hk] at hT2
      rw [if_pos hk] at e1
      refine ss_seq (ss_ff hT2 rfl (ss_next ?_))
      have hz3 : (S l).length + (S [k]).length ≤ sizeLine := by rw [S_len, S_len, szL]; show _ + 1 ≤ _; omega
      refine ss_seq (ss_set (ee_op (ee_var rfl rfl) (ee_callS (R := R_law_sign) (ea_cons (by walk_at "E") ea_nil rfl) (.d rfl rfl .nil) ⟨k, hk, rfl, rfl⟩ rfl) rfl (od_plusS rfl rfl rfl rfl hz3)) (Nat.le_of_ble_eq_true rfl) ?_)
      walk_at "n"
      rw [S_app]
      refine ss_set (by walk_at "E") (Nat.le_of_ble_eq_true rfl) ?_
      walk_at "n"
      exact ⟨l ++ [k], b2, _, _, by rw [rRep_ok hr, e1], rfl⟩
    · have hk' : okC k = false := by simpa using hk
      rw [hk'] at hT2
      rw [if_neg hk] at e1
      have e : rTxt bs p = none := by
        rw [e0]
        exact rRep_mono (k := i + 1) (by rw [rRep_ok hr, e1]) n (by omega)
      rw [e] at ho
      subst ho
      exact ss_seq (ss_tt hT2 rfl (ss_ret ee_non ⟨_, _, rfl, rfl, rfl, rfl, trivial⟩))
  · rintro es' ⟨l, b, u2, u5, hr, rfl⟩
    rw [rangeD_len] at hr
    have e : rTxt bs p = some (l, b) := e0.trans hr
    rw [e] at ho
    subst ho
    refine ss_ret (by walk_at "E") ?_
    exact ⟨_, _, rfl, rfl, rfl, rfl, trivial⟩
end
end K12

namespace K12
open PySem PySem.Spec PyProof.Rows L2 DW
local macro_rules | `(tactic| walk_at "side") => `(tactic| first | rfl | assumption | omega | (simp only [szL, S_len, List.length_append, List.length_map, List.length_cons, List.length_nil]; omega) | decide)
local macro_rules | `(tactic| walk_at "els") => `(tactic| first | exact Els.l | exact Els.d)
local macro_rules | `(tactic| walk_at "pos") => `(tactic| first | assumption | decide | omega | exact Or.inr (by decide) | exact Or.inl (by decide) | exact ⟨by decide, by decide +kernel⟩ | exact ⟨by decide, by decide, by decide⟩)
local macro_rules | `(tactic| walk_at "at") => `(tactic| first | assumption | rfl)
local macro_rules | `(tactic| walk_at "O") => `(tactic| first
  | focus ((with_reducible apply od_plusI); (rfl); (rfl); (rfl); (rfl); done)
  | focus ((with_reducible apply od_plusS); (rfl); (rfl); (rfl); (rfl); (walk_at "side"); done)
  | focus ((with_reducible apply od_plusL); (rfl); (walk_at "els"); (rfl); (walk_at "els"); (walk_at "side"); done)
  | focus ((with_reducible apply od_plusT); (rfl); (rfl); (walk_at "side"); done)
  | focus ((with_reducible apply od_ixL); (rfl); (walk_at "els"); (rfl); (rfl); (walk_at "at"); done)
  | focus ((with_reducible apply od_ixT); (rfl); (rfl); (rfl); (walk_at "at"); done)
  | focus ((with_reducible apply od_ixS); (rfl); (rfl); (rfl); (rfl); (walk_at "side"); (walk_at "at"); done)
  | focus ((with_reducible apply od_ixC); (rfl); (rfl); (rfl); (walk_at "at"); done)
  | focus ((with_reducible apply od_ixRx); (rfl); (rfl); (rfl); (walk_at "at"); (walk_at "at"); (rfl); done)
  | focus ((with_reducible apply od_ixQx); (rfl); (rfl); (walk_at "at"); (walk_at "at"); (rfl); done)
  | focus ((with_reducible apply od_sub); (rfl); (rfl); (rfl); (rfl); done)
  | focus ((with_reducible apply od_fdiv); (rfl); (rfl); (rfl); (rfl); (walk_at "pos"); done)
  | focus ((with_reducible apply od_mod); (rfl); (rfl); (rfl); (rfl); (walk_at "pos"); done)
  | focus ((with_reducible apply od_pow); (rfl); (rfl); (rfl); (rfl); (walk_at "pos"); done)
  | focus ((with_reducible apply od_lt); (rfl); (rfl); (rfl); (rfl); done)
  | focus ((with_reducible apply od_le); (rfl); (rfl); (rfl); (rfl); done)
  | focus ((with_reducible apply od_gt); (rfl); (rfl); (rfl); (rfl); done)
  | focus ((with_reducible apply od_ge); (rfl); (rfl); (rfl); (rfl); done)
  | focus ((with_reducible apply od_eqI); (rfl); (rfl); (rfl); (rfl); done)
  | focus ((with_reducible apply od_eqS); (rfl); (rfl); (rfl); (rfl); done)
  | focus ((with_reducible apply od_eqB); (rfl); (rfl); (rfl); (rfl); done)
  | focus ((with_reducible apply od_neI); (rfl); (rfl); (rfl); (rfl); done)
  | focus ((with_reducible apply od_neS); (rfl); (rfl); (rfl); (rfl); done)
  | focus ((with_reducible apply od_neB); (rfl); (rfl); (rfl); (rfl); done)
  | focus ((with_reducible apply od_timesI); (rfl); (rfl); (rfl); (rfl); (walk_at "pos"); done)
  | focus ((with_reducible apply od_isN); (rfl); (rfl); done)
  | focus ((with_reducible apply od_isnotN); (rfl); (rfl); done)
  | focus ((with_reducible apply od_inT); (rfl); (rfl); (rfl); (rfl); (rfl); done)
  | focus ((with_reducible apply od_notinT); (rfl); (rfl); (rfl); (rfl); (rfl); done))
local macro_rules | `(tactic| walk_at "kit") => `(tactic| first | exact kit_NoneType_bool | exact kit_NoneType_int | exact kit_NoneType_str | exact kit_NoneType_list | exact kit_NoneType_tuple | exact kit_bool_bool | exact kit_bool_int | exact kit_bool_str | exact kit_bool_list | exact kit_bool_tuple | exact kit_int_bool | exact kit_int_int | exact kit_int_str | exact kit_int_list | exact kit_int_tuple | exact kit_str_bool | exact kit_str_int | exact kit_str_str | exact kit_str_list | exact kit_str_tuple | exact kit_list_bool | exact kit_list_int | exact kit_list_str | exact kit_list_list | exact kit_list_tuple | exact kit_tuple_bool | exact kit_tuple_int | exact kit_tuple_str | exact kit_tuple_list | exact kit_tuple_tuple | exact kit_dict_bool | exact kit_dict_int | exact kit_dict_str | exact kit_dict_list | exact kit_dict_tuple)
local macro_rules | `(tactic| walk_at "C") => `(tactic| fail)
local macro_rules | `(tactic| walk_at "E") => `(tactic| first
  | exact ee_int | exact ee_str | exact ee_bl | exact ee_non
  | exact ee_var rfl rfl
  | (walk_at "C")
  | focus ((with_reducible apply ee_op); (walk_at "E"); (walk_at "E"); (rfl); (walk_at "O"); done)
  | focus ((with_reducible apply ee_lst); (walk_at "A"); (walk_at "side"); done)
  | focus ((with_reducible apply ee_tup); (walk_at "A"); (walk_at "side"); done)
  | focus ((with_reducible apply ee_isi); (walk_at "E"); (rfl); (rfl); (walk_at "kit"); done)
  | focus ((with_reducible apply ee_isiT); (walk_at "E"); (rfl); (rfl); (walk_at "kit"); (walk_at "kit"); (rfl); done)
  | focus ((with_reducible apply ee_cb); (walk_at "EA"); (walk_at "F"); done)
  | focus ((with_reducible apply ee_not); (walk_at "E"); done)
  | focus ((with_reducible apply ee_and); (walk_at "E"); (intro; walk_at "E"); done)
  | focus ((with_reducible apply ee_or); (walk_at "E"); (intro; walk_at "E"); done)
  | focus ((with_reducible apply ee_sl); (walk_at "E"); (walk_at "EO"); (walk_at "EO"); (rfl); (walk_at "SD"); done)
  | focus ((with_reducible apply ee_neg); (walk_at "E"); (rfl); (rfl); done))
local macro_rules | `(tactic| walk_at "A") => `(tactic| first
  | exact ead_nil
  | focus ((with_reducible apply ead_cons); (walk_at "E"); (walk_at "A"); done))
local macro_rules | `(tactic| walk_at "EA") => `(tactic| first
  | exact ea_nil
  | focus ((with_reducible apply ea_cons); (walk_at "E"); (walk_at "EA"); (rfl); done))
local macro_rules | `(tactic| walk_at "F") => `(tactic| first
  | focus ((with_reducible apply cd_lenL); (rfl); (walk_at "els"); done)
  | focus ((with_reducible apply cd_lenT); (rfl); done)
  | focus ((with_reducible apply cd_lenS); (rfl); (rfl); (walk_at "side"); done)
  | focus ((with_reducible apply cd_lenC); (rfl); done)
  | focus ((with_reducible apply cd_lenO); (rfl); done)
  | focus ((with_reducible apply cd_int); (rfl); (rfl); done)
  | focus ((with_reducible apply cd_intB); (rfl); (rfl); done)
  | focus ((with_reducible apply cd_listC); (rfl); done)
  | focus ((with_reducible apply cd_list); (rfl); (walk_at "els"); done)
  | focus ((with_reducible apply cd_listT); (rfl); done)
  | focus ((with_reducible apply cd_tuple); (rfl); (walk_at "els"); done)
  | focus ((with_reducible apply cd_max); (rfl); (rfl); (rfl); (rfl); done)
  | focus ((with_reducible apply cd_min); (rfl); (rfl); (rfl); (rfl); done)
  | focus ((with_reducible apply cd_str); (rfl); (rfl); (walk_at "side"); done)
  | focus ((with_reducible apply cd_ord); (rfl); (rfl); (walk_at "side"); done))
local macro_rules | `(tactic| walk_at "T") => `(tactic| first
  | focus ((with_reducible apply et_test); (walk_at "E"); done)
  | focus ((with_reducible apply et_B); (walk_at "E"); done)
  | focus ((with_reducible apply et_not); (walk_at "T"); done)
  | exact et_yes
  | focus ((with_reducible apply et_and); (walk_at "T"); (intro; walk_at "T"); done)
  | focus ((with_reducible apply et_or); (walk_at "T"); (intro; walk_at "T"); done))
local macro_rules | `(tactic| walk_at "D") => `(tactic| first
  | (walk_at "E")
  | focus ((with_reducible apply ed_lst); (walk_at "E"); done))
local macro_rules | `(tactic| walk_at "A") => `(tactic| first
  | exact ead_nil
  | focus ((with_reducible apply ead_cons); (walk_at "D"); (walk_at "A"); done))
local macro_rules | `(tactic| walk_at "v") => `(tactic| (intro a0 z0; cases z0))
local macro_rules | `(tactic| walk_at "set") => `(tactic| ((with_reducible apply ss_asg); (walk_at "E"); (exact Nat.le_of_ble_eq_true rfl); (rfl); (walk_at "v"); (dsimp only [List.set_cons_zero, List.set_cons_succ, Vl.sl, upd1, List.getElem?_cons_zero, List.getElem?_cons_succ, T.set])))
local macro_rules | `(tactic| walk_at "n") => `(tactic| (dsimp only [List.set_cons_zero, List.set_cons_succ, Vl.sl, upd1, List.getElem?_cons_zero, List.getElem?_cons_succ, T.set, putT]))
local macro_rules | `(tactic| walk_at "setI") => `(tactic| ((with_reducible apply ss_setI); (walk_at "E"); (with_reducible apply ee_m); (walk_at "E"); (rfl); (with_reducible apply ee_m); (walk_at "E"); (rfl); (rfl); (walk_at "at"); (walk_at "n")))
local macro_rules | `(tactic| walk_at "EO") => `(tactic| first
  | exact eo_no
  | focus ((with_reducible apply eo_part); (walk_at "E"); (rfl); (rfl); done))
local macro_rules | `(tactic| walk_at "SD") => `(tactic| first
  | focus ((with_reducible apply sd_L); (rfl); (walk_at "els"); done)
  | focus ((with_reducible apply sd_S); (rfl); (rfl); (walk_at "side"); done)
  | focus ((with_reducible apply sd_T); (rfl); done))
section
variable {K : PySem.W.Frag} {W : WX} {vs : List V} {as : List Ag} {o : Out} {m : Bool} {es es1 : Es} {ta : TA} {te : TE} {i : Nat} {E : XK} {c : CA} {a : Option V} {bs d : List Int} {p : Nat}
local macro_rules | `(tactic| walk_at "ar") => `(tactic| exact ea_cons (ee_var rfl rfl) (ea_cons (by walk_at "E") ea_nil rfl) rfl)
theorem body_law_read_mark (h : R_law_read_mark as o) (hl : as.length = vs.length) : SS K W (t_law_read_mark K) (slots vs as ++ List.replicate 2 .n) (FD vs as o) := by
  obtain ⟨bs, p, hz, hb0, rfl, ho⟩ := h
  obtain ⟨v1, v2, rfl⟩ := two_of hl rfl
  show SS K W (t_law_read_mark K) [.o none (.d (dI bs)), .o none (.d (.int (p : Int))), .n, .n] _
  refine ss_seq (ss_set (ee_lr (v := rNum bs p) (by walk_at "ar") rfl hz hb0 rfl) (Nat.le_of_ble_eq_true rfl) ?_)
  walk_at "n"
  refine ss_seq (ss_set (ee_then (D := intD) (D' := intD) (w := rNum bs p) (v := thenO (rNum bs p) rNum bs) rfl rfl hz hb0 rfl) (Nat.le_of_ble_eq_true rfl) ?_)
  walk_at "n"
  cases h1 : rNum bs p with
  | none =>
    have e : rMrk bs p = none := bnd_no h1
    rw [e] at ho
    subst ho
    exact ss_ret (ee_ifT (et_isN (ee_var rfl rfl) rfl rfl) ee_non) ⟨_, _, rfl, rfl, rfl, rfl, trivial⟩
  | some u1 =>
  obtain ⟨n1, b1⟩ := u1
  show SS K W _ [.o none (.d (dI bs)), .o none (.d (.int (p : Int))), .o none (.d (.tuple [.int (n1 : Int), .int (b1 : Int)])), .o none (.d (optD intD (rNum bs b1)))] _
  cases h2 : rNum bs b1 with
  | none =>
    have e : rMrk bs p = none := by
      unfold rMrk
      rw [bnd_ok h1]
      exact bnd_no h2
    rw [e] at ho
    subst ho
    exact ss_ret (ee_ifT (et_isN (ee_var rfl rfl) rfl rfl) ee_non) ⟨_, _, rfl, rfl, rfl, rfl, trivial⟩
  | some u2 =>
    obtain ⟨n2, b2⟩ := u2
    have e : rMrk bs p = some ((n1, n2), b2) := by
      unfold rMrk
      rw [bnd_ok h1, bnd_ok h2]
      rfl
    rw [e] at ho
    subst ho
    show SS K W _ [.o none (.d (dI bs)), .o none (.d (.int (p : Int))), .o none (.d (.tuple [.int (n1 : Int), .int (b1 : Int)])), .o none (.d (.tuple [.int (n2 : Int), .int (b2 : Int)]))] _
    refine ss_ret (ee_ifF (et_isN (ee_var rfl rfl) rfl rfl) (by walk_at "E")) ?_
    exact ⟨_, _, rfl, rfl, rfl, rfl, trivial⟩
theorem rBeh_ne {b : Int} (h : bs[p]? = some b) (h0 : b = 0) : rBeh bs p = some (none, p + 1) := by
  subst h0
  unfold rBeh
  rw [bnd_ok (x := 0) (b := p + 1) (by unfold rCho; rw [h]; rfl)]
  rfl
theorem rBeh_eq {b : Int} (h : bs[p]? = some b) (h0 : b = 1) : rBeh bs p = (match rMrk bs (p + 1) with | none => none | some (k, b2) => some (some k, b2)) := by
  subst h0
  unfold rBeh
  rw [bnd_ok (x := 1) (b := p + 1) (by unfold rCho; rw [h]; rfl)]
  show bnd rMrk (fun m => ret (some m)) bs (p + 1) = _
  cases h1 : rMrk bs (p + 1) with
  | none => exact bnd_no h1
  | some u =>
    obtain ⟨k, b2⟩ := u
    rw [bnd_ok h1]
    rfl
theorem body_law_read_deed (h : R_law_read_deed as o) (hl : as.length = vs.length) : SS K W (t_law_read_deed K) (slots vs as ++ List.replicate 8 .n) (FD vs as o) := by
  obtain ⟨bs, p, hz, hb0, rfl, ho⟩ := h
  obtain ⟨v1, v2, rfl⟩ := two_of hl rfl
  show SS K W (t_law_read_deed K) [.o none (.d (dI bs)), .o none (.d (.int (p : Int))), .n, .n, .n, .n, .n, .n, .n, .n] _
  have hN : ∀ {es : Es} {D : Dn}, D.rt = (FD [v1, v2] [.d (dI bs), .d (.int (p : Int))] o).rt → rDee bs p = none → SS K W (tRet (tC .non)) es D := fun {es D} hD e => by
    rw [e] at ho
    subst ho
    refine ss_ret ee_non ?_
    rw [hD]
    exact ⟨_, _, rfl, rfl, rfl, rfl, trivial⟩
  cases hb : bs[p]? with
  | none =>
    have hn := List.getElem?_eq_none_iff.mp hb
    exact ss_seq (ss_tt (et_orT (et_is (et_test (ee_op (ee_var rfl rfl) (ee_cb (ea_cons (ee_var rfl rfl) ea_nil rfl) (cd_lenL rfl Els.d)) rfl (od_ge rfl rfl rfl rfl))) (decide_eq_true (by rw [List.length_map]; omega)))) rfl (hN rfl (bnd_no (by unfold rCho; rw [hb]))))
  | some b =>
  have hp := (List.getElem?_eq_some_iff.mp hb).1
  have hbp : 0 ≤ b := hb0 b (List.mem_of_getElem? hb)
  have ha : atI (bs.map PyData.int) (p : Int) = some (.int b) := at_nat (by rw [List.getElem?_map, hb]; rfl)
  have hT : ET K false (tOr (tTest (tOp rGeI (tVar 1) (tCB (rLn K) (tCons (tVar 0) tNil)))) (tTest (tOp rGtI (tOp (rIx K) (tVar 0) (tVar 1)) (tC (.int 1))))) [.o none (.d (dI bs)), .o none (.d (.int (p : Int))), .n, .n, .n, .n, .n, .n, .n, .n] (decide (1 < b)) [.o none (.d (dI bs)), .o none (.d (.int (p : Int))), .n, .n, .n, .n, .n, .n, .n, .n] :=
    et_wk (et_orF (et_is (et_test (ee_op (ee_var rfl rfl) (ee_cb (ea_cons (ee_var rfl rfl) ea_nil rfl) (cd_lenL rfl Els.d)) rfl (od_ge rfl rfl rfl rfl))) (decide_eq_false (by rw [List.length_map]; omega))) (et_test (ee_op (ee_op (ee_var rfl rfl) (ee_var rfl rfl) rfl (od_ixL rfl Els.d rfl rfl ha)) ee_int rfl (od_gt rfl rfl rfl rfl)))) (fun z => z)
  by_cases hb1 : 1 < b
  · exact ss_seq (ss_tt hT (decide_eq_true hb1) (hN rfl (bnd_no (by unfold rCho; rw [hb]; exact if_pos (by omega)))))
  refine ss_seq (ss_ff hT (decide_eq_false hb1) (ss_next ?_))
  clear hT
  have hcho : rCho 2 bs p = some (b, p + 1) := by
    unfold rCho
    rw [hb]
    exact if_neg (by omega)
  have e0 : rDee bs p = (if b = 1 then bnd rNum (fun n => ret (.back n)) else bnd rTxt fun m => bnd rMrks fun r => bnd rBeh fun h => bnd rNum fun n => bnd rTxt fun t => ret (.chg m r h n t)) bs (p + 1) := by
    unfold rDee
    rw [bnd_ok hcho]
  have hT : ET K false (tTest (tOp (rEqA K) (tOp (rIx K) (tVar 0) (tVar 1)) (tC (.int 1)))) [.o none (.d (dI bs)), .o none (.d (.int (p : Int))), .n, .n, .n, .n, .n, .n, .n, .n] (decide (b = 1)) [.o none (.d (dI bs)), .o none (.d (.int (p : Int))), .n, .n, .n, .n, .n, .n, .n, .n] :=
    et_test (ee_op (ee_op (ee_var rfl rfl) (ee_var rfl rfl) rfl (od_ixL rfl Els.d rfl rfl ha)) ee_int rfl (od_eqI rfl rfl rfl rfl))
  by_cases h1 : b = 1
  · rw [if_pos h1] at e0
    refine ss_seq (ss_tt hT (decide_eq_true h1) ?_)
    refine ss_seq (ss_set (ee_lr (p := p + 1) (v := rNum bs (p + 1)) (by walk_at "ar") (by omega) hz hb0 rfl) (Nat.le_of_ble_eq_true rfl) ?_)
    walk_at "n"
    cases h2 : rNum bs (p + 1) with
    | none =>
      rw [e0, bnd_no h2] at ho
      subst ho
      exact ss_ret (ee_ifT (et_isN (ee_var rfl rfl) rfl rfl) ee_non) ⟨_, _, rfl, rfl, rfl, rfl, trivial⟩
    | some u2 =>
      obtain ⟨n2, b2⟩ := u2
      rw [e0, bnd_ok h2] at ho
      subst ho
      show SS K W _ [.o none (.d (dI bs)), .o none (.d (.int (p : Int))), .o none (.d (.tuple [.int (n2 : Int), .int (b2 : Int)])), .n, .n, .n, .n, .n, .n, .n] _
      refine ss_ret (ee_ifF (et_isN (ee_var rfl rfl) rfl rfl) (by walk_at "E")) ?_
      exact ⟨_, _, rfl, rfl, rfl, rfl, trivial⟩
  rw [if_neg h1] at e0
  refine ss_seq (ss_ff hT (decide_eq_false h1) (ss_next ?_))
  clear hT
  refine ss_seq (ss_set (ee_lr (p := p + 1) (v := rTxt bs (p + 1)) (by walk_at "ar") (by omega) hz hb0 rfl) (Nat.le_of_ble_eq_true rfl) ?_)
  walk_at "n"
  refine ss_seq (ss_set (ee_then (D := intD) (D' := txtD) (w := rTxt bs (p + 1)) (v := thenO (rTxt bs (p + 1)) rNum bs) rfl rfl hz hb0 rfl) (Nat.le_of_ble_eq_true rfl) ?_)
  walk_at "n"
  cases h3 : rTxt bs (p + 1) with
  | none => exact ss_seq (ss_tt (et_orT (et_isN (ee_var rfl rfl) rfl rfl)) rfl (hN rfl (by rw [e0, bnd_no h3])))
  | some u3 =>
  obtain ⟨md, b3⟩ := u3
  rw [bnd_ok h3] at e0
  show SS K W _ [.o none (.d (dI bs)), .o none (.d (.int (p : Int))), .n, .o none (.d (.tuple [.str (S md), .int (b3 : Int)])), .o none (.d (optD intD (rNum bs b3))), .n, .n, .n, .n, .n] _
  cases h4 : rNum bs b3 with
  | none => exact ss_seq (ss_tt (et_orT (et_isN (ee_var rfl rfl) rfl rfl)) rfl (hN rfl (by rw [e0]; exact bnd_no (bnd_no (rCnt_no h4)))))
  | some u4 =>
  obtain ⟨n, b4⟩ := u4
  show SS K W _ [.o none (.d (dI bs)), .o none (.d (.int (p : Int))), .n, .o none (.d (.tuple [.str (S md), .int (b3 : Int)])), .o none (.d (.tuple [.int (n : Int), .int (b4 : Int)])), .n, .n, .n, .n, .n] _
  have hT : ET K false (tOr (tTest (tOp rIsNon (tVar 4) (tC .non))) (tTest (tOp rGtI (tOp (rIx K) (tVar 4) (tC (.int 0))) (tOp rSubI (tCB (rLn K) (tCons (tVar 0) tNil)) (tOp (rIx K) (tVar 4) (tC (.int 1))))))) [.o none (.d (dI bs)), .o none (.d (.int (p : Int))), .n, .o none (.d (.tuple [.str (S md), .int (b3 : Int)])), .o none (.d (.tuple [.int (n : Int), .int (b4 : Int)])), .n, .n, .n, .n, .n] (decide (((bs.map PyData.int).length : Int) - (b4 : Int) < (n : Int))) [.o none (.d (dI bs)), .o none (.d (.int (p : Int))), .n, .o none (.d (.tuple [.str (S md), .int (b3 : Int)])), .o none (.d (.tuple [.int (n : Int), .int (b4 : Int)])), .n, .n, .n, .n, .n] := et_wk (et_orF (et_isN (ee_var rfl rfl) rfl rfl) (et_test (ee_op (ee_op (ee_var rfl rfl) ee_int rfl (od_ixT rfl rfl rfl rfl)) (ee_op (ee_cb (ea_cons (ee_var rfl rfl) ea_nil rfl) (cd_lenL rfl Els.d)) (ee_op (ee_var rfl rfl) ee_int rfl (od_ixT rfl rfl rfl rfl)) rfl (od_sub rfl rfl rfl rfl)) rfl (od_gt rfl rfl rfl rfl)))) (fun z => z)
  by_cases hc : bs.length < n + b4
  · exact ss_seq (ss_tt hT (decide_eq_true (by rw [List.length_map]; omega)) (hN rfl (by rw [e0]; exact bnd_no (bnd_no (by rw [rCnt_if h4, if_pos hc])))))
  have eM : rMrks bs b3 = rRep rMrk n bs b4 := by
    unfold rMrks
    rw [bnd_ok (x := n) (b := b4) (by rw [rCnt_if h4, if_neg hc])]
  refine ss_seq (ss_ff hT (decide_eq_false (by rw [List.length_map]; omega)) (ss_next ?_))
  clear hT
  refine ss_seq (ss_set (by walk_at "E") (Nat.le_of_ble_eq_true rfl) ?_)
  walk_at "n"
  refine ss_seq ?_
  walk_at "set"
  refine ss_seq (ss_for (ei_range1 (j := (n : Int)) (by walk_at "A") ⟨by omega, by omega⟩) (fun i es => ∃ l b u2 u6, rRep rMrk i bs b4 = some (l, b) ∧ es = [.o none (.d (dI bs)), .o none (.d (.int (b : Int))), u2, .o none (.d (.tuple [.str (S md), .int (b3 : Int)])), .o none (.d (.tuple [.int (n : Int), .int (b4 : Int)])), .o none (T.L (l.map markD)), u6, .n, .n, .n]) ⟨[], b4, _, _, rfl, rfl⟩ ?_ ?_)
  · rintro i y es' hy ⟨l, b, u2, u6, hr, rfl⟩
    have hil : i < n := by
      have := (List.getElem?_eq_some_iff.mp hy).1
      rwa [rangeD_len] at this
    have hll := rRep_len hr
    refine ⟨_, _, gs_name (Nat.le_of_ble_eq_true rfl), ?_⟩
    walk_at "n"
    refine ss_seq (ss_set (ee_lr (v := rMrk bs b) (by walk_at "ar") rfl hz hb0 rfl) (Nat.le_of_ble_eq_true rfl) ?_)
    walk_at "n"
    cases h5 : rMrk bs b with
    | none =>
      refine ss_seq (ss_tt (et_isN (ee_var rfl rfl) rfl rfl) rfl (hN rfl ?_))
      rw [e0]
      exact bnd_no (by rw [eM]; exact rRep_mono (k := i + 1) (by rw [rRep_ok hr, h5]) n (by omega))
    | some u5 =>
      obtain ⟨k, b5⟩ := u5
      show SS K W _ [.o none (.d (dI bs)), .o none (.d (.int (b : Int))), .o none (.d (.tuple [markD k, .int (b5 : Int)])), .o none (.d (.tuple [.str (S md), .int (b3 : Int)])), .o none (.d (.tuple [.int (n : Int), .int (b4 : Int)])), .o none (T.L (l.map markD)), .o none (.d y), .n, .n, .n] _
      refine ss_seq (ss_ff (et_isN (ee_var rfl rfl) rfl rfl) rfl (ss_next ?_))
      refine ss_seq (ss_drop (ee_appD (xs := l.map markD) (ee_var rfl rfl) (ee_op (ee_var rfl rfl) ee_int rfl (od_ixT rfl rfl rfl rfl)) rfl rfl rfl (by rw [List.length_map, szL]; omega)) ?_)
      have eL : l.map markD ++ [markD k] = (l ++ [k]).map markD := by rw [List.map_append]; rfl
      rw [eL]
      walk_at "n"
      refine ss_set (by walk_at "E") (Nat.le_of_ble_eq_true rfl) ?_
      walk_at "n"
      exact ⟨l ++ [k], b5, _, _, by rw [rRep_ok hr, h5], rfl⟩
  · rintro es' ⟨l, b, u2, u6, hr, rfl⟩
    rw [rangeD_len] at hr
    have hlM : l.length ≤ bs.length := by
      rw [rRep_len hr]
      omega
    have hr : rRep rMrk n bs b4 = some (l, b) := hr
    rw [← eM] at hr
    rw [bnd_ok hr] at e0
    cases hq : bs[b]? with
    | none =>
      have hn := List.getElem?_eq_none_iff.mp hq
      exact ss_seq (ss_tt (et_orT (et_is (et_test (ee_op (ee_var rfl rfl) (ee_cb (ea_cons (ee_var rfl rfl) ea_nil rfl) (cd_lenL rfl Els.d)) rfl (od_ge rfl rfl rfl rfl))) (decide_eq_true (by rw [List.length_map]; omega)))) rfl (hN rfl (by rw [e0]; exact bnd_no (bnd_no (by unfold rCho; rw [hq])))))
    | some x =>
    have hqb := (List.getElem?_eq_some_iff.mp hq).1
    have hbx : 0 ≤ x := hb0 x (List.mem_of_getElem? hq)
    have hax : atI (bs.map PyData.int) (b : Int) = some (.int x) := at_nat (by rw [List.getElem?_map, hq]; rfl)
    have hT : ET K false (tOr (tTest (tOp rGeI (tVar 1) (tCB (rLn K) (tCons (tVar 0) tNil)))) (tTest (tOp rGtI (tOp (rIx K) (tVar 0) (tVar 1)) (tC (.int 1))))) [.o none (.d (dI bs)), .o none (.d (.int (b : Int))), u2, .o none (.d (.tuple [.str (S md), .int (b3 : Int)])), .o none (.d (.tuple [.int (n : Int), .int (b4 : Int)])), .o none (T.L (l.map markD)), u6, .n, .n, .n] (decide (1 < x)) [.o none (.d (dI bs)), .o none (.d (.int (b : Int))), u2, .o none (.d (.tuple [.str (S md), .int (b3 : Int)])), .o none (.d (.tuple [.int (n : Int), .int (b4 : Int)])), .o none (T.L (l.map markD)), u6, .n, .n, .n] :=
      et_wk (et_orF (et_is (et_test (ee_op (ee_var rfl rfl) (ee_cb (ea_cons (ee_var rfl rfl) ea_nil rfl) (cd_lenL rfl Els.d)) rfl (od_ge rfl rfl rfl rfl))) (decide_eq_false (by rw [List.length_map]; omega))) (et_test (ee_op (ee_op (ee_var rfl rfl) (ee_var rfl rfl) rfl (od_ixL rfl Els.d rfl rfl hax)) ee_int rfl (od_gt rfl rfl rfl rfl)))) (fun z => z)
    by_cases hx1 : 1 < x
    · exact ss_seq (ss_tt hT (decide_eq_true hx1) (hN rfl (by rw [e0]; exact bnd_no (bnd_no (by unfold rCho; rw [hq]; exact if_pos (by omega))))))
    refine ss_seq (ss_ff hT (decide_eq_false hx1) (ss_next ?_))
    clear hT
    have hB : EE K false (tIf (tTest (tOp (rEqA K) (tOp (rIx K) (tVar 0) (tVar 1)) (tC (.int 0)))) (tTup (tCons (tC .non) (tCons (tOp (rPlus K) (tVar 1) (tC (.int 1))) tNil))) (tSpc (spD K R_law_read_mark) E0 (tCons (tVar 0) (tCons (tOp (rPlus K) (tVar 1) (tC (.int 1))) tNil)))) [.o none (.d (dI bs)), .o none (.d (.int (b : Int))), u2, .o none (.d (.tuple [.str (S md), .int (b3 : Int)])), .o none (.d (.tuple [.int (n : Int), .int (b4 : Int)])), .o none (T.L (l.map markD)), u6, .n, .n, .n] (.o (.d (optD behD (rBeh bs b)))) [.o none (.d (dI bs)), .o none (.d (.int (b : Int))), u2, .o none (.d (.tuple [.str (S md), .int (b3 : Int)])), .o none (.d (.tuple [.int (n : Int), .int (b4 : Int)])), .o none (T.L (l.map markD)), u6, .n, .n, .n] := by
      by_cases hx0 : x = 0
      · rw [rBeh_ne hq hx0]
        exact ee_eq (r := .o (.d (.tuple [.none, .int ((b : Int) + 1)]))) (ee_m (ee_ifT (et_is (et_test (ee_op (ee_op (ee_var rfl rfl) (ee_var rfl rfl) rfl (od_ixL rfl Els.d rfl rfl hax)) ee_int rfl (od_eqI rfl rfl rfl rfl))) (decide_eq_true hx0)) (ee_tup (ead_cons ee_non (ead_cons (ee_op (ee_var rfl rfl) ee_int rfl (od_plusI rfl rfl rfl rfl)) ead_nil)) (Nat.le_of_ble_eq_true rfl))) rfl) rfl rfl
      · have h1x : x = 1 := by omega
        rw [rBeh_eq hq h1x]
        have hm : EE K false (tSpc (spD K R_law_read_mark) E0 (tCons (tVar 0) (tCons (tOp (rPlus K) (tVar 1) (tC (.int 1))) tNil))) [.o none (.d (dI bs)), .o none (.d (.int (b : Int))), u2, .o none (.d (.tuple [.str (S md), .int (b3 : Int)])), .o none (.d (.tuple [.int (n : Int), .int (b4 : Int)])), .o none (T.L (l.map markD)), u6, .n, .n, .n] (.o (.d (optD markD (rMrk bs (b + 1))))) [.o none (.d (dI bs)), .o none (.d (.int (b : Int))), u2, .o none (.d (.tuple [.str (S md), .int (b3 : Int)])), .o none (.d (.tuple [.int (n : Int), .int (b4 : Int)])), .o none (T.L (l.map markD)), u6, .n, .n, .n] :=
          ee_m (ee_lr (p := b + 1) (x := (b : Int) + 1) (ea_cons (ee_var rfl rfl) (ea_cons (ee_op (ee_var rfl rfl) ee_int rfl (od_plusI rfl rfl rfl rfl)) ea_nil rfl) rfl) (by omega) hz hb0 rfl) rfl
        refine ee_eq (ee_m (ee_ifF (et_is (et_test (ee_op (ee_op (ee_var rfl rfl) (ee_var rfl rfl) rfl (od_ixL rfl Els.d rfl rfl hax)) ee_int rfl (od_eqI rfl rfl rfl rfl))) (decide_eq_false hx0)) hm) rfl) ?_ rfl
        cases rMrk bs (b + 1) with
        | none => rfl
        | some u =>
          obtain ⟨k, b9⟩ := u
          rfl
    refine ss_seq (ss_set hB (Nat.le_of_ble_eq_true rfl) ?_)
    walk_at "n"
    refine ss_seq (ss_set (ee_then (D := intD) (D' := behD) (w := rBeh bs b) (v := thenO (rBeh bs b) rNum bs) rfl rfl hz hb0 rfl) (Nat.le_of_ble_eq_true rfl) ?_)
    walk_at "n"
    refine ss_seq (ss_set (ee_then (D := txtD) (D' := intD) (w := thenO (rBeh bs b) rNum bs) (v := thenO (thenO (rBeh bs b) rNum bs) rTxt bs) rfl rfl hz hb0 rfl) (Nat.le_of_ble_eq_true rfl) ?_)
    walk_at "n"
    cases h6 : rBeh bs b with
    | none =>
      rw [e0, bnd_no h6] at ho
      subst ho
      exact ss_ret (ee_ifT (et_isN (ee_var rfl rfl) rfl rfl) ee_non) ⟨_, _, rfl, rfl, rfl, rfl, trivial⟩
    | some u6 =>
    obtain ⟨bh, b6⟩ := u6
    rw [bnd_ok h6] at e0
    show SS K W _ [_, _, _, _, _, _, _, .o none (.d (.tuple [behD bh, .int (b6 : Int)])), .o none (.d (optD intD (rNum bs b6))), .o none (.d (optD txtD (thenO (rNum bs b6) rTxt bs)))] _
    cases h7 : rNum bs b6 with
    | none =>
      rw [e0, bnd_no h7] at ho
      subst ho
      exact ss_ret (ee_ifT (et_isN (ee_var rfl rfl) rfl rfl) ee_non) ⟨_, _, rfl, rfl, rfl, rfl, trivial⟩
    | some u7 =>
    obtain ⟨nu, b7⟩ := u7
    rw [bnd_ok h7] at e0
    show SS K W _ [_, _, _, _, _, _, _, _, .o none (.d (.tuple [.int (nu : Int), .int (b7 : Int)])), .o none (.d (optD txtD (rTxt bs b7)))] _
    cases h8 : rTxt bs b7 with
    | none =>
      rw [e0, bnd_no h8] at ho
      subst ho
      exact ss_ret (ee_ifT (et_isN (ee_var rfl rfl) rfl rfl) ee_non) ⟨_, _, rfl, rfl, rfl, rfl, trivial⟩
    | some u8 =>
      obtain ⟨tx, b8⟩ := u8
      rw [e0, bnd_ok h8] at ho
      subst ho
      show SS K W _ [_, _, _, _, _, _, _, _, _, .o none (.d (.tuple [.str (S tx), .int (b8 : Int)]))] _
      refine ss_ret (ee_ifF (et_isN (ee_var rfl rfl) rfl rfl) (by walk_at "E")) ?_
      exact ⟨_, _, rfl, rfl, rfl, rfl, trivial⟩
theorem rTr1_mrk : rTr1 bs p = (match rMrk bs p with
    | none => none
    | some (k, b) => match rDee bs b with
      | none => none
      | some (d, b2) => some ((k.1, k.2, d), b2)) := by
  unfold rTr1 rMrk
  cases h1 : rNum bs p with
  | none => rw [bnd_no h1, bnd_no h1]
  | some u1 =>
    obtain ⟨n1, b1⟩ := u1
    rw [bnd_ok h1, bnd_ok h1]
    cases h2 : rNum bs b1 with
    | none => rw [bnd_no h2, bnd_no h2]
    | some u2 =>
      obtain ⟨n2, b2⟩ := u2
      rw [bnd_ok h2, bnd_ok h2]
      show bnd rDee (fun d => ret (n1, n2, d)) bs b2 = (match rDee bs b2 with | none => none | some (d, b3) => some ((n1, n2, d), b3))
      cases h3 : rDee bs b2 with
      | none => exact bnd_no h3
      | some u3 =>
        obtain ⟨d3, b3⟩ := u3
        rw [bnd_ok h3]
        rfl
theorem body_law_read_triples (h : R_law_read_triples as o) (hl : as.length = vs.length) : SS K W (t_law_read_triples K) (slots vs as ++ List.replicate 5 .n) (FD vs as o) := by
  obtain ⟨bs, p, hz, hb0, rfl, ho⟩ := h
  obtain ⟨v1, v2, rfl⟩ := two_of hl rfl
  show SS K W (t_law_read_triples K) [.o none (.d (dI bs)), .o none (.d (.int (p : Int))), .n, .n, .n, .n, .n] _
  have hN : ∀ {es : Es} {D : Dn}, D.rt = (FD [v1, v2] [.d (dI bs), .d (.int (p : Int))] o).rt → rTri bs p = none → SS K W (tRet (tC .non)) es D := fun {es D} hD e => by
    rw [e] at ho
    subst ho
    refine ss_ret ee_non ?_
    rw [hD]
    exact ⟨_, _, rfl, rfl, rfl, rfl, trivial⟩
  refine ss_seq (ss_set (ee_lr (v := rNum bs p) (by walk_at "ar") rfl hz hb0 rfl) (Nat.le_of_ble_eq_true rfl) ?_)
  walk_at "n"
  cases h4 : rNum bs p with
  | none => exact ss_seq (ss_tt (et_orT (et_isN (ee_var rfl rfl) rfl rfl)) rfl (hN rfl (bnd_no (rCnt_no h4))))
  | some u4 =>
  obtain ⟨n, b4⟩ := u4
  show SS K W _ [.o none (.d (dI bs)), .o none (.d (.int (p : Int))), .o none (.d (.tuple [.int (n : Int), .int (b4 : Int)])), .n, .n, .n, .n] _
  have hT : ET K false (tOr (tTest (tOp rIsNon (tVar 2) (tC .non))) (tTest (tOp rGtI (tOp (rIx K) (tVar 2) (tC (.int 0))) (tOp rSubI (tCB (rLn K) (tCons (tVar 0) tNil)) (tOp (rIx K) (tVar 2) (tC (.int 1))))))) [.o none (.d (dI bs)), .o none (.d (.int (p : Int))), .o none (.d (.tuple [.int (n : Int), .int (b4 : Int)])), .n, .n, .n, .n] (decide (((bs.map PyData.int).length : Int) - (b4 : Int) < (n : Int))) [.o none (.d (dI bs)), .o none (.d (.int (p : Int))), .o none (.d (.tuple [.int (n : Int), .int (b4 : Int)])), .n, .n, .n, .n] := et_wk (et_orF (et_isN (ee_var rfl rfl) rfl rfl) (et_test (ee_op (ee_op (ee_var rfl rfl) ee_int rfl (od_ixT rfl rfl rfl rfl)) (ee_op (ee_cb (ea_cons (ee_var rfl rfl) ea_nil rfl) (cd_lenL rfl Els.d)) (ee_op (ee_var rfl rfl) ee_int rfl (od_ixT rfl rfl rfl rfl)) rfl (od_sub rfl rfl rfl rfl)) rfl (od_gt rfl rfl rfl rfl)))) (fun z => z)
  by_cases hc : bs.length < n + b4
  · exact ss_seq (ss_tt hT (decide_eq_true (by rw [List.length_map]; omega)) (hN rfl (bnd_no (by rw [rCnt_if h4, if_pos hc]))))
  have e0 : rTri bs p = rRep rTr1 n bs b4 := by
    unfold rTri
    rw [bnd_ok (x := n) (b := b4) (by rw [rCnt_if h4, if_neg hc])]
  refine ss_seq (ss_ff hT (decide_eq_false (by rw [List.length_map]; omega)) (ss_next ?_))
  clear hT
  refine ss_seq (ss_set (by walk_at "E") (Nat.le_of_ble_eq_true rfl) ?_)
  walk_at "n"
  refine ss_seq ?_
  walk_at "set"
  refine ss_seq (ss_for (ei_range1 (j := (n : Int)) (by walk_at "A") ⟨by omega, by omega⟩) (fun i es => ∃ l b u4 u5 u6, rRep rTr1 i bs b4 = some (l, b) ∧ es = [.o none (.d (dI bs)), .o none (.d (.int (b : Int))), .o none (.d (.tuple [.int (n : Int), .int (b4 : Int)])), .o none (T.L (l.map triD)), u4, u5, u6]) ⟨[], b4, _, _, _, rfl, rfl⟩ ?_ ?_)
  · rintro i y es' hy ⟨l, b, u4, u5, u6, hr, rfl⟩
    have hil : i < n := by
      have := (List.getElem?_eq_some_iff.mp hy).1
      rwa [rangeD_len] at this
    have hll := rRep_len hr
    refine ⟨_, _, gs_name (Nat.le_of_ble_eq_true rfl), ?_⟩
    walk_at "n"
    refine ss_seq (ss_set (ee_lr (v := rMrk bs b) (by walk_at "ar") rfl hz hb0 rfl) (Nat.le_of_ble_eq_true rfl) ?_)
    walk_at "n"
    refine ss_seq (ss_set (ee_then (D := deedD) (D' := markD) (w := rMrk bs b) (v := thenO (rMrk bs b) rDee bs) rfl rfl hz hb0 rfl) (Nat.le_of_ble_eq_true rfl) ?_)
    walk_at "n"
    cases h5 : rMrk bs b with
    | none =>
      have h7 : rTr1 bs b = none := by rw [rTr1_mrk, h5]
      refine ss_seq (ss_tt (et_isN (ee_var rfl rfl) rfl rfl) rfl (hN rfl ?_))
      rw [e0]
      exact rRep_mono (k := i + 1) (by rw [rRep_ok hr, h7]) n (by omega)
    | some u5 =>
    obtain ⟨k, b5⟩ := u5
    show SS K W _ [.o none (.d (dI bs)), .o none (.d (.int (b : Int))), .o none (.d (.tuple [.int (n : Int), .int (b4 : Int)])), .o none (T.L (l.map triD)), .o none (.d y), .o none (.d (.tuple [markD k, .int (b5 : Int)])), .o none (.d (optD deedD (rDee bs b5)))] _
    cases h6 : rDee bs b5 with
    | none =>
      have h7 : rTr1 bs b = none := by
        rw [rTr1_mrk, h5]
        show (match rDee bs b5 with | none => none | some (d, b2) => some ((k.1, k.2, d), b2)) = none
        rw [h6]
      have eS' : rRep rTr1 (i + 1) bs b4 = none := by rw [rRep_ok hr, h7]
      refine ss_seq (ss_tt (et_isN (ee_var rfl rfl) rfl rfl) rfl (hN rfl ?_))
      rw [e0]
      exact rRep_mono (k := i + 1) eS' n (by omega)
    | some u6 =>
      obtain ⟨dd, b6⟩ := u6
      have h7 : rTr1 bs b = some ((k.1, k.2, dd), b6) := by
        rw [rTr1_mrk, h5]
        show (match rDee bs b5 with | none => none | some (d, b2) => some ((k.1, k.2, d), b2)) = _
        rw [h6]
      have eS' : rRep rTr1 (i + 1) bs b4 = some (l ++ [(k.1, k.2, dd)], b6) := by rw [rRep_ok hr, h7]
      show SS K W _ [.o none (.d (dI bs)), .o none (.d (.int (b : Int))), .o none (.d (.tuple [.int (n : Int), .int (b4 : Int)])), .o none (T.L (l.map triD)), .o none (.d y), .o none (.d (.tuple [markD k, .int (b5 : Int)])), .o none (.d (.tuple [deedD dd, .int (b6 : Int)]))] _
      refine ss_seq (ss_ff (et_isN (ee_var rfl rfl) rfl rfl) rfl (ss_next ?_))
      have hT2 : EE K false (tOp (rPlus K) (tOp (rIx K) (tVar 5) (tC (.int 0))) (tTup (tCons (tOp (rIx K) (tVar 6) (tC (.int 0))) tNil))) [.o none (.d (dI bs)), .o none (.d (.int (b : Int))), .o none (.d (.tuple [.int (n : Int), .int (b4 : Int)])), .o none (T.L (l.map triD)), .o none (.d y), .o none (.d (.tuple [markD k, .int (b5 : Int)])), .o none (.d (.tuple [deedD dd, .int (b6 : Int)]))] (.o (.d (triD (k.1, k.2, dd)))) [.o none (.d (dI bs)), .o none (.d (.int (b : Int))), .o none (.d (.tuple [.int (n : Int), .int (b4 : Int)])), .o none (T.L (l.map triD)), .o none (.d y), .o none (.d (.tuple [markD k, .int (b5 : Int)])), .o none (.d (.tuple [deedD dd, .int (b6 : Int)]))] :=
        ee_m (ee_op (ee_op (ee_var rfl rfl) ee_int rfl (od_ixT rfl rfl rfl rfl)) (ee_tup (ead_cons (ee_op (ee_var rfl rfl) ee_int rfl (od_ixT rfl rfl rfl rfl)) ead_nil) (Nat.le_of_ble_eq_true rfl)) rfl (od_plusT (xs := [.int (k.1 : Int), .int (k.2 : Int)]) (ys := [deedD dd]) rfl rfl (Nat.le_of_ble_eq_true rfl))) rfl
      refine ss_seq (ss_drop (ee_appD (xs := l.map triD) (ee_var rfl rfl) hT2 rfl rfl rfl (by rw [List.length_map, szL]; omega)) ?_)
      have eL : l.map triD ++ [triD (k.1, k.2, dd)] = (l ++ [(k.1, k.2, dd)]).map triD := by rw [List.map_append]; rfl
      rw [eL]
      walk_at "n"
      refine ss_set (by walk_at "E") (Nat.le_of_ble_eq_true rfl) ?_
      walk_at "n"
      exact ⟨l ++ [(k.1, k.2, dd)], b6, _, _, _, eS', rfl⟩
  · rintro es' ⟨l, b, u4, u5, u6, hr, rfl⟩
    rw [rangeD_len] at hr
    have hr : rRep rTr1 n bs b4 = some (l, b) := hr
    rw [e0, hr] at ho
    subst ho
    refine ss_frz (i := 3) rfl (toD_lst _) ?_
    walk_at "n"
    refine ss_ret (ee_tup (ead_cons (ee_var rfl rfl) (ead_cons (ee_var rfl rfl) ead_nil)) (Nat.le_of_ble_eq_true rfl)) ?_
    exact ⟨_, _, rfl, rfl, rfl, rfl, trivial⟩
theorem body_law_read_packet (h : R_law_read_packet as o) (hl : as.length = vs.length) : SS K W (t_law_read_packet K) (slots vs as ++ List.replicate 0 .n) (FD vs as o) := by
  obtain ⟨bs, p, hz, hb0, rfl, ho⟩ := h
  obtain ⟨v1, v2, rfl⟩ := two_of hl rfl
  show SS K W (t_law_read_packet K) [.o none (.d (dI bs)), .o none (.d (.int (p : Int)))] _
  cases hb : bs[p]? with
  | none =>
    have e : rPac bs p = none := bnd_no (by unfold rByte; rw [hb])
    rw [e] at ho
    subst ho
    have hn := List.getElem?_eq_none_iff.mp hb
    exact ss_seq (ss_tt (et_orT (et_is (et_test (ee_op (ee_var rfl rfl) (ee_cb (ea_cons (ee_var rfl rfl) ea_nil rfl) (cd_lenL rfl Els.d)) rfl (od_ge rfl rfl rfl rfl))) (decide_eq_true (by rw [List.length_map]; omega)))) rfl (ss_ret ee_non ⟨_, _, rfl, rfl, rfl, rfl, trivial⟩))
  | some b =>
  have hp := (List.getElem?_eq_some_iff.mp hb).1
  have ha : atI (bs.map PyData.int) (p : Int) = some (.int b) := at_nat (by rw [List.getElem?_map, hb]; rfl)
  have e0 : rPac bs p = (if b = 1 then rTri else fun _ _ => none) bs (p + 1) := by
    unfold rPac
    rw [bnd_ok (x := b) (b := p + 1) (by unfold rByte; rw [hb])]
  have hT : ET K false (tOr (tTest (tOp rGeI (tVar 1) (tCB (rLn K) (tCons (tVar 0) tNil)))) (tTest (tOp (rNeA K) (tOp (rIx K) (tVar 0) (tVar 1)) (tC (.int 1))))) [.o none (.d (dI bs)), .o none (.d (.int (p : Int)))] (!decide (b = 1)) [.o none (.d (dI bs)), .o none (.d (.int (p : Int)))] :=
    et_wk (et_orF (et_is (et_test (ee_op (ee_var rfl rfl) (ee_cb (ea_cons (ee_var rfl rfl) ea_nil rfl) (cd_lenL rfl Els.d)) rfl (od_ge rfl rfl rfl rfl))) (decide_eq_false (by rw [List.length_map]; omega))) (et_test (ee_op (ee_op (ee_var rfl rfl) (ee_var rfl rfl) rfl (od_ixL rfl Els.d rfl rfl ha)) ee_int rfl (od_neI rfl rfl rfl rfl)))) (fun z => z)
  by_cases h1 : b = 1
  · rw [if_pos h1] at e0
    rw [e0] at ho
    subst ho
    refine ss_seq (ss_ff hT (by rw [decide_eq_true h1]; rfl) (ss_next ?_))
    refine ss_ret (ee_lr (p := p + 1) (v := rTri bs (p + 1)) (by walk_at "ar") (by omega) hz hb0 rfl) ?_
    exact ⟨_, _, rfl, rfl, rfl, rfl, trivial⟩
  · rw [if_neg h1] at e0
    rw [e0] at ho
    subst ho
    exact ss_seq (ss_tt hT (by rw [decide_eq_false h1]; rfl) (ss_ret ee_non ⟨_, _, rfl, rfl, rfl, rfl, trivial⟩))
theorem body_law_own (h : R_law_own as o) (hl : as.length = vs.length) : SS K W (t_law_own K) (slots vs as ++ List.replicate 0 .n) (FD vs as o) := by
  obtain ⟨k, bs, hk, hz, hb0, rfl, rfl⟩ := h
  obtain ⟨v1, v2, rfl⟩ := two_of hl rfl
  show SS K W (t_law_own K) [.o none (.d (.int (k : Int))), .o none (.d (dI bs))] _
  have hT : ∀ j : Int, ET K false (tTest (tOp (rEqA K) (tVar 0) (tC (.int j)))) [.o none (.d (.int (k : Int))), .o none (.d (dI bs))] (decide ((k : Int) = j)) [.o none (.d (.int (k : Int))), .o none (.d (dI bs))] := fun j => et_test (ee_op (ee_var rfl rfl) ee_int rfl (od_eqI rfl rfl rfl rfl))
  by_cases h0 : k = 0
  · subst h0
    refine ss_seq (ss_tt (hT 0) rfl (ss_ret (ee_lr (p := 0) (v := rNum bs 0) (ea_cons (ee_var rfl rfl) (ea_cons ee_int ea_nil rfl) rfl) rfl hz hb0 rfl) ?_))
    exact ⟨_, _, rfl, rfl, rfl, rfl, trivial⟩
  refine ss_seq (ss_ff (hT 0) (decide_eq_false (by omega)) (ss_next ?_))
  by_cases h1 : k = 1
  · subst h1
    refine ss_seq (ss_tt (hT 1) rfl (ss_ret (ee_lr (p := 0) (v := rTxt bs 0) (ea_cons (ee_var rfl rfl) (ea_cons ee_int ea_nil rfl) rfl) rfl hz hb0 rfl) ?_))
    exact ⟨_, _, rfl, rfl, rfl, rfl, trivial⟩
  refine ss_seq (ss_ff (hT 1) (decide_eq_false (by omega)) (ss_next ?_))
  by_cases h2 : k = 2
  · subst h2
    refine ss_seq (ss_tt (hT 2) rfl (ss_ret (ee_lr (p := 0) (v := rDee bs 0) (ea_cons (ee_var rfl rfl) (ea_cons ee_int ea_nil rfl) rfl) rfl hz hb0 rfl) ?_))
    exact ⟨_, _, rfl, rfl, rfl, rfl, trivial⟩
  refine ss_seq (ss_ff (hT 2) (decide_eq_false (by omega)) (ss_next ?_))
  by_cases h3 : k = 3
  · subst h3
    refine ss_ret (ee_ifT (et_is (hT 3) rfl) (ee_lr (p := 0) (v := rTri bs 0) (ea_cons (ee_var rfl rfl) (ea_cons ee_int ea_nil rfl) rfl) rfl hz hb0 rfl)) ?_
    exact ⟨_, _, rfl, rfl, rfl, rfl, trivial⟩
  · have h4 : k = 4 := by omega
    subst h4
    refine ss_ret (ee_ifF (et_is (hT 3) rfl) (ee_lr (p := 0) (v := rPac bs 0) (ea_cons (ee_var rfl rfl) (ea_cons ee_int ea_nil rfl) rfl) rfl hz hb0 rfl)) ?_
    exact ⟨_, _, rfl, rfl, rfl, rfl, trivial⟩
end
end K12

namespace K12
open PySem PySem.Spec PyProof.Rows L2 DW
local macro_rules | `(tactic| walk_at "side") => `(tactic| first | rfl | assumption | omega | (simp only [szL, S_len, List.length_append, List.length_map, List.length_cons, List.length_nil]; omega) | decide)
local macro_rules | `(tactic| walk_at "els") => `(tactic| first | exact Els.l | exact Els.d)
local macro_rules | `(tactic| walk_at "pos") => `(tactic| first | assumption | decide | omega | exact Or.inr (by decide) | exact Or.inl (by decide) | exact ⟨by decide, by decide +kernel⟩ | exact ⟨by decide, by decide, by decide⟩)
local macro_rules | `(tactic| walk_at "at") => `(tactic| first | assumption | rfl)
local macro_rules | `(tactic| walk_at "O") => `(tactic| first
  | focus ((with_reducible apply od_plusI); (rfl); (rfl); (rfl); (rfl); done)
  | focus ((with_reducible apply od_plusS); (rfl); (rfl); (rfl); (rfl); (walk_at "side"); done)
  | focus ((with_reducible apply od_plusL); (rfl); (walk_at "els"); (rfl); (walk_at "els"); (walk_at "side"); done)
  | focus ((with_reducible apply od_plusT); (rfl); (rfl); (walk_at "side"); done)
  | focus ((with_reducible apply od_ixL); (rfl); (walk_at "els"); (rfl); (rfl); (walk_at "at"); done)
  | focus ((with_reducible apply od_ixT); (rfl); (rfl); (rfl); (walk_at "at"); done)
  | focus ((with_reducible apply od_ixS); (rfl); (rfl); (rfl); (rfl); (walk_at "side"); (walk_at "at"); done)
  | focus ((with_reducible apply od_ixC); (rfl); (rfl); (rfl); (walk_at "at"); done)
  | focus ((with_reducible apply od_ixRx); (rfl); (rfl); (rfl); (walk_at "at"); (walk_at "at"); (rfl); done)
  | focus ((with_reducible apply od_ixQx); (rfl); (rfl); (walk_at "at"); (walk_at "at"); (rfl); done)
  | focus ((with_reducible apply od_sub); (rfl); (rfl); (rfl); (rfl); done)
  | focus ((with_reducible apply od_fdiv); (rfl); (rfl); (rfl); (rfl); (walk_at "pos"); done)
  | focus ((with_reducible apply od_mod); (rfl); (rfl); (rfl); (rfl); (walk_at "pos"); done)
  | focus ((with_reducible apply od_pow); (rfl); (rfl); (rfl); (rfl); (walk_at "pos"); done)
  | focus ((with_reducible apply od_lt); (rfl); (rfl); (rfl); (rfl); done)
  | focus ((with_reducible apply od_le); (rfl); (rfl); (rfl); (rfl); done)
  | focus ((with_reducible apply od_gt); (rfl); (rfl); (rfl); (rfl); done)
  | focus ((with_reducible apply od_ge); (rfl); (rfl); (rfl); (rfl); done)
  | focus ((with_reducible apply od_eqI); (rfl); (rfl); (rfl); (rfl); done)
  | focus ((with_reducible apply od_eqS); (rfl); (rfl); (rfl); (rfl); done)
  | focus ((with_reducible apply od_eqB); (rfl); (rfl); (rfl); (rfl); done)
  | focus ((with_reducible apply od_neI); (rfl); (rfl); (rfl); (rfl); done)
  | focus ((with_reducible apply od_neS); (rfl); (rfl); (rfl); (rfl); done)
  | focus ((with_reducible apply od_neB); (rfl); (rfl); (rfl); (rfl); done)
  | focus ((with_reducible apply od_timesI); (rfl); (rfl); (rfl); (rfl); (walk_at "pos"); done)
  | focus ((with_reducible apply od_isN); (rfl); (rfl); done)
  | focus ((with_reducible apply od_isnotN); (rfl); (rfl); done)
  | focus ((with_reducible apply od_inT); (rfl); (rfl); (rfl); (rfl); (rfl); done)
  | focus ((with_reducible apply od_notinT); (rfl); (rfl); (rfl); (rfl); (rfl); done))
local macro_rules | `(tactic| walk_at "kit") => `(tactic| first | exact kit_NoneType_bool | exact kit_NoneType_int | exact kit_NoneType_str | exact kit_NoneType_list | exact kit_NoneType_tuple | exact kit_bool_bool | exact kit_bool_int | exact kit_bool_str | exact kit_bool_list | exact kit_bool_tuple | exact kit_int_bool | exact kit_int_int | exact kit_int_str | exact kit_int_list | exact kit_int_tuple | exact kit_str_bool | exact kit_str_int | exact kit_str_str | exact kit_str_list | exact kit_str_tuple | exact kit_list_bool | exact kit_list_int | exact kit_list_str | exact kit_list_list | exact kit_list_tuple | exact kit_tuple_bool | exact kit_tuple_int | exact kit_tuple_str | exact kit_tuple_list | exact kit_tuple_tuple | exact kit_dict_bool | exact kit_dict_int | exact kit_dict_str | exact kit_dict_list | exact kit_dict_tuple)
local macro_rules | `(tactic| walk_at "C") => `(tactic| fail)
local macro_rules | `(tactic| walk_at "E") => `(tactic| first
  | exact ee_int | exact ee_str | exact ee_bl | exact ee_non
  | exact ee_var rfl rfl
  | (walk_at "C")
  | focus ((with_reducible apply ee_op); (walk_at "E"); (walk_at "E"); (rfl); (walk_at "O"); done)
  | focus ((with_reducible apply ee_lst); (walk_at "A"); (walk_at "side"); done)
  | focus ((with_reducible apply ee_tup); (walk_at "A"); (walk_at "side"); done)
  | focus ((with_reducible apply ee_isi); (walk_at "E"); (rfl); (rfl); (walk_at "kit"); done)
  | focus ((with_reducible apply ee_isiT); (walk_at "E"); (rfl); (rfl); (walk_at "kit"); (walk_at "kit"); (rfl); done)
  | focus ((with_reducible apply ee_cb); (walk_at "EA"); (walk_at "F"); done)
  | focus ((with_reducible apply ee_not); (walk_at "E"); done)
  | focus ((with_reducible apply ee_and); (walk_at "E"); (intro; walk_at "E"); done)
  | focus ((with_reducible apply ee_or); (walk_at "E"); (intro; walk_at "E"); done)
  | focus ((with_reducible apply ee_sl); (walk_at "E"); (walk_at "EO"); (walk_at "EO"); (rfl); (walk_at "SD"); done)
  | focus ((with_reducible apply ee_neg); (walk_at "E"); (rfl); (rfl); done))
local macro_rules | `(tactic| walk_at "A") => `(tactic| first
  | exact ead_nil
  | focus ((with_reducible apply ead_cons); (walk_at "E"); (walk_at "A"); done))
local macro_rules | `(tactic| walk_at "EA") => `(tactic| first
  | exact ea_nil
  | focus ((with_reducible apply ea_cons); (walk_at "E"); (walk_at "EA"); (rfl); done))
local macro_rules | `(tactic| walk_at "F") => `(tactic| first
  | focus ((with_reducible apply cd_lenL); (rfl); (walk_at "els"); done)
  | focus ((with_reducible apply cd_lenT); (rfl); done)
  | focus ((with_reducible apply cd_lenS); (rfl); (rfl); (walk_at "side"); done)
  | focus ((with_reducible apply cd_lenC); (rfl); done)
  | focus ((with_reducible apply cd_lenO); (rfl); done)
  | focus ((with_reducible apply cd_int); (rfl); (rfl); done)
  | focus ((with_reducible apply cd_intB); (rfl); (rfl); done)
  | focus ((with_reducible apply cd_listC); (rfl); done)
  | focus ((with_reducible apply cd_list); (rfl); (walk_at "els"); done)
  | focus ((with_reducible apply cd_listT); (rfl); done)
  | focus ((with_reducible apply cd_tuple); (rfl); (walk_at "els"); done)
  | focus ((with_reducible apply cd_max); (rfl); (rfl); (rfl); (rfl); done)
  | focus ((with_reducible apply cd_min); (rfl); (rfl); (rfl); (rfl); done)
  | focus ((with_reducible apply cd_str); (rfl); (rfl); (walk_at "side"); done)
  | focus ((with_reducible apply cd_ord); (rfl); (rfl); (walk_at "side"); done))
local macro_rules | `(tactic| walk_at "T") => `(tactic| first
  | focus ((with_reducible apply et_test); (walk_at "E"); done)
  | focus ((with_reducible apply et_B); (walk_at "E"); done)
  | focus ((with_reducible apply et_not); (walk_at "T"); done)
  | exact et_yes
  | focus ((with_reducible apply et_and); (walk_at "T"); (intro; walk_at "T"); done)
  | focus ((with_reducible apply et_or); (walk_at "T"); (intro; walk_at "T"); done))
local macro_rules | `(tactic| walk_at "D") => `(tactic| first
  | (walk_at "E")
  | focus ((with_reducible apply ed_lst); (walk_at "E"); done))
local macro_rules | `(tactic| walk_at "A") => `(tactic| first
  | exact ead_nil
  | focus ((with_reducible apply ead_cons); (walk_at "D"); (walk_at "A"); done))
local macro_rules | `(tactic| walk_at "v") => `(tactic| (intro a0 z0; cases z0))
local macro_rules | `(tactic| walk_at "set") => `(tactic| ((with_reducible apply ss_asg); (walk_at "E"); (exact Nat.le_of_ble_eq_true rfl); (rfl); (walk_at "v"); (dsimp only [List.set_cons_zero, List.set_cons_succ, Vl.sl, upd1, List.getElem?_cons_zero, List.getElem?_cons_succ, T.set])))
local macro_rules | `(tactic| walk_at "n") => `(tactic| (dsimp only [List.set_cons_zero, List.set_cons_succ, Vl.sl, upd1, List.getElem?_cons_zero, List.getElem?_cons_succ, T.set, putT]))
local macro_rules | `(tactic| walk_at "setI") => `(tactic| ((with_reducible apply ss_setI); (walk_at "E"); (with_reducible apply ee_m); (walk_at "E"); (rfl); (with_reducible apply ee_m); (walk_at "E"); (rfl); (rfl); (walk_at "at"); (walk_at "n")))
local macro_rules | `(tactic| walk_at "EO") => `(tactic| first
  | exact eo_no
  | focus ((with_reducible apply eo_part); (walk_at "E"); (rfl); (rfl); done))
local macro_rules | `(tactic| walk_at "SD") => `(tactic| first
  | focus ((with_reducible apply sd_L); (rfl); (walk_at "els"); done)
  | focus ((with_reducible apply sd_S); (rfl); (rfl); (walk_at "side"); done)
  | focus ((with_reducible apply sd_T); (rfl); done))
local macro_rules | `(tactic| walk_at "ok") => `(tactic| first | assumption | exact LS.nx_ok (by walk_at "ok"))
local macro_rules | `(tactic| walk_at "lim") => `(tactic| first | assumption | exact ⟨by decide, by decide +kernel⟩)
local macro_rules | `(tactic| walk_at "C") => `(tactic| first
  | focus ((with_reducible apply ee_next9); (rfl); (walk_at "E"); (rfl); (walk_at "lim"); (walk_at "ok"); done))
theorem cutD_to {α : Type} (xs : List α) (j : Nat) : DW.cutD xs none (some (j : Int)) = xs.take j := by
  unfold DW.cutD
  rw [HT.sIx_nat, HT.sIx_none]
  rcases Nat.le_total j xs.length with h | h
  · rw [Nat.min_eq_left h]
    simp
  · rw [Nat.min_eq_right h]
    simp [List.take_of_length_le h]
theorem nxN {l : LS} {n : Nat} (h : 0 < n) : ∃ k : Nat, k < n ∧ (l.nx (n : Int)).1 = (k : Int) := by
  have := LS.nx_lt (l := l) (v := (n : Int)) (by omega)
  exact ⟨(l.nx (n : Int)).1.toNat, by omega, by omega⟩
theorem lims_ok : ∀ k : Nat, k < 5 → 0 < lims (k : Int) ∧ (lims (k : Int)).natAbs.log2 < 9000 ∧ atI ([.int 3, .int 128, .int 300, .int 2097152, .int 1180591620717411303424] : List PyData) (k : Int) = some (.int (lims (k : Int))) := by
  intro k hk
  match k, hk with
  | 0, _ => exact ⟨by decide, by decide +kernel, rfl⟩
  | 1, _ => exact ⟨by decide, by decide +kernel, rfl⟩
  | 2, _ => exact ⟨by decide, by decide +kernel, rfl⟩
  | 3, _ => exact ⟨by decide, by decide +kernel, rfl⟩
  | 4, _ => exact ⟨by decide, by decide +kernel, rfl⟩
theorem txL_ok : ∀ k : Nat, k < 4 → 0 < txL (k : Int) ∧ txL (k : Int) ≤ 140 ∧ (txL (k : Int)).natAbs.log2 < 9000 ∧ atI ([.int 1, .int 4, .int 9, .int 140] : List PyData) (k : Int) = some (.int (txL (k : Int))) := by
  intro k hk
  match k, hk with
  | 0, _ => exact ⟨by decide, by decide, by decide +kernel, rfl⟩
  | 1, _ => exact ⟨by decide, by decide, by decide +kernel, rfl⟩
  | 2, _ => exact ⟨by decide, by decide, by decide +kernel, rfl⟩
  | 3, _ => exact ⟨by decide, by decide, by decide +kernel, rfl⟩
theorem LET_len : LET.length = 95 := by decide +kernel
theorem LET_ok : ∀ k < 95, okC (LET.getD k 0) = true := by decide +kernel
/-- what a drawn number is -/
theorem dnF_lt (l : LS) : (((l.nx 5).2.nx (lims (l.nx 5).1)).1 = ((dnF l).1 : Int)) ∧ (dnF l).1 < 2 ^ 70 := by
  obtain ⟨k, hk, e⟩ := nxN (l := l) (n := 5) (by decide)
  have e : (l.nx 5).1 = (k : Int) := e
  obtain ⟨h1, h2, h3⟩ := lims_ok k hk
  have h := LS.nx_lt (l := (l.nx 5).2) (v := lims (l.nx 5).1) (by rw [e]; exact h1)
  have h4 : lims (l.nx 5).1 ≤ 2 ^ 70 := by
    rw [e]
    match k, hk with
    | 0, _ => decide
    | 1, _ => decide
    | 2, _ => decide
    | 3, _ => decide
    | 4, _ => decide +kernel
  have e2 : (dnF l).1 = ((l.nx 5).2.nx (lims (l.nx 5).1)).1.toNat := rfl
  omega
theorem dnF_ok {l : LS} (h : l.ok) : (dnF l).2.ok := LS.nx_ok (LS.nx_ok h)
theorem txI_ok {l : LS} (h : l.ok) : ∀ n, (txI n l).2.ok
  | 0 => h
  | n + 1 => LS.nx_ok (txI_ok h n)
theorem dtF_ok {l : LS} (h : l.ok) : (dtF l).2.ok := txI_ok (LS.nx_ok (LS.nx_ok h)) _
theorem dmF_ok {l : LS} (h : l.ok) : (dmF l).2.ok := LS.nx_ok (dnF_ok h)
theorem msI_ok {l : LS} (h : l.ok) : ∀ n, (msI n l).2.ok
  | 0 => h
  | n + 1 => dmF_ok (msI_ok h n)
theorem dbF_ok {l : LS} (h : l.ok) : (dbF l).2.ok := LS.nx_ok (dmF_ok h)
theorem ddF_ok {l : LS} (h : l.ok) : (ddF l).2.ok := by
  unfold ddF
  split
  · exact dnF_ok (LS.nx_ok h)
  · exact dtF_ok (dnF_ok (dtF_ok (dbF_ok (msI_ok (LS.nx_ok (LS.nx_ok h)) _))))
section
variable {K : PySem.W.Frag} {W : WX} {vs : List V} {as : List Ag} {o : Out} {m : Bool} {es es1 : Es} {ta : TA} {te : TE} {i : Nat} {E : XK} {c : CA} {a : Option V} {bs d : List Int} {p : Nat} {l : LS}
theorem body_law_drawn_number (h : R_law_drawn_number as o) (hl : as.length = vs.length) : SS K W (t_law_drawn_number K) (slots vs as ++ List.replicate 0 .n) (FD vs as o) := by
  obtain ⟨l, ok, rfl, rfl⟩ := h
  obtain ⟨v1, rfl⟩ := one_of hl rfl
  show SS K W (t_law_drawn_number K) [.o (some v1) l.t] _
  obtain ⟨k, hk, e⟩ := nxN (l := l) (n := 5) (by decide)
  have e : (l.nx 5).1 = (k : Int) := e
  obtain ⟨h1, h2, h3⟩ := lims_ok k hk
  rw [← e] at h1 h2 h3
  have hL : EE K false (tLst (tCons (tC (.int 3)) (tCons (tC (.int 128)) (tCons (tC (.int 300)) (tCons (tOp rPowI (tC (.int 128)) (tC (.int 3))) (tCons (tOp (rTimes K) (tOp rPowI (tC (.int 2)) (tC (.int 60))) (tC (.int 1024))) tNil)))))) [.o (some v1) l.t] (.o (T.L [.int 3, .int 128, .int 300, .int 2097152, .int 1180591620717411303424])) [.o (some v1) l.t] := by
    have p1 : CPow 128 3 := ⟨by decide, by decide, by decide⟩
    have p2 : CPow 2 60 := ⟨by decide, by decide, by decide⟩
    have p3 : CMul ((2 : Int) ^ (60 : Int).toNat) 1024 := Or.inl ⟨by decide, by decide⟩
    have h := ee_lst (K := K) (es := [.o (some v1) l.t]) (ead_cons (ee_int (i := 3)) (ead_cons (ee_int (i := 128)) (ead_cons (ee_int (i := 300)) (ead_cons (ee_op ee_int ee_int rfl (od_pow rfl rfl rfl rfl p1)) (ead_cons (ee_op (ee_op ee_int ee_int rfl (od_pow rfl rfl rfl rfl p2)) ee_int rfl (od_timesI rfl rfl rfl rfl p3)) ead_nil))))) (Nat.le_of_ble_eq_true rfl)
    rw [show (128 : Int) ^ (3 : Int).toNat = 2097152 by decide +kernel, show (2 : Int) ^ (60 : Int).toNat * 1024 = 1180591620717411303424 by decide +kernel] at h
    exact ee_m h rfl
  have hI : EE K true (tOp (rIx K) (tLst (tCons (tC (.int 3)) (tCons (tC (.int 128)) (tCons (tC (.int 300)) (tCons (tOp rPowI (tC (.int 128)) (tC (.int 3))) (tCons (tOp (rTimes K) (tOp rPowI (tC (.int 2)) (tC (.int 60))) (tC (.int 1024))) tNil)))))) (tSpc (spD K R_law_next) E0 (tCons (tVar 0) (tCons (tC (.int 5)) tNil)))) [.o (some v1) l.t] (.o (.d (.int (lims (l.nx 5).1)))) [.o (some v1) (l.nx 5).2.t] :=
    ee_op hL (ee_next9 rfl ee_int rfl ⟨by decide, by decide +kernel⟩ ok) rfl (od_ixL rfl Els.l rfl rfl h3)
  refine ss_ret (ee_next9 rfl hI rfl ⟨h1, h2⟩ (LS.nx_ok ok)) ?_
  refine ⟨_, _, rfl, ?_, ⟨_, rfl, rfl⟩, trivial⟩
  rw [(dnF_lt l).1]
theorem ee_dn (h : es[i]? = some (.o a l.t)) (ok : l.ok) : EE K true (tSpc (spD K R_law_drawn_number) E (tCons (tVar i) tNil)) es (.o (.d (.int ((dnF l).1 : Int)))) (es.set i (.o a (dnF l).2.t)) := by
  have e := ee_callM (K := K) (E := E) (R := R_law_drawn_number) (i := i) (p := []) (t1 := l.t) (t2 := (dnF l).2.t) (k := 0) (as := [.m l.t]) (as' := [.m (dnF l).2.t]) (t := .d (.int ((dnF l).1 : Int))) (ea_cons (ee_var h (by rfl : Sl.rd i _ = some (.r i []))) ea_nil (by rfl)) (.here (tr_at h rfl) .nil) ⟨l, ok, rfl, rfl⟩
  exact ee_eq e rfl (upd1_set h)
theorem len_lim {n : Nat} (h : n ≤ 1000000) : 0 < ((n + 1 : Nat) : Int) ∧ ((n + 1 : Nat) : Int).natAbs.log2 < 9000 := by
  refine ⟨by omega, ?_⟩
  rw [Int.natAbs_natCast, Nat.log2_lt (by omega)]
  exact Nat.lt_of_lt_of_le (show n + 1 < 2 ^ 20 by omega) (Nat.pow_le_pow_right (by decide) (by decide))
theorem txI_map {l : LS} : ∀ n, (List.range n).map (fun i => PyData.str (S [LET.getD ((txI i l).2.nx 95).1.toNat 0])) = (txI n l).1.map fun c => .str (S [c])
  | 0 => rfl
  | n + 1 => by
    rw [List.range_succ, List.map_append, txI_map n]
    show _ = ((txI n l).1 ++ [LET.getD ((txI n l).2.nx 95).1.toNat 0]).map fun c => PyData.str (S [c])
    rw [List.map_append]
    rfl
theorem txI_len {l : LS} : ∀ n, (txI n l).1.length = n
  | 0 => rfl
  | n + 1 => by
    show ((txI n l).1 ++ [_]).length = _
    rw [List.length_append, txI_len n]
    rfl
theorem body_law_drawn_text (h : R_law_drawn_text as o) (hl : as.length = vs.length) : SS K W (t_law_drawn_text K) (slots vs as ++ List.replicate 2 .n) (FD vs as o) := by
  obtain ⟨l, ok, rfl, rfl⟩ := h
  obtain ⟨v1, rfl⟩ := one_of hl rfl
  show SS K W (t_law_drawn_text K) [.o (some v1) l.t, .n, .n] _
  obtain ⟨k, hk, e⟩ := nxN (l := l) (n := 4) (by decide)
  have e : (l.nx 4).1 = (k : Int) := e
  obtain ⟨h1, h2, h3, h4⟩ := txL_ok k hk
  rw [← e] at h1 h2 h3 h4
  refine ss_seq (ss_set ee_str (Nat.le_of_ble_eq_true rfl) ?_)
  walk_at "n"
  have hz95 : ("\n !\"#$&'()*+,-./0123456789:;<=>?@ABCDEFGHIJKLMNOPQRSTUVWXYZ[\\]^_`abcdefghijklmnopqrstuvwxyz{|}~" : Str).length = 95 := by decide +kernel
  have hzL : ("\n !\"#$&'()*+,-./0123456789:;<=>?@ABCDEFGHIJKLMNOPQRSTUVWXYZ[\\]^_`abcdefghijklmnopqrstuvwxyz{|}~" : Str).cps.toList = LET := rfl
  generalize ("\n !\"#$&'()*+,-./0123456789:;<=>?@ABCDEFGHIJKLMNOPQRSTUVWXYZ[\\]^_`abcdefghijklmnopqrstuvwxyz{|}~" : Str) = z at hz95 hzL
  have hl := LS.nx_lt (l := (l.nx 4).2) (v := txL (l.nx 4).1) h1
  have ok2 : ((l.nx 4).2.nx (txL (l.nx 4).1)).2.ok := LS.nx_ok (LS.nx_ok ok)
  have hI : EI K true true (iRng1 (tCons (tSpc (spD K R_law_next) E0 (tCons (tVar 0) (tCons (tOp (rIx K) (tLst (tCons (tC (.int 1)) (tCons (tC (.int 4)) (tCons (tC (.int 9)) (tCons (tC (.int 140)) tNil))))) (tSpc (spD K R_law_next) E0 (tCons (tVar 0) (tCons (tC (.int 4)) tNil)))) tNil))) tNil)) [.o (some v1) l.t, .o none (.d (.str z)), .n] (rangeD 0 ((l.nx 4).2.nx (txL (l.nx 4).1)).1.toNat) [.o (some v1) ((l.nx 4).2.nx (txL (l.nx 4).1)).2.t, .o none (.d (.str z)), .n] :=
    ei_m (ei_range1 (ead_cons (ee_next9 rfl (ee_op (ee_lst (ead_m (by walk_at "A") rfl) (Nat.le_of_ble_eq_true rfl)) (ee_next9 rfl ee_int rfl ⟨by decide, by decide +kernel⟩ ok) rfl (od_ixL rfl Els.l rfl rfl h4)) rfl ⟨h1, h3⟩ (LS.nx_ok ok)) ead_nil) ⟨by omega, by omega⟩) rfl
  have ed : dtF l = txI ((l.nx 4).2.nx (txL (l.nx 4).1)).1.toNat ((l.nx 4).2.nx (txL (l.nx 4).1)).2 := rfl
  rw [ed]
  generalize hnn : ((l.nx 4).2.nx (txL (l.nx 4).1)).1.toNat = nn at hI
  have hn140 : nn ≤ 140 := by omega
  generalize ((l.nx 4).2.nx (txL (l.nx 4).1)).2 = l2 at hI ok2
  have hLC := ee_lcR (K := K) (out := fun i => .str (S [LET.getD ((txI i l2).2.nx 95).1.toNat 0])) (g := gName 2) (vs := [2]) (te := tOp (rIx K) (tVar 1) (tSpc (spD K R_law_next) E0 (tCons (tVar 0) (tCons (tCB (rLn K) (tCons (tVar 1) tNil)) tNil)))) hI (by rw [rangeD_len, szL]; omega) (fun i => [.o (some v1) (txI i l2).2.t, .o none (.d (.str z)), .n]) rfl (fun i x hx => by
    have oki := txI_ok ok2 i
    obtain ⟨j, hj, ej⟩ := nxN (l := (txI i l2).2) (n := 95) (by decide)
    have ej : ((txI i l2).2.nx 95).1 = (j : Int) := ej
    have hLen : EE K false (tCB (rLn K) (tCons (tVar 1) tNil)) [.o (some v1) (txI i l2).2.t, .o none (.d (.str z)), .o none (.d x)] (.o (.d (.int 95))) [.o (some v1) (txI i l2).2.t, .o none (.d (.str z)), .o none (.d x)] := by
      have h := ee_cb (K := K) (es := [.o (some v1) (txI i l2).2.t, .o none (.d (.str z)), .o none (.d x)]) (ea_cons (ee_var (i := 1) rfl rfl) ea_nil rfl) (cd_lenS rfl rfl (by rw [hz95, szL]; decide))
      rw [hz95] at h
      exact h
    have ha : atI z.cps.toList ((txI i l2).2.nx 95).1 = some (LET.getD ((txI i l2).2.nx 95).1.toNat 0) := by
      rw [hzL, ej, Int.toNat_natCast]
      refine at_nat ?_
      rw [List.getD_eq_getElem?_getD, List.getElem?_eq_getElem (by rw [LET_len]; exact hj)]
      rfl
    have h2 : ED K true (tOp (rIx K) (tVar 1) (tSpc (spD K R_law_next) E0 (tCons (tVar 0) (tCons (tCB (rLn K) (tCons (tVar 1) tNil)) tNil)))) [.o (some v1) (txI i l2).2.t, .o none (.d (.str z)), .o none (.d x)] (.str (S [LET.getD ((txI i l2).2.nx 95).1.toNat 0])) [.o (some v1) ((txI i l2).2.nx 95).2.t, .o none (.d (.str z)), .o none (.d x)] :=
      ee_op (ee_var rfl rfl) (ee_next9 rfl hLen rfl ⟨by decide, by decide +kernel⟩ oki) rfl (od_ixS rfl rfl rfl rfl (by rw [hz95, szL]; decide) ha)
    exact ⟨_, _, _, gs_name (Nat.le_of_ble_eq_true rfl), fun j hj => hj, h2, rfl, rfl⟩)
  rw [rangeD_len, txI_map] at hLC
  refine ss_ret (ee_joinS hLC (by rw [txI_len]; omega)) ?_
  exact ⟨_, _, rfl, rfl, ⟨_, rfl, rfl⟩, trivial⟩
theorem ee_dt (h : es[i]? = some (.o a l.t)) (ok : l.ok) : EE K true (tSpc (spD K R_law_drawn_text) E (tCons (tVar i) tNil)) es (.o (.d (.str (S (dtF l).1)))) (es.set i (.o a (dtF l).2.t)) := by
  have e := ee_callM (K := K) (E := E) (R := R_law_drawn_text) (i := i) (p := []) (t1 := l.t) (t2 := (dtF l).2.t) (k := 0) (as := [.m l.t]) (as' := [.m (dtF l).2.t]) (t := .d (.str (S (dtF l).1))) (ea_cons (ee_var h (by rfl : Sl.rd i _ = some (.r i []))) ea_nil (by rfl)) (.here (tr_at h rfl) .nil) ⟨l, ok, rfl, rfl⟩
  exact ee_eq e rfl (upd1_set h)
theorem dmF_eq (l : LS) : PyData.tuple [.int ((dnF l).1 : Int), .int ((dnF l).2.nx 8).1] = markD (dmF l).1 := by
  obtain ⟨j, hj, ej⟩ := nxN (l := (dnF l).2) (n := 8) (by decide)
  have ej : ((dnF l).2.nx 8).1 = (j : Int) := ej
  show _ = PyData.tuple [.int ((dnF l).1 : Int), .int (((dnF l).2.nx 8).1.toNat : Int)]
  rw [ej, Int.toNat_natCast]
theorem msI_map {l : LS} : ∀ n, (List.range n).map (fun i => markD (dmF (msI i l).2).1) = (msI n l).1.map markD
  | 0 => rfl
  | n + 1 => by
    rw [List.range_succ, List.map_append, msI_map n]
    show _ = ((msI n l).1 ++ [(dmF (msI n l).2).1]).map markD
    rw [List.map_append]
    rfl
theorem msI_len {l : LS} : ∀ n, (msI n l).1.length = n
  | 0 => rfl
  | n + 1 => by
    show ((msI n l).1 ++ [_]).length = _
    rw [List.length_append, msI_len n]
    rfl
theorem ddF_c {l : LS} (h : ¬ (l.nx 3).1 = 0) : ddF l =
    (let m := msI ((l.nx 3).2.nx 4).1.toNat ((l.nx 3).2.nx 4).2
    let b := dbF m.2
    let t := dtF b.2
    let n := dnF t.2
    let u := dtF n.2
    (.chg t.1 m.1 b.1 n.1 u.1, u.2)) := if_neg h
theorem body_law_drawn_deed (h : R_law_drawn_deed as o) (hl : as.length = vs.length) : SS K W (t_law_drawn_deed K) (slots vs as ++ List.replicate 3 .n) (FD vs as o) := by
  obtain ⟨l, ok, rfl, rfl⟩ := h
  obtain ⟨v1, rfl⟩ := one_of hl rfl
  show SS K W (t_law_drawn_deed K) [.o (some v1) l.t, .n, .n, .n] _
  have ok1 : (l.nx 3).2.ok := LS.nx_ok ok
  refine ss_seq (ss_if (b := decide ((l.nx 3).1 = 0)) (et_test (ee_m (ee_op (ee_next9 rfl ee_int rfl ⟨by decide, by decide +kernel⟩ ok) ee_int rfl (od_eqI rfl rfl rfl rfl)) rfl)) (fun hc => ?_) fun hc => ss_next ?_)
  · have hc' : (l.nx 3).1 = 0 := of_decide_eq_true hc
    refine ss_ret (ee_tup (ead_cons ee_str (ead_cons (ee_dn rfl ok1) ead_nil)) (Nat.le_of_ble_eq_true rfl)) ?_
    have ed : ddF l = (.back (dnF (l.nx 3).2).1, (dnF (l.nx 3).2).2) := if_pos hc'
    rw [ed]
    exact ⟨_, _, rfl, rfl, ⟨_, rfl, rfl⟩, trivial⟩
  have hc' : ¬ (l.nx 3).1 = 0 := of_decide_eq_false hc
  rw [ddF_c hc']
  clear hc hc'
  dsimp only
  generalize (l.nx 3).2 = l0 at ok1
  have ok2 : (l0.nx 4).2.ok := LS.nx_ok ok1
  have h4 := LS.nx_lt (l := l0) (v := 4) (by decide)
  have hI : EI K true true (iRng1 (tCons (tSpc (spD K R_law_next) E0 (tCons (tVar 0) (tCons (tC (.int 4)) tNil))) tNil)) [.o (some v1) l0.t, .n, .n, .n] (rangeD 0 (l0.nx 4).1.toNat) [.o (some v1) (l0.nx 4).2.t, .n, .n, .n] :=
    ei_m (ei_range1 (ead_cons (ee_next9 rfl ee_int rfl ⟨by decide, by decide +kernel⟩ ok1) ead_nil) ⟨by omega, by omega⟩) rfl
  generalize hnn : (l0.nx 4).1.toNat = nn at hI
  have hn4 : nn ≤ 4 := by omega
  generalize (l0.nx 4).2 = l1 at hI ok2
  have hLC := ee_lcR (K := K) (out := fun i => markD (dmF (msI i l1).2).1) (g := gName 3) (vs := [3]) (te := tTup (tCons (tSpc (spD K R_law_drawn_number) E0 (tCons (tVar 0) tNil)) (tCons (tSpc (spD K R_law_next) E0 (tCons (tVar 0) (tCons (tC (.int 8)) tNil))) tNil))) hI (by rw [rangeD_len, szL]; omega) (fun i => [.o (some v1) (msI i l1).2.t, .n, .n, .n]) rfl (fun i x hx => by
    have oki := msI_ok ok2 i
    have h2 : ED K true (tTup (tCons (tSpc (spD K R_law_drawn_number) E0 (tCons (tVar 0) tNil)) (tCons (tSpc (spD K R_law_next) E0 (tCons (tVar 0) (tCons (tC (.int 8)) tNil))) tNil))) [.o (some v1) (msI i l1).2.t, .n, .n, .o none (.d x)] (markD (dmF (msI i l1).2).1) [.o (some v1) (dmF (msI i l1).2).2.t, .n, .n, .o none (.d x)] := by
      rw [← dmF_eq]
      exact ee_tup (ead_cons (ee_dn rfl oki) (ead_cons (ee_next9 rfl ee_int rfl ⟨by decide, by decide +kernel⟩ (dnF_ok oki)) ead_nil)) (Nat.le_of_ble_eq_true rfl)
    exact ⟨_, _, _, gs_name (Nat.le_of_ble_eq_true rfl), fun j hj => hj, h2, rfl, rfl⟩)
  rw [rangeD_len, msI_map] at hLC
  have ok3 := msI_ok ok2 nn
  refine ss_seq (ss_set (ee_cb (ea_cons hLC ea_nil rfl) (cd_tuple rfl Els.l)) (Nat.le_of_ble_eq_true rfl) ?_)
  walk_at "n"
  generalize (msI nn l1).2 = l3 at ok3
  generalize (msI nn l1).1 = ms
  obtain ⟨j, hj, ej⟩ := nxN (l := (dmF l3).2) (n := 2) (by decide)
  have ej : ((dmF l3).2.nx 2).1 = (j : Int) := ej
  have hax : atI [.none, markD (dmF l3).1] ((dmF l3).2.nx 2).1 = some (behD (dbF l3).1) := by
    have hdb : (dbF l3).1 = if ((dmF l3).2.nx 2).1 = 0 then none else some (dmF l3).1 := rfl
    rw [hdb, ej]
    match j, hj with
    | 0, _ => rfl
    | 1, _ => rfl
  have hB : EE K true (tOp (rIx K) (tLst (tCons (tC .non) (tCons (tTup (tCons (tSpc (spD K R_law_drawn_number) E0 (tCons (tVar 0) tNil)) (tCons (tSpc (spD K R_law_next) E0 (tCons (tVar 0) (tCons (tC (.int 8)) tNil))) tNil))) tNil))) (tSpc (spD K R_law_next) E0 (tCons (tVar 0) (tCons (tC (.int 2)) tNil)))) [.o (some v1) l3.t, .o none (.d (.tuple (ms.map markD))), .n, .n] (.o (.d (behD (dbF l3).1))) [.o (some v1) (dbF l3).2.t, .o none (.d (.tuple (ms.map markD))), .n, .n] := by
    have hM : ED K true (tTup (tCons (tSpc (spD K R_law_drawn_number) E0 (tCons (tVar 0) tNil)) (tCons (tSpc (spD K R_law_next) E0 (tCons (tVar 0) (tCons (tC (.int 8)) tNil))) tNil))) [.o (some v1) l3.t, .o none (.d (.tuple (ms.map markD))), .n, .n] (markD (dmF l3).1) [.o (some v1) (dmF l3).2.t, .o none (.d (.tuple (ms.map markD))), .n, .n] := by
      rw [← dmF_eq]
      exact ee_tup (ead_cons (ee_dn rfl ok3) (ead_cons (ee_next9 rfl ee_int rfl ⟨by decide, by decide +kernel⟩ (dnF_ok ok3)) ead_nil)) (Nat.le_of_ble_eq_true rfl)
    exact ee_op (ee_lst (ead_cons ee_non (ead_cons hM ead_nil)) (Nat.le_of_ble_eq_true rfl)) (ee_next9 rfl ee_int rfl ⟨by decide, by decide +kernel⟩ (dmF_ok ok3)) rfl (od_ixL rfl Els.l rfl rfl hax)
  refine ss_seq (ss_set hB (Nat.le_of_ble_eq_true rfl) ?_)
  walk_at "n"
  have ok4 := dbF_ok ok3
  generalize (dbF l3).2 = l4 at ok4
  generalize (dbF l3).1 = bh
  refine ss_ret (ee_tup (ead_cons ee_str (ead_cons (ee_dt rfl ok4) (ead_cons (ee_var rfl rfl) (ead_cons (ee_var rfl rfl) (ead_cons (ee_dn rfl (dtF_ok ok4)) (ead_cons (ee_dt rfl (dnF_ok (dtF_ok ok4))) ead_nil)))))) (Nat.le_of_ble_eq_true rfl)) ?_
  exact ⟨_, _, rfl, rfl, ⟨_, rfl, rfl⟩, trivial⟩
theorem ee_dd (h : es[i]? = some (.o a l.t)) (ok : l.ok) : EE K true (tSpc (spD K R_law_drawn_deed) E (tCons (tVar i) tNil)) es (.o (.d (deedD (ddF l).1))) (es.set i (.o a (ddF l).2.t)) := by
  have e := ee_callM (K := K) (E := E) (R := R_law_drawn_deed) (i := i) (p := []) (t1 := l.t) (t2 := (ddF l).2.t) (k := 0) (as := [.m l.t]) (as' := [.m (ddF l).2.t]) (t := .d (deedD (ddF l).1)) (ea_cons (ee_var h (by rfl : Sl.rd i _ = some (.r i []))) ea_nil (by rfl)) (.here (tr_at h rfl) .nil) ⟨l, ok, rfl, rfl⟩
  exact ee_eq e rfl (upd1_set h)
end
end K12

namespace K12
open PySem PySem.Spec PyProof.Rows L2 DW
local macro_rules | `(tactic| walk_at "side") => `(tactic| first | rfl | assumption | omega | (simp only [szL, S_len, List.length_append, List.length_map, List.length_cons, List.length_nil]; omega) | decide)
local macro_rules | `(tactic| walk_at "els") => `(tactic| first | exact Els.l | exact Els.d)
local macro_rules | `(tactic| walk_at "pos") => `(tactic| first | assumption | decide | omega | exact Or.inr (by decide) | exact Or.inl (by decide) | exact ⟨by decide, by decide +kernel⟩ | exact ⟨by decide, by decide, by decide⟩)
local macro_rules | `(tactic| walk_at "at") => `(tactic| first | assumption | rfl)
local macro_rules | `(tactic| walk_at "O") => `(tactic| first
  | focus ((with_reducible apply od_plusI); (rfl); (rfl); (rfl); (rfl); done)
  | focus ((with_reducible apply od_plusS); (rfl); (rfl); (rfl); (rfl); (walk_at "side"); done)
  | focus ((with_reducible apply od_plusL); (rfl); (walk_at "els"); (rfl); (walk_at "els"); (walk_at "side"); done)
  | focus ((with_reducible apply od_plusT); (rfl); (rfl); (walk_at "side"); done)
  | focus ((with_reducible apply od_ixL); (rfl); (walk_at "els"); (rfl); (rfl); (walk_at "at"); done)
  | focus ((with_reducible apply od_ixT); (rfl); (rfl); (rfl); (walk_at "at"); done)
  | focus ((with_reducible apply od_ixS); (rfl); (rfl); (rfl); (rfl); (walk_at "side"); (walk_at "at"); done)
  | focus ((with_reducible apply od_ixC); (rfl); (rfl); (rfl); (walk_at "at"); done)
  | focus ((with_reducible apply od_ixRx); (rfl); (rfl); (rfl); (walk_at "at"); (walk_at "at"); (rfl); done)
  | focus ((with_reducible apply od_ixQx); (rfl); (rfl); (walk_at "at"); (walk_at "at"); (rfl); done)
  | focus ((with_reducible apply od_sub); (rfl); (rfl); (rfl); (rfl); done)
  | focus ((with_reducible apply od_fdiv); (rfl); (rfl); (rfl); (rfl); (walk_at "pos"); done)
  | focus ((with_reducible apply od_mod); (rfl); (rfl); (rfl); (rfl); (walk_at "pos"); done)
  | focus ((with_reducible apply od_pow); (rfl); (rfl); (rfl); (rfl); (walk_at "pos"); done)
  | focus ((with_reducible apply od_lt); (rfl); (rfl); (rfl); (rfl); done)
  | focus ((with_reducible apply od_le); (rfl); (rfl); (rfl); (rfl); done)
  | focus ((with_reducible apply od_gt); (rfl); (rfl); (rfl); (rfl); done)
  | focus ((with_reducible apply od_ge); (rfl); (rfl); (rfl); (rfl); done)
  | focus ((with_reducible apply od_eqI); (rfl); (rfl); (rfl); (rfl); done)
  | focus ((with_reducible apply od_eqS); (rfl); (rfl); (rfl); (rfl); done)
  | focus ((with_reducible apply od_eqB); (rfl); (rfl); (rfl); (rfl); done)
  | focus ((with_reducible apply od_neI); (rfl); (rfl); (rfl); (rfl); done)
  | focus ((with_reducible apply od_neS); (rfl); (rfl); (rfl); (rfl); done)
  | focus ((with_reducible apply od_neB); (rfl); (rfl); (rfl); (rfl); done)
  | focus ((with_reducible apply od_timesI); (rfl); (rfl); (rfl); (rfl); (walk_at "pos"); done)
  | focus ((with_reducible apply od_isN); (rfl); (rfl); done)
  | focus ((with_reducible apply od_isnotN); (rfl); (rfl); done)
  | focus ((with_reducible apply od_inT); (rfl); (rfl); (rfl); (rfl); (rfl); done)
  | focus ((with_reducible apply od_notinT); (rfl); (rfl); (rfl); (rfl); (rfl); done))
local macro_rules | `(tactic| walk_at "kit") => `(tactic| first | exact kit_NoneType_bool | exact kit_NoneType_int | exact kit_NoneType_str | exact kit_NoneType_list | exact kit_NoneType_tuple | exact kit_bool_bool | exact kit_bool_int | exact kit_bool_str | exact kit_bool_list | exact kit_bool_tuple | exact kit_int_bool | exact kit_int_int | exact kit_int_str | exact kit_int_list | exact kit_int_tuple | exact kit_str_bool | exact kit_str_int | exact kit_str_str | exact kit_str_list | exact kit_str_tuple | exact kit_list_bool | exact kit_list_int | exact kit_list_str | exact kit_list_list | exact kit_list_tuple | exact kit_tuple_bool | exact kit_tuple_int | exact kit_tuple_str | exact kit_tuple_list | exact kit_tuple_tuple | exact kit_dict_bool | exact kit_dict_int | exact kit_dict_str | exact kit_dict_list | exact kit_dict_tuple)
local macro_rules | `(tactic| walk_at "C") => `(tactic| fail)
local macro_rules | `(tactic| walk_at "E") => `(tactic| first
  | exact ee_int | exact ee_str | exact ee_bl | exact ee_non
  | exact ee_var rfl rfl
  | (walk_at "C")
  | focus ((with_reducible apply ee_op); (walk_at "E"); (walk_at "E"); (rfl); (walk_at "O"); done)
  | focus ((with_reducible apply ee_lst); (walk_at "A"); (walk_at "side"); done)
  | focus ((with_reducible apply ee_tup); (walk_at "A"); (walk_at "side"); done)
  | focus ((with_reducible apply ee_isi); (walk_at "E"); (rfl); (rfl); (walk_at "kit"); done)
  | focus ((with_reducible apply ee_isiT); (walk_at "E"); (rfl); (rfl); (walk_at "kit"); (walk_at "kit"); (rfl); done)
  | focus ((with_reducible apply ee_cb); (walk_at "EA"); (walk_at "F"); done)
  | focus ((with_reducible apply ee_not); (walk_at "E"); done)
  | focus ((with_reducible apply ee_and); (walk_at "E"); (intro; walk_at "E"); done)
  | focus ((with_reducible apply ee_or); (walk_at "E"); (intro; walk_at "E"); done)
  | focus ((with_reducible apply ee_sl); (walk_at "E"); (walk_at "EO"); (walk_at "EO"); (rfl); (walk_at "SD"); done)
  | focus ((with_reducible apply ee_neg); (walk_at "E"); (rfl); (rfl); done))
local macro_rules | `(tactic| walk_at "A") => `(tactic| first
  | exact ead_nil
  | focus ((with_reducible apply ead_cons); (walk_at "E"); (walk_at "A"); done))
local macro_rules | `(tactic| walk_at "EA") => `(tactic| first
  | exact ea_nil
  | focus ((with_reducible apply ea_cons); (walk_at "E"); (walk_at "EA"); (rfl); done))
local macro_rules | `(tactic| walk_at "F") => `(tactic| first
  | focus ((with_reducible apply cd_lenL); (rfl); (walk_at "els"); done)
  | focus ((with_reducible apply cd_lenT); (rfl); done)
  | focus ((with_reducible apply cd_lenS); (rfl); (rfl); (walk_at "side"); done)
  | focus ((with_reducible apply cd_lenC); (rfl); done)
  | focus ((with_reducible apply cd_lenO); (rfl); done)
  | focus ((with_reducible apply cd_int); (rfl); (rfl); done)
  | focus ((with_reducible apply cd_intB); (rfl); (rfl); done)
  | focus ((with_reducible apply cd_listC); (rfl); done)
  | focus ((with_reducible apply cd_list); (rfl); (walk_at "els"); done)
  | focus ((with_reducible apply cd_listT); (rfl); done)
  | focus ((with_reducible apply cd_tuple); (rfl); (walk_at "els"); done)
  | focus ((with_reducible apply cd_max); (rfl); (rfl); (rfl); (rfl); done)
  | focus ((with_reducible apply cd_min); (rfl); (rfl); (rfl); (rfl); done)
  | focus ((with_reducible apply cd_str); (rfl); (rfl); (walk_at "side"); done)
  | focus ((with_reducible apply cd_ord); (rfl); (rfl); (walk_at "side"); done))
local macro_rules | `(tactic| walk_at "T") => `(tactic| first
  | focus ((with_reducible apply et_test); (walk_at "E"); done)
  | focus ((with_reducible apply et_B); (walk_at "E"); done)
  | focus ((with_reducible apply et_not); (walk_at "T"); done)
  | exact et_yes
  | focus ((with_reducible apply et_and); (walk_at "T"); (intro; walk_at "T"); done)
  | focus ((with_reducible apply et_or); (walk_at "T"); (intro; walk_at "T"); done))
local macro_rules | `(tactic| walk_at "D") => `(tactic| first
  | (walk_at "E")
  | focus ((with_reducible apply ed_lst); (walk_at "E"); done))
local macro_rules | `(tactic| walk_at "A") => `(tactic| first
  | exact ead_nil
  | focus ((with_reducible apply ead_cons); (walk_at "D"); (walk_at "A"); done))
local macro_rules | `(tactic| walk_at "v") => `(tactic| (intro a0 z0; cases z0))
local macro_rules | `(tactic| walk_at "set") => `(tactic| ((with_reducible apply ss_asg); (walk_at "E"); (exact Nat.le_of_ble_eq_true rfl); (rfl); (walk_at "v"); (dsimp only [List.set_cons_zero, List.set_cons_succ, Vl.sl, upd1, List.getElem?_cons_zero, List.getElem?_cons_succ, T.set])))
local macro_rules | `(tactic| walk_at "n") => `(tactic| (dsimp only [List.set_cons_zero, List.set_cons_succ, Vl.sl, upd1, List.getElem?_cons_zero, List.getElem?_cons_succ, T.set, putT]))
local macro_rules | `(tactic| walk_at "setI") => `(tactic| ((with_reducible apply ss_setI); (walk_at "E"); (with_reducible apply ee_m); (walk_at "E"); (rfl); (with_reducible apply ee_m); (walk_at "E"); (rfl); (rfl); (walk_at "at"); (walk_at "n")))
local macro_rules | `(tactic| walk_at "EO") => `(tactic| first
  | exact eo_no
  | focus ((with_reducible apply eo_part); (walk_at "E"); (rfl); (rfl); done))
local macro_rules | `(tactic| walk_at "SD") => `(tactic| first
  | focus ((with_reducible apply sd_L); (rfl); (walk_at "els"); done)
  | focus ((with_reducible apply sd_S); (rfl); (rfl); (walk_at "side"); done)
  | focus ((with_reducible apply sd_T); (rfl); done))
local macro_rules | `(tactic| walk_at "ok") => `(tactic| first | assumption | exact LS.nx_ok (by walk_at "ok"))
local macro_rules | `(tactic| walk_at "lim") => `(tactic| first | assumption | exact ⟨by decide, by decide +kernel⟩)
local macro_rules | `(tactic| walk_at "C") => `(tactic| first
  | focus ((with_reducible apply ee_next9); (rfl); (walk_at "E"); (rfl); (walk_at "lim"); (walk_at "ok"); done))
theorem byF_ok : ∀ k : Nat, k < 7 → atI ([.int 0, .int 1, .int 2, .int 37, .int 127, .int 128, .int 255] : List PyData) (k : Int) = some (.int (byF (k : Int))) := by
  intro k hk
  match k, hk with
  | 0, _ => rfl
  | 1, _ => rfl
  | 2, _ => rfl
  | 3, _ => rfl
  | 4, _ => rfl
  | 5, _ => rfl
  | 6, _ => rfl
theorem raI_ok {l : LS} (h : l.ok) : ∀ n, (raI n l).2.ok
  | 0 => h
  | n + 1 => LS.nx_ok (LS.nx_ok (raI_ok h n))
theorem raI_s {l : LS} {n : Nat} : (raI (n + 1) l).2 = (((raI n l).2.nx 2).2.nx ([3, 256].getD ((raI n l).2.nx 2).1.toNat 0)).2 := by
  simp only [raI]
theorem raI_map {l : LS} : ∀ n, (List.range n).map (fun i => PyData.int (((raI i l).2.nx 2).2.nx ([3, 256].getD ((raI i l).2.nx 2).1.toNat 0)).1) = (raI n l).1.map .int
  | 0 => rfl
  | n + 1 => by
    rw [List.range_succ, List.map_append, raI_map n]
    show _ = ((raI n l).1 ++ [_]).map PyData.int
    rw [List.map_append]
    rfl
section
variable {K : PySem.W.Frag} {W : WX} {vs : List V} {as : List Ag} {o : Out} {m : Bool} {es es1 : Es} {ta : TA} {te : TE} {i : Nat} {E : XK} {c : CA} {a : Option V} {bs d : List Int} {p : Nat} {l : LS}
theorem body_law_spoilt (h : R_law_spoilt as o) (hl : as.length = vs.length) : SS K W (t_law_spoilt K) (slots vs as ++ List.replicate 4 .n) (FD vs as o) := by
  obtain ⟨l, d, ok, hz, rfl, rfl⟩ := h
  obtain ⟨v1, v2, rfl⟩ := two_of hl rfl
  show SS K W (t_law_spoilt K) [.o (some v1) l.t, .q (some v2) (T.L (d.map .int)), .n, .n, .n, .n] _
  have hlim := len_lim (n := d.length) (by omega)
  have ok1 : (l.nx ((d.length : Int) + 1)).2.ok := LS.nx_ok ok
  have hp := LS.nx_lt (l := l) (v := (d.length : Int) + 1) (by omega)
  have hE1 : EE K false (tOp (rPlus K) (tCB (rLn K) (tCons (tVar 1) tNil)) (tC (.int 1))) [.o (some v1) l.t, .q (some v2) (T.L (d.map .int)), .n, .n, .n, .n] (.o (.d (.int ((d.length : Int) + 1)))) [.o (some v1) l.t, .q (some v2) (T.L (d.map .int)), .n, .n, .n, .n] := by
    have h := ee_op (K := K) (es := [.o (some v1) l.t, .q (some v2) (T.L (d.map .int)), .n, .n, .n, .n]) (ee_cb (ea_cons (ee_var (i := 1) rfl rfl) ea_nil rfl) (cd_lenL rfl Els.l)) (ee_int (i := 1)) rfl (od_plusI rfl rfl rfl rfl)
    rw [List.length_map] at h
    exact ee_m h rfl
  refine ss_seq (ss_set (ee_next9 rfl hE1 rfl hlim ok) (Nat.le_of_ble_eq_true rfl) ?_)
  walk_at "n"
  have e0 : spF d l = spG d (l.nx ((d.length : Int) + 1)).1.toNat (byF ((l.nx ((d.length : Int) + 1)).2.nx 7).1) (((l.nx ((d.length : Int) + 1)).2.nx 7).2.nx 5).1 (((l.nx ((d.length : Int) + 1)).2.nx 7).2.nx 5).2 := rfl
  rw [e0]
  obtain ⟨pl, hpl⟩ : ∃ n : Nat, (l.nx ((d.length : Int) + 1)).1 = (n : Int) := ⟨_, (Int.toNat_of_nonneg hp.1).symm⟩
  rw [hpl, Int.toNat_natCast]
  generalize (l.nx ((d.length : Int) + 1)).2 = l1 at ok1
  obtain ⟨j, hj, ej⟩ := nxN (l := l1) (n := 7) (by decide)
  have ej : (l1.nx 7).1 = (j : Int) := ej
  have hy := byF_ok j hj
  rw [← ej] at hy
  refine ss_seq (ss_set (ee_op (ee_lst (ead_m (by walk_at "A") rfl) (Nat.le_of_ble_eq_true rfl)) (ee_next9 rfl ee_int rfl ⟨by decide, by decide +kernel⟩ ok1) rfl (od_ixL rfl Els.l rfl rfl hy)) (Nat.le_of_ble_eq_true rfl) ?_)
  walk_at "n"
  have ok2 : (l1.nx 7).2.ok := LS.nx_ok ok1
  generalize byF (l1.nx 7).1 = y
  generalize (l1.nx 7).2 = l2 at ok2
  refine ss_seq ?_
  walk_at "set"
  have ok3 : (l2.nx 5).2.ok := LS.nx_ok ok2
  generalize (l2.nx 5).1 = q
  generalize (l2.nx 5).2 = l3 at ok3
  have c1 : DW.cutD (d.map PyData.int) none (some (pl : Int)) = (d.take pl).map .int := by rw [cutD_map, cutD_to]
  have c2 : DW.cutD (d.map PyData.int) (some ((pl : Int) + 1)) none = (d.drop (pl + 1)).map .int := by
    rw [show (pl : Int) + 1 = ((pl + 1 : Nat) : Int) by omega, cutD_map, cutD_lo]
  have c3 : DW.cutD (d.map PyData.int) (some (pl : Int)) none = (d.drop pl).map .int := by rw [cutD_map, cutD_lo]
  have hS1 : EE K false (tSl (rSlAny K) (tVar 1) tNoPart (tPart (tVar 2))) [.o (some v1) l3.t, .q (some v2) (T.L (d.map .int)), .o none (.d (.int (pl : Int))), .o none (.d (.int y)), .o none (.d (.int q)), .n] (.o (T.L ((d.take pl).map .int))) [.o (some v1) l3.t, .q (some v2) (T.L (d.map .int)), .o none (.d (.int (pl : Int))), .o none (.d (.int y)), .o none (.d (.int q)), .n] := by
    rw [← c1]
    exact ee_m (by walk_at "E") (by rfl)
  have hS2 : EE K false (tSl (rSlAny K) (tVar 1) (tPart (tOp (rPlus K) (tVar 2) (tC (.int 1)))) tNoPart) [.o (some v1) l3.t, .q (some v2) (T.L (d.map .int)), .o none (.d (.int (pl : Int))), .o none (.d (.int y)), .o none (.d (.int q)), .n] (.o (T.L ((d.drop (pl + 1)).map .int))) [.o (some v1) l3.t, .q (some v2) (T.L (d.map .int)), .o none (.d (.int (pl : Int))), .o none (.d (.int y)), .o none (.d (.int q)), .n] := by
    rw [← c2]
    exact ee_m (by walk_at "E") (by rfl)
  have hS3 : EE K false (tSl (rSlAny K) (tVar 1) (tPart (tVar 2)) tNoPart) [.o (some v1) l3.t, .q (some v2) (T.L (d.map .int)), .o none (.d (.int (pl : Int))), .o none (.d (.int y)), .o none (.d (.int q)), .n] (.o (T.L ((d.drop pl).map .int))) [.o (some v1) l3.t, .q (some v2) (T.L (d.map .int)), .o none (.d (.int (pl : Int))), .o none (.d (.int y)), .o none (.d (.int q)), .n] := by
    rw [← c3]
    exact ee_m (by walk_at "E") (by rfl)
  have z1 : ((d.take pl).map PyData.int).length + ((d.drop (pl + 1)).map PyData.int).length ≤ sizeLine := by
    rw [List.length_map, List.length_map, List.length_take, List.length_drop, szL]
    omega
  have z2 : ((d.take pl).map PyData.int).length + [PyData.int y].length ≤ sizeLine := by
    rw [List.length_map, List.length_take, szL]
    show _ + 1 ≤ _
    omega
  have z3 : ((d.take pl).map PyData.int ++ [PyData.int y]).length + ((d.drop pl).map PyData.int).length ≤ sizeLine := by
    rw [List.length_append, List.length_map, List.length_map, List.length_take, List.length_drop, szL]
    show _ + 1 + _ ≤ _
    omega
  have z4 : ((d.take pl).map PyData.int ++ [PyData.int y]).length + ((d.drop (pl + 1)).map PyData.int).length ≤ sizeLine := by
    rw [List.length_append, List.length_map, List.length_map, List.length_take, List.length_drop, szL]
    show _ + 1 + _ ≤ _
    omega
  refine ss_seq (ss_if (b := decide (q = 0)) (by walk_at "T") (fun t => ?_) fun t => ss_next ?_)
  · have t1 : q = 0 := of_decide_eq_true t
    have e : spG d pl y q l3 = (d.take pl, l3) := if_pos t1
    rw [e]
    refine ss_ret hS1 ?_
    exact ⟨_, _, rfl, rfl, ⟨_, rfl, rfl⟩, rfl, trivial⟩
  have t0 : ¬ q = 0 := of_decide_eq_false t
  refine ss_seq (ss_if (b := decide (q = 1)) (by walk_at "T") (fun t => ?_) fun t => ss_next ?_)
  · have t1 : q = 1 := of_decide_eq_true t
    have e : spG d pl y q l3 = (d.take pl ++ d.drop (pl + 1), l3) := by
      unfold spG
      rw [if_neg t0, if_pos t1]
    rw [e]
    refine ss_ret (ee_op hS1 hS2 rfl (od_plusL rfl Els.l rfl Els.l z1)) ?_
    rw [← ints_app]
    exact ⟨_, _, rfl, rfl, ⟨_, rfl, rfl⟩, rfl, trivial⟩
  have t1 : ¬ q = 1 := of_decide_eq_false t
  refine ss_seq (ss_if (b := decide (q = 2)) (by walk_at "T") (fun t => ?_) fun t => ss_next ?_)
  · have t2 : q = 2 := of_decide_eq_true t
    have e : spG d pl y q l3 = (d.take pl ++ [y] ++ d.drop pl, l3) := by
      unfold spG
      rw [if_neg t0, if_neg t1, if_pos t2]
    rw [e]
    refine ss_ret (ee_op (ee_op hS1 (ee_lst (xs := [.int y]) (by walk_at "A") (Nat.le_of_ble_eq_true rfl)) rfl (od_plusL rfl Els.l rfl Els.l z2)) hS3 rfl (od_plusL rfl Els.l rfl Els.l z3)) ?_
    refine ⟨_, _, rfl, ?_, ⟨_, rfl, rfl⟩, rfl, trivial⟩
    rw [ints_app, ints_app]
    rfl
  have t2 : ¬ q = 2 := of_decide_eq_false t
  refine ss_seq (ss_if (b := decide (q = 3)) (by walk_at "T") (fun t => ?_) fun t => ss_next ?_)
  · have t3 : q = 3 := of_decide_eq_true t
    have e : spG d pl y q l3 = (d.take pl ++ [y] ++ d.drop (pl + 1), l3) := by
      unfold spG
      rw [if_neg t0, if_neg t1, if_neg t2, if_pos t3]
    rw [e]
    refine ss_ret (ee_op (ee_op hS1 (ee_lst (xs := [.int y]) (by walk_at "A") (Nat.le_of_ble_eq_true rfl)) rfl (od_plusL rfl Els.l rfl Els.l z2)) hS2 rfl (od_plusL rfl Els.l rfl Els.l z4)) ?_
    refine ⟨_, _, rfl, ?_, ⟨_, rfl, rfl⟩, rfl, trivial⟩
    rw [ints_app, ints_app]
    rfl
  have t3 : ¬ q = 3 := of_decide_eq_false t
  have e : spG d pl y q l3 = raI (l3.nx 12).1.toNat (l3.nx 12).2 := by
    unfold spG
    rw [if_neg t0, if_neg t1, if_neg t2, if_neg t3]
  rw [e]
  have hl := LS.nx_lt (l := l3) (v := 12) (by decide)
  have ok4 : (l3.nx 12).2.ok := LS.nx_ok ok3
  have hI : EI K true true (iRng1 (tCons (tSpc (spD K R_law_next) E0 (tCons (tVar 0) (tCons (tC (.int 12)) tNil))) tNil)) [.o (some v1) l3.t, .q (some v2) (T.L (d.map .int)), .o none (.d (.int (pl : Int))), .o none (.d (.int y)), .o none (.d (.int q)), .n] (rangeD 0 (l3.nx 12).1.toNat) [.o (some v1) (l3.nx 12).2.t, .q (some v2) (T.L (d.map .int)), .o none (.d (.int (pl : Int))), .o none (.d (.int y)), .o none (.d (.int q)), .n] :=
    ei_m (ei_range1 (ead_cons (ee_next9 rfl ee_int rfl ⟨by decide, by decide +kernel⟩ ok3) ead_nil) ⟨by omega, by omega⟩) rfl
  generalize hnn : (l3.nx 12).1.toNat = nn at hI
  have hn12 : nn ≤ 12 := by omega
  generalize (l3.nx 12).2 = l4 at hI ok4
  have hLC := ee_lcR (K := K) (out := fun i => .int (((raI i l4).2.nx 2).2.nx ([3, 256].getD ((raI i l4).2.nx 2).1.toNat 0)).1) (g := gName 5) (vs := [5]) (te := tSpc (spD K R_law_next) E0 (tCons (tVar 0) (tCons (tOp (rIx K) (tLst (tCons (tC (.int 3)) (tCons (tC (.int 256)) tNil))) (tSpc (spD K R_law_next) E0 (tCons (tVar 0) (tCons (tC (.int 2)) tNil)))) tNil))) hI (by rw [rangeD_len, szL]; omega) (fun i => [.o (some v1) (raI i l4).2.t, .q (some v2) (T.L (d.map .int)), .o none (.d (.int (pl : Int))), .o none (.d (.int y)), .o none (.d (.int q)), .n]) rfl (fun i x hx => by
    have oki := raI_ok ok4 i
    obtain ⟨j, hj, ej⟩ := nxN (l := (raI i l4).2) (n := 2) (by decide)
    have ej : ((raI i l4).2.nx 2).1 = (j : Int) := ej
    have hq : 0 < [3, 256].getD ((raI i l4).2.nx 2).1.toNat (0 : Int) ∧ ([3, 256].getD ((raI i l4).2.nx 2).1.toNat (0 : Int)).natAbs.log2 < 9000 := by
      rw [ej, Int.toNat_natCast]
      match j, hj with
      | 0, _ => exact ⟨by decide, by decide +kernel⟩
      | 1, _ => exact ⟨by decide, by decide +kernel⟩
    have hq2 : atI ([.int 3, .int 256] : List PyData) ((raI i l4).2.nx 2).1 = some (.int ([3, 256].getD ((raI i l4).2.nx 2).1.toNat 0)) := by
      rw [ej, Int.toNat_natCast]
      match j, hj with
      | 0, _ => rfl
      | 1, _ => rfl
    have h2 : ED K true (tSpc (spD K R_law_next) E0 (tCons (tVar 0) (tCons (tOp (rIx K) (tLst (tCons (tC (.int 3)) (tCons (tC (.int 256)) tNil))) (tSpc (spD K R_law_next) E0 (tCons (tVar 0) (tCons (tC (.int 2)) tNil)))) tNil))) [.o (some v1) (raI i l4).2.t, .q (some v2) (T.L (d.map .int)), .o none (.d (.int (pl : Int))), .o none (.d (.int y)), .o none (.d (.int q)), .o none (.d x)] (.int (((raI i l4).2.nx 2).2.nx ([3, 256].getD ((raI i l4).2.nx 2).1.toNat 0)).1) [.o (some v1) (((raI i l4).2.nx 2).2.nx ([3, 256].getD ((raI i l4).2.nx 2).1.toNat 0)).2.t, .q (some v2) (T.L (d.map .int)), .o none (.d (.int (pl : Int))), .o none (.d (.int y)), .o none (.d (.int q)), .o none (.d x)] :=
      ee_next9 (v := [3, 256].getD ((raI i l4).2.nx 2).1.toNat (0 : Int)) (l := ((raI i l4).2.nx 2).2) (l0 := (raI i l4).2) (a := some v1) rfl (ee_op (r1 := .o (T.L [.int 3, .int 256])) (ee_lst (ead_cons ee_int (ead_cons ee_int ead_nil)) (Nat.le_of_ble_eq_true rfl)) (ee_next9 (l := (raI i l4).2) (l0 := (raI i l4).2) (a := some v1) rfl ee_int rfl ⟨by decide, by decide +kernel⟩ oki) rfl (od_ixL (xs := [.int 3, .int 256]) rfl Els.l rfl rfl hq2)) rfl hq (LS.nx_ok oki)
    refine ⟨_, _, _, gs_name (Nat.le_of_ble_eq_true rfl), fun j hj => hj, h2, ?_, rfl⟩
    rw [raI_s]
    rfl)
  rw [rangeD_len, raI_map] at hLC
  refine ss_ret hLC ?_
  exact ⟨_, _, rfl, rfl, ⟨_, rfl, rfl⟩, rfl, trivial⟩
end
end K12

namespace K12
open PySem PySem.Spec PyProof.Rows L2 DW
local macro_rules | `(tactic| walk_at "side") => `(tactic| first | rfl | assumption | omega | (simp only [szL, S_len, List.length_append, List.length_map, List.length_cons, List.length_nil]; omega) | decide)
local macro_rules | `(tactic| walk_at "els") => `(tactic| first | exact Els.l | exact Els.d)
local macro_rules | `(tactic| walk_at "pos") => `(tactic| first | assumption | decide | omega | exact Or.inr (by decide) | exact Or.inl (by decide) | exact ⟨by decide, by decide +kernel⟩ | exact ⟨by decide, by decide, by decide⟩)
local macro_rules | `(tactic| walk_at "at") => `(tactic| first | assumption | rfl)
local macro_rules | `(tactic| walk_at "O") => `(tactic| first
  | focus ((with_reducible apply od_plusI); (rfl); (rfl); (rfl); (rfl); done)
  | focus ((with_reducible apply od_plusS); (rfl); (rfl); (rfl); (rfl); (walk_at "side"); done)
  | focus ((with_reducible apply od_plusL); (rfl); (walk_at "els"); (rfl); (walk_at "els"); (walk_at "side"); done)
  | focus ((with_reducible apply od_plusT); (rfl); (rfl); (walk_at "side"); done)
  | focus ((with_reducible apply od_ixL); (rfl); (walk_at "els"); (rfl); (rfl); (walk_at "at"); done)
  | focus ((with_reducible apply od_ixT); (rfl); (rfl); (rfl); (walk_at "at"); done)
  | focus ((with_reducible apply od_ixS); (rfl); (rfl); (rfl); (rfl); (walk_at "side"); (walk_at "at"); done)
  | focus ((with_reducible apply od_ixC); (rfl); (rfl); (rfl); (walk_at "at"); done)
  | focus ((with_reducible apply od_ixRx); (rfl); (rfl); (rfl); (walk_at "at"); (walk_at "at"); (rfl); done)
  | focus ((with_reducible apply od_ixQx); (rfl); (rfl); (walk_at "at"); (walk_at "at"); (rfl); done)
  | focus ((with_reducible apply od_sub); (rfl); (rfl); (rfl); (rfl); done)
  | focus ((with_reducible apply od_fdiv); (rfl); (rfl); (rfl); (rfl); (walk_at "pos"); done)
  | focus ((with_reducible apply od_mod); (rfl); (rfl); (rfl); (rfl); (walk_at "pos"); done)
  | focus ((with_reducible apply od_pow); (rfl); (rfl); (rfl); (rfl); (walk_at "pos"); done)
  | focus ((with_reducible apply od_lt); (rfl); (rfl); (rfl); (rfl); done)
  | focus ((with_reducible apply od_le); (rfl); (rfl); (rfl); (rfl); done)
  | focus ((with_reducible apply od_gt); (rfl); (rfl); (rfl); (rfl); done)
  | focus ((with_reducible apply od_ge); (rfl); (rfl); (rfl); (rfl); done)
  | focus ((with_reducible apply od_eqI); (rfl); (rfl); (rfl); (rfl); done)
  | focus ((with_reducible apply od_eqS); (rfl); (rfl); (rfl); (rfl); done)
  | focus ((with_reducible apply od_eqB); (rfl); (rfl); (rfl); (rfl); done)
  | focus ((with_reducible apply od_neI); (rfl); (rfl); (rfl); (rfl); done)
  | focus ((with_reducible apply od_neS); (rfl); (rfl); (rfl); (rfl); done)
  | focus ((with_reducible apply od_neB); (rfl); (rfl); (rfl); (rfl); done)
  | focus ((with_reducible apply od_timesI); (rfl); (rfl); (rfl); (rfl); (walk_at "pos"); done)
  | focus ((with_reducible apply od_isN); (rfl); (rfl); done)
  | focus ((with_reducible apply od_isnotN); (rfl); (rfl); done)
  | focus ((with_reducible apply od_inT); (rfl); (rfl); (rfl); (rfl); (rfl); done)
  | focus ((with_reducible apply od_notinT); (rfl); (rfl); (rfl); (rfl); (rfl); done))
local macro_rules | `(tactic| walk_at "kit") => `(tactic| first | exact kit_NoneType_bool | exact kit_NoneType_int | exact kit_NoneType_str | exact kit_NoneType_list | exact kit_NoneType_tuple | exact kit_bool_bool | exact kit_bool_int | exact kit_bool_str | exact kit_bool_list | exact kit_bool_tuple | exact kit_int_bool | exact kit_int_int | exact kit_int_str | exact kit_int_list | exact kit_int_tuple | exact kit_str_bool | exact kit_str_int | exact kit_str_str | exact kit_str_list | exact kit_str_tuple | exact kit_list_bool | exact kit_list_int | exact kit_list_str | exact kit_list_list | exact kit_list_tuple | exact kit_tuple_bool | exact kit_tuple_int | exact kit_tuple_str | exact kit_tuple_list | exact kit_tuple_tuple | exact kit_dict_bool | exact kit_dict_int | exact kit_dict_str | exact kit_dict_list | exact kit_dict_tuple)
local macro_rules | `(tactic| walk_at "C") => `(tactic| fail)
local macro_rules | `(tactic| walk_at "E") => `(tactic| first
  | exact ee_int | exact ee_str | exact ee_bl | exact ee_non
  | exact ee_var rfl rfl
  | (walk_at "C")
  | focus ((with_reducible apply ee_op); (walk_at "E"); (walk_at "E"); (rfl); (walk_at "O"); done)
  | focus ((with_reducible apply ee_lst); (walk_at "A"); (walk_at "side"); done)
  | focus ((with_reducible apply ee_tup); (walk_at "A"); (walk_at "side"); done)
  | focus ((with_reducible apply ee_isi); (walk_at "E"); (rfl); (rfl); (walk_at "kit"); done)
  | focus ((with_reducible apply ee_isiT); (walk_at "E"); (rfl); (rfl); (walk_at "kit"); (walk_at "kit"); (rfl); done)
  | focus ((with_reducible apply ee_cb); (walk_at "EA"); (walk_at "F"); done)
  | focus ((with_reducible apply ee_not); (walk_at "E"); done)
  | focus ((with_reducible apply ee_and); (walk_at "E"); (intro; walk_at "E"); done)
  | focus ((with_reducible apply ee_or); (walk_at "E"); (intro; walk_at "E"); done)
  | focus ((with_reducible apply ee_sl); (walk_at "E"); (walk_at "EO"); (walk_at "EO"); (rfl); (walk_at "SD"); done)
  | focus ((with_reducible apply ee_neg); (walk_at "E"); (rfl); (rfl); done))
local macro_rules | `(tactic| walk_at "A") => `(tactic| first
  | exact ead_nil
  | focus ((with_reducible apply ead_cons); (walk_at "E"); (walk_at "A"); done))
local macro_rules | `(tactic| walk_at "EA") => `(tactic| first
  | exact ea_nil
  | focus ((with_reducible apply ea_cons); (walk_at "E"); (walk_at "EA"); (rfl); done))
local macro_rules | `(tactic| walk_at "F") => `(tactic| first
  | focus ((with_reducible apply cd_lenL); (rfl); (walk_at "els"); done)
  | focus ((with_reducible apply cd_lenT); (rfl); done)
  | focus ((with_reducible apply cd_lenS); (rfl); (rfl); (walk_at "side"); done)
  | focus ((with_reducible apply cd_lenC); (rfl); done)
  | focus ((with_reducible apply cd_lenO); (rfl); done)
  | focus ((with_reducible apply cd_int); (rfl); (rfl); done)
  | focus ((with_reducible apply cd_intB); (rfl); (rfl); done)
  | focus ((with_reducible apply cd_listC); (rfl); done)
  | focus ((with_reducible apply cd_list); (rfl); (walk_at "els"); done)
  | focus ((with_reducible apply cd_listT); (rfl); done)
  | focus ((with_reducible apply cd_tuple); (rfl); (walk_at "els"); done)
  | focus ((with_reducible apply cd_max); (rfl); (rfl); (rfl); (rfl); done)
  | focus ((with_reducible apply cd_min); (rfl); (rfl); (rfl); (rfl); done)
  | focus ((with_reducible apply cd_str); (rfl); (rfl); (walk_at "side"); done)
  | focus ((with_reducible apply cd_ord); (rfl); (rfl); (walk_at "side"); done))
local macro_rules | `(tactic| walk_at "T") => `(tactic| first
  | focus ((with_reducible apply et_test); (walk_at "E"); done)
  | focus ((with_reducible apply et_B); (walk_at "E"); done)
  | focus ((with_reducible apply et_not); (walk_at "T"); done)
  | exact et_yes
  | focus ((with_reducible apply et_and); (walk_at "T"); (intro; walk_at "T"); done)
  | focus ((with_reducible apply et_or); (walk_at "T"); (intro; walk_at "T"); done))
local macro_rules | `(tactic| walk_at "D") => `(tactic| first
  | (walk_at "E")
  | focus ((with_reducible apply ed_lst); (walk_at "E"); done))
local macro_rules | `(tactic| walk_at "A") => `(tactic| first
  | exact ead_nil
  | focus ((with_reducible apply ead_cons); (walk_at "D"); (walk_at "A"); done))
local macro_rules | `(tactic| walk_at "v") => `(tactic| (intro a0 z0; cases z0))
local macro_rules | `(tactic| walk_at "set") => `(tactic| ((with_reducible apply ss_asg); (walk_at "E"); (exact Nat.le_of_ble_eq_true rfl); (rfl); (walk_at "v"); (dsimp only [List.set_cons_zero, List.set_cons_succ, Vl.sl, upd1, List.getElem?_cons_zero, List.getElem?_cons_succ, T.set])))
local macro_rules | `(tactic| walk_at "n") => `(tactic| (dsimp only [List.set_cons_zero, List.set_cons_succ, Vl.sl, upd1, List.getElem?_cons_zero, List.getElem?_cons_succ, T.set, putT]))
local macro_rules | `(tactic| walk_at "setI") => `(tactic| ((with_reducible apply ss_setI); (walk_at "E"); (with_reducible apply ee_m); (walk_at "E"); (rfl); (with_reducible apply ee_m); (walk_at "E"); (rfl); (rfl); (walk_at "at"); (walk_at "n")))
local macro_rules | `(tactic| walk_at "EO") => `(tactic| first
  | exact eo_no
  | focus ((with_reducible apply eo_part); (walk_at "E"); (rfl); (rfl); done))
local macro_rules | `(tactic| walk_at "SD") => `(tactic| first
  | focus ((with_reducible apply sd_L); (rfl); (walk_at "els"); done)
  | focus ((with_reducible apply sd_S); (rfl); (rfl); (walk_at "side"); done)
  | focus ((with_reducible apply sd_T); (rfl); done))
/-! ### what is written is read -/
def Rd {α : Type} (q : Ps α) (x : α) (B : List Int) : Prop := ∀ pre r : List Int, q (pre ++ B ++ r) pre.length = some (x, pre.length + B.length)
theorem drop_pre (pre B r : List Int) : (pre ++ B ++ r).drop pre.length = B ++ r := by
  rw [List.append_assoc, List.drop_left]
theorem get_pre (pre r : List Int) (b : Int) : (pre ++ [b] ++ r)[pre.length]? = some b := by
  rw [List.append_assoc, List.getElem?_append_right (Nat.le_refl _), Nat.sub_self]
  rfl
section
variable {α β : Type} {q : Ps α} {f : α → Ps β} {x : α} {y : β} {A B : List Int} {a n : Nat} {bs : List Int}
theorem Rd.at {pre r bs : List Int} (h : Rd q x B) (e : bs = pre ++ B ++ r) (ha : a = pre.length) : q bs a = some (x, a + B.length) := by
  subst e ha
  exact h pre r
theorem rd_bnd (h1 : Rd q x A) (h2 : Rd (f x) y B) : Rd (bnd q f) y (A ++ B) := fun pre r => by
  rw [bnd_ok (h1.at (r := B ++ r) (by simp only [List.append_assoc]) rfl)]
  rw [h2.at (pre := pre ++ A) (r := r) (by simp only [List.append_assoc]) (by rw [List.length_append])]
  rw [List.length_append, Nat.add_assoc]
theorem rd_ret : Rd (ret x) x [] := fun pre r => rfl
theorem rd_bret {q : Ps α} {g : α → β} (h1 : Rd q x A) : Rd (bnd q fun x => ret (g x)) (g x) A := by
  have := rd_bnd (f := fun x => ret (g x)) h1 (rd_ret (x := g x))
  rwa [List.append_nil] at this
end
theorem pow60 : (128 : Nat) ^ 60 = 128 ^ (59 + 1) := rfl
theorem rd_num {n : Nat} (h : nOk n) : Rd rNum n (numB n) := fun pre r => by
  unfold rNum
  rw [drop_pre, rdG_num 60 n true r (numB_le60 59 n h) (.inl rfl)]
theorem rd_cho {k b : Int} (h : ¬ k ≤ b) : Rd (rCho k) b [b] := fun pre r => by
  unfold rCho
  rw [get_pre]
  exact if_neg h
theorem rd_byte {b : Int} : Rd rByte b [b] := fun pre r => by
  unfold rByte
  rw [get_pre]
  rfl
theorem rd_rep {α : Type} {q : Ps α} {B : α → List Int} {pre r : List Int} {xs : List α} (hx : ∀ x ∈ xs, Rd q x (B x)) {bs : List Int} (hb : bs = pre ++ xs.flatMap B ++ r) : ∀ k, k ≤ xs.length → rRep q k bs pre.length = some (xs.take k, pre.length + ((xs.take k).flatMap B).length)
  | 0, _ => rfl
  | k + 1, hk => by
    have hg : xs[k]? = some xs[k] := List.getElem?_eq_getElem (by omega)
    have htk : xs.take (k + 1) = xs.take k ++ [xs[k]] := by rw [List.take_add_one, hg]; rfl
    have hfl : xs.flatMap B = (xs.take k).flatMap B ++ B xs[k] ++ (xs.drop (k + 1)).flatMap B := by
      have h1 : xs.flatMap B = (xs.take (k + 1)).flatMap B ++ (xs.drop (k + 1)).flatMap B := by rw [← List.flatMap_append, List.take_append_drop]
      rw [h1, htk, List.flatMap_append, List.flatMap_cons, List.flatMap_nil, List.append_nil]
    rw [rRep_ok (rd_rep hx hb k (by omega))]
    rw [(hx xs[k] (List.getElem_mem _)).at (pre := pre ++ (xs.take k).flatMap B) (r := (xs.drop (k + 1)).flatMap B ++ r) (by rw [hb, hfl]; simp only [List.append_assoc]) (by rw [List.length_append])]
    rw [htk, List.flatMap_append, List.flatMap_cons, List.flatMap_nil, List.append_nil, List.length_append, Nat.add_assoc]
theorem rd_list {α : Type} {q : Ps α} {B : α → List Int} {xs : List α} (hx : ∀ x ∈ xs, Rd q x (B x)) (hn : nOk xs.length) (hl : xs.length ≤ (xs.flatMap B).length) : Rd (bnd rCnt (rRep q)) xs (numB xs.length ++ xs.flatMap B) := fun pre r => by
  have h1 : rNum (pre ++ (numB xs.length ++ xs.flatMap B) ++ r) pre.length = some (xs.length, pre.length + (numB xs.length).length) := (rd_num hn).at (r := xs.flatMap B ++ r) (by simp only [List.append_assoc]) rfl
  have h2 : rCnt (pre ++ (numB xs.length ++ xs.flatMap B) ++ r) pre.length = some (xs.length, pre.length + (numB xs.length).length) := by
    rw [rCnt_if h1, if_neg]
    simp only [List.length_append]
    omega
  rw [bnd_ok h2]
  have h3 := rd_rep (pre := pre ++ numB xs.length) (r := r) hx (bs := pre ++ (numB xs.length ++ xs.flatMap B) ++ r) (by simp only [List.append_assoc]) xs.length (Nat.le_refl _)
  rw [List.length_append, List.take_length] at h3
  rw [h3, List.length_append, Nat.add_assoc]
theorem nOk_of {n : Nat} (h : n ≤ 10000) : nOk n := Nat.lt_of_le_of_lt h (by decide +kernel)
theorem okC_lt {c : Nat} (h : okC c = true) : c < 127 := by
  unfold okC at h
  rw [Bool.or_eq_true, Bool.or_eq_true, Bool.and_eq_true, Bool.and_eq_true, decide_eq_true_iff, decide_eq_true_iff, decide_eq_true_iff, decide_eq_true_iff, beq_iff_eq] at h
  omega
theorem rd_chr {c : Nat} (h : okC c = true) : Rd rChr c (numB c) := fun pre r => by
  unfold rChr
  have := okC_lt h
  rw [rd_num (nOk_of (by omega)) pre r]
  exact if_pos h
theorem rd_txt {t : List Nat} (h : tOk t) : Rd rTxt t (txtB t) := rd_list (fun c hc => rd_chr (h.2 c hc)) (nOk_of h.1) (str_le t)
theorem rd_mrk {k : Mk} (h : mOk k) : Rd rMrk k (mrkB k) := rd_bnd (f := fun n => bnd rNum fun m => ret (n, m)) (rd_num h.1) (rd_bret (g := fun m => (k.1, m)) (rd_num h.2))
theorem mrk_le : ∀ r : List Mk, r.length ≤ (r.flatMap mrkB).length
  | [] => Nat.le_refl _
  | k :: r => by
    have := mrk_le r
    have := numB_pos k.1
    rw [List.flatMap_cons, List.length_append, List.length_cons, mrkB, List.length_append]
    omega
theorem rd_mrks {r : List Mk} (h : r.length ≤ 10000 ∧ ∀ k ∈ r, mOk k) : Rd rMrks r (numB r.length ++ r.flatMap mrkB) := rd_list (fun k hk => rd_mrk (h.2 k hk)) (nOk_of h.1) (mrk_le r)
theorem rd_beh : ∀ {b : Option Mk}, (∀ k, b = some k → mOk k) → Rd rBeh b (behB b)
  | none, _ => by
    have h := rd_bnd (q := rCho 2) (f := fun b => if b = 1 then bnd rMrk fun m => ret (some m) else ret none) (x := 0) (y := none) (A := [0]) (B := []) (rd_cho (by decide)) rd_ret
    exact h
  | some k, h => rd_bnd (q := rCho 2) (f := fun b => if b = 1 then bnd rMrk fun m => ret (some m) else ret none) (x := 1) (y := some k) (A := [1]) (rd_cho (by decide)) (rd_bret (g := some) (rd_mrk (h k rfl)))
theorem rd_dee : ∀ {d : Dee}, dOk d → Rd rDee d (deeB d)
  | .back n, h => rd_bnd (q := rCho 2) (f := fun b => if b = 1 then bnd rNum fun n => ret (Dee.back n) else bnd rTxt fun m => bnd rMrks fun r => bnd rBeh fun h => bnd rNum fun n => bnd rTxt fun t => ret (Dee.chg m r h n t)) (x := 1) (y := Dee.back n) (A := [1]) (B := numB n) (rd_cho (by decide)) (rd_bret (g := Dee.back) (rd_num h))
  | .chg m r b n t, h => by
    obtain ⟨h1, h2, h3, h4, h5⟩ := h
    have e : deeB (.chg m r b n t) = [0] ++ (txtB m ++ ((numB r.length ++ r.flatMap mrkB) ++ (behB b ++ (numB n ++ txtB t)))) := by
      simp only [deeB, List.append_assoc]
    rw [e]
    exact rd_bnd (q := rCho 2) (f := fun b => if b = 1 then bnd rNum fun n => ret (Dee.back n) else bnd rTxt fun m => bnd rMrks fun r => bnd rBeh fun h => bnd rNum fun n => bnd rTxt fun t => ret (Dee.chg m r h n t)) (x := 0) (y := Dee.chg m r b n t) (A := [0]) (rd_cho (by decide))
      (rd_bnd (f := fun m => bnd rMrks fun r => bnd rBeh fun h => bnd rNum fun n => bnd rTxt fun t => ret (Dee.chg m r h n t)) (rd_txt h1)
        (rd_bnd (f := fun r => bnd rBeh fun h => bnd rNum fun n => bnd rTxt fun t => ret (Dee.chg m r h n t)) (rd_mrks h2)
          (rd_bnd (f := fun h => bnd rNum fun n => bnd rTxt fun t => ret (Dee.chg m r h n t)) (rd_beh h3)
            (rd_bnd (f := fun n => bnd rTxt fun t => ret (Dee.chg m r b n t)) (rd_num h4) (rd_bret (g := fun t => Dee.chg m r b n t) (rd_txt h5))))))
theorem rd_tr1 {t : Tri} (h : nOk t.1 ∧ nOk t.2.1 ∧ dOk t.2.2) : Rd rTr1 t (tr1B t) := by
  have e : tr1B t = numB t.1 ++ (numB t.2.1 ++ deeB t.2.2) := by rw [tr1B, List.append_assoc]
  rw [e]
  exact rd_bnd (f := fun r => bnd rNum fun p => bnd rDee fun d => ret (r, p, d)) (rd_num h.1) (rd_bnd (f := fun p => bnd rDee fun d => ret (t.1, p, d)) (rd_num h.2.1) (rd_bret (g := fun d => (t.1, t.2.1, d)) (rd_dee h.2.2)))
theorem rd_tri {ts : List Tri} (h : sOk ts) : Rd rTri ts (triB ts) := rd_list (fun t ht => rd_tr1 (h.2 t ht)) (nOk_of h.1) (tri_le ts)
theorem rd_pac {ts : List Tri} (h : sOk ts) : Rd rPac ts (pacB ts) := rd_bnd (q := rByte) (f := fun b => if b = 1 then rTri else fun _ _ => none) (x := 1) (A := [1]) rd_byte (rd_tri h)
theorem Rd.full {α : Type} {q : Ps α} {x : α} {B : List Int} (h : Rd q x B) : q B 0 = some (x, B.length) := by
  have := h.at (pre := []) (r := []) (bs := B) (a := 0) (by simp) rfl
  rwa [Nat.zero_add] at this
/-! ### a place behind what is read -/
def LEp {α : Type} (q : Ps α) : Prop := ∀ bs a x b, a ≤ bs.length → q bs a = some (x, b) → b ≤ bs.length
theorem rdG_le : ∀ (f : Nat) (b : Bool) (l : List Int) (u v : Nat), rdG f b l = some (u, v) → u ≤ l.length
  | 0, _, _, _, _, h => by cases h
  | f + 1, _, [], _, _, h => by cases h
  | f + 1, fst, b :: r, u, v, h => by
    have h' : (if b < 128 then (if b = 0 ∧ fst = false then none else some (1, (b % 128).toNat)) else match rdG f false r with
      | none => none
      | some (u, v) => some (u + 1, (b % 128).toNat + 128 * v)) = some (u, v) := h
    by_cases c : b < 128
    · rw [if_pos c] at h'
      by_cases c2 : b = 0 ∧ fst = false
      · rw [if_pos c2] at h'; cases h'
      · rw [if_neg c2] at h'
        cases h'
        rw [List.length_cons]
        omega
    · rw [if_neg c] at h'
      cases h2 : rdG f false r with
      | none => rw [h2] at h'; cases h'
      | some w =>
        obtain ⟨u1, v1⟩ := w
        rw [h2] at h'
        cases h'
        have := rdG_le f false r u1 v1 h2
        rw [List.length_cons]
        omega
theorem le_num : LEp rNum := fun bs a x b ha h => by
  unfold rNum at h
  cases h1 : rdG 60 true (bs.drop a) with
  | none => rw [h1] at h; cases h
  | some w =>
    obtain ⟨u, v⟩ := w
    rw [h1] at h
    cases h
    have := rdG_le _ _ _ _ _ h1
    rw [List.length_drop] at this
    omega
theorem le_bnd {α β : Type} {q : Ps α} {f : α → Ps β} (h1 : LEp q) (h2 : ∀ x, LEp (f x)) : LEp (bnd q f) := fun bs a x b ha h => by
  cases hq : q bs a with
  | none => rw [bnd_no hq] at h; cases h
  | some w =>
    obtain ⟨y, c⟩ := w
    rw [bnd_ok hq] at h
    exact h2 y bs c x b (h1 bs a y c ha hq) h
theorem le_ret {α : Type} {x : α} : LEp (ret x) := fun bs a y b ha h => by
  cases h
  exact ha
theorem le_byte : LEp rByte := fun bs a x b ha h => by
  unfold rByte at h
  cases h1 : bs[a]? with
  | none => rw [h1] at h; cases h
  | some w =>
    rw [h1] at h
    cases h
    exact (List.getElem?_eq_some_iff.mp h1).1
theorem le_cho {k : Int} : LEp (rCho k) := fun bs a x b ha h => by
  unfold rCho at h
  cases h1 : bs[a]? with
  | none => rw [h1] at h; cases h
  | some w =>
    rw [h1] at h
    have h' : (if k ≤ w then none else some (w, a + 1)) = some (x, b) := h
    by_cases c : k ≤ w
    · rw [if_pos c] at h'; cases h'
    · rw [if_neg c] at h'
      cases h'
      exact (List.getElem?_eq_some_iff.mp h1).1
theorem le_cnt : LEp rCnt := fun bs a x b ha h => by
  have := (rCnt_ok h).2
  omega
theorem le_chr : LEp rChr := fun bs a x b ha h => by
  unfold rChr at h
  cases h1 : rNum bs a with
  | none => rw [h1] at h; cases h
  | some w =>
    obtain ⟨n, c⟩ := w
    rw [h1] at h
    have h' : (if okC n then some (n, c) else none) = some (x, b) := h
    by_cases k : okC n
    · rw [if_pos k] at h'
      cases h'
      exact le_num bs a _ _ ha h1
    · rw [if_neg k] at h'; cases h'
theorem le_rep {α : Type} {q : Ps α} (hq : LEp q) : ∀ n, LEp (rRep q n)
  | 0 => fun bs a x b ha h => by
    cases h
    exact ha
  | n + 1 => fun bs a x b ha h => by
    cases h1 : rRep q n bs a with
    | none => rw [rRep_no h1] at h; cases h
    | some w =>
      obtain ⟨l, c⟩ := w
      rw [rRep_ok h1] at h
      cases h2 : q bs c with
      | none => rw [h2] at h; cases h
      | some u =>
        obtain ⟨y, e⟩ := u
        rw [h2] at h
        cases h
        exact hq bs c y _ (le_rep hq n bs a l c ha h1) h2
theorem le_txt : LEp rTxt := le_bnd le_cnt (le_rep le_chr)
theorem le_mrk : LEp rMrk := le_bnd le_num fun _ => le_bnd le_num fun _ => le_ret
theorem le_beh : LEp rBeh := le_bnd le_cho fun b => by
  split
  · exact le_bnd le_mrk fun _ => le_ret
  · exact le_ret
theorem le_dee : LEp rDee := le_bnd le_cho fun b => by
  split
  · exact le_bnd le_num fun _ => le_ret
  · exact le_bnd le_txt fun _ => le_bnd (le_bnd le_cnt (le_rep le_mrk)) fun _ => le_bnd le_beh fun _ => le_bnd le_num fun _ => le_bnd le_txt fun _ => le_ret
theorem le_tr1 : LEp rTr1 := le_bnd le_num fun _ => le_bnd le_num fun _ => le_bnd le_dee fun _ => le_ret
theorem le_tri : LEp rTri := le_bnd le_cnt (le_rep le_tr1)
theorem le_pac : LEp rPac := le_bnd le_byte fun b => by
  split
  · exact le_tri
  · exact fun bs a x b ha h => by cases h
end K12

namespace K12
open PySem PySem.Spec PyProof.Rows L2 DW
local macro_rules | `(tactic| walk_at "side") => `(tactic| first | rfl | assumption | omega | (simp only [szL, S_len, List.length_append, List.length_map, List.length_cons, List.length_nil]; omega) | decide)
local macro_rules | `(tactic| walk_at "els") => `(tactic| first | exact Els.l | exact Els.d)
local macro_rules | `(tactic| walk_at "pos") => `(tactic| first | assumption | decide | omega | exact Or.inr (by decide) | exact Or.inl (by decide) | exact ⟨by decide, by decide +kernel⟩ | exact ⟨by decide, by decide, by decide⟩)
local macro_rules | `(tactic| walk_at "at") => `(tactic| first | assumption | rfl)
local macro_rules | `(tactic| walk_at "O") => `(tactic| first
  | focus ((with_reducible apply od_plusI); (rfl); (rfl); (rfl); (rfl); done)
  | focus ((with_reducible apply od_plusS); (rfl); (rfl); (rfl); (rfl); (walk_at "side"); done)
  | focus ((with_reducible apply od_plusL); (rfl); (walk_at "els"); (rfl); (walk_at "els"); (walk_at "side"); done)
  | focus ((with_reducible apply od_plusT); (rfl); (rfl); (walk_at "side"); done)
  | focus ((with_reducible apply od_ixL); (rfl); (walk_at "els"); (rfl); (rfl); (walk_at "at"); done)
  | focus ((with_reducible apply od_ixT); (rfl); (rfl); (rfl); (walk_at "at"); done)
  | focus ((with_reducible apply od_ixS); (rfl); (rfl); (rfl); (rfl); (walk_at "side"); (walk_at "at"); done)
  | focus ((with_reducible apply od_ixC); (rfl); (rfl); (rfl); (walk_at "at"); done)
  | focus ((with_reducible apply od_ixRx); (rfl); (rfl); (rfl); (walk_at "at"); (walk_at "at"); (rfl); done)
  | focus ((with_reducible apply od_ixQx); (rfl); (rfl); (walk_at "at"); (walk_at "at"); (rfl); done)
  | focus ((with_reducible apply od_sub); (rfl); (rfl); (rfl); (rfl); done)
  | focus ((with_reducible apply od_fdiv); (rfl); (rfl); (rfl); (rfl); (walk_at "pos"); done)
  | focus ((with_reducible apply od_mod); (rfl); (rfl); (rfl); (rfl); (walk_at "pos"); done)
  | focus ((with_reducible apply od_pow); (rfl); (rfl); (rfl); (rfl); (walk_at "pos"); done)
  | focus ((with_reducible apply od_lt); (rfl); (rfl); (rfl); (rfl); done)
  | focus ((with_reducible apply od_le); (rfl); (rfl); (rfl); (rfl); done)
  | focus ((with_reducible apply od_gt); (rfl); (rfl); (rfl); (rfl); done)
  | focus ((with_reducible apply od_ge); (rfl); (rfl); (rfl); (rfl); done)
  | focus ((with_reducible apply od_eqI); (rfl); (rfl); (rfl); (rfl); done)
  | focus ((with_reducible apply od_eqS); (rfl); (rfl); (rfl); (rfl); done)
  | focus ((with_reducible apply od_eqB); (rfl); (rfl); (rfl); (rfl); done)
  | focus ((with_reducible apply od_neI); (rfl); (rfl); (rfl); (rfl); done)
  | focus ((with_reducible apply od_neS); (rfl); (rfl); (rfl); (rfl); done)
  | focus ((with_reducible apply od_neB); (rfl); (rfl); (rfl); (rfl); done)
  | focus ((with_reducible apply od_timesI); (rfl); (rfl); (rfl); (rfl); (walk_at "pos"); done)
  | focus ((with_reducible apply od_isN); (rfl); (rfl); done)
  | focus ((with_reducible apply od_isnotN); (rfl); (rfl); done)
  | focus ((with_reducible apply od_inT); (rfl); (rfl); (rfl); (rfl); (rfl); done)
  | focus ((with_reducible apply od_notinT); (rfl); (rfl); (rfl); (rfl); (rfl); done))
local macro_rules | `(tactic| walk_at "kit") => `(tactic| first | exact kit_NoneType_bool | exact kit_NoneType_int | exact kit_NoneType_str | exact kit_NoneType_list | exact kit_NoneType_tuple | exact kit_bool_bool | exact kit_bool_int | exact kit_bool_str | exact kit_bool_list | exact kit_bool_tuple | exact kit_int_bool | exact kit_int_int | exact kit_int_str | exact kit_int_list | exact kit_int_tuple | exact kit_str_bool | exact kit_str_int | exact kit_str_str | exact kit_str_list | exact kit_str_tuple | exact kit_list_bool | exact kit_list_int | exact kit_list_str | exact kit_list_list | exact kit_list_tuple | exact kit_tuple_bool | exact kit_tuple_int | exact kit_tuple_str | exact kit_tuple_list | exact kit_tuple_tuple | exact kit_dict_bool | exact kit_dict_int | exact kit_dict_str | exact kit_dict_list | exact kit_dict_tuple)
local macro_rules | `(tactic| walk_at "C") => `(tactic| fail)
local macro_rules | `(tactic| walk_at "E") => `(tactic| first
  | exact ee_int | exact ee_str | exact ee_bl | exact ee_non
  | exact ee_var rfl rfl
  | (walk_at "C")
  | focus ((with_reducible apply ee_op); (walk_at "E"); (walk_at "E"); (rfl); (walk_at "O"); done)
  | focus ((with_reducible apply ee_lst); (walk_at "A"); (walk_at "side"); done)
  | focus ((with_reducible apply ee_tup); (walk_at "A"); (walk_at "side"); done)
  | focus ((with_reducible apply ee_isi); (walk_at "E"); (rfl); (rfl); (walk_at "kit"); done)
  | focus ((with_reducible apply ee_isiT); (walk_at "E"); (rfl); (rfl); (walk_at "kit"); (walk_at "kit"); (rfl); done)
  | focus ((with_reducible apply ee_cb); (walk_at "EA"); (walk_at "F"); done)
  | focus ((with_reducible apply ee_not); (walk_at "E"); done)
  | focus ((with_reducible apply ee_and); (walk_at "E"); (intro; walk_at "E"); done)
  | focus ((with_reducible apply ee_or); (walk_at "E"); (intro; walk_at "E"); done)
  | focus ((with_reducible apply ee_sl); (walk_at "E"); (walk_at "EO"); (walk_at "EO"); (rfl); (walk_at "SD"); done)
  | focus ((with_reducible apply ee_neg); (walk_at "E"); (rfl); (rfl); done))
local macro_rules | `(tactic| walk_at "A") => `(tactic| first
  | exact ead_nil
  | focus ((with_reducible apply ead_cons); (walk_at "E"); (walk_at "A"); done))
local macro_rules | `(tactic| walk_at "EA") => `(tactic| first
  | exact ea_nil
  | focus ((with_reducible apply ea_cons); (walk_at "E"); (walk_at "EA"); (rfl); done))
local macro_rules | `(tactic| walk_at "F") => `(tactic| first
  | focus ((with_reducible apply cd_lenL); (rfl); (walk_at "els"); done)
  | focus ((with_reducible apply cd_lenT); (rfl); done)
  | focus ((with_reducible apply cd_lenS); (rfl); (rfl); (walk_at "side"); done)
  | focus ((with_reducible apply cd_lenC); (rfl); done)
  | focus ((with_reducible apply cd_lenO); (rfl); done)
  | focus ((with_reducible apply cd_int); (rfl); (rfl); done)
  | focus ((with_reducible apply cd_intB); (rfl); (rfl); done)
  | focus ((with_reducible apply cd_listC); (rfl); done)
  | focus ((with_reducible apply cd_list); (rfl); (walk_at "els"); done)
  | focus ((with_reducible apply cd_listT); (rfl); done)
  | focus ((with_reducible apply cd_tuple); (rfl); (walk_at "els"); done)
  | focus ((with_reducible apply cd_max); (rfl); (rfl); (rfl); (rfl); done)
  | focus ((with_reducible apply cd_min); (rfl); (rfl); (rfl); (rfl); done)
  | focus ((with_reducible apply cd_str); (rfl); (rfl); (walk_at "side"); done)
  | focus ((with_reducible apply cd_ord); (rfl); (rfl); (walk_at "side"); done))
local macro_rules | `(tactic| walk_at "T") => `(tactic| first
  | focus ((with_reducible apply et_test); (walk_at "E"); done)
  | focus ((with_reducible apply et_B); (walk_at "E"); done)
  | focus ((with_reducible apply et_not); (walk_at "T"); done)
  | exact et_yes
  | focus ((with_reducible apply et_and); (walk_at "T"); (intro; walk_at "T"); done)
  | focus ((with_reducible apply et_or); (walk_at "T"); (intro; walk_at "T"); done))
local macro_rules | `(tactic| walk_at "D") => `(tactic| first
  | (walk_at "E")
  | focus ((with_reducible apply ed_lst); (walk_at "E"); done))
local macro_rules | `(tactic| walk_at "A") => `(tactic| first
  | exact ead_nil
  | focus ((with_reducible apply ead_cons); (walk_at "D"); (walk_at "A"); done))
local macro_rules | `(tactic| walk_at "v") => `(tactic| (intro a0 z0; cases z0))
local macro_rules | `(tactic| walk_at "set") => `(tactic| ((with_reducible apply ss_asg); (walk_at "E"); (exact Nat.le_of_ble_eq_true rfl); (rfl); (walk_at "v"); (dsimp only [List.set_cons_zero, List.set_cons_succ, Vl.sl, upd1, List.getElem?_cons_zero, List.getElem?_cons_succ, T.set])))
local macro_rules | `(tactic| walk_at "n") => `(tactic| (dsimp only [List.set_cons_zero, List.set_cons_succ, Vl.sl, upd1, List.getElem?_cons_zero, List.getElem?_cons_succ, T.set, putT]))
local macro_rules | `(tactic| walk_at "setI") => `(tactic| ((with_reducible apply ss_setI); (walk_at "E"); (with_reducible apply ee_m); (walk_at "E"); (rfl); (with_reducible apply ee_m); (walk_at "E"); (rfl); (rfl); (walk_at "at"); (walk_at "n")))
local macro_rules | `(tactic| walk_at "EO") => `(tactic| first
  | exact eo_no
  | focus ((with_reducible apply eo_part); (walk_at "E"); (rfl); (rfl); done))
local macro_rules | `(tactic| walk_at "SD") => `(tactic| first
  | focus ((with_reducible apply sd_L); (rfl); (walk_at "els"); done)
  | focus ((with_reducible apply sd_S); (rfl); (rfl); (walk_at "side"); done)
  | focus ((with_reducible apply sd_T); (rfl); done))
/-! ### drawn things -/
theorem dn_ok (l : LS) : nOk (dnF l).1 := Nat.lt_of_lt_of_le (dnF_lt l).2 (by decide +kernel)
theorem dn_len (l : LS) : (numB (dnF l).1).length ≤ 10 := numB_le60 9 _ (Nat.lt_of_lt_of_le (dnF_lt l).2 (by decide +kernel))
theorem txI_in {l : LS} : ∀ n, ∀ c ∈ (txI n l).1, okC c = true
  | 0, c, h => nomatch h
  | n + 1, c, h => by
    have h' : c ∈ (txI n l).1 ++ [LET.getD ((txI n l).2.nx 95).1.toNat 0] := h
    rcases List.mem_append.mp h' with h | h
    · exact txI_in n c h
    · rw [List.mem_singleton] at h
      rw [h]
      have := LS.nx_lt (l := (txI n l).2) (v := 95) (by decide)
      exact LET_ok _ (by omega)
theorem dt_len (l : LS) : (dtF l).1.length ≤ 140 := by
  have h : (dtF l).1.length = ((l.nx 4).2.nx (txL (l.nx 4).1)).1.toNat := txI_len _
  rw [h]
  obtain ⟨k, hk, e⟩ := nxN (l := l) (n := 4) (by decide)
  have e : (l.nx 4).1 = (k : Int) := e
  obtain ⟨h1, h2, h3, h4⟩ := txL_ok k hk
  rw [← e] at h1 h2
  have := LS.nx_lt (l := (l.nx 4).2) (v := txL (l.nx 4).1) h1
  omega
theorem dt_ok (l : LS) : tOk (dtF l).1 := ⟨by have := dt_len l; omega, txI_in _⟩
theorem one_len {t : List Nat} (h : ∀ c ∈ t, okC c = true) : (t.flatMap numB).length = t.length := by
  induction t with
  | nil => rfl
  | cons c t ih =>
    rw [List.flatMap_cons, List.length_append, ih fun x hx => h x (List.mem_cons_of_mem _ hx), numB_lt (by have := okC_lt (h c List.mem_cons_self); omega), List.length_cons, List.length_cons, List.length_nil]
    omega
theorem dt_blen (l : LS) : (txtB (dtF l).1).length ≤ 142 := by
  have h1 := dt_len l
  rw [txtB, List.length_append, one_len (dt_ok l).2]
  have := numB_len (n := (dtF l).1.length) (by omega)
  omega
theorem dm_2 (l : LS) : (dmF l).1.2 < 8 := by
  have := LS.nx_lt (l := (dnF l).2) (v := 8) (by decide)
  show ((dnF l).2.nx 8).1.toNat < 8
  omega
theorem dm_ok (l : LS) : mOk (dmF l).1 := ⟨dn_ok l, nOk_of (by have := dm_2 l; omega)⟩
theorem dm_len (l : LS) : (mrkB (dmF l).1).length ≤ 11 := by
  have h1 := dn_len l
  have h2 := dm_2 l
  have h3 : (mrkB (dmF l).1).length = (numB (dnF l).1).length + (numB (dmF l).1.2).length := by
    rw [mrkB, List.length_append]
    rfl
  rw [h3, numB_lt (n := (dmF l).1.2) (by omega)]
  show _ + 1 ≤ 11
  omega
theorem ms_in {l : LS} : ∀ n, ∀ k ∈ (msI n l).1, mOk k ∧ (mrkB k).length ≤ 11
  | 0, c, h => nomatch h
  | n + 1, c, h => by
    have h' : c ∈ (msI n l).1 ++ [(dmF (msI n l).2).1] := h
    rcases List.mem_append.mp h' with h | h
    · exact ms_in n c h
    · rw [List.mem_singleton] at h
      rw [h]
      exact ⟨dm_ok _, dm_len _⟩
theorem flat_len {α : Type} {B : α → List Int} {k : Nat} : ∀ {xs : List α}, (∀ x ∈ xs, (B x).length ≤ k) → (xs.flatMap B).length ≤ xs.length * k
  | [], _ => Nat.zero_le _
  | x :: xs, h => by
    have h1 := flat_len (xs := xs) fun y hy => h y (List.mem_cons_of_mem _ hy)
    have h2 := h x List.mem_cons_self
    rw [List.flatMap_cons, List.length_append, List.length_cons, Nat.add_mul, Nat.one_mul]
    omega
theorem db_ok (l : LS) : (∀ k, (dbF l).1 = some k → mOk k) ∧ (behB (dbF l).1).length ≤ 12 := by
  have e : (dbF l).1 = if ((dmF l).2.nx 2).1 = 0 then none else some (dmF l).1 := rfl
  rw [e]
  split
  · exact ⟨fun k h => (by cases h), (by decide)⟩
  · refine ⟨fun k h => ?_, ?_⟩
    · cases h
      exact dm_ok l
    · have := dm_len l
      rw [behB, List.length_append]
      show 1 + _ ≤ 12
      omega
theorem dd_ok (l : LS) : dOk (ddF l).1 ∧ (deeB (ddF l).1).length ≤ 400 := by
  by_cases h : (l.nx 3).1 = 0
  · have e : ddF l = (.back (dnF (l.nx 3).2).1, (dnF (l.nx 3).2).2) := if_pos h
    rw [e]
    refine ⟨dn_ok _, ?_⟩
    have := dn_len (l.nx 3).2
    rw [deeB, List.length_append]
    show 1 + _ ≤ 400
    omega
  · rw [ddF_c h]
    dsimp only
    have h4 := LS.nx_lt (l := (l.nx 3).2) (v := 4) (by decide)
    have hn : (((l.nx 3).2.nx 4).1.toNat) ≤ 3 := by omega
    generalize ((l.nx 3).2.nx 4).1.toNat = nn at hn
    generalize ((l.nx 3).2.nx 4).2 = l1
    have hm := ms_in (l := l1) nn
    have hml := msI_len (l := l1) nn
    generalize (msI nn l1).2 = l2
    generalize (msI nn l1).1 = ms at hm hml
    have hb := db_ok l2
    generalize (dbF l2).2 = l3
    generalize (dbF l2).1 = bh at hb
    have ht := dt_ok l3
    have htl := dt_blen l3
    generalize (dtF l3).2 = l4
    generalize (dtF l3).1 = t at ht htl
    have hd := dn_ok l4
    have hdl := dn_len l4
    generalize (dnF l4).2 = l5
    generalize (dnF l4).1 = n at hd hdl
    have hu := dt_ok l5
    have hul := dt_blen l5
    refine ⟨⟨ht, ⟨by omega, fun k hk => (hm k hk).1⟩, hb.1, hd, hu⟩, ?_⟩
    have h1 := flat_len (B := mrkB) (k := 11) fun k hk => (hm k hk).2
    have h2 := numB_lt (n := ms.length) (by omega)
    have h3 := hb.2
    have h5 : ms.length * 11 ≤ 33 := by omega
    simp only [deeB, List.length_append, h2, List.length_cons, List.length_nil]
    omega
/-- the triples that are drawn -/
def trI : Nat → LS → List Tri × LS
  | 0, l => ([], l)
  | n + 1, l => ((trI n l).1 ++ [(((trI n l).2.nx 9).1.toNat, (dnF ((trI n l).2.nx 9).2).1, (ddF (dnF ((trI n l).2.nx 9).2).2).1)], (ddF (dnF ((trI n l).2.nx 9).2).2).2)
theorem trI_len {l : LS} : ∀ n, (trI n l).1.length = n
  | 0 => rfl
  | n + 1 => by
    show ((trI n l).1 ++ [_]).length = _
    rw [List.length_append, trI_len n]
    rfl
theorem trI_ok {l : LS} (h : l.ok) : ∀ n, (trI n l).2.ok
  | 0 => h
  | n + 1 => ddF_ok (dnF_ok (LS.nx_ok (trI_ok h n)))
theorem trI_s {l : LS} {n : Nat} : (trI (n + 1) l).2 = (ddF (dnF ((trI n l).2.nx 9).2).2).2 := by
  simp only [trI]
theorem trI_map {l : LS} : ∀ n, (List.range n).map (fun i => triD (((trI i l).2.nx 9).1.toNat, (dnF ((trI i l).2.nx 9).2).1, (ddF (dnF ((trI i l).2.nx 9).2).2).1)) = (trI n l).1.map triD
  | 0 => rfl
  | n + 1 => by
    rw [List.range_succ, List.map_append, trI_map n]
    show _ = ((trI n l).1 ++ [_]).map triD
    rw [List.map_append]
    rfl
theorem tr_in {l : LS} : ∀ n, ∀ t ∈ (trI n l).1, (nOk t.1 ∧ nOk t.2.1 ∧ dOk t.2.2) ∧ (tr1B t).length ≤ 411
  | 0, c, h => nomatch h
  | n + 1, c, h => by
    have h' : c ∈ (trI n l).1 ++ [(((trI n l).2.nx 9).1.toNat, (dnF ((trI n l).2.nx 9).2).1, (ddF (dnF ((trI n l).2.nx 9).2).2).1)] := h
    rcases List.mem_append.mp h' with h | h
    · exact tr_in n c h
    · rw [List.mem_singleton] at h
      rw [h]
      have h9 := LS.nx_lt (l := (trI n l).2) (v := 9) (by decide)
      have hd := dd_ok (dnF ((trI n l).2.nx 9).2).2
      have hn := dn_len ((trI n l).2.nx 9).2
      have h1 := numB_lt (n := ((trI n l).2.nx 9).1.toNat) (by omega)
      refine ⟨⟨nOk_of (by omega), dn_ok _, hd.1⟩, ?_⟩
      rw [tr1B, List.length_append, List.length_append]
      dsimp only
      rw [h1]
      have := hd.2
      show 1 + _ + _ ≤ 411
      omega
theorem tr_ok {l : LS} {n : Nat} (h : n ≤ 6) : sOk (trI n l).1 ∧ (triB (trI n l).1).length ≤ 2500 := by
  have hl := trI_len (l := l) n
  have hm := tr_in (l := l) n
  refine ⟨⟨by omega, fun t ht => (hm t ht).1⟩, ?_⟩
  have h1 := flat_len (B := tr1B) (k := 411) fun k hk => (hm k hk).2
  have h2 := numB_lt (n := (trI n l).1.length) (by omega)
  rw [triB, List.length_append, h2]
  show 1 + _ ≤ 2500
  omega
/-! ### bytes are no less than 0 -/
def Pos (bs : List Int) : Prop := ∀ b ∈ bs, 0 ≤ b
theorem Pos.app {a b : List Int} (h1 : Pos a) (h2 : Pos b) : Pos (a ++ b) := fun x hx => (List.mem_append.mp hx).elim (h1 x) (h2 x)
theorem pos_num (n : Nat) : Pos (numB n) := fun b hb => (numB_all n b hb).1
theorem pos_flat {α : Type} {B : α → List Int} (h : ∀ x, Pos (B x)) (xs : List α) : Pos (xs.flatMap B) := fun b hb => by
  obtain ⟨x, _, hx⟩ := List.mem_flatMap.mp hb
  exact h x b hx
theorem pos_one {b : Int} (h : 0 ≤ b) : Pos [b] := fun x hx => by
  rw [List.mem_singleton] at hx
  rw [hx]
  exact h
theorem pos_txt (t : List Nat) : Pos (txtB t) := (pos_num _).app (pos_flat pos_num _)
theorem pos_mrk (k : Mk) : Pos (mrkB k) := (pos_num _).app (pos_num _)
theorem pos_beh : ∀ b : Option Mk, Pos (behB b)
  | none => pos_one (by decide)
  | some k => (pos_one (by decide)).app (pos_mrk k)
theorem pos_dee : ∀ d : Dee, Pos (deeB d)
  | .back n => (pos_one (by decide)).app (pos_num n)
  | .chg m r b n t => (((((pos_one (by decide)).app (pos_txt m)).app ((pos_num _).app (pos_flat pos_mrk _))).app (pos_beh b)).app (pos_num n)).app (pos_txt t)
theorem pos_tr1 (t : Tri) : Pos (tr1B t) := ((pos_num _).app (pos_num _)).app (pos_dee _)
theorem pos_tri (ts : List Tri) : Pos (triB ts) := (pos_num _).app (pos_flat pos_tr1 _)
theorem pos_pac (ts : List Tri) : Pos (pacB ts) := (pos_one (by decide)).app (pos_tri ts)
theorem Pos.sub {a b : List Int} (h : Pos b) (hs : ∀ x ∈ a, x ∈ b) : Pos a := fun x hx => h x (hs x hx)
theorem pos_ra {l : LS} : ∀ n, Pos (raI n l).1
  | 0 => fun b hb => nomatch hb
  | n + 1 => by
    have h : (raI (n + 1) l).1 = (raI n l).1 ++ [(((raI n l).2.nx 2).2.nx ([3, 256].getD ((raI n l).2.nx 2).1.toNat 0)).1] := rfl
    rw [h]
    refine (pos_ra n).app (pos_one ?_)
    obtain ⟨j, hj, ej⟩ := nxN (l := (raI n l).2) (n := 2) (by decide)
    have ej : ((raI n l).2.nx 2).1 = (j : Int) := ej
    rw [ej, Int.toNat_natCast]
    match j, hj with
    | 0, _ => exact (LS.nx_lt (v := 3) (by decide)).1
    | 1, _ => exact (LS.nx_lt (v := 256) (by decide)).1
theorem raI_len {l : LS} : ∀ n, (raI n l).1.length = n
  | 0 => rfl
  | n + 1 => by
    show ((raI n l).1 ++ [_]).length = _
    rw [List.length_append, raI_len n]
    rfl
theorem sp_ok {d : List Int} {l : LS} (h : Pos d) : Pos (spF d l).1 ∧ (spF d l).1.length ≤ d.length + 20 := by
  have e0 : spF d l = spG d (l.nx ((d.length : Int) + 1)).1.toNat (byF ((l.nx ((d.length : Int) + 1)).2.nx 7).1) (((l.nx ((d.length : Int) + 1)).2.nx 7).2.nx 5).1 (((l.nx ((d.length : Int) + 1)).2.nx 7).2.nx 5).2 := rfl
  rw [e0]
  have hy : 0 ≤ byF ((l.nx ((d.length : Int) + 1)).2.nx 7).1 := by
    obtain ⟨j, hj, ej⟩ := nxN (l := (l.nx ((d.length : Int) + 1)).2) (n := 7) (by decide)
    have ej : ((l.nx ((d.length : Int) + 1)).2.nx 7).1 = (j : Int) := ej
    rw [ej]
    match j, hj with
    | 0, _ => decide
    | 1, _ => decide
    | 2, _ => decide
    | 3, _ => decide
    | 4, _ => decide
    | 5, _ => decide
    | 6, _ => decide
  generalize byF ((l.nx ((d.length : Int) + 1)).2.nx 7).1 = y at hy
  generalize (l.nx ((d.length : Int) + 1)).1.toNat = pl
  generalize (((l.nx ((d.length : Int) + 1)).2.nx 7).2.nx 5).1 = q
  generalize (((l.nx ((d.length : Int) + 1)).2.nx 7).2.nx 5).2 = l3
  have t1 : Pos (d.take pl) := h.sub fun x hx => List.mem_of_mem_take hx
  have t2 : ∀ j, Pos (d.drop j) := fun j => h.sub fun x hx => List.mem_of_mem_drop hx
  unfold spG
  split
  · refine ⟨t1, ?_⟩
    dsimp only
    rw [List.length_take]
    omega
  split
  · refine ⟨t1.app (t2 _), ?_⟩
    dsimp only
    rw [List.length_append, List.length_take, List.length_drop]
    omega
  split
  · refine ⟨(t1.app (pos_one hy)).app (t2 _), ?_⟩
    dsimp only
    rw [List.length_append, List.length_append, List.length_take, List.length_drop]
    show _ + 1 + _ ≤ _
    omega
  split
  · refine ⟨(t1.app (pos_one hy)).app (t2 _), ?_⟩
    dsimp only
    rw [List.length_append, List.length_append, List.length_take, List.length_drop]
    show _ + 1 + _ ≤ _
    omega
  · refine ⟨pos_ra _, ?_⟩
    have := LS.nx_lt (l := l3) (v := 12) (by decide)
    rw [raI_len]
    omega
/-! ### what is read is not too deep -/
theorem nst_int {n : Nat} {i : Int} : Nst (n + 1) (.int i) := trivial
theorem nst_list {n : Nat} {xs : List PyData} (h : xs.length ≤ 1000000) (hx : ∀ x ∈ xs, Nst n x) : Nst (n + 1) (.list xs) := ⟨by rw [szL]; omega, hx⟩
theorem nst_tup {n : Nat} {xs : List PyData} (h : xs.length ≤ 1000000) (hx : ∀ x ∈ xs, Nst n x) : Nst (n + 1) (.tuple xs) := ⟨by rw [szL]; omega, hx⟩
theorem nst_ints {n : Nat} {xs : List Int} (h : xs.length ≤ 1000000) : Nst (n + 2) (dI xs) := nst_list (by rw [List.length_map]; exact h) fun x hx => by
  obtain ⟨i, _, rfl⟩ := List.mem_map.mp hx
  trivial
theorem nst_mark {n : Nat} {k : Mk} : Nst (n + 2) (markD k) := nst_tup (Nat.le_of_ble_eq_true rfl) fun x hx => by
  rcases List.mem_cons.mp hx with rfl | hx
  · trivial
  · rw [List.mem_singleton] at hx
    rw [hx]
    trivial
theorem nst_beh {n : Nat} : ∀ {b : Option Mk}, Nst (n + 2) (behD b)
  | none => trivial
  | some _ => nst_mark
def dSz : Dee → Prop
  | .back _ => True
  | .chg _ r _ _ _ => r.length ≤ 1000000
theorem nst_deed {n : Nat} : ∀ {d : Dee}, dSz d → Nst (n + 4) (deedD d)
  | .back k, _ => nst_tup (n := n + 3) (Nat.le_of_ble_eq_true rfl) fun x hx => by
    rcases List.mem_cons.mp hx with rfl | hx
    · trivial
    · rw [List.mem_singleton] at hx
      rw [hx]
      trivial
  | .chg m r b k t, h => nst_tup (n := n + 3) (Nat.le_of_ble_eq_true rfl) fun x hx => by
    rcases List.mem_cons.mp hx with rfl | hx
    · trivial
    rcases List.mem_cons.mp hx with rfl | hx
    · trivial
    rcases List.mem_cons.mp hx with rfl | hx
    · refine nst_tup (n := n + 2) (by rw [List.length_map]; exact h) fun x hx => ?_
      obtain ⟨k, _, rfl⟩ := List.mem_map.mp hx
      exact nst_mark
    rcases List.mem_cons.mp hx with rfl | hx
    · exact nst_beh (n := n + 1)
    rcases List.mem_cons.mp hx with rfl | hx
    · trivial
    · rw [List.mem_singleton] at hx
      rw [hx]
      trivial
theorem nst_tri {n : Nat} {t : Tri} (h : dSz t.2.2) : Nst (n + 5) (triD t) := nst_tup (n := n + 4) (Nat.le_of_ble_eq_true rfl) fun x hx => by
  rcases List.mem_cons.mp hx with rfl | hx
  · trivial
  rcases List.mem_cons.mp hx with rfl | hx
  · trivial
  · rw [List.mem_singleton] at hx
    rw [hx]
    exact nst_deed h
theorem nst_tris {n : Nat} {ts : List Tri} (hl : ts.length ≤ 1000000) (h : ∀ t ∈ ts, dSz t.2.2) : Nst (n + 6) (trisD ts) := nst_list (n := n + 5) (by rw [List.length_map]; exact hl) fun x hx => by
  obtain ⟨t, ht, rfl⟩ := List.mem_map.mp hx
  exact nst_tri (h t ht)
theorem nst_opt {n : Nat} {α : Type} {D : α → PyData} : ∀ {v : Option (α × Nat)}, (∀ x b, v = some (x, b) → Nst (n + 1) (D x)) → Nst (n + 2) (optD D v)
  | none, _ => trivial
  | some (x, b), h => nst_tup (n := n + 1) (Nat.le_of_ble_eq_true rfl) fun y hy => by
    rcases List.mem_cons.mp hy with rfl | hy
    · exact h x b rfl
    · rw [List.mem_singleton] at hy
      rw [hy]
      trivial
theorem dsz_of {bs : List Int} (hz : bs.length ≤ 1000000) {a : Nat} {d : Dee} {b : Nat} (h : rDee bs a = some (d, b)) : dSz d := by
  cases d with
  | back n => trivial
  | chg m r bh n t =>
    unfold rDee at h
    cases h0 : rCho 2 bs a with
    | none => rw [bnd_no h0] at h; cases h
    | some u0 =>
    obtain ⟨c0, b0⟩ := u0
    rw [bnd_ok h0] at h
    by_cases hc : c0 = 1
    · rw [if_pos hc] at h
      cases h1 : rNum bs b0 with
      | none => rw [bnd_no h1] at h; cases h
      | some u1 =>
        obtain ⟨c1, b1⟩ := u1
        rw [bnd_ok h1] at h
        cases h
    rw [if_neg hc] at h
    cases h1 : rTxt bs b0 with
    | none => rw [bnd_no h1] at h; cases h
    | some u1 =>
    obtain ⟨c1, b1⟩ := u1
    rw [bnd_ok h1] at h
    cases h2 : rMrks bs b1 with
    | none => rw [bnd_no h2] at h; cases h
    | some u2 =>
    obtain ⟨c2, b2⟩ := u2
    rw [bnd_ok h2] at h
    cases h3 : rBeh bs b2 with
    | none => rw [bnd_no h3] at h; cases h
    | some u3 =>
    obtain ⟨c3, b3⟩ := u3
    rw [bnd_ok h3] at h
    cases h4 : rNum bs b3 with
    | none => rw [bnd_no h4] at h; cases h
    | some u4 =>
    obtain ⟨c4, b4⟩ := u4
    rw [bnd_ok h4] at h
    cases h5 : rTxt bs b4 with
    | none => rw [bnd_no h5] at h; cases h
    | some u5 =>
      obtain ⟨c5, b5⟩ := u5
      rw [bnd_ok h5] at h
      cases h
      have := rdL_len h2
      show r.length ≤ 1000000
      omega
theorem rRep_each {α : Type} {q : Ps α} {bs : List Int} {p : Nat} : ∀ {n : Nat} {l : List α} {b : Nat}, rRep q n bs p = some (l, b) → ∀ x ∈ l, ∃ a b, q bs a = some (x, b)
  | 0, l, b, h => by
    cases h
    intro x hx
    cases hx
  | n + 1, l, b, h => by
    cases h1 : rRep q n bs p with
    | none => rw [rRep_no h1] at h; cases h
    | some w =>
      obtain ⟨l1, c⟩ := w
      rw [rRep_ok h1] at h
      cases h2 : q bs c with
      | none => rw [h2] at h; cases h
      | some u =>
        obtain ⟨y, e⟩ := u
        rw [h2] at h
        cases h
        intro x hx
        rcases List.mem_append.mp hx with hx | hx
        · exact rRep_each h1 x hx
        · rw [List.mem_singleton] at hx
          rw [hx]
          exact ⟨_, _, h2⟩
theorem dsz_tri {bs : List Int} (hz : bs.length ≤ 1000000) {a : Nat} {ts : List Tri} {b : Nat} (h : rTri bs a = some (ts, b)) : ts.length ≤ 1000000 ∧ ∀ t ∈ ts, dSz t.2.2 := by
  have hl := rdL_len h
  refine ⟨by omega, fun t ht => ?_⟩
  unfold rTri at h
  cases h1 : rCnt bs a with
  | none => rw [bnd_no h1] at h; cases h
  | some u1 =>
    obtain ⟨n, b1⟩ := u1
    rw [bnd_ok h1] at h
    obtain ⟨a2, b2, h2⟩ := rRep_each h t ht
    rw [rTr1_mrk] at h2
    cases h3 : rMrk bs a2 with
    | none => rw [h3] at h2; cases h2
    | some u3 =>
      obtain ⟨k, b3⟩ := u3
      rw [h3] at h2
      have h2 : (match rDee bs b3 with | none => none | some (d, b2) => some ((k.1, k.2, d), b2)) = some (t, b2) := h2
      cases h4 : rDee bs b3 with
      | none => rw [h4] at h2; cases h2
      | some u4 =>
        obtain ⟨d, b4⟩ := u4
        rw [h4] at h2
        cases h2
        exact dsz_of hz h4
theorem dsz_pac {bs : List Int} (hz : bs.length ≤ 1000000) {a : Nat} {ts : List Tri} {b : Nat} (h : rPac bs a = some (ts, b)) : ts.length ≤ 1000000 ∧ ∀ t ∈ ts, dSz t.2.2 := by
  unfold rPac at h
  cases h1 : rByte bs a with
  | none => rw [bnd_no h1] at h; cases h
  | some u1 =>
    obtain ⟨n, b1⟩ := u1
    rw [bnd_ok h1] at h
    by_cases hc : n = 1
    · rw [if_pos hc] at h
      exact dsz_tri hz h
    · rw [if_neg hc] at h
      cases h
theorem nst_kind {k : Nat} {bs : List Int} (hk : k < 5) (hz : bs.length ≤ 1000000) : Nst 8 (kindD k bs) := by
  match k, hk with
  | 0, _ => exact nst_opt (n := 6) fun x b _ => trivial
  | 1, _ => exact nst_opt (n := 6) fun x b _ => trivial
  | 2, _ => exact nst_opt (n := 6) fun x b h => nst_deed (n := 3) (dsz_of hz h)
  | 3, _ => exact nst_opt (n := 6) fun x b h => nst_tris (n := 1) (dsz_tri hz h).1 (dsz_tri hz h).2
  | 4, _ => exact nst_opt (n := 6) fun x b h => nst_tris (n := 1) (dsz_pac hz h).1 (dsz_pac hz h).2
theorem dsz_ok : ∀ {d : Dee}, dOk d → dSz d
  | .back _, _ => trivial
  | .chg _ r _ _ _, h => by
    have := h.2.1.1
    show r.length ≤ 1000000
    omega
theorem kind_le {k : Nat} {bs : List Int} {α : Type} {q : Ps α} (hq : LEp q) {x : α} {b : Nat} (h : q bs 0 = some (x, b)) : b ≤ bs.length := hq bs 0 x b (Nat.zero_le _) h
end K12

namespace K12
open PySem PySem.Spec PyProof.Rows L2 DW
local macro_rules | `(tactic| walk_at "side") => `(tactic| first | rfl | assumption | omega | (simp only [szL, S_len, List.length_append, List.length_map, List.length_cons, List.length_nil]; omega) | decide)
local macro_rules | `(tactic| walk_at "els") => `(tactic| first | exact Els.l | exact Els.d)
local macro_rules | `(tactic| walk_at "pos") => `(tactic| first | assumption | decide | omega | exact Or.inr (by decide) | exact Or.inl (by decide) | exact ⟨by decide, by decide +kernel⟩ | exact ⟨by decide, by decide, by decide⟩)
local macro_rules | `(tactic| walk_at "at") => `(tactic| first | assumption | rfl)
local macro_rules | `(tactic| walk_at "O") => `(tactic| first
  | focus ((with_reducible apply od_plusI); (rfl); (rfl); (rfl); (rfl); done)
  | focus ((with_reducible apply od_plusS); (rfl); (rfl); (rfl); (rfl); (walk_at "side"); done)
  | focus ((with_reducible apply od_plusL); (rfl); (walk_at "els"); (rfl); (walk_at "els"); (walk_at "side"); done)
  | focus ((with_reducible apply od_plusT); (rfl); (rfl); (walk_at "side"); done)
  | focus ((with_reducible apply od_ixL); (rfl); (walk_at "els"); (rfl); (rfl); (walk_at "at"); done)
  | focus ((with_reducible apply od_ixT); (rfl); (rfl); (rfl); (walk_at "at"); done)
  | focus ((with_reducible apply od_ixS); (rfl); (rfl); (rfl); (rfl); (walk_at "side"); (walk_at "at"); done)
  | focus ((with_reducible apply od_ixC); (rfl); (rfl); (rfl); (walk_at "at"); done)
  | focus ((with_reducible apply od_ixRx); (rfl); (rfl); (rfl); (walk_at "at"); (walk_at "at"); (rfl); done)
  | focus ((with_reducible apply od_ixQx); (rfl); (rfl); (walk_at "at"); (walk_at "at"); (rfl); done)
  | focus ((with_reducible apply od_sub); (rfl); (rfl); (rfl); (rfl); done)
  | focus ((with_reducible apply od_fdiv); (rfl); (rfl); (rfl); (rfl); (walk_at "pos"); done)
  | focus ((with_reducible apply od_mod); (rfl); (rfl); (rfl); (rfl); (walk_at "pos"); done)
  | focus ((with_reducible apply od_pow); (rfl); (rfl); (rfl); (rfl); (walk_at "pos"); done)
  | focus ((with_reducible apply od_lt); (rfl); (rfl); (rfl); (rfl); done)
  | focus ((with_reducible apply od_le); (rfl); (rfl); (rfl); (rfl); done)
  | focus ((with_reducible apply od_gt); (rfl); (rfl); (rfl); (rfl); done)
  | focus ((with_reducible apply od_ge); (rfl); (rfl); (rfl); (rfl); done)
  | focus ((with_reducible apply od_eqI); (rfl); (rfl); (rfl); (rfl); done)
  | focus ((with_reducible apply od_eqS); (rfl); (rfl); (rfl); (rfl); done)
  | focus ((with_reducible apply od_eqB); (rfl); (rfl); (rfl); (rfl); done)
  | focus ((with_reducible apply od_neI); (rfl); (rfl); (rfl); (rfl); done)
  | focus ((with_reducible apply od_neS); (rfl); (rfl); (rfl); (rfl); done)
  | focus ((with_reducible apply od_neB); (rfl); (rfl); (rfl); (rfl); done)
  | focus ((with_reducible apply od_timesI); (rfl); (rfl); (rfl); (rfl); (walk_at "pos"); done)
  | focus ((with_reducible apply od_isN); (rfl); (rfl); done)
  | focus ((with_reducible apply od_isnotN); (rfl); (rfl); done)
  | focus ((with_reducible apply od_inT); (rfl); (rfl); (rfl); (rfl); (rfl); done)
  | focus ((with_reducible apply od_notinT); (rfl); (rfl); (rfl); (rfl); (rfl); done))
local macro_rules | `(tactic| walk_at "kit") => `(tactic| first | exact kit_NoneType_bool | exact kit_NoneType_int | exact kit_NoneType_str | exact kit_NoneType_list | exact kit_NoneType_tuple | exact kit_bool_bool | exact kit_bool_int | exact kit_bool_str | exact kit_bool_list | exact kit_bool_tuple | exact kit_int_bool | exact kit_int_int | exact kit_int_str | exact kit_int_list | exact kit_int_tuple | exact kit_str_bool | exact kit_str_int | exact kit_str_str | exact kit_str_list | exact kit_str_tuple | exact kit_list_bool | exact kit_list_int | exact kit_list_str | exact kit_list_list | exact kit_list_tuple | exact kit_tuple_bool | exact kit_tuple_int | exact kit_tuple_str | exact kit_tuple_list | exact kit_tuple_tuple | exact kit_dict_bool | exact kit_dict_int | exact kit_dict_str | exact kit_dict_list | exact kit_dict_tuple)
local macro_rules | `(tactic| walk_at "C") => `(tactic| fail)
local macro_rules | `(tactic| walk_at "E") => `(tactic| first
  | exact ee_int | exact ee_str | exact ee_bl | exact ee_non
  | exact ee_var rfl rfl
  | (walk_at "C")
  | focus ((with_reducible apply ee_op); (walk_at "E"); (walk_at "E"); (rfl); (walk_at "O"); done)
  | focus ((with_reducible apply ee_lst); (walk_at "A"); (walk_at "side"); done)
  | focus ((with_reducible apply ee_tup); (walk_at "A"); (walk_at "side"); done)
  | focus ((with_reducible apply ee_isi); (walk_at "E"); (rfl); (rfl); (walk_at "kit"); done)
  | focus ((with_reducible apply ee_isiT); (walk_at "E"); (rfl); (rfl); (walk_at "kit"); (walk_at "kit"); (rfl); done)
  | focus ((with_reducible apply ee_cb); (walk_at "EA"); (walk_at "F"); done)
  | focus ((with_reducible apply ee_not); (walk_at "E"); done)
  | focus ((with_reducible apply ee_and); (walk_at "E"); (intro; walk_at "E"); done)
  | focus ((with_reducible apply ee_or); (walk_at "E"); (intro; walk_at "E"); done)
  | focus ((with_reducible apply ee_sl); (walk_at "E"); (walk_at "EO"); (walk_at "EO"); (rfl); (walk_at "SD"); done)
  | focus ((with_reducible apply ee_neg); (walk_at "E"); (rfl); (rfl); done))
local macro_rules | `(tactic| walk_at "A") => `(tactic| first
  | exact ead_nil
  | focus ((with_reducible apply ead_cons); (walk_at "E"); (walk_at "A"); done))
local macro_rules | `(tactic| walk_at "EA") => `(tactic| first
  | exact ea_nil
  | focus ((with_reducible apply ea_cons); (walk_at "E"); (walk_at "EA"); (rfl); done))
local macro_rules | `(tactic| walk_at "F") => `(tactic| first
  | focus ((with_reducible apply cd_lenL); (rfl); (walk_at "els"); done)
  | focus ((with_reducible apply cd_lenT); (rfl); done)
  | focus ((with_reducible apply cd_lenS); (rfl); (rfl); (walk_at "side"); done)
  | focus ((with_reducible apply cd_lenC); (rfl); done)
  | focus ((with_reducible apply cd_lenO); (rfl); done)
  | focus ((with_reducible apply cd_int); (rfl); (rfl); done)
  | focus ((with_reducible apply cd_intB); (rfl); (rfl); done)
  | focus ((with_reducible apply cd_listC); (rfl); done)
  | focus ((with_reducible apply cd_list); (rfl); (walk_at "els"); done)
  | focus ((with_reducible apply cd_listT); (rfl); done)
  | focus ((with_reducible apply cd_tuple); (rfl); (walk_at "els"); done)
  | focus ((with_reducible apply cd_max); (rfl); (rfl); (rfl); (rfl); done)
  | focus ((with_reducible apply cd_min); (rfl); (rfl); (rfl); (rfl); done)
  | focus ((with_reducible apply cd_str); (rfl); (rfl); (walk_at "side"); done)
  | focus ((with_reducible apply cd_ord); (rfl); (rfl); (walk_at "side"); done))
local macro_rules | `(tactic| walk_at "T") => `(tactic| first
  | focus ((with_reducible apply et_test); (walk_at "E"); done)
  | focus ((with_reducible apply et_B); (walk_at "E"); done)
  | focus ((with_reducible apply et_not); (walk_at "T"); done)
  | exact et_yes
  | focus ((with_reducible apply et_and); (walk_at "T"); (intro; walk_at "T"); done)
  | focus ((with_reducible apply et_or); (walk_at "T"); (intro; walk_at "T"); done))
local macro_rules | `(tactic| walk_at "D") => `(tactic| first
  | (walk_at "E")
  | focus ((with_reducible apply ed_lst); (walk_at "E"); done))
local macro_rules | `(tactic| walk_at "A") => `(tactic| first
  | exact ead_nil
  | focus ((with_reducible apply ead_cons); (walk_at "D"); (walk_at "A"); done))
local macro_rules | `(tactic| walk_at "v") => `(tactic| (intro a0 z0; cases z0))
local macro_rules | `(tactic| walk_at "set") => `(tactic| ((with_reducible apply ss_asg); (walk_at "E"); (exact Nat.le_of_ble_eq_true rfl); (rfl); (walk_at "v"); (dsimp only [List.set_cons_zero, List.set_cons_succ, Vl.sl, upd1, List.getElem?_cons_zero, List.getElem?_cons_succ, T.set])))
local macro_rules | `(tactic| walk_at "n") => `(tactic| (dsimp only [List.set_cons_zero, List.set_cons_succ, Vl.sl, upd1, List.getElem?_cons_zero, List.getElem?_cons_succ, T.set, putT]))
local macro_rules | `(tactic| walk_at "setI") => `(tactic| ((with_reducible apply ss_setI); (walk_at "E"); (with_reducible apply ee_m); (walk_at "E"); (rfl); (with_reducible apply ee_m); (walk_at "E"); (rfl); (rfl); (walk_at "at"); (walk_at "n")))
local macro_rules | `(tactic| walk_at "EO") => `(tactic| first
  | exact eo_no
  | focus ((with_reducible apply eo_part); (walk_at "E"); (rfl); (rfl); done))
local macro_rules | `(tactic| walk_at "SD") => `(tactic| first
  | focus ((with_reducible apply sd_L); (rfl); (walk_at "els"); done)
  | focus ((with_reducible apply sd_S); (rfl); (rfl); (walk_at "side"); done)
  | focus ((with_reducible apply sd_T); (rfl); done))
section
variable {K : PySem.W.Frag} {W : WX} {vs : List V} {as : List Ag} {o : Out} {m : Bool} {es es1 : Es} {ta : TA} {te : TE} {i : Nat} {E : XK} {c : CA} {a : Option V} {bs d : List Int} {p : Nat}
theorem ee_S {sp : Sp} {E' : L2.St → XK} {r : Vl} (h : ∀ E, EE K m (tSpc sp E ta) es r es1) : EE K m (tCallS sp E' ta) es r es1 := fun B F H σ fps R Q k => h (E' σ) B F H σ fps R Q k
theorem ee_end (h : es[i]? = some (.o a (rdT c bs p))) (hz : bs.length ≤ 1000000) (hb : bs.length ≤ p) : EE K true (tSpc (spD K (R_Reader_end c)) E (methA c.Reader "end" (tVar i) tNil)) es (.o (.d .none)) (es.set i (.o a (rdT c bs p))) :=
  ee_eq (ee_callM (R := R_Reader_end c) (i := i) (p := []) (k := 0) (t2 := rdT c bs p) (t := .d .none) (ea_meth (ee_var h rfl) (tr_at h T.at_nil) nf_end.no ea_nil rfl) (.here (tr_at h T.at_nil) .nil) ⟨bs, p, hz, rfl, by rw [if_neg (by omega)]⟩) rfl (upd1_set h)
theorem ex_end {E' : L2.St → XK} (h : es[i]? = some (.o a (rdT c bs p))) (hz : bs.length ≤ 1000000) (hb : p < bs.length) (hE : ∀ σ H, W (.ref c.DamagedPacket) none σ H → E' σ (.ref c.DamagedPacket) none H) : EX K W (tCallS (spD K (R_Reader_end c)) E' (methA c.Reader "end" (tVar i) tNil)) es (.ref c.DamagedPacket) (es.set i .n) :=
  ex_callM (R := R_Reader_end c) (i := i) (p := []) (k := 0) (t2 := rdT c bs p) (ea_meth (ee_var h rfl) (tr_at h T.at_nil) nf_end.no ea_nil rfl) (.here (tr_at h T.at_nil) .nil) ⟨bs, p, hz, rfl, by rw [if_pos hb]⟩ hE
def tTold (K : PySem.W.Frag) (c : CA) : TS := (tSeq (tAsg (tFld K (tVar 2) "at") (gName 4))
  (tSeq (tTryO K (.ref c.DamagedPacket) (fun W => (tSeq (tDrop (tCallS (spD K (R_Reader_end c)) (WE W) (methA c.Reader "end" (tVar 2) tNil)))
  (tAsg (tC (.bl true)) (gName 5)))) (tAsg (tC (.bl false)) (gName 5)) (fun _ _ _ _ => False))
  (tRet (tIf (tTest (tOp (rEqA K) (tVar 5) (tOp (rEqA K) (tVar 4) (tCB (rLn K) (tCons (tVar 1) tNil))))) (tTup (tCons (tVar 3) (tCons (tVar 4) tNil))) (tTup (tCons (tC (.str "wrong end")) (tCons (tVar 4) tNil)))))))
theorem told_tail (X : CF K c) {v1 v2 : V} {k b : Nat} {f : PyData} (hz : bs.length ≤ 1000000) (hb : b ≤ bs.length) : SS K W (tTold K c) [.o none (.d (.int (k : Int))), .o none (.d (dI bs)), .o none (rdT c bs b), .o none (.d f), .n, .n] (FD [v1, v2] [.d (.int (k : Int)), .d (dI bs)] (.ok [.d (.int (k : Int)), .d (dI bs)] (.d (.tuple [f, .int (b : Int)])))) := by
  refine ss_seq (ss_set (ee_atR X rfl) (Nat.le_of_ble_eq_true rfl) ?_)
  walk_at "n"
  have fin : ∀ (u : Sl) (e : Bool), e = decide (b = bs.length) → SS K W (tRet (tIf (tTest (tOp (rEqA K) (tVar 5) (tOp (rEqA K) (tVar 4) (tCB (rLn K) (tCons (tVar 1) tNil))))) (tTup (tCons (tVar 3) (tCons (tVar 4) tNil))) (tTup (tCons (tC (.str "wrong end")) (tCons (tVar 4) tNil))))) [.o none (.d (.int (k : Int))), .o none (.d (dI bs)), u, .o none (.d f), .o none (.d (.int (b : Int))), .o none (.d (.bool e))] (FD [v1, v2] [.d (.int (k : Int)), .d (dI bs)] (.ok [.d (.int (k : Int)), .d (dI bs)] (.d (.tuple [f, .int (b : Int)])))) := by
    intro u e he
    have hq : (decide ((b : Int) = ((bs.map PyData.int).length : Int))) = e := by
      rw [he, List.length_map]
      by_cases q : b = bs.length
      · rw [decide_eq_true q, decide_eq_true (by omega)]
      · rw [decide_eq_false q, decide_eq_false (by omega)]
    have h1 : EE K false (tOp (rEqA K) (tVar 4) (tCB (rLn K) (tCons (tVar 1) tNil))) [.o none (.d (.int (k : Int))), .o none (.d (dI bs)), u, .o none (.d f), .o none (.d (.int (b : Int))), .o none (.d (.bool e))] (.o (.d (.bool (decide ((b : Int) = ((bs.map PyData.int).length : Int)))))) [.o none (.d (.int (k : Int))), .o none (.d (dI bs)), u, .o none (.d f), .o none (.d (.int (b : Int))), .o none (.d (.bool e))] := ee_m (ee_op (ee_var rfl rfl) (ee_cb (ea_cons (ee_var rfl rfl) ea_nil rfl) (cd_lenL rfl Els.d)) rfl (od_eqI rfl rfl rfl rfl)) rfl
    rw [hq] at h1
    refine ss_ret (ee_ifT (et_is (et_test (ee_m (ee_op (ee_var rfl rfl) h1 rfl (od_eqB rfl rfl rfl rfl)) rfl)) ?_) (ee_tup (ead_cons (ee_var rfl rfl) (ead_cons (ee_var rfl rfl) ead_nil)) (Nat.le_of_ble_eq_true rfl))) ?_
    · cases e <;> rfl
    · exact ⟨_, _, rfl, rfl, rfl, rfl, trivial⟩
  refine ss_seq (ss_try fun W' => ?_)
  by_cases hc : b < bs.length
  · refine ss_seq (ss_dropX (ex_end (i := 2) rfl hz hc fun _ _ h => h) ⟨X.ex_DamagedPacket, ?_⟩)
    refine ss_set ee_bl (Nat.le_of_ble_eq_true rfl) ?_
    exact fin _ false (by rw [decide_eq_false (by omega)])
  · refine ss_seq (ss_drop (ee_S fun E => ee_end (i := 2) rfl hz (by omega)) ?_)
    refine ss_set ee_bl (Nat.le_of_ble_eq_true rfl) ?_
    exact fin _ true (by rw [decide_eq_true (by omega)])
theorem body_law_told (X : CF K c) (h : R_law_told c as o) (hl : as.length = vs.length) : SS K W (t_law_told K c) (slots vs as ++ List.replicate 4 .n) (FD vs as o) := by
  obtain ⟨k, bs, hk, hz, rfl, rfl⟩ := h
  obtain ⟨v1, v2, rfl⟩ := two_of hl rfl
  show SS K W (t_law_told K c) [.o none (.d (.int (k : Int))), .o none (.d (dI bs)), .n, .n, .n, .n] _
  refine ss_seq (ss_set (ee_make (R := R_Reader_init c) (ea_cons (ee_cb (ea_cons (ee_var rfl rfl) ea_nil rfl) (cd_list rfl Els.d)) ea_nil rfl) (.q rfl .nil) ⟨bs, hz, rfl, rfl⟩) (Nat.le_of_ble_eq_true rfl) ?_)
  show SS K W _ [.o none (.d (.int (k : Int))), .o none (.d (dI bs)), .o none (rdT c bs 0), .n, .n, .n] _
  refine ss_seq (ss_try fun W' => ?_)
  have hT : ∀ j : Int, ET K false (tTest (tOp (rEqA K) (tVar 0) (tC (.int j)))) [.o none (.d (.int (k : Int))), .o none (.d (dI bs)), .o none (rdT c bs 0), .n, .n, .n] (decide ((k : Int) = j)) [.o none (.d (.int (k : Int))), .o none (.d (dI bs)), .o none (rdT c bs 0), .n, .n, .n] := fun j => et_test (ee_op (ee_var rfl rfl) ee_int rfl (od_eqI rfl rfl rfl rfl))
  have no : ∀ {es : Es} {D : Dn}, D.rt = (FD [v1, v2] [.d (.int (k : Int)), .d (dI bs)] (.ok [.d (.int (k : Int)), .d (dI bs)] (.d (kindD k bs)))).rt → kindD k bs = .none → SS K W (tRet (tC .non)) es D := fun {es D} hD e => by
    refine ss_ret ee_non ?_
    rw [hD, e]
    exact ⟨_, _, rfl, rfl, rfl, rfl, trivial⟩
  by_cases h0 : k = 0
  · refine ss_tt (hT 0) (decide_eq_true (by omega)) ?_
    cases hr : rNum bs 0 with
    | none =>
      refine ss_asgX (ex_rd (i := 2) (p := 0) nf_number rfl hz hr fun _ _ h => h) ⟨X.ex_DamagedPacket, no rfl ?_⟩
      subst h0
      show optD intD (rNum bs 0) = _
      rw [hr]
      rfl
    | some q =>
      obtain ⟨x, b⟩ := q
      refine ss_set (ee_S fun E => ee_rd (i := 2) (p := 0) nf_number rfl hz hr) (Nat.le_of_ble_eq_true rfl) ?_
      have e : kindD k bs = .tuple [intD x, .int (b : Int)] := by
        subst h0
        show optD intD (rNum bs 0) = _
        rw [hr]
        rfl
      rw [e]
      exact told_tail X hz (le_num bs 0 x b (Nat.zero_le _) hr)
  refine ss_ff (hT 0) (decide_eq_false (by omega)) ?_
  by_cases h1 : k = 1
  · refine ss_tt (hT 1) (decide_eq_true (by omega)) ?_
    cases hr : rTxt bs 0 with
    | none =>
      refine ss_asgX (ex_rd (i := 2) (p := 0) nf_string rfl hz hr fun _ _ h => h) ⟨X.ex_DamagedPacket, no rfl ?_⟩
      subst h1
      show optD txtD (rTxt bs 0) = _
      rw [hr]
      rfl
    | some q =>
      obtain ⟨x, b⟩ := q
      refine ss_set (ee_S fun E => ee_rd (i := 2) (p := 0) nf_string rfl hz hr) (Nat.le_of_ble_eq_true rfl) ?_
      have e : kindD k bs = .tuple [txtD x, .int (b : Int)] := by
        subst h1
        show optD txtD (rTxt bs 0) = _
        rw [hr]
        rfl
      rw [e]
      exact told_tail X hz (le_txt bs 0 x b (Nat.zero_le _) hr)
  refine ss_ff (hT 1) (decide_eq_false (by omega)) ?_
  by_cases h2 : k = 2
  · refine ss_tt (hT 2) (decide_eq_true (by omega)) ?_
    cases hr : rDee bs 0 with
    | none =>
      refine ss_asgX (ex_rd (i := 2) (p := 0) nf_deed rfl hz hr fun _ _ h => h) ⟨X.ex_DamagedPacket, no rfl ?_⟩
      subst h2
      show optD deedD (rDee bs 0) = _
      rw [hr]
      rfl
    | some q =>
      obtain ⟨x, b⟩ := q
      refine ss_set (ee_S fun E => ee_rd (i := 2) (p := 0) nf_deed rfl hz hr) (Nat.le_of_ble_eq_true rfl) ?_
      have e : kindD k bs = .tuple [deedD x, .int (b : Int)] := by
        subst h2
        show optD deedD (rDee bs 0) = _
        rw [hr]
        rfl
      rw [e]
      exact told_tail X hz (le_dee bs 0 x b (Nat.zero_le _) hr)
  refine ss_ff (hT 2) (decide_eq_false (by omega)) ?_
  by_cases h3 : k = 3
  · refine ss_tt (hT 3) (decide_eq_true (by omega)) ?_
    cases hr : rTri bs 0 with
    | none =>
      refine ss_asgX (ex_rd (i := 2) (p := 0) nf_triples rfl hz hr fun _ _ h => h) ⟨X.ex_DamagedPacket, no rfl ?_⟩
      subst h3
      show optD trisD (rTri bs 0) = _
      rw [hr]
      rfl
    | some q =>
      obtain ⟨x, b⟩ := q
      refine ss_set (ee_S fun E => ee_rd (i := 2) (p := 0) nf_triples rfl hz hr) (Nat.le_of_ble_eq_true rfl) ?_
      have e : kindD k bs = .tuple [trisD x, .int (b : Int)] := by
        subst h3
        show optD trisD (rTri bs 0) = _
        rw [hr]
        rfl
      rw [e]
      refine ss_frz (i := 3) rfl (toD_lst _) ?_
      exact told_tail X hz (le_tri bs 0 x b (Nat.zero_le _) hr)
  refine ss_ff (hT 3) (decide_eq_false (by omega)) ?_
  have h4 : k = 4 := by omega
  cases hr : rPac bs 0 with
  | none =>
    refine ss_asgX (ex_rd (i := 2) (p := 0) nf_packet rfl hz hr fun _ _ h => h) ⟨X.ex_DamagedPacket, no rfl ?_⟩
    subst h4
    show optD trisD (rPac bs 0) = _
    rw [hr]
    rfl
  | some q =>
    obtain ⟨x, b⟩ := q
    refine ss_set (ee_S fun E => ee_rd (i := 2) (p := 0) nf_packet rfl hz hr) (Nat.le_of_ble_eq_true rfl) ?_
    have e : kindD k bs = .tuple [trisD x, .int (b : Int)] := by
      subst h4
      show optD trisD (rPac bs 0) = _
      rw [hr]
      rfl
    rw [e]
    refine ss_frz (i := 3) rfl (toD_lst _) ?_
    exact told_tail X hz (le_pac bs 0 x b (Nat.zero_le _) hr)
end
end K12

namespace K12
open PySem PySem.Spec PyProof.Rows L2 DW
local macro_rules | `(tactic| walk_at "side") => `(tactic| first | rfl | assumption | omega | (simp only [szL, S_len, List.length_append, List.length_map, List.length_cons, List.length_nil]; omega) | decide)
local macro_rules | `(tactic| walk_at "els") => `(tactic| first | exact Els.l | exact Els.d)
local macro_rules | `(tactic| walk_at "pos") => `(tactic| first | assumption | decide | omega | exact Or.inr (by decide) | exact Or.inl (by decide) | exact ⟨by decide, by decide +kernel⟩ | exact ⟨by decide, by decide, by decide⟩)
local macro_rules | `(tactic| walk_at "at") => `(tactic| first | assumption | rfl)
local macro_rules | `(tactic| walk_at "O") => `(tactic| first
  | focus ((with_reducible apply od_plusI); (rfl); (rfl); (rfl); (rfl); done)
  | focus ((with_reducible apply od_plusS); (rfl); (rfl); (rfl); (rfl); (walk_at "side"); done)
  | focus ((with_reducible apply od_plusL); (rfl); (walk_at "els"); (rfl); (walk_at "els"); (walk_at "side"); done)
  | focus ((with_reducible apply od_plusT); (rfl); (rfl); (walk_at "side"); done)
  | focus ((with_reducible apply od_ixL); (rfl); (walk_at "els"); (rfl); (rfl); (walk_at "at"); done)
  | focus ((with_reducible apply od_ixT); (rfl); (rfl); (rfl); (walk_at "at"); done)
  | focus ((with_reducible apply od_ixS); (rfl); (rfl); (rfl); (rfl); (walk_at "side"); (walk_at "at"); done)
  | focus ((with_reducible apply od_ixC); (rfl); (rfl); (rfl); (walk_at "at"); done)
  | focus ((with_reducible apply od_ixRx); (rfl); (rfl); (rfl); (walk_at "at"); (walk_at "at"); (rfl); done)
  | focus ((with_reducible apply od_ixQx); (rfl); (rfl); (walk_at "at"); (walk_at "at"); (rfl); done)
  | focus ((with_reducible apply od_sub); (rfl); (rfl); (rfl); (rfl); done)
  | focus ((with_reducible apply od_fdiv); (rfl); (rfl); (rfl); (rfl); (walk_at "pos"); done)
  | focus ((with_reducible apply od_mod); (rfl); (rfl); (rfl); (rfl); (walk_at "pos"); done)
  | focus ((with_reducible apply od_pow); (rfl); (rfl); (rfl); (rfl); (walk_at "pos"); done)
  | focus ((with_reducible apply od_lt); (rfl); (rfl); (rfl); (rfl); done)
  | focus ((with_reducible apply od_le); (rfl); (rfl); (rfl); (rfl); done)
  | focus ((with_reducible apply od_gt); (rfl); (rfl); (rfl); (rfl); done)
  | focus ((with_reducible apply od_ge); (rfl); (rfl); (rfl); (rfl); done)
  | focus ((with_reducible apply od_eqI); (rfl); (rfl); (rfl); (rfl); done)
  | focus ((with_reducible apply od_eqS); (rfl); (rfl); (rfl); (rfl); done)
  | focus ((with_reducible apply od_eqB); (rfl); (rfl); (rfl); (rfl); done)
  | focus ((with_reducible apply od_neI); (rfl); (rfl); (rfl); (rfl); done)
  | focus ((with_reducible apply od_neS); (rfl); (rfl); (rfl); (rfl); done)
  | focus ((with_reducible apply od_neB); (rfl); (rfl); (rfl); (rfl); done)
  | focus ((with_reducible apply od_timesI); (rfl); (rfl); (rfl); (rfl); (walk_at "pos"); done)
  | focus ((with_reducible apply od_isN); (rfl); (rfl); done)
  | focus ((with_reducible apply od_isnotN); (rfl); (rfl); done)
  | focus ((with_reducible apply od_inT); (rfl); (rfl); (rfl); (rfl); (rfl); done)
  | focus ((with_reducible apply od_notinT); (rfl); (rfl); (rfl); (rfl); (rfl); done))
local macro_rules | `(tactic| walk_at "kit") => `(tactic| first | exact kit_NoneType_bool | exact kit_NoneType_int | exact kit_NoneType_str | exact kit_NoneType_list | exact kit_NoneType_tuple | exact kit_bool_bool | exact kit_bool_int | exact kit_bool_str | exact kit_bool_list | exact kit_bool_tuple | exact kit_int_bool | exact kit_int_int | exact kit_int_str | exact kit_int_list | exact kit_int_tuple | exact kit_str_bool | exact kit_str_int | exact kit_str_str | exact kit_str_list | exact kit_str_tuple | exact kit_list_bool | exact kit_list_int | exact kit_list_str | exact kit_list_list | exact kit_list_tuple | exact kit_tuple_bool | exact kit_tuple_int | exact kit_tuple_str | exact kit_tuple_list | exact kit_tuple_tuple | exact kit_dict_bool | exact kit_dict_int | exact kit_dict_str | exact kit_dict_list | exact kit_dict_tuple)
local macro_rules | `(tactic| walk_at "C") => `(tactic| fail)
local macro_rules | `(tactic| walk_at "E") => `(tactic| first
  | exact ee_int | exact ee_str | exact ee_bl | exact ee_non
  | exact ee_var rfl rfl
  | (walk_at "C")
  | focus ((with_reducible apply ee_op); (walk_at "E"); (walk_at "E"); (rfl); (walk_at "O"); done)
  | focus ((with_reducible apply ee_lst); (walk_at "A"); (walk_at "side"); done)
  | focus ((with_reducible apply ee_tup); (walk_at "A"); (walk_at "side"); done)
  | focus ((with_reducible apply ee_isi); (walk_at "E"); (rfl); (rfl); (walk_at "kit"); done)
  | focus ((with_reducible apply ee_isiT); (walk_at "E"); (rfl); (rfl); (walk_at "kit"); (walk_at "kit"); (rfl); done)
  | focus ((with_reducible apply ee_cb); (walk_at "EA"); (walk_at "F"); done)
  | focus ((with_reducible apply ee_not); (walk_at "E"); done)
  | focus ((with_reducible apply ee_and); (walk_at "E"); (intro; walk_at "E"); done)
  | focus ((with_reducible apply ee_or); (walk_at "E"); (intro; walk_at "E"); done)
  | focus ((with_reducible apply ee_sl); (walk_at "E"); (walk_at "EO"); (walk_at "EO"); (rfl); (walk_at "SD"); done)
  | focus ((with_reducible apply ee_neg); (walk_at "E"); (rfl); (rfl); done))
local macro_rules | `(tactic| walk_at "A") => `(tactic| first
  | exact ead_nil
  | focus ((with_reducible apply ead_cons); (walk_at "E"); (walk_at "A"); done))
local macro_rules | `(tactic| walk_at "EA") => `(tactic| first
  | exact ea_nil
  | focus ((with_reducible apply ea_cons); (walk_at "E"); (walk_at "EA"); (rfl); done))
local macro_rules | `(tactic| walk_at "F") => `(tactic| first
  | focus ((with_reducible apply cd_lenL); (rfl); (walk_at "els"); done)
  | focus ((with_reducible apply cd_lenT); (rfl); done)
  | focus ((with_reducible apply cd_lenS); (rfl); (rfl); (walk_at "side"); done)
  | focus ((with_reducible apply cd_lenC); (rfl); done)
  | focus ((with_reducible apply cd_lenO); (rfl); done)
  | focus ((with_reducible apply cd_int); (rfl); (rfl); done)
  | focus ((with_reducible apply cd_intB); (rfl); (rfl); done)
  | focus ((with_reducible apply cd_listC); (rfl); done)
  | focus ((with_reducible apply cd_list); (rfl); (walk_at "els"); done)
  | focus ((with_reducible apply cd_listT); (rfl); done)
  | focus ((with_reducible apply cd_tuple); (rfl); (walk_at "els"); done)
  | focus ((with_reducible apply cd_max); (rfl); (rfl); (rfl); (rfl); done)
  | focus ((with_reducible apply cd_min); (rfl); (rfl); (rfl); (rfl); done)
  | focus ((with_reducible apply cd_str); (rfl); (rfl); (walk_at "side"); done)
  | focus ((with_reducible apply cd_ord); (rfl); (rfl); (walk_at "side"); done))
local macro_rules | `(tactic| walk_at "T") => `(tactic| first
  | focus ((with_reducible apply et_test); (walk_at "E"); done)
  | focus ((with_reducible apply et_B); (walk_at "E"); done)
  | focus ((with_reducible apply et_not); (walk_at "T"); done)
  | exact et_yes
  | focus ((with_reducible apply et_and); (walk_at "T"); (intro; walk_at "T"); done)
  | focus ((with_reducible apply et_or); (walk_at "T"); (intro; walk_at "T"); done))
local macro_rules | `(tactic| walk_at "D") => `(tactic| first
  | (walk_at "E")
  | focus ((with_reducible apply ed_lst); (walk_at "E"); done))
local macro_rules | `(tactic| walk_at "A") => `(tactic| first
  | exact ead_nil
  | focus ((with_reducible apply ead_cons); (walk_at "D"); (walk_at "A"); done))
local macro_rules | `(tactic| walk_at "v") => `(tactic| (intro a0 z0; cases z0))
local macro_rules | `(tactic| walk_at "set") => `(tactic| ((with_reducible apply ss_asg); (walk_at "E"); (exact Nat.le_of_ble_eq_true rfl); (rfl); (walk_at "v"); (dsimp only [List.set_cons_zero, List.set_cons_succ, Vl.sl, upd1, List.getElem?_cons_zero, List.getElem?_cons_succ, T.set])))
local macro_rules | `(tactic| walk_at "n") => `(tactic| (dsimp only [List.set_cons_zero, List.set_cons_succ, Vl.sl, upd1, List.getElem?_cons_zero, List.getElem?_cons_succ, T.set, putT]))
local macro_rules | `(tactic| walk_at "setI") => `(tactic| ((with_reducible apply ss_setI); (walk_at "E"); (with_reducible apply ee_m); (walk_at "E"); (rfl); (with_reducible apply ee_m); (walk_at "E"); (rfl); (rfl); (walk_at "at"); (walk_at "n")))
local macro_rules | `(tactic| walk_at "EO") => `(tactic| first
  | exact eo_no
  | focus ((with_reducible apply eo_part); (walk_at "E"); (rfl); (rfl); done))
local macro_rules | `(tactic| walk_at "SD") => `(tactic| first
  | focus ((with_reducible apply sd_L); (rfl); (walk_at "els"); done)
  | focus ((with_reducible apply sd_S); (rfl); (rfl); (walk_at "side"); done)
  | focus ((with_reducible apply sd_T); (rfl); done))
local macro_rules | `(tactic| walk_at "ok") => `(tactic| first | assumption | exact LS.nx_ok (by walk_at "ok"))
local macro_rules | `(tactic| walk_at "lim") => `(tactic| first | assumption | exact ⟨by decide, by decide +kernel⟩)
local macro_rules | `(tactic| walk_at "C") => `(tactic| first
  | focus ((with_reducible apply ee_next9); (rfl); (walk_at "E"); (rfl); (walk_at "lim"); (walk_at "ok"); done))
theorem nst_things {n : Nat} {t : List Nat} {d : Dee} {ts : List Tri} (hd : dOk d) (hs : sOk ts) : Nst 8 (.list [intD n, txtD t, deedD d, trisD ts, trisD ts]) := nst_list (n := 7) (Nat.le_of_ble_eq_true rfl) fun x hx => by
  have h3 : Nst 7 (trisD ts) := nst_tris (n := 1) (by have := hs.1; omega) fun t ht => dsz_ok (hs.2 t ht).2.2
  rcases List.mem_cons.mp hx with rfl | hx
  · trivial
  rcases List.mem_cons.mp hx with rfl | hx
  · trivial
  rcases List.mem_cons.mp hx with rfl | hx
  · exact nst_deed (n := 3) (dsz_ok hd)
  rcases List.mem_cons.mp hx with rfl | hx
  · exact h3
  · rw [List.mem_singleton] at hx
    rw [hx]
    exact h3
section
variable {K : PySem.W.Frag} {W : WX} {vs : List V} {as : List Ag} {o : Out} {m : Bool} {es es1 : Es} {ta : TA} {te : TE} {i : Nat} {E : XK} {c : CA} {a : Option V} {bs d : List Int} {p : Nat} {l : LS}
theorem body_law_in_a_row (X : CF K c) (h : R_law_in_a_row c as o) (hl : as.length = vs.length) : SS K W (t_law_in_a_row K c) (slots vs as ++ List.replicate 4 .n) (FD vs as o) := by
  obtain ⟨n, t, d, ts, hn, ht, hd, hs, hz, rfl, rfl⟩ := h
  obtain ⟨v1, v2, rfl⟩ := two_of hl rfl
  show SS K W (t_law_in_a_row K c) [.o none (.d (.list [intD n, txtD t, deedD d, trisD ts, trisD ts])), .o none (.d (.list [dI (numB n), dI (txtB t), dI (deeB d), dI (triB ts), dI (pacB ts)])), .n, .n, .n, .n] _
  generalize hTH : PyData.list [intD n, txtD t, deedD d, trisD ts, trisD ts] = TH
  have hW : ([dI (numB n), dI (txtB t), dI (deeB d), dI (triB ts), dI (pacB ts)] : List PyData) = [numB n, txtB t, deeB d, triB ts, pacB ts].map dI := rfl
  have hF : [numB n, txtB t, deeB d, triB ts, pacB ts].flatten = numB n ++ txtB t ++ deeB d ++ triB ts ++ pacB ts := by
    simp only [List.flatten_cons, List.flatten_nil, List.append_nil, List.append_assoc]
  rw [hW]
  refine ss_seq ?_
  walk_at "set"
  refine ss_seq (ss_for (ei_list (xs := [numB n, txtB t, deeB d, triB ts, pacB ts].map dI) (ee_var rfl rfl)) (fun i es => ∃ u, es = [.o none (.d TH), .o none (.d (.list ([numB n, txtB t, deeB d, triB ts, pacB ts].map dI))), .o none (T.L (([numB n, txtB t, deeB d, triB ts, pacB ts].take i).flatten.map .int)), u, .n, .n]) ⟨_, rfl⟩ ?_ ?_)
  · rw [← hF] at hz
    generalize [numB n, txtB t, deeB d, triB ts, pacB ts] = ls at hz
    rintro i y es' hy ⟨u, rfl⟩
    rw [List.getElem?_map] at hy
    cases hq : ls[i]? with
    | none => rw [hq] at hy; cases hy
    | some x =>
      rw [hq] at hy
      cases hy
      have htk : ls.take (i + 1) = ls.take i ++ [x] := by rw [List.take_add_one, hq]; rfl
      have hfl : (ls.take i).flatten.length + x.length ≤ ls.flatten.length := by
        have h1 : ls.flatten = (ls.take (i + 1)).flatten ++ (ls.drop (i + 1)).flatten := by rw [← List.flatten_append, List.take_append_drop]
        rw [h1, htk, List.flatten_append, List.length_append, List.length_append, List.flatten_singleton]
        omega
      refine ⟨_, _, gs_name (Nat.le_of_ble_eq_true rfl), ?_⟩
      walk_at "n"
      have z1 : ((ls.take i).flatten.map PyData.int).length + (x.map PyData.int).length ≤ sizeLine := by rw [List.length_map, List.length_map, szL]; omega
      refine ss_set (ee_op (ee_var rfl rfl) (ee_var rfl rfl) rfl (od_plusL rfl Els.l rfl Els.d (by exact z1))) (Nat.le_of_ble_eq_true rfl) ?_
      walk_at "n"
      rw [← ints_app, htk, List.flatten_append, List.flatten_singleton]
      exact ⟨_, rfl⟩
  · rintro es' ⟨u, rfl⟩
    rw [List.length_map, List.take_length, hF]
    have f1 : (numB n ++ txtB t ++ deeB d ++ triB ts ++ pacB ts) = [] ++ numB n ++ (txtB t ++ deeB d ++ triB ts ++ pacB ts) := by simp only [List.append_assoc, List.nil_append]
    have f2 : (numB n ++ txtB t ++ deeB d ++ triB ts ++ pacB ts) = numB n ++ txtB t ++ (deeB d ++ triB ts ++ pacB ts) := by simp only [List.append_assoc]
    have f3 : (numB n ++ txtB t ++ deeB d ++ triB ts ++ pacB ts) = (numB n ++ txtB t) ++ deeB d ++ (triB ts ++ pacB ts) := by simp only [List.append_assoc]
    have f4 : (numB n ++ txtB t ++ deeB d ++ triB ts ++ pacB ts) = (numB n ++ txtB t ++ deeB d) ++ triB ts ++ pacB ts := rfl
    have f5 : (numB n ++ txtB t ++ deeB d ++ triB ts ++ pacB ts) = (numB n ++ txtB t ++ deeB d ++ triB ts) ++ pacB ts ++ [] := (List.append_nil _).symm
    have r1 := (rd_num hn).at f1 (a := 0) rfl
    have r2 := (rd_txt ht).at f2 (a := 0 + (numB n).length) (Nat.zero_add _)
    have r3 := (rd_dee hd).at f3 (a := 0 + (numB n).length + (txtB t).length) (by rw [List.length_append, Nat.zero_add])
    have r4 := (rd_tri hs).at f4 (a := 0 + (numB n).length + (txtB t).length + (deeB d).length) (by rw [List.length_append, List.length_append, Nat.zero_add])
    have r5 := (rd_pac hs).at f5 (a := 0 + (numB n).length + (txtB t).length + (deeB d).length + (triB ts).length) (by rw [List.length_append, List.length_append, List.length_append, Nat.zero_add])
    have hend : (numB n ++ txtB t ++ deeB d ++ triB ts ++ pacB ts).length ≤ 0 + (numB n).length + (txtB t).length + (deeB d).length + (triB ts).length + (pacB ts).length := by
      simp only [List.length_append]
      omega
    clear f1 f2 f3 f4 f5 hF hW
    generalize (numB n ++ txtB t ++ deeB d ++ triB ts ++ pacB ts) = bs at hz r1 r2 r3 r4 r5 hend
    generalize 0 + (numB n).length = p1 at r1 r2 r3 r4 r5 hend
    generalize p1 + (txtB t).length = p2 at r2 r3 r4 r5 hend
    generalize p2 + (deeB d).length = p3 at r3 r4 r5 hend
    generalize p3 + (triB ts).length = p4 at r4 r5 hend
    generalize p4 + (pacB ts).length = p5 at r5 hend
    generalize PyData.list ([numB n, txtB t, deeB d, triB ts, pacB ts].map dI) = WR
    have hz6 : bs.length ≤ 1000000 := by omega
    refine ss_seq (ss_set (ee_make (R := R_Reader_init c) (ea_cons (ee_var rfl rfl) ea_nil rfl) (.q rfl .nil) ⟨bs, hz6, rfl, rfl⟩) (Nat.le_of_ble_eq_true rfl) ?_)
    show SS K W _ [.o none (.d TH), .o none (.d WR), .o none (T.L (bs.map .int)), u, .o none (rdT c bs 0), .n] _
    refine ss_seq (ss_drop (ee_appD (xs := bs.map .int) (ee_var rfl rfl) (ee_int (i := 7)) rfl rfl rfl (by rw [List.length_map, szL]; omega)) ?_)
    walk_at "n"
    generalize (T.lst ((bs.map PyData.int ++ [PyData.int 7]).map T.d)) = u2
    refine ss_seq (ss_ff (b := !decide ((0 : Int) = 0)) (et_test (ee_m (ee_op (ee_atR X rfl) ee_int rfl (od_neI rfl rfl rfl rfl)) rfl)) rfl (ss_next ?_))
    refine ss_seq (ss_set (ee_lst (ead_cons (ee_rd (i := 4) nf_number rfl hz6 r1) (ead_cons (ee_rd (i := 4) nf_string rfl hz6 r2) (ead_cons (ee_rd (i := 4) nf_deed rfl hz6 r3) (ead_cons (ed_lst (ee_rd (i := 4) nf_triples rfl hz6 r4)) (ead_cons (ed_lst (ee_rd (i := 4) nf_packet rfl hz6 r5)) ead_nil))))) (Nat.le_of_ble_eq_true rfl)) (Nat.le_of_ble_eq_true rfl) ?_)
    walk_at "n"
    refine ss_seq (ss_drop (ee_end (i := 4) rfl hz6 hend) ?_)
    walk_at "n"
    refine ss_ret (ee_same9 (x := TH) (ea_cons (ee_var rfl rfl) (ea_cons (ee_var rfl rfl) ea_nil rfl) rfl) rfl ((toD_lst _).trans (by rw [← hTH]; rfl)) rfl rfl (by rw [← hTH]; exact nst_things hd hs)) ?_
    exact ⟨_, _, rfl, rfl, rfl, rfl, trivial⟩
/-! ### the law -/
theorem ee_told (h : EA K m ta es [.o (.d (.int (i : Int))), .o (.d (dI bs))] es1) (hk : i < 5) (hz : bs.length ≤ 1000000) : EE K m (tSpc (spD K (R_law_told c)) E ta) es (.o (.d (kindD i bs))) es1 := ee_callP h (.d (.d .nil)) ⟨i, bs, hk, hz, rfl, rfl⟩
theorem ee_own (h : EA K m ta es [.o (.d (.int (i : Int))), .o (.d (dI bs))] es1) (hk : i < 5) (hz : bs.length ≤ 1000000) (hb : Pos bs) : EE K m (tSpc (spD K R_law_own) E ta) es (.o (.d (kindD i bs))) es1 := ee_callP h (.d (.d .nil)) ⟨i, bs, hk, hz, hb, rfl, rfl⟩
theorem ee_spoilt {r : Vl} (h0 : EA K m ta es [.r i [], r] es1) (hs : es1[i]? = some (.o a l.t)) (h1 : r.tr es1 = some (T.L (d.map .int))) (hr : i ∉ r.refs) (ok : l.ok) (hz : d.length ≤ 100000) : EE K true (tSpc (spD K R_law_spoilt) E ta) es (.o (T.L ((spF d l).1.map .int))) (es1.set i (.o a (spF d l).2.t)) := by
  have e := ee_callM (K := K) (E := E) (R := R_law_spoilt) (i := i) (p := []) (t1 := l.t) (t2 := (spF d l).2.t) (k := 0) (as := [.m l.t, .q (T.L (d.map .int))]) (as' := [.m (spF d l).2.t, .q (T.L (d.map .int))]) (t := T.L ((spF d l).1.map .int)) h0 (.here (tr_at hs rfl) (.q h1 hr .nil)) ⟨l, d, ok, hz, rfl, rfl⟩
  exact ee_eq e rfl (upd1_set hs)
theorem spF_ok {d : List Int} {l : LS} (h : l.ok) : (spF d l).2.ok := by
  have e0 : spF d l = spG d (l.nx ((d.length : Int) + 1)).1.toNat (byF ((l.nx ((d.length : Int) + 1)).2.nx 7).1) (((l.nx ((d.length : Int) + 1)).2.nx 7).2.nx 5).1 (((l.nx ((d.length : Int) + 1)).2.nx 7).2.nx 5).2 := rfl
  rw [e0]
  have ok : (((l.nx ((d.length : Int) + 1)).2.nx 7).2.nx 5).2.ok := LS.nx_ok (LS.nx_ok (LS.nx_ok h))
  generalize (((l.nx ((d.length : Int) + 1)).2.nx 7).2.nx 5).2 = l3 at ok
  unfold spG
  split
  · exact ok
  split
  · exact ok
  split
  · exact ok
  split
  · exact ok
  · exact raI_ok (LS.nx_ok ok) _
/-- the long bytes -/
def lgI : Nat → LS → List Int × LS
  | 0, l => ([], l)
  | n + 1, l => ((lgI n l).1 ++ [128 + ((lgI n l).2.nx 128).1], ((lgI n l).2.nx 128).2)
theorem lgI_ok {l : LS} (h : l.ok) : ∀ n, (lgI n l).2.ok
  | 0 => h
  | n + 1 => LS.nx_ok (lgI_ok h n)
theorem lgI_s {l : LS} {n : Nat} : (lgI (n + 1) l).2 = ((lgI n l).2.nx 128).2 := by
  simp only [lgI]
theorem lgI_map {l : LS} : ∀ n, (List.range n).map (fun i => PyData.int (128 + ((lgI i l).2.nx 128).1)) = (lgI n l).1.map .int
  | 0 => rfl
  | n + 1 => by
    rw [List.range_succ, List.map_append, lgI_map n]
    show _ = ((lgI n l).1 ++ [_]).map PyData.int
    rw [List.map_append]
    rfl
theorem lgI_len {l : LS} : ∀ n, (lgI n l).1.length = n
  | 0 => rfl
  | n + 1 => by
    show ((lgI n l).1 ++ [_]).length = _
    rw [List.length_append, lgI_len n]
    rfl
theorem lgI_pos {l : LS} : ∀ n, Pos (lgI n l).1
  | 0 => fun b hb => nomatch hb
  | n + 1 => by
    have h : (lgI (n + 1) l).1 = (lgI n l).1 ++ [128 + ((lgI n l).2.nx 128).1] := rfl
    rw [h]
    have := LS.nx_lt (l := (lgI n l).2) (v := 128) (by decide)
    exact (lgI_pos n).app (pos_one (by omega))
/-- what is written, and what it is read as -/
structure Good (n : Nat) (t : List Nat) (d : Dee) (ts : List Tri) : Prop where
  hn : nOk n
  ht : tOk t
  hd : dOk d
  hs : sOk ts
  hz : (numB n ++ txtB t ++ deeB d ++ triB ts ++ pacB ts).length ≤ 100000
def wrs (n : Nat) (t : List Nat) (d : Dee) (ts : List Tri) : List (List Int) := [numB n, txtB t, deeB d, triB ts, pacB ts]
def ths (n : Nat) (t : List Nat) (d : Dee) (ts : List Tri) : List PyData := [intD n, txtD t, deedD d, trisD ts, trisD ts]
theorem Good.at {n : Nat} {t : List Nat} {d : Dee} {ts : List Tri} (G : Good n t d ts) {i : Nat} (hi : i < 5) : ∃ w th, (wrs n t d ts)[i]? = some w ∧ (ths n t d ts)[i]? = some th ∧ kindD i w = .tuple [th, .int (w.length : Int)] ∧ Pos w ∧ w.length ≤ 100000 := by
  have hz := G.hz
  simp only [List.length_append] at hz
  match i, hi with
  | 0, _ => exact ⟨_, _, rfl, rfl, by show optD intD (rNum _ 0) = _; rw [(rd_num G.hn).full]; rfl, pos_num n, by omega⟩
  | 1, _ => exact ⟨_, _, rfl, rfl, by show optD txtD (rTxt _ 0) = _; rw [(rd_txt G.ht).full]; rfl, pos_txt t, by omega⟩
  | 2, _ => exact ⟨_, _, rfl, rfl, by show optD deedD (rDee _ 0) = _; rw [(rd_dee G.hd).full]; rfl, pos_dee d, by omega⟩
  | 3, _ => exact ⟨_, _, rfl, rfl, by show optD trisD (rTri _ 0) = _; rw [(rd_tri G.hs).full]; rfl, pos_tri ts, by omega⟩
  | 4, _ => exact ⟨_, _, rfl, rfl, by show optD trisD (rPac _ 0) = _; rw [(rd_pac G.hs).full]; rfl, pos_pac ts, by omega⟩
theorem good_of {l1 l2 l3 l4 : LS} {k : Nat} (h : k ≤ 6) : Good (dnF l1).1 (dtF l2).1 (ddF l3).1 (trI k l4).1 := by
  refine ⟨dn_ok _, dt_ok _, (dd_ok _).1, (tr_ok h).1, ?_⟩
  have h1 := dn_len l1
  have h2 := dt_blen l2
  have h3 := (dd_ok l3).2
  have h4 := (tr_ok (l := l4) h).2
  have h5 : (pacB (trI k l4).1).length = 1 + (triB (trI k l4).1).length := by rw [pacB, List.length_append]; rfl
  simp only [List.length_append]
  omega
abbrev lE (ns : List Int) (l : LS) (s2 s3 s4 s5 s6 s7 s8 s9 s10 s11 s12 s13 : Sl) : Es := [.o none (.scr ns), .o none l.t, s2, s3, s4, s5, s6, s7, s8, s9, s10, s11, s12, s13]
theorem body_law (X : CF K c) (h : R_law c as o) (hl : as.length = vs.length) : SS K W (t_law K c) (slots vs as ++ List.replicate 13 .n) (FD vs as o) := by
  obtain ⟨ns, rfl, rfl⟩ := h
  obtain ⟨v1, rfl⟩ := one_of hl rfl
  show SS K W (t_law K c) [.o none (.scr ns), .n, .n, .n, .n, .n, .n, .n, .n, .n, .n, .n, .n, .n] _
  refine ss_seq ?_
  walk_at "set"
  have ok0 : LS.ok ⟨ns, 0, 0, 1⟩ := Int.le_refl 0
  show SS K W _ (lE ns ⟨ns, 0, 0, 1⟩ .n .n .n .n .n .n .n .n .n .n .n .n) _
  generalize LS.mk ns 0 0 1 = l0 at ok0
  refine ss_seq (ss_for (ei_range1 (j := 4) (by walk_at "A") ⟨by decide, by decide⟩) (fun i es => ∃ l s2 s3 s4 s5 s6 s7 s8 s9 s10 s11 s12 s13, LS.ok l ∧ es = lE ns l s2 s3 s4 s5 s6 s7 s8 s9 s10 s11 s12 s13) ⟨l0, _, _, _, _, _, _, _, _, _, _, _, _, ok0, rfl⟩ ?_ ?_)
  · rintro i y es' hy ⟨l, s2, s3, s4, s5, s6, s7, s8, s9, s10, s11, s12, s13, ok, rfl⟩
    refine ⟨_, _, gs_name (Nat.le_of_ble_eq_true rfl), ?_⟩
    walk_at "n"
    generalize Sl.o none (T.d y) = s2
    have ok1 := dnF_ok ok
    have ok2 := dtF_ok ok1
    have ok3 := ddF_ok ok2
    have ok4 : ((ddF (dtF (dnF l).2).2).2.nx 7).2.ok := LS.nx_ok ok3
    have h7 := LS.nx_lt (l := (ddF (dtF (dnF l).2).2).2) (v := 7) (by decide)
    have G := good_of (l1 := l) (l2 := (dnF l).2) (l3 := (dtF (dnF l).2).2) (l4 := ((ddF (dtF (dnF l).2).2).2.nx 7).2) (k := ((ddF (dtF (dnF l).2).2).2.nx 7).1.toNat) (by omega)
    refine ss_seq (ss_set (ee_dn rfl ok) (Nat.le_of_ble_eq_true rfl) ?_)
    walk_at "n"
    refine ss_seq (ss_set (ee_dt rfl ok1) (Nat.le_of_ble_eq_true rfl) ?_)
    walk_at "n"
    refine ss_seq (ss_set (ee_dd rfl ok2) (Nat.le_of_ble_eq_true rfl) ?_)
    walk_at "n"
    generalize (dnF l).1 = n at G
    generalize (dtF (dnF l).2).1 = t at G
    generalize (ddF (dtF (dnF l).2).2).1 = d at G
    generalize (ddF (dtF (dnF l).2).2).2 = l3 at G ok3 ok4 h7
    have hI : EI K true true (iRng1 (tCons (tSpc (spD K R_law_next) E0 (tCons (tVar 1) (tCons (tC (.int 7)) tNil))) tNil)) (lE ns l3 s2 (.o none (.d (.int (n : Int)))) (.o none (.d (.str (S t)))) (.o none (.d (deedD d))) s6 s7 s8 s9 s10 s11 s12 s13) (rangeD 0 (l3.nx 7).1.toNat) (lE ns (l3.nx 7).2 s2 (.o none (.d (.int (n : Int)))) (.o none (.d (.str (S t)))) (.o none (.d (deedD d))) s6 s7 s8 s9 s10 s11 s12 s13) :=
      ei_m (ei_range1 (ead_cons (ee_next9 rfl ee_int rfl ⟨by decide, by decide +kernel⟩ ok3) ead_nil) ⟨by omega, by omega⟩) rfl
    generalize hnn : (l3.nx 7).1.toNat = nn at hI G
    have hn7 : nn ≤ 6 := by omega
    generalize (l3.nx 7).2 = l4 at hI ok4 G
    have hLC := ee_lcR (K := K) (out := fun i => triD (((trI i l4).2.nx 9).1.toNat, (dnF ((trI i l4).2.nx 9).2).1, (ddF (dnF ((trI i l4).2.nx 9).2).2).1)) (g := gName 12) (vs := [12]) (te := tTup (tCons (tSpc (spD K R_law_next) E0 (tCons (tVar 1) (tCons (tC (.int 9)) tNil))) (tCons (tSpc (spD K R_law_drawn_number) E0 (tCons (tVar 1) tNil)) (tCons (tSpc (spD K R_law_drawn_deed) E0 (tCons (tVar 1) tNil)) tNil)))) hI (by rw [rangeD_len, szL]; omega) (fun i => lE ns (trI i l4).2 s2 (.o none (.d (.int (n : Int)))) (.o none (.d (.str (S t)))) (.o none (.d (deedD d))) s6 s7 s8 s9 s10 s11 s12 s13) rfl (fun i x hx => by
      have oki := trI_ok ok4 i
      have ok5 : ((trI i l4).2.nx 9).2.ok := LS.nx_ok oki
      have h9 := LS.nx_lt (l := (trI i l4).2) (v := 9) (by decide)
      have h2 : ED K true (tTup (tCons (tSpc (spD K R_law_next) E0 (tCons (tVar 1) (tCons (tC (.int 9)) tNil))) (tCons (tSpc (spD K R_law_drawn_number) E0 (tCons (tVar 1) tNil)) (tCons (tSpc (spD K R_law_drawn_deed) E0 (tCons (tVar 1) tNil)) tNil)))) (lE ns (trI i l4).2 s2 (.o none (.d (.int (n : Int)))) (.o none (.d (.str (S t)))) (.o none (.d (deedD d))) s6 s7 s8 s9 s10 s11 (.o none (.d x)) s13) (triD (((trI i l4).2.nx 9).1.toNat, (dnF ((trI i l4).2.nx 9).2).1, (ddF (dnF ((trI i l4).2.nx 9).2).2).1)) (lE ns (ddF (dnF ((trI i l4).2.nx 9).2).2).2 s2 (.o none (.d (.int (n : Int)))) (.o none (.d (.str (S t)))) (.o none (.d (deedD d))) s6 s7 s8 s9 s10 s11 (.o none (.d x)) s13) := by
        have e : triD (((trI i l4).2.nx 9).1.toNat, (dnF ((trI i l4).2.nx 9).2).1, (ddF (dnF ((trI i l4).2.nx 9).2).2).1) = .tuple [.int ((trI i l4).2.nx 9).1, .int ((dnF ((trI i l4).2.nx 9).2).1 : Int), deedD (ddF (dnF ((trI i l4).2.nx 9).2).2).1] := by
          show PyData.tuple [.int ((((trI i l4).2.nx 9).1.toNat : Nat) : Int), _, _] = _
          rw [Int.toNat_of_nonneg h9.1]
        rw [e]
        generalize (trI i l4).2 = l5 at oki ok5
        exact ee_tup (ead_cons (ee_next9 rfl ee_int rfl ⟨by decide, by decide +kernel⟩ oki) (ead_cons (ee_dn rfl ok5) (ead_cons (ee_dd rfl (dnF_ok ok5)) ead_nil))) (Nat.le_of_ble_eq_true rfl)
      refine ⟨_, _, _, gs_name (Nat.le_of_ble_eq_true rfl), fun j hj => hj, h2, ?_, rfl⟩
      rw [trI_s]
      rfl)
    rw [rangeD_len, trI_map] at hLC
    refine ss_seq (ss_set hLC (Nat.le_of_ble_eq_true rfl) ?_)
    walk_at "n"
    have ok6 := trI_ok ok4 nn
    generalize (trI nn l4).2 = l6 at ok6
    generalize (trI nn l4).1 = ts at G
    refine ss_frz (i := 6) rfl (toD_lst _) ?_
    walk_at "n"
    clear hLC hI ok ok1 ok2 ok3 ok4 h7 hnn hn7
    have hz := G.hz
    simp only [List.length_append] at hz
    refine ss_seq (ss_set (ee_lst (ead_cons (ed_lst (ee_wnum (n := n) (ea_cons (ee_var rfl rfl) ea_nil rfl) rfl (by omega))) (ead_cons (ed_lst (ee_wr (D := txtD) (B := txtB) (x := t) (ea_cons (ee_var rfl rfl) ea_nil rfl) rfl rfl (by omega))) (ead_cons (ed_lst (ee_wr (D := deedD) (B := deeB) (x := d) (ea_cons (ee_var rfl rfl) ea_nil rfl) rfl rfl (by omega))) (ead_cons (ed_lst (ee_wr (D := fun ts => .list (ts.map triD)) (B := triB) (x := ts) (ea_cons (ee_cb (ea_cons (ee_var rfl rfl) ea_nil rfl) (cd_list rfl Els.d)) ea_nil rfl) rfl (toD_lst _) (by omega))) (ead_cons (ed_lst (ee_wr (D := fun ts => .list (ts.map triD)) (B := pacB) (x := ts) (ea_cons (ee_cb (ea_cons (ee_var rfl rfl) ea_nil rfl) (cd_list rfl Els.d)) ea_nil rfl) rfl (toD_lst _) (by omega))) ead_nil))))) (Nat.le_of_ble_eq_true rfl)) (Nat.le_of_ble_eq_true rfl) ?_)
    walk_at "n"
    refine ss_frz (i := 7) rfl (toD_lst _) ?_
    walk_at "n"
    refine ss_seq (ss_set (ee_wr (D := trisD) (B := triB) (x := ts) (ea_cons (ee_var rfl rfl) ea_nil rfl) rfl rfl (by omega)) (Nat.le_of_ble_eq_true rfl) ?_)
    walk_at "n"
    refine ss_frz (i := 8) rfl (toD_lst _) ?_
    walk_at "n"
    show SS K W _ (lE ns l6 s2 (.o none (.d (.int (n : Int)))) (.o none (.d (.str (S t)))) (.o none (.d (deedD d))) (.o none (.d (trisD ts))) (.o none (.d (.list ((wrs n t d ts).map dI)))) (.o none (.d (dI (triB ts)))) s9 s10 s11 s12 s13) _
    have hN : Nst 8 (.list ((wrs n t d ts).map dI)) := nst_list (n := 7) (Nat.le_of_ble_eq_true rfl) fun x hx => by
      obtain ⟨w, hw, rfl⟩ := List.mem_map.mp hx
      obtain ⟨j, hj⟩ := List.getElem?_of_mem hw
      have hj5 : j < 5 := (List.getElem?_eq_some_iff.mp hj).1
      obtain ⟨w', th, g1, g2, g3, g4, g5⟩ := G.at hj5
      rw [hj] at g1
      cases g1
      exact nst_ints (n := 5) (by omega)
    have z1 : [PyData.int 1].length + ((triB ts).map PyData.int).length ≤ sizeLine := by
      rw [List.length_map, szL]
      show 1 + _ ≤ _
      omega
    refine ss_seq (ss_ifF (et_not (et_B (ee_same9 (x := .list ((wrs n t d ts).map dI)) (ea_cons (ee_var rfl rfl) (ea_cons (ee_lst (ead_cons (ed_lst (ee_wnum (n := n) (ea_cons (ee_var rfl rfl) ea_nil rfl) rfl (by omega))) (ead_cons (ed_lst (ee_wr (D := txtD) (B := txtB) (x := t) (ea_cons (ee_var rfl rfl) ea_nil rfl) rfl rfl (by omega))) (ead_cons (ed_lst (ee_wr (D := deedD) (B := deeB) (x := d) (ea_cons (ee_var rfl rfl) ea_nil rfl) rfl rfl (by omega))) (ead_cons (ee_var rfl rfl) (ead_cons (ed_lst (ee_op (ee_lst (xs := [.int 1]) (by walk_at "A") (Nat.le_of_ble_eq_true rfl)) (ee_var rfl rfl) rfl (od_plusL rfl Els.l rfl Els.d (by exact z1)))) ead_nil))))) (Nat.le_of_ble_eq_true rfl)) ea_nil rfl) rfl) rfl rfl rfl (toD_lst _) hN))) (ss_next ?_))
    refine ss_seq (ss_set (ee_lst (ead_cons (ee_var rfl rfl) (ead_cons (ee_var rfl rfl) (ead_cons (ee_var rfl rfl) (ead_cons (ee_var rfl rfl) (ead_cons (ee_var rfl rfl) ead_nil))))) (Nat.le_of_ble_eq_true rfl)) (Nat.le_of_ble_eq_true rfl) ?_)
    walk_at "n"
    refine ss_frz (i := 9) rfl (toD_lst _) ?_
    walk_at "n"
    show SS K W _ (lE ns l6 s2 (.o none (.d (.int (n : Int)))) (.o none (.d (.str (S t)))) (.o none (.d (deedD d))) (.o none (.d (trisD ts))) (.o none (.d (.list ((wrs n t d ts).map dI)))) (.o none (.d (dI (triB ts)))) (.o none (.d (.list (ths n t d ts)))) s10 s11 s12 s13) _
    refine ss_seq (ss_ifF (et_not (et_B (ee_callP (R := R_law_in_a_row c) (ea_cons (ee_var rfl rfl) (ea_cons (ee_var rfl rfl) ea_nil rfl) rfl) (.d (.d .nil)) ⟨n, t, d, ts, G.hn, G.ht, G.hd, G.hs, G.hz, rfl, rfl⟩))) (ss_next ?_))
    generalize Sl.o none (.d (.int (n : Int))) = s3
    generalize Sl.o none (.d (.str (S t))) = s4
    generalize Sl.o none (.d (deedD d)) = s5
    generalize Sl.o none (.d (trisD ts)) = s6
    generalize Sl.o none (.d (dI (triB ts))) = s8
    generalize hWR : wrs n t d ts = WR at hN
    generalize hTH : ths n t d ts = TH
    have GA : ∀ i, i < 5 → ∃ w th, WR[i]? = some w ∧ TH[i]? = some th ∧ kindD i w = .tuple [th, .int (w.length : Int)] ∧ Pos w ∧ w.length ≤ 100000 := fun i hi => by
      obtain ⟨w, th, g1, g2, g3, g4, g5⟩ := G.at hi
      rw [hWR] at g1
      rw [hTH] at g2
      exact ⟨w, th, g1, g2, g3, g4, g5⟩
    clear hWR hTH G hz z1 hN
    have h63 := LS.nx_lt (l := l6) (v := 63) (by decide)
    have ok7 : (l6.nx 63).2.ok := LS.nx_ok ok6
    have hI : EI K true true (iRng1 (tCons (tSpc (spD K R_law_next) E0 (tCons (tVar 1) (tCons (tC (.int 63)) tNil))) tNil)) (lE ns l6 s2 s3 s4 s5 s6 (.o none (.d (.list (WR.map dI)))) s8 (.o none (.d (.list TH))) s10 s11 s12 s13) (rangeD 0 (l6.nx 63).1.toNat) (lE ns (l6.nx 63).2 s2 s3 s4 s5 s6 (.o none (.d (.list (WR.map dI)))) s8 (.o none (.d (.list TH))) s10 s11 s12 s13) :=
      ei_m (ei_range1 (ead_cons (ee_next9 rfl ee_int rfl ⟨by decide, by decide +kernel⟩ ok6) ead_nil) ⟨by omega, by omega⟩) rfl
    generalize hnn : (l6.nx 63).1.toNat = nn at hI
    have hn63 : nn ≤ 63 := by omega
    generalize (l6.nx 63).2 = l7 at hI ok7
    have hLC := ee_lcR (K := K) (out := fun i => .int (128 + ((lgI i l7).2.nx 128).1)) (g := gName 12) (vs := [12]) (te := tOp (rPlus K) (tC (.int 128)) (tSpc (spD K R_law_next) E0 (tCons (tVar 1) (tCons (tC (.int 128)) tNil)))) hI (by rw [rangeD_len, szL]; omega) (fun i => lE ns (lgI i l7).2 s2 s3 s4 s5 s6 (.o none (.d (.list (WR.map dI)))) s8 (.o none (.d (.list TH))) s10 s11 s12 s13) rfl (fun i x hx => by
      have oki := lgI_ok ok7 i
      have h2 : ED K true (tOp (rPlus K) (tC (.int 128)) (tSpc (spD K R_law_next) E0 (tCons (tVar 1) (tCons (tC (.int 128)) tNil)))) (lE ns (lgI i l7).2 s2 s3 s4 s5 s6 (.o none (.d (.list (WR.map dI)))) s8 (.o none (.d (.list TH))) s10 s11 (.o none (.d x)) s13) (.int (128 + ((lgI i l7).2.nx 128).1)) (lE ns ((lgI i l7).2.nx 128).2 s2 s3 s4 s5 s6 (.o none (.d (.list (WR.map dI)))) s8 (.o none (.d (.list TH))) s10 s11 (.o none (.d x)) s13) := by
        generalize (lgI i l7).2 = l5 at oki
        exact ee_op ee_int (ee_next9 rfl ee_int rfl ⟨by decide, by decide +kernel⟩ oki) rfl (od_plusI rfl rfl rfl rfl)
      refine ⟨_, _, _, gs_name (Nat.le_of_ble_eq_true rfl), fun j hj => hj, h2, ?_, rfl⟩
      rw [lgI_s]
      rfl)
    rw [rangeD_len, lgI_map] at hLC
    have ok8 := lgI_ok ok7 nn
    have hlgl := lgI_len (l := l7) nn
    have hlgp := lgI_pos (l := l7) nn
    generalize (lgI nn l7).2 = l8 at ok8 hLC
    generalize (lgI nn l7).1 = lg at hlgl hlgp hLC
    have h3 := LS.nx_lt (l := l8) (v := 3) (by decide)
    have ok9 : (l8.nx 3).2.ok := LS.nx_ok ok8
    have z2 : (lg.map PyData.int).length + [PyData.int (l8.nx 3).1].length ≤ sizeLine := by
      rw [List.length_map, szL]
      show _ + 1 ≤ _
      omega
    refine ss_seq (ss_set (ee_op hLC (ee_lst (ead_cons (ee_next9 rfl ee_int rfl ⟨by decide, by decide +kernel⟩ ok8) ead_nil) (Nat.le_of_ble_eq_true rfl)) rfl (od_plusL rfl Els.l rfl Els.l z2)) (Nat.le_of_ble_eq_true rfl) ?_)
    walk_at "n"
    refine ss_frz (i := 10) rfl (toD_lst _) ?_
    walk_at "n"
    rw [← ints_snoc]
    have hpos : Pos (lg ++ [(l8.nx 3).1]) := hlgp.app (pos_one h3.1)
    have hlen : (lg ++ [(l8.nx 3).1]).length ≤ 1000000 := by
      rw [List.length_append]
      show _ + 1 ≤ _
      omega
    generalize lg ++ [(l8.nx 3).1] = long at hpos hlen
    generalize (l8.nx 3).2 = l9 at ok9
    show SS K W _ (lE ns l9 s2 s3 s4 s5 s6 (.o none (.d (.list (WR.map dI)))) s8 (.o none (.d (.list TH))) (.o none (.d (dI long))) s11 s12 s13) _
    refine ss_seq (ss_ifF (et_not (et_B (ee_same9 (x := kindD 0 long) (ea_cons (ee_told (i := 0) (ea_cons ee_int (ea_cons (ee_var rfl rfl) ea_nil rfl) rfl) (by decide) hlen) (ea_cons (ee_own (i := 0) (ea_cons ee_int (ea_cons (ee_var rfl rfl) ea_nil rfl) rfl) (by decide) hlen hpos) ea_nil rfl) rfl) rfl rfl rfl rfl (nst_kind (by decide) hlen)))) (ss_next ?_))
    generalize Sl.o none (.d (dI long)) = s10
    clear hpos hlen h3 z2 hLC hlgl hlgp ok8 ok7 hI hnn h63 hn63 ok6
    refine ss_for (ei_range1 (j := 5) (by walk_at "A") ⟨by decide, by decide⟩) (fun i es => ∃ l s11 s12 s13, LS.ok l ∧ es = lE ns l s2 s3 s4 s5 s6 (.o none (.d (.list (WR.map dI)))) s8 (.o none (.d (.list TH))) s10 s11 s12 s13) ⟨l9, _, _, _, ok9, rfl⟩ ?_ ?_
    · rintro i y es' hy ⟨l, s11, s12, s13, ok, rfl⟩
      have hil : i < 5 := by
        have := (List.getElem?_eq_some_iff.mp hy).1
        rwa [rangeD_len] at this
      have hy' : (rangeD 0 5)[i]? = some y := hy
      rw [rangeD_get hil] at hy'
      cases hy'
      rw [Int.zero_add]
      obtain ⟨w, th, g1, g2, g3, g4, g5⟩ := GA i hil
      refine ⟨_, _, gs_name (Nat.le_of_ble_eq_true rfl), ?_⟩
      walk_at "n"
      have hw : atI (WR.map dI) (i : Int) = some (dI w) := at_nat (by rw [List.getElem?_map, g1]; rfl)
      have ht : atI TH (i : Int) = some th := at_nat g2
      have hNk := nst_kind (k := i) (bs := w) hil (by omega)
      rw [g3] at hNk
      have e1 : ∀ l s12 s13, EE K false (tOp (rIx K) (tVar 7) (tVar 11)) (lE ns l s2 s3 s4 s5 s6 (.o none (.d (.list (WR.map dI)))) s8 (.o none (.d (.list TH))) s10 (.o none (.d (.int (i : Int)))) s12 s13) (.o (.d (dI w))) (lE ns l s2 s3 s4 s5 s6 (.o none (.d (.list (WR.map dI)))) s8 (.o none (.d (.list TH))) s10 (.o none (.d (.int (i : Int)))) s12 s13) := fun l s12 s13 => ee_op (ee_var rfl rfl) (ee_var rfl rfl) rfl (od_ixL rfl Els.d rfl rfl hw)
      have e2 : EE K false (tSpc (spD K (R_law_told c)) E0 (tCons (tVar 11) (tCons (tOp (rIx K) (tVar 7) (tVar 11)) tNil))) (lE ns l s2 s3 s4 s5 s6 (.o none (.d (.list (WR.map dI)))) s8 (.o none (.d (.list TH))) s10 (.o none (.d (.int (i : Int)))) s12 s13) (.o (.d (.tuple [th, .int (w.length : Int)]))) (lE ns l s2 s3 s4 s5 s6 (.o none (.d (.list (WR.map dI)))) s8 (.o none (.d (.list TH))) s10 (.o none (.d (.int (i : Int)))) s12 s13) := by
        rw [← g3]
        exact ee_told (i := i) (ea_cons (ee_var rfl rfl) (ea_cons (e1 _ _ _) ea_nil rfl) rfl) hil (by omega)
      refine ss_seq (ss_ifF (et_not (et_B (ee_same9 (x := .tuple [th, .int (w.length : Int)]) (ea_cons e2 (ea_cons (ee_tup (ead_cons (ee_op (ee_var rfl rfl) (ee_var rfl rfl) rfl (od_ixL rfl Els.d rfl rfl ht)) (ead_cons (ee_cb (ea_cons (e1 _ _ _) ea_nil rfl) (cd_lenL rfl Els.d)) ead_nil)) (Nat.le_of_ble_eq_true rfl)) ea_nil rfl) rfl) rfl rfl rfl (by rw [List.length_map]; rfl) hNk))) (ss_next ?_))
      refine ss_for (ei_range1 (j := 4) (by walk_at "A") ⟨by decide, by decide⟩) (fun _ es => ∃ l s12 s13, LS.ok l ∧ es = lE ns l s2 s3 s4 s5 s6 (.o none (.d (.list (WR.map dI)))) s8 (.o none (.d (.list TH))) s10 (.o none (.d (.int (i : Int)))) s12 s13) ⟨l, _, _, ok, rfl⟩ ?_ ?_
      · rintro j y es' hy ⟨l, s12, s13, ok, rfl⟩
        refine ⟨_, _, gs_name (Nat.le_of_ble_eq_true rfl), ?_⟩
        walk_at "n"
        generalize Sl.o none (T.d y) = s12
        have okS := spF_ok (d := w) ok
        obtain ⟨hp, hl2⟩ := sp_ok (l := l) g4
        refine ss_seq (ss_set (ee_spoilt (d := w) (ea_cons (ee_var rfl rfl) (ea_cons (ee_cb (ea_cons (e1 _ _ _) ea_nil rfl) (cd_list rfl Els.d)) ea_nil rfl) rfl) rfl rfl (fun h => nomatch h) ok g5) (Nat.le_of_ble_eq_true rfl) ?_)
        walk_at "n"
        refine ss_frz (i := 13) rfl (toD_lst _) ?_
        walk_at "n"
        generalize (spF w l).2 = l' at okS
        generalize (spF w l).1 = d2 at hp hl2
        show SS K W _ (lE ns l' s2 s3 s4 s5 s6 (.o none (.d (.list (WR.map dI)))) s8 (.o none (.d (.list TH))) s10 (.o none (.d (.int (i : Int)))) s12 (.o none (.d (dI d2)))) _
        refine ss_ifF (et_not (et_B (ee_same9 (x := kindD i d2) (ea_cons (ee_told (i := i) (ea_cons (ee_var rfl rfl) (ea_cons (ee_var rfl rfl) ea_nil rfl) rfl) hil (by omega)) (ea_cons (ee_own (i := i) (ea_cons (ee_var rfl rfl) (ea_cons (ee_var rfl rfl) ea_nil rfl) rfl) hil (by omega) hp) ea_nil rfl) rfl) rfl rfl rfl rfl (nst_kind hil (by omega))))) (ss_next ?_)
        exact ⟨l', _, _, okS, rfl⟩
      · rintro es' ⟨l, s12, s13, ok, rfl⟩
        exact ⟨l, _, _, _, ok, rfl⟩
    · rintro es' ⟨l, s11, s12, s13, ok, rfl⟩
      exact ⟨l, _, _, _, _, _, _, _, _, _, _, _, _, ok, rfl⟩
  · rintro es' ⟨l, s2, s3, s4, s5, s6, s7, s8, s9, s10, s11, s12, s13, ok, rfl⟩
    refine ss_ret ee_bl ?_
    exact ⟨_, _, rfl, rfl, rfl, trivial⟩
end
end K12

namespace K12
open PySem PySem.Spec PyProof.Rows L2 DW
theorem R_zero_law_same {vs : List V} {H : Hp} {Q : VK} {E : XK} {K : PySem.W.Frag} (h : spD K (R_law_same 0) vs H Q E) : False := by
  obtain ⟨as, o, B, F, fps, ⟨x, hx, _⟩, _⟩ := h
  exact hx
theorem R_law_in {c : CA} {ns : List Int} (_ : ns.length ≤ 63) : R_law c [.s ns] (.ok [.s ns] (.d (.bool true))) := ⟨ns, rfl, rfl⟩
theorem body_law_next {K : PySem.W.Frag} {vs : List V} {as : List Ag} {o : Out} (h : R_law_next as o) (hl : as.length = vs.length) : SS K WT (t_law_next K) (slots vs as ++ List.replicate 2 .n) (FD vs as o) := body_next9 h hl
theorem body_law_same {K : PySem.W.Frag} {vs : List V} {n : Nat} {as : List Ag} {o : Out} (h : R_law_same (n + 1) as o) (hl : as.length = vs.length) : SS K WT (t_law_same K (R_law_same n)) (slots vs as ++ List.replicate 1 .n) (FD vs as o) := body_same9 h hl
theorem R_len_Reader_init {c : CA} {as : List Ag} {o : Out} (h : R_Reader_init c as o) : as.length = 2 := by first | (obtain ⟨rfl, _⟩ := h; rfl) | (obtain ⟨_, rfl, _⟩ := h; rfl) | (obtain ⟨_, _, rfl, _⟩ := h; rfl) | (obtain ⟨_, _, _, rfl, _⟩ := h; rfl) | (obtain ⟨_, _, _, _, rfl, _⟩ := h; rfl) | (obtain ⟨_, _, _, _, _, rfl, _⟩ := h; rfl) | (obtain ⟨_, _, _, _, _, _, rfl, _⟩ := h; rfl) | (obtain ⟨_, _, _, _, _, _, _, rfl, _⟩ := h; rfl) | (obtain ⟨_, _, _, _, _, _, _, _, rfl, _⟩ := h; rfl) | (obtain ⟨_, _, _, _, _, _, _, _, _, rfl, _⟩ := h; rfl) | (obtain ⟨_, _, _, _, _, _, _, _, _, _, rfl, _⟩ := h; rfl) | (obtain ⟨_, _, _, _, _, _, _, _, _, _, _, rfl, _⟩ := h; rfl) | (obtain ⟨_, _, _, _, _, _, _, _, _, _, _, _, rfl, _⟩ := h; rfl) | (obtain ⟨_, _, _, _, _, _, _, _, _, _, _, _, _, rfl, _⟩ := h; rfl)
theorem R_len_Reader_read_byte {c : CA} {as : List Ag} {o : Out} (h : R_Reader_read_byte c as o) : as.length = 1 := by first | (obtain ⟨rfl, _⟩ := h; rfl) | (obtain ⟨_, rfl, _⟩ := h; rfl) | (obtain ⟨_, _, rfl, _⟩ := h; rfl) | (obtain ⟨_, _, _, rfl, _⟩ := h; rfl) | (obtain ⟨_, _, _, _, rfl, _⟩ := h; rfl) | (obtain ⟨_, _, _, _, _, rfl, _⟩ := h; rfl) | (obtain ⟨_, _, _, _, _, _, rfl, _⟩ := h; rfl) | (obtain ⟨_, _, _, _, _, _, _, rfl, _⟩ := h; rfl) | (obtain ⟨_, _, _, _, _, _, _, _, rfl, _⟩ := h; rfl) | (obtain ⟨_, _, _, _, _, _, _, _, _, rfl, _⟩ := h; rfl) | (obtain ⟨_, _, _, _, _, _, _, _, _, _, rfl, _⟩ := h; rfl) | (obtain ⟨_, _, _, _, _, _, _, _, _, _, _, rfl, _⟩ := h; rfl) | (obtain ⟨_, _, _, _, _, _, _, _, _, _, _, _, rfl, _⟩ := h; rfl) | (obtain ⟨_, _, _, _, _, _, _, _, _, _, _, _, _, rfl, _⟩ := h; rfl)
theorem R_len_Reader_read_choice {c : CA} {as : List Ag} {o : Out} (h : R_Reader_read_choice c as o) : as.length = 2 := by first | (obtain ⟨rfl, _⟩ := h; rfl) | (obtain ⟨_, rfl, _⟩ := h; rfl) | (obtain ⟨_, _, rfl, _⟩ := h; rfl) | (obtain ⟨_, _, _, rfl, _⟩ := h; rfl) | (obtain ⟨_, _, _, _, rfl, _⟩ := h; rfl) | (obtain ⟨_, _, _, _, _, rfl, _⟩ := h; rfl) | (obtain ⟨_, _, _, _, _, _, rfl, _⟩ := h; rfl) | (obtain ⟨_, _, _, _, _, _, _, rfl, _⟩ := h; rfl) | (obtain ⟨_, _, _, _, _, _, _, _, rfl, _⟩ := h; rfl) | (obtain ⟨_, _, _, _, _, _, _, _, _, rfl, _⟩ := h; rfl) | (obtain ⟨_, _, _, _, _, _, _, _, _, _, rfl, _⟩ := h; rfl) | (obtain ⟨_, _, _, _, _, _, _, _, _, _, _, rfl, _⟩ := h; rfl) | (obtain ⟨_, _, _, _, _, _, _, _, _, _, _, _, rfl, _⟩ := h; rfl) | (obtain ⟨_, _, _, _, _, _, _, _, _, _, _, _, _, rfl, _⟩ := h; rfl)
theorem R_len_Reader_end {c : CA} {as : List Ag} {o : Out} (h : R_Reader_end c as o) : as.length = 1 := by first | (obtain ⟨rfl, _⟩ := h; rfl) | (obtain ⟨_, rfl, _⟩ := h; rfl) | (obtain ⟨_, _, rfl, _⟩ := h; rfl) | (obtain ⟨_, _, _, rfl, _⟩ := h; rfl) | (obtain ⟨_, _, _, _, rfl, _⟩ := h; rfl) | (obtain ⟨_, _, _, _, _, rfl, _⟩ := h; rfl) | (obtain ⟨_, _, _, _, _, _, rfl, _⟩ := h; rfl) | (obtain ⟨_, _, _, _, _, _, _, rfl, _⟩ := h; rfl) | (obtain ⟨_, _, _, _, _, _, _, _, rfl, _⟩ := h; rfl) | (obtain ⟨_, _, _, _, _, _, _, _, _, rfl, _⟩ := h; rfl) | (obtain ⟨_, _, _, _, _, _, _, _, _, _, rfl, _⟩ := h; rfl) | (obtain ⟨_, _, _, _, _, _, _, _, _, _, _, rfl, _⟩ := h; rfl) | (obtain ⟨_, _, _, _, _, _, _, _, _, _, _, _, rfl, _⟩ := h; rfl) | (obtain ⟨_, _, _, _, _, _, _, _, _, _, _, _, _, rfl, _⟩ := h; rfl)
theorem R_len_Reader_read_number {c : CA} {as : List Ag} {o : Out} (h : R_Reader_read_number c as o) : as.length = 1 := by first | (obtain ⟨rfl, _⟩ := h; rfl) | (obtain ⟨_, rfl, _⟩ := h; rfl) | (obtain ⟨_, _, rfl, _⟩ := h; rfl) | (obtain ⟨_, _, _, rfl, _⟩ := h; rfl) | (obtain ⟨_, _, _, _, rfl, _⟩ := h; rfl) | (obtain ⟨_, _, _, _, _, rfl, _⟩ := h; rfl) | (obtain ⟨_, _, _, _, _, _, rfl, _⟩ := h; rfl) | (obtain ⟨_, _, _, _, _, _, _, rfl, _⟩ := h; rfl) | (obtain ⟨_, _, _, _, _, _, _, _, rfl, _⟩ := h; rfl) | (obtain ⟨_, _, _, _, _, _, _, _, _, rfl, _⟩ := h; rfl) | (obtain ⟨_, _, _, _, _, _, _, _, _, _, rfl, _⟩ := h; rfl) | (obtain ⟨_, _, _, _, _, _, _, _, _, _, _, rfl, _⟩ := h; rfl) | (obtain ⟨_, _, _, _, _, _, _, _, _, _, _, _, rfl, _⟩ := h; rfl) | (obtain ⟨_, _, _, _, _, _, _, _, _, _, _, _, _, rfl, _⟩ := h; rfl)
theorem R_len_Reader_read_count {c : CA} {as : List Ag} {o : Out} (h : R_Reader_read_count c as o) : as.length = 1 := by first | (obtain ⟨rfl, _⟩ := h; rfl) | (obtain ⟨_, rfl, _⟩ := h; rfl) | (obtain ⟨_, _, rfl, _⟩ := h; rfl) | (obtain ⟨_, _, _, rfl, _⟩ := h; rfl) | (obtain ⟨_, _, _, _, rfl, _⟩ := h; rfl) | (obtain ⟨_, _, _, _, _, rfl, _⟩ := h; rfl) | (obtain ⟨_, _, _, _, _, _, rfl, _⟩ := h; rfl) | (obtain ⟨_, _, _, _, _, _, _, rfl, _⟩ := h; rfl) | (obtain ⟨_, _, _, _, _, _, _, _, rfl, _⟩ := h; rfl) | (obtain ⟨_, _, _, _, _, _, _, _, _, rfl, _⟩ := h; rfl) | (obtain ⟨_, _, _, _, _, _, _, _, _, _, rfl, _⟩ := h; rfl) | (obtain ⟨_, _, _, _, _, _, _, _, _, _, _, rfl, _⟩ := h; rfl) | (obtain ⟨_, _, _, _, _, _, _, _, _, _, _, _, rfl, _⟩ := h; rfl) | (obtain ⟨_, _, _, _, _, _, _, _, _, _, _, _, _, rfl, _⟩ := h; rfl)
theorem R_len_Reader_read_character {c : CA} {as : List Ag} {o : Out} (h : R_Reader_read_character c as o) : as.length = 1 := by first | (obtain ⟨rfl, _⟩ := h; rfl) | (obtain ⟨_, rfl, _⟩ := h; rfl) | (obtain ⟨_, _, rfl, _⟩ := h; rfl) | (obtain ⟨_, _, _, rfl, _⟩ := h; rfl) | (obtain ⟨_, _, _, _, rfl, _⟩ := h; rfl) | (obtain ⟨_, _, _, _, _, rfl, _⟩ := h; rfl) | (obtain ⟨_, _, _, _, _, _, rfl, _⟩ := h; rfl) | (obtain ⟨_, _, _, _, _, _, _, rfl, _⟩ := h; rfl) | (obtain ⟨_, _, _, _, _, _, _, _, rfl, _⟩ := h; rfl) | (obtain ⟨_, _, _, _, _, _, _, _, _, rfl, _⟩ := h; rfl) | (obtain ⟨_, _, _, _, _, _, _, _, _, _, rfl, _⟩ := h; rfl) | (obtain ⟨_, _, _, _, _, _, _, _, _, _, _, rfl, _⟩ := h; rfl) | (obtain ⟨_, _, _, _, _, _, _, _, _, _, _, _, rfl, _⟩ := h; rfl) | (obtain ⟨_, _, _, _, _, _, _, _, _, _, _, _, _, rfl, _⟩ := h; rfl)
theorem R_len_Reader_read_string {c : CA} {as : List Ag} {o : Out} (h : R_Reader_read_string c as o) : as.length = 1 := by first | (obtain ⟨rfl, _⟩ := h; rfl) | (obtain ⟨_, rfl, _⟩ := h; rfl) | (obtain ⟨_, _, rfl, _⟩ := h; rfl) | (obtain ⟨_, _, _, rfl, _⟩ := h; rfl) | (obtain ⟨_, _, _, _, rfl, _⟩ := h; rfl) | (obtain ⟨_, _, _, _, _, rfl, _⟩ := h; rfl) | (obtain ⟨_, _, _, _, _, _, rfl, _⟩ := h; rfl) | (obtain ⟨_, _, _, _, _, _, _, rfl, _⟩ := h; rfl) | (obtain ⟨_, _, _, _, _, _, _, _, rfl, _⟩ := h; rfl) | (obtain ⟨_, _, _, _, _, _, _, _, _, rfl, _⟩ := h; rfl) | (obtain ⟨_, _, _, _, _, _, _, _, _, _, rfl, _⟩ := h; rfl) | (obtain ⟨_, _, _, _, _, _, _, _, _, _, _, rfl, _⟩ := h; rfl) | (obtain ⟨_, _, _, _, _, _, _, _, _, _, _, _, rfl, _⟩ := h; rfl) | (obtain ⟨_, _, _, _, _, _, _, _, _, _, _, _, _, rfl, _⟩ := h; rfl)
theorem R_len_Reader_read_mark {c : CA} {as : List Ag} {o : Out} (h : R_Reader_read_mark c as o) : as.length = 1 := by first | (obtain ⟨rfl, _⟩ := h; rfl) | (obtain ⟨_, rfl, _⟩ := h; rfl) | (obtain ⟨_, _, rfl, _⟩ := h; rfl) | (obtain ⟨_, _, _, rfl, _⟩ := h; rfl) | (obtain ⟨_, _, _, _, rfl, _⟩ := h; rfl) | (obtain ⟨_, _, _, _, _, rfl, _⟩ := h; rfl) | (obtain ⟨_, _, _, _, _, _, rfl, _⟩ := h; rfl) | (obtain ⟨_, _, _, _, _, _, _, rfl, _⟩ := h; rfl) | (obtain ⟨_, _, _, _, _, _, _, _, rfl, _⟩ := h; rfl) | (obtain ⟨_, _, _, _, _, _, _, _, _, rfl, _⟩ := h; rfl) | (obtain ⟨_, _, _, _, _, _, _, _, _, _, rfl, _⟩ := h; rfl) | (obtain ⟨_, _, _, _, _, _, _, _, _, _, _, rfl, _⟩ := h; rfl) | (obtain ⟨_, _, _, _, _, _, _, _, _, _, _, _, rfl, _⟩ := h; rfl) | (obtain ⟨_, _, _, _, _, _, _, _, _, _, _, _, _, rfl, _⟩ := h; rfl)
theorem R_len_Reader_read_deed {c : CA} {as : List Ag} {o : Out} (h : R_Reader_read_deed c as o) : as.length = 1 := by first | (obtain ⟨rfl, _⟩ := h; rfl) | (obtain ⟨_, rfl, _⟩ := h; rfl) | (obtain ⟨_, _, rfl, _⟩ := h; rfl) | (obtain ⟨_, _, _, rfl, _⟩ := h; rfl) | (obtain ⟨_, _, _, _, rfl, _⟩ := h; rfl) | (obtain ⟨_, _, _, _, _, rfl, _⟩ := h; rfl) | (obtain ⟨_, _, _, _, _, _, rfl, _⟩ := h; rfl) | (obtain ⟨_, _, _, _, _, _, _, rfl, _⟩ := h; rfl) | (obtain ⟨_, _, _, _, _, _, _, _, rfl, _⟩ := h; rfl) | (obtain ⟨_, _, _, _, _, _, _, _, _, rfl, _⟩ := h; rfl) | (obtain ⟨_, _, _, _, _, _, _, _, _, _, rfl, _⟩ := h; rfl) | (obtain ⟨_, _, _, _, _, _, _, _, _, _, _, rfl, _⟩ := h; rfl) | (obtain ⟨_, _, _, _, _, _, _, _, _, _, _, _, rfl, _⟩ := h; rfl) | (obtain ⟨_, _, _, _, _, _, _, _, _, _, _, _, _, rfl, _⟩ := h; rfl)
theorem R_len_Reader_read_triple {c : CA} {as : List Ag} {o : Out} (h : R_Reader_read_triple c as o) : as.length = 1 := by first | (obtain ⟨rfl, _⟩ := h; rfl) | (obtain ⟨_, rfl, _⟩ := h; rfl) | (obtain ⟨_, _, rfl, _⟩ := h; rfl) | (obtain ⟨_, _, _, rfl, _⟩ := h; rfl) | (obtain ⟨_, _, _, _, rfl, _⟩ := h; rfl) | (obtain ⟨_, _, _, _, _, rfl, _⟩ := h; rfl) | (obtain ⟨_, _, _, _, _, _, rfl, _⟩ := h; rfl) | (obtain ⟨_, _, _, _, _, _, _, rfl, _⟩ := h; rfl) | (obtain ⟨_, _, _, _, _, _, _, _, rfl, _⟩ := h; rfl) | (obtain ⟨_, _, _, _, _, _, _, _, _, rfl, _⟩ := h; rfl) | (obtain ⟨_, _, _, _, _, _, _, _, _, _, rfl, _⟩ := h; rfl) | (obtain ⟨_, _, _, _, _, _, _, _, _, _, _, rfl, _⟩ := h; rfl) | (obtain ⟨_, _, _, _, _, _, _, _, _, _, _, _, rfl, _⟩ := h; rfl) | (obtain ⟨_, _, _, _, _, _, _, _, _, _, _, _, _, rfl, _⟩ := h; rfl)
theorem R_len_Reader_read_triples {c : CA} {as : List Ag} {o : Out} (h : R_Reader_read_triples c as o) : as.length = 1 := by first | (obtain ⟨rfl, _⟩ := h; rfl) | (obtain ⟨_, rfl, _⟩ := h; rfl) | (obtain ⟨_, _, rfl, _⟩ := h; rfl) | (obtain ⟨_, _, _, rfl, _⟩ := h; rfl) | (obtain ⟨_, _, _, _, rfl, _⟩ := h; rfl) | (obtain ⟨_, _, _, _, _, rfl, _⟩ := h; rfl) | (obtain ⟨_, _, _, _, _, _, rfl, _⟩ := h; rfl) | (obtain ⟨_, _, _, _, _, _, _, rfl, _⟩ := h; rfl) | (obtain ⟨_, _, _, _, _, _, _, _, rfl, _⟩ := h; rfl) | (obtain ⟨_, _, _, _, _, _, _, _, _, rfl, _⟩ := h; rfl) | (obtain ⟨_, _, _, _, _, _, _, _, _, _, rfl, _⟩ := h; rfl) | (obtain ⟨_, _, _, _, _, _, _, _, _, _, _, rfl, _⟩ := h; rfl) | (obtain ⟨_, _, _, _, _, _, _, _, _, _, _, _, rfl, _⟩ := h; rfl) | (obtain ⟨_, _, _, _, _, _, _, _, _, _, _, _, _, rfl, _⟩ := h; rfl)
theorem R_len_Reader_read_packet {c : CA} {as : List Ag} {o : Out} (h : R_Reader_read_packet c as o) : as.length = 1 := by first | (obtain ⟨rfl, _⟩ := h; rfl) | (obtain ⟨_, rfl, _⟩ := h; rfl) | (obtain ⟨_, _, rfl, _⟩ := h; rfl) | (obtain ⟨_, _, _, rfl, _⟩ := h; rfl) | (obtain ⟨_, _, _, _, rfl, _⟩ := h; rfl) | (obtain ⟨_, _, _, _, _, rfl, _⟩ := h; rfl) | (obtain ⟨_, _, _, _, _, _, rfl, _⟩ := h; rfl) | (obtain ⟨_, _, _, _, _, _, _, rfl, _⟩ := h; rfl) | (obtain ⟨_, _, _, _, _, _, _, _, rfl, _⟩ := h; rfl) | (obtain ⟨_, _, _, _, _, _, _, _, _, rfl, _⟩ := h; rfl) | (obtain ⟨_, _, _, _, _, _, _, _, _, _, rfl, _⟩ := h; rfl) | (obtain ⟨_, _, _, _, _, _, _, _, _, _, _, rfl, _⟩ := h; rfl) | (obtain ⟨_, _, _, _, _, _, _, _, _, _, _, _, rfl, _⟩ := h; rfl) | (obtain ⟨_, _, _, _, _, _, _, _, _, _, _, _, _, rfl, _⟩ := h; rfl)
theorem R_len_write_number {as : List Ag} {o : Out} (h : R_write_number as o) : as.length = 1 := by first | (obtain ⟨rfl, _⟩ := h; rfl) | (obtain ⟨_, rfl, _⟩ := h; rfl) | (obtain ⟨_, _, rfl, _⟩ := h; rfl) | (obtain ⟨_, _, _, rfl, _⟩ := h; rfl) | (obtain ⟨_, _, _, _, rfl, _⟩ := h; rfl) | (obtain ⟨_, _, _, _, _, rfl, _⟩ := h; rfl) | (obtain ⟨_, _, _, _, _, _, rfl, _⟩ := h; rfl) | (obtain ⟨_, _, _, _, _, _, _, rfl, _⟩ := h; rfl) | (obtain ⟨_, _, _, _, _, _, _, _, rfl, _⟩ := h; rfl) | (obtain ⟨_, _, _, _, _, _, _, _, _, rfl, _⟩ := h; rfl) | (obtain ⟨_, _, _, _, _, _, _, _, _, _, rfl, _⟩ := h; rfl) | (obtain ⟨_, _, _, _, _, _, _, _, _, _, _, rfl, _⟩ := h; rfl) | (obtain ⟨_, _, _, _, _, _, _, _, _, _, _, _, rfl, _⟩ := h; rfl) | (obtain ⟨_, _, _, _, _, _, _, _, _, _, _, _, _, rfl, _⟩ := h; rfl)
theorem R_len_write_list {as : List Ag} {o : Out} (h : R_write_list as o) : as.length = 1 := by first | (obtain ⟨rfl, _⟩ := h; rfl) | (obtain ⟨_, rfl, _⟩ := h; rfl) | (obtain ⟨_, _, rfl, _⟩ := h; rfl) | (obtain ⟨_, _, _, rfl, _⟩ := h; rfl) | (obtain ⟨_, _, _, _, rfl, _⟩ := h; rfl) | (obtain ⟨_, _, _, _, _, rfl, _⟩ := h; rfl) | (obtain ⟨_, _, _, _, _, _, rfl, _⟩ := h; rfl) | (obtain ⟨_, _, _, _, _, _, _, rfl, _⟩ := h; rfl) | (obtain ⟨_, _, _, _, _, _, _, _, rfl, _⟩ := h; rfl) | (obtain ⟨_, _, _, _, _, _, _, _, _, rfl, _⟩ := h; rfl) | (obtain ⟨_, _, _, _, _, _, _, _, _, _, rfl, _⟩ := h; rfl) | (obtain ⟨_, _, _, _, _, _, _, _, _, _, _, rfl, _⟩ := h; rfl) | (obtain ⟨_, _, _, _, _, _, _, _, _, _, _, _, rfl, _⟩ := h; rfl) | (obtain ⟨_, _, _, _, _, _, _, _, _, _, _, _, _, rfl, _⟩ := h; rfl)
theorem R_len_write_string {as : List Ag} {o : Out} (h : R_write_string as o) : as.length = 1 := by first | (obtain ⟨rfl, _⟩ := h; rfl) | (obtain ⟨_, rfl, _⟩ := h; rfl) | (obtain ⟨_, _, rfl, _⟩ := h; rfl) | (obtain ⟨_, _, _, rfl, _⟩ := h; rfl) | (obtain ⟨_, _, _, _, rfl, _⟩ := h; rfl) | (obtain ⟨_, _, _, _, _, rfl, _⟩ := h; rfl) | (obtain ⟨_, _, _, _, _, _, rfl, _⟩ := h; rfl) | (obtain ⟨_, _, _, _, _, _, _, rfl, _⟩ := h; rfl) | (obtain ⟨_, _, _, _, _, _, _, _, rfl, _⟩ := h; rfl) | (obtain ⟨_, _, _, _, _, _, _, _, _, rfl, _⟩ := h; rfl) | (obtain ⟨_, _, _, _, _, _, _, _, _, _, rfl, _⟩ := h; rfl) | (obtain ⟨_, _, _, _, _, _, _, _, _, _, _, rfl, _⟩ := h; rfl) | (obtain ⟨_, _, _, _, _, _, _, _, _, _, _, _, rfl, _⟩ := h; rfl) | (obtain ⟨_, _, _, _, _, _, _, _, _, _, _, _, _, rfl, _⟩ := h; rfl)
theorem R_len_write_mark {as : List Ag} {o : Out} (h : R_write_mark as o) : as.length = 1 := by first | (obtain ⟨rfl, _⟩ := h; rfl) | (obtain ⟨_, rfl, _⟩ := h; rfl) | (obtain ⟨_, _, rfl, _⟩ := h; rfl) | (obtain ⟨_, _, _, rfl, _⟩ := h; rfl) | (obtain ⟨_, _, _, _, rfl, _⟩ := h; rfl) | (obtain ⟨_, _, _, _, _, rfl, _⟩ := h; rfl) | (obtain ⟨_, _, _, _, _, _, rfl, _⟩ := h; rfl) | (obtain ⟨_, _, _, _, _, _, _, rfl, _⟩ := h; rfl) | (obtain ⟨_, _, _, _, _, _, _, _, rfl, _⟩ := h; rfl) | (obtain ⟨_, _, _, _, _, _, _, _, _, rfl, _⟩ := h; rfl) | (obtain ⟨_, _, _, _, _, _, _, _, _, _, rfl, _⟩ := h; rfl) | (obtain ⟨_, _, _, _, _, _, _, _, _, _, _, rfl, _⟩ := h; rfl) | (obtain ⟨_, _, _, _, _, _, _, _, _, _, _, _, rfl, _⟩ := h; rfl) | (obtain ⟨_, _, _, _, _, _, _, _, _, _, _, _, _, rfl, _⟩ := h; rfl)
theorem R_len_write_deed {as : List Ag} {o : Out} (h : R_write_deed as o) : as.length = 1 := by first | (obtain ⟨rfl, _⟩ := h; rfl) | (obtain ⟨_, rfl, _⟩ := h; rfl) | (obtain ⟨_, _, rfl, _⟩ := h; rfl) | (obtain ⟨_, _, _, rfl, _⟩ := h; rfl) | (obtain ⟨_, _, _, _, rfl, _⟩ := h; rfl) | (obtain ⟨_, _, _, _, _, rfl, _⟩ := h; rfl) | (obtain ⟨_, _, _, _, _, _, rfl, _⟩ := h; rfl) | (obtain ⟨_, _, _, _, _, _, _, rfl, _⟩ := h; rfl) | (obtain ⟨_, _, _, _, _, _, _, _, rfl, _⟩ := h; rfl) | (obtain ⟨_, _, _, _, _, _, _, _, _, rfl, _⟩ := h; rfl) | (obtain ⟨_, _, _, _, _, _, _, _, _, _, rfl, _⟩ := h; rfl) | (obtain ⟨_, _, _, _, _, _, _, _, _, _, _, rfl, _⟩ := h; rfl) | (obtain ⟨_, _, _, _, _, _, _, _, _, _, _, _, rfl, _⟩ := h; rfl) | (obtain ⟨_, _, _, _, _, _, _, _, _, _, _, _, _, rfl, _⟩ := h; rfl)
theorem R_len_write_triples {as : List Ag} {o : Out} (h : R_write_triples as o) : as.length = 1 := by first | (obtain ⟨rfl, _⟩ := h; rfl) | (obtain ⟨_, rfl, _⟩ := h; rfl) | (obtain ⟨_, _, rfl, _⟩ := h; rfl) | (obtain ⟨_, _, _, rfl, _⟩ := h; rfl) | (obtain ⟨_, _, _, _, rfl, _⟩ := h; rfl) | (obtain ⟨_, _, _, _, _, rfl, _⟩ := h; rfl) | (obtain ⟨_, _, _, _, _, _, rfl, _⟩ := h; rfl) | (obtain ⟨_, _, _, _, _, _, _, rfl, _⟩ := h; rfl) | (obtain ⟨_, _, _, _, _, _, _, _, rfl, _⟩ := h; rfl) | (obtain ⟨_, _, _, _, _, _, _, _, _, rfl, _⟩ := h; rfl) | (obtain ⟨_, _, _, _, _, _, _, _, _, _, rfl, _⟩ := h; rfl) | (obtain ⟨_, _, _, _, _, _, _, _, _, _, _, rfl, _⟩ := h; rfl) | (obtain ⟨_, _, _, _, _, _, _, _, _, _, _, _, rfl, _⟩ := h; rfl) | (obtain ⟨_, _, _, _, _, _, _, _, _, _, _, _, _, rfl, _⟩ := h; rfl)
theorem R_len_write_packet {as : List Ag} {o : Out} (h : R_write_packet as o) : as.length = 1 := by first | (obtain ⟨rfl, _⟩ := h; rfl) | (obtain ⟨_, rfl, _⟩ := h; rfl) | (obtain ⟨_, _, rfl, _⟩ := h; rfl) | (obtain ⟨_, _, _, rfl, _⟩ := h; rfl) | (obtain ⟨_, _, _, _, rfl, _⟩ := h; rfl) | (obtain ⟨_, _, _, _, _, rfl, _⟩ := h; rfl) | (obtain ⟨_, _, _, _, _, _, rfl, _⟩ := h; rfl) | (obtain ⟨_, _, _, _, _, _, _, rfl, _⟩ := h; rfl) | (obtain ⟨_, _, _, _, _, _, _, _, rfl, _⟩ := h; rfl) | (obtain ⟨_, _, _, _, _, _, _, _, _, rfl, _⟩ := h; rfl) | (obtain ⟨_, _, _, _, _, _, _, _, _, _, rfl, _⟩ := h; rfl) | (obtain ⟨_, _, _, _, _, _, _, _, _, _, _, rfl, _⟩ := h; rfl) | (obtain ⟨_, _, _, _, _, _, _, _, _, _, _, _, rfl, _⟩ := h; rfl) | (obtain ⟨_, _, _, _, _, _, _, _, _, _, _, _, _, rfl, _⟩ := h; rfl)
theorem R_len_law_next {as : List Ag} {o : Out} (h : R_law_next as o) : as.length = 2 := by first | (obtain ⟨rfl, _⟩ := h; rfl) | (obtain ⟨_, rfl, _⟩ := h; rfl) | (obtain ⟨_, _, rfl, _⟩ := h; rfl) | (obtain ⟨_, _, _, rfl, _⟩ := h; rfl) | (obtain ⟨_, _, _, _, rfl, _⟩ := h; rfl) | (obtain ⟨_, _, _, _, _, rfl, _⟩ := h; rfl) | (obtain ⟨_, _, _, _, _, _, rfl, _⟩ := h; rfl) | (obtain ⟨_, _, _, _, _, _, _, rfl, _⟩ := h; rfl) | (obtain ⟨_, _, _, _, _, _, _, _, rfl, _⟩ := h; rfl) | (obtain ⟨_, _, _, _, _, _, _, _, _, rfl, _⟩ := h; rfl) | (obtain ⟨_, _, _, _, _, _, _, _, _, _, rfl, _⟩ := h; rfl) | (obtain ⟨_, _, _, _, _, _, _, _, _, _, _, rfl, _⟩ := h; rfl) | (obtain ⟨_, _, _, _, _, _, _, _, _, _, _, _, rfl, _⟩ := h; rfl) | (obtain ⟨_, _, _, _, _, _, _, _, _, _, _, _, _, rfl, _⟩ := h; rfl)
theorem R_len_law_same {n : Nat} {as : List Ag} {o : Out} (h : R_law_same n as o) : as.length = 2 := by first | (obtain ⟨rfl, _⟩ := h; rfl) | (obtain ⟨_, rfl, _⟩ := h; rfl) | (obtain ⟨_, _, rfl, _⟩ := h; rfl) | (obtain ⟨_, _, _, rfl, _⟩ := h; rfl) | (obtain ⟨_, _, _, _, rfl, _⟩ := h; rfl) | (obtain ⟨_, _, _, _, _, rfl, _⟩ := h; rfl) | (obtain ⟨_, _, _, _, _, _, rfl, _⟩ := h; rfl) | (obtain ⟨_, _, _, _, _, _, _, rfl, _⟩ := h; rfl) | (obtain ⟨_, _, _, _, _, _, _, _, rfl, _⟩ := h; rfl) | (obtain ⟨_, _, _, _, _, _, _, _, _, rfl, _⟩ := h; rfl) | (obtain ⟨_, _, _, _, _, _, _, _, _, _, rfl, _⟩ := h; rfl) | (obtain ⟨_, _, _, _, _, _, _, _, _, _, _, rfl, _⟩ := h; rfl) | (obtain ⟨_, _, _, _, _, _, _, _, _, _, _, _, rfl, _⟩ := h; rfl) | (obtain ⟨_, _, _, _, _, _, _, _, _, _, _, _, _, rfl, _⟩ := h; rfl)
theorem R_len_law_number {as : List Ag} {o : Out} (h : R_law_number as o) : as.length = 1 := by first | (obtain ⟨rfl, _⟩ := h; rfl) | (obtain ⟨_, rfl, _⟩ := h; rfl) | (obtain ⟨_, _, rfl, _⟩ := h; rfl) | (obtain ⟨_, _, _, rfl, _⟩ := h; rfl) | (obtain ⟨_, _, _, _, rfl, _⟩ := h; rfl) | (obtain ⟨_, _, _, _, _, rfl, _⟩ := h; rfl) | (obtain ⟨_, _, _, _, _, _, rfl, _⟩ := h; rfl) | (obtain ⟨_, _, _, _, _, _, _, rfl, _⟩ := h; rfl) | (obtain ⟨_, _, _, _, _, _, _, _, rfl, _⟩ := h; rfl) | (obtain ⟨_, _, _, _, _, _, _, _, _, rfl, _⟩ := h; rfl) | (obtain ⟨_, _, _, _, _, _, _, _, _, _, rfl, _⟩ := h; rfl) | (obtain ⟨_, _, _, _, _, _, _, _, _, _, _, rfl, _⟩ := h; rfl) | (obtain ⟨_, _, _, _, _, _, _, _, _, _, _, _, rfl, _⟩ := h; rfl) | (obtain ⟨_, _, _, _, _, _, _, _, _, _, _, _, _, rfl, _⟩ := h; rfl)
theorem R_len_law_text {as : List Ag} {o : Out} (h : R_law_text as o) : as.length = 1 := by first | (obtain ⟨rfl, _⟩ := h; rfl) | (obtain ⟨_, rfl, _⟩ := h; rfl) | (obtain ⟨_, _, rfl, _⟩ := h; rfl) | (obtain ⟨_, _, _, rfl, _⟩ := h; rfl) | (obtain ⟨_, _, _, _, rfl, _⟩ := h; rfl) | (obtain ⟨_, _, _, _, _, rfl, _⟩ := h; rfl) | (obtain ⟨_, _, _, _, _, _, rfl, _⟩ := h; rfl) | (obtain ⟨_, _, _, _, _, _, _, rfl, _⟩ := h; rfl) | (obtain ⟨_, _, _, _, _, _, _, _, rfl, _⟩ := h; rfl) | (obtain ⟨_, _, _, _, _, _, _, _, _, rfl, _⟩ := h; rfl) | (obtain ⟨_, _, _, _, _, _, _, _, _, _, rfl, _⟩ := h; rfl) | (obtain ⟨_, _, _, _, _, _, _, _, _, _, _, rfl, _⟩ := h; rfl) | (obtain ⟨_, _, _, _, _, _, _, _, _, _, _, _, rfl, _⟩ := h; rfl) | (obtain ⟨_, _, _, _, _, _, _, _, _, _, _, _, _, rfl, _⟩ := h; rfl)
theorem R_len_law_mark {as : List Ag} {o : Out} (h : R_law_mark as o) : as.length = 1 := by first | (obtain ⟨rfl, _⟩ := h; rfl) | (obtain ⟨_, rfl, _⟩ := h; rfl) | (obtain ⟨_, _, rfl, _⟩ := h; rfl) | (obtain ⟨_, _, _, rfl, _⟩ := h; rfl) | (obtain ⟨_, _, _, _, rfl, _⟩ := h; rfl) | (obtain ⟨_, _, _, _, _, rfl, _⟩ := h; rfl) | (obtain ⟨_, _, _, _, _, _, rfl, _⟩ := h; rfl) | (obtain ⟨_, _, _, _, _, _, _, rfl, _⟩ := h; rfl) | (obtain ⟨_, _, _, _, _, _, _, _, rfl, _⟩ := h; rfl) | (obtain ⟨_, _, _, _, _, _, _, _, _, rfl, _⟩ := h; rfl) | (obtain ⟨_, _, _, _, _, _, _, _, _, _, rfl, _⟩ := h; rfl) | (obtain ⟨_, _, _, _, _, _, _, _, _, _, _, rfl, _⟩ := h; rfl) | (obtain ⟨_, _, _, _, _, _, _, _, _, _, _, _, rfl, _⟩ := h; rfl) | (obtain ⟨_, _, _, _, _, _, _, _, _, _, _, _, _, rfl, _⟩ := h; rfl)
theorem R_len_law_deed {as : List Ag} {o : Out} (h : R_law_deed as o) : as.length = 1 := by first | (obtain ⟨rfl, _⟩ := h; rfl) | (obtain ⟨_, rfl, _⟩ := h; rfl) | (obtain ⟨_, _, rfl, _⟩ := h; rfl) | (obtain ⟨_, _, _, rfl, _⟩ := h; rfl) | (obtain ⟨_, _, _, _, rfl, _⟩ := h; rfl) | (obtain ⟨_, _, _, _, _, rfl, _⟩ := h; rfl) | (obtain ⟨_, _, _, _, _, _, rfl, _⟩ := h; rfl) | (obtain ⟨_, _, _, _, _, _, _, rfl, _⟩ := h; rfl) | (obtain ⟨_, _, _, _, _, _, _, _, rfl, _⟩ := h; rfl) | (obtain ⟨_, _, _, _, _, _, _, _, _, rfl, _⟩ := h; rfl) | (obtain ⟨_, _, _, _, _, _, _, _, _, _, rfl, _⟩ := h; rfl) | (obtain ⟨_, _, _, _, _, _, _, _, _, _, _, rfl, _⟩ := h; rfl) | (obtain ⟨_, _, _, _, _, _, _, _, _, _, _, _, rfl, _⟩ := h; rfl) | (obtain ⟨_, _, _, _, _, _, _, _, _, _, _, _, _, rfl, _⟩ := h; rfl)
theorem R_len_law_triples {as : List Ag} {o : Out} (h : R_law_triples as o) : as.length = 1 := by first | (obtain ⟨rfl, _⟩ := h; rfl) | (obtain ⟨_, rfl, _⟩ := h; rfl) | (obtain ⟨_, _, rfl, _⟩ := h; rfl) | (obtain ⟨_, _, _, rfl, _⟩ := h; rfl) | (obtain ⟨_, _, _, _, rfl, _⟩ := h; rfl) | (obtain ⟨_, _, _, _, _, rfl, _⟩ := h; rfl) | (obtain ⟨_, _, _, _, _, _, rfl, _⟩ := h; rfl) | (obtain ⟨_, _, _, _, _, _, _, rfl, _⟩ := h; rfl) | (obtain ⟨_, _, _, _, _, _, _, _, rfl, _⟩ := h; rfl) | (obtain ⟨_, _, _, _, _, _, _, _, _, rfl, _⟩ := h; rfl) | (obtain ⟨_, _, _, _, _, _, _, _, _, _, rfl, _⟩ := h; rfl) | (obtain ⟨_, _, _, _, _, _, _, _, _, _, _, rfl, _⟩ := h; rfl) | (obtain ⟨_, _, _, _, _, _, _, _, _, _, _, _, rfl, _⟩ := h; rfl) | (obtain ⟨_, _, _, _, _, _, _, _, _, _, _, _, _, rfl, _⟩ := h; rfl)
theorem R_len_law_read_number {as : List Ag} {o : Out} (h : R_law_read_number as o) : as.length = 2 := by first | (obtain ⟨rfl, _⟩ := h; rfl) | (obtain ⟨_, rfl, _⟩ := h; rfl) | (obtain ⟨_, _, rfl, _⟩ := h; rfl) | (obtain ⟨_, _, _, rfl, _⟩ := h; rfl) | (obtain ⟨_, _, _, _, rfl, _⟩ := h; rfl) | (obtain ⟨_, _, _, _, _, rfl, _⟩ := h; rfl) | (obtain ⟨_, _, _, _, _, _, rfl, _⟩ := h; rfl) | (obtain ⟨_, _, _, _, _, _, _, rfl, _⟩ := h; rfl) | (obtain ⟨_, _, _, _, _, _, _, _, rfl, _⟩ := h; rfl) | (obtain ⟨_, _, _, _, _, _, _, _, _, rfl, _⟩ := h; rfl) | (obtain ⟨_, _, _, _, _, _, _, _, _, _, rfl, _⟩ := h; rfl) | (obtain ⟨_, _, _, _, _, _, _, _, _, _, _, rfl, _⟩ := h; rfl) | (obtain ⟨_, _, _, _, _, _, _, _, _, _, _, _, rfl, _⟩ := h; rfl) | (obtain ⟨_, _, _, _, _, _, _, _, _, _, _, _, _, rfl, _⟩ := h; rfl)
theorem R_len_law_sign {as : List Ag} {o : Out} (h : R_law_sign as o) : as.length = 1 := by first | (obtain ⟨rfl, _⟩ := h; rfl) | (obtain ⟨_, rfl, _⟩ := h; rfl) | (obtain ⟨_, _, rfl, _⟩ := h; rfl) | (obtain ⟨_, _, _, rfl, _⟩ := h; rfl) | (obtain ⟨_, _, _, _, rfl, _⟩ := h; rfl) | (obtain ⟨_, _, _, _, _, rfl, _⟩ := h; rfl) | (obtain ⟨_, _, _, _, _, _, rfl, _⟩ := h; rfl) | (obtain ⟨_, _, _, _, _, _, _, rfl, _⟩ := h; rfl) | (obtain ⟨_, _, _, _, _, _, _, _, rfl, _⟩ := h; rfl) | (obtain ⟨_, _, _, _, _, _, _, _, _, rfl, _⟩ := h; rfl) | (obtain ⟨_, _, _, _, _, _, _, _, _, _, rfl, _⟩ := h; rfl) | (obtain ⟨_, _, _, _, _, _, _, _, _, _, _, rfl, _⟩ := h; rfl) | (obtain ⟨_, _, _, _, _, _, _, _, _, _, _, _, rfl, _⟩ := h; rfl) | (obtain ⟨_, _, _, _, _, _, _, _, _, _, _, _, _, rfl, _⟩ := h; rfl)
theorem R_len_law_read_text {as : List Ag} {o : Out} (h : R_law_read_text as o) : as.length = 2 := by first | (obtain ⟨rfl, _⟩ := h; rfl) | (obtain ⟨_, rfl, _⟩ := h; rfl) | (obtain ⟨_, _, rfl, _⟩ := h; rfl) | (obtain ⟨_, _, _, rfl, _⟩ := h; rfl) | (obtain ⟨_, _, _, _, rfl, _⟩ := h; rfl) | (obtain ⟨_, _, _, _, _, rfl, _⟩ := h; rfl) | (obtain ⟨_, _, _, _, _, _, rfl, _⟩ := h; rfl) | (obtain ⟨_, _, _, _, _, _, _, rfl, _⟩ := h; rfl) | (obtain ⟨_, _, _, _, _, _, _, _, rfl, _⟩ := h; rfl) | (obtain ⟨_, _, _, _, _, _, _, _, _, rfl, _⟩ := h; rfl) | (obtain ⟨_, _, _, _, _, _, _, _, _, _, rfl, _⟩ := h; rfl) | (obtain ⟨_, _, _, _, _, _, _, _, _, _, _, rfl, _⟩ := h; rfl) | (obtain ⟨_, _, _, _, _, _, _, _, _, _, _, _, rfl, _⟩ := h; rfl) | (obtain ⟨_, _, _, _, _, _, _, _, _, _, _, _, _, rfl, _⟩ := h; rfl)
theorem R_len_law_read_mark {as : List Ag} {o : Out} (h : R_law_read_mark as o) : as.length = 2 := by first | (obtain ⟨rfl, _⟩ := h; rfl) | (obtain ⟨_, rfl, _⟩ := h; rfl) | (obtain ⟨_, _, rfl, _⟩ := h; rfl) | (obtain ⟨_, _, _, rfl, _⟩ := h; rfl) | (obtain ⟨_, _, _, _, rfl, _⟩ := h; rfl) | (obtain ⟨_, _, _, _, _, rfl, _⟩ := h; rfl) | (obtain ⟨_, _, _, _, _, _, rfl, _⟩ := h; rfl) | (obtain ⟨_, _, _, _, _, _, _, rfl, _⟩ := h; rfl) | (obtain ⟨_, _, _, _, _, _, _, _, rfl, _⟩ := h; rfl) | (obtain ⟨_, _, _, _, _, _, _, _, _, rfl, _⟩ := h; rfl) | (obtain ⟨_, _, _, _, _, _, _, _, _, _, rfl, _⟩ := h; rfl) | (obtain ⟨_, _, _, _, _, _, _, _, _, _, _, rfl, _⟩ := h; rfl) | (obtain ⟨_, _, _, _, _, _, _, _, _, _, _, _, rfl, _⟩ := h; rfl) | (obtain ⟨_, _, _, _, _, _, _, _, _, _, _, _, _, rfl, _⟩ := h; rfl)
theorem R_len_law_read_deed {as : List Ag} {o : Out} (h : R_law_read_deed as o) : as.length = 2 := by first | (obtain ⟨rfl, _⟩ := h; rfl) | (obtain ⟨_, rfl, _⟩ := h; rfl) | (obtain ⟨_, _, rfl, _⟩ := h; rfl) | (obtain ⟨_, _, _, rfl, _⟩ := h; rfl) | (obtain ⟨_, _, _, _, rfl, _⟩ := h; rfl) | (obtain ⟨_, _, _, _, _, rfl, _⟩ := h; rfl) | (obtain ⟨_, _, _, _, _, _, rfl, _⟩ := h; rfl) | (obtain ⟨_, _, _, _, _, _, _, rfl, _⟩ := h; rfl) | (obtain ⟨_, _, _, _, _, _, _, _, rfl, _⟩ := h; rfl) | (obtain ⟨_, _, _, _, _, _, _, _, _, rfl, _⟩ := h; rfl) | (obtain ⟨_, _, _, _, _, _, _, _, _, _, rfl, _⟩ := h; rfl) | (obtain ⟨_, _, _, _, _, _, _, _, _, _, _, rfl, _⟩ := h; rfl) | (obtain ⟨_, _, _, _, _, _, _, _, _, _, _, _, rfl, _⟩ := h; rfl) | (obtain ⟨_, _, _, _, _, _, _, _, _, _, _, _, _, rfl, _⟩ := h; rfl)
theorem R_len_law_read_triples {as : List Ag} {o : Out} (h : R_law_read_triples as o) : as.length = 2 := by first | (obtain ⟨rfl, _⟩ := h; rfl) | (obtain ⟨_, rfl, _⟩ := h; rfl) | (obtain ⟨_, _, rfl, _⟩ := h; rfl) | (obtain ⟨_, _, _, rfl, _⟩ := h; rfl) | (obtain ⟨_, _, _, _, rfl, _⟩ := h; rfl) | (obtain ⟨_, _, _, _, _, rfl, _⟩ := h; rfl) | (obtain ⟨_, _, _, _, _, _, rfl, _⟩ := h; rfl) | (obtain ⟨_, _, _, _, _, _, _, rfl, _⟩ := h; rfl) | (obtain ⟨_, _, _, _, _, _, _, _, rfl, _⟩ := h; rfl) | (obtain ⟨_, _, _, _, _, _, _, _, _, rfl, _⟩ := h; rfl) | (obtain ⟨_, _, _, _, _, _, _, _, _, _, rfl, _⟩ := h; rfl) | (obtain ⟨_, _, _, _, _, _, _, _, _, _, _, rfl, _⟩ := h; rfl) | (obtain ⟨_, _, _, _, _, _, _, _, _, _, _, _, rfl, _⟩ := h; rfl) | (obtain ⟨_, _, _, _, _, _, _, _, _, _, _, _, _, rfl, _⟩ := h; rfl)
theorem R_len_law_read_packet {as : List Ag} {o : Out} (h : R_law_read_packet as o) : as.length = 2 := by first | (obtain ⟨rfl, _⟩ := h; rfl) | (obtain ⟨_, rfl, _⟩ := h; rfl) | (obtain ⟨_, _, rfl, _⟩ := h; rfl) | (obtain ⟨_, _, _, rfl, _⟩ := h; rfl) | (obtain ⟨_, _, _, _, rfl, _⟩ := h; rfl) | (obtain ⟨_, _, _, _, _, rfl, _⟩ := h; rfl) | (obtain ⟨_, _, _, _, _, _, rfl, _⟩ := h; rfl) | (obtain ⟨_, _, _, _, _, _, _, rfl, _⟩ := h; rfl) | (obtain ⟨_, _, _, _, _, _, _, _, rfl, _⟩ := h; rfl) | (obtain ⟨_, _, _, _, _, _, _, _, _, rfl, _⟩ := h; rfl) | (obtain ⟨_, _, _, _, _, _, _, _, _, _, rfl, _⟩ := h; rfl) | (obtain ⟨_, _, _, _, _, _, _, _, _, _, _, rfl, _⟩ := h; rfl) | (obtain ⟨_, _, _, _, _, _, _, _, _, _, _, _, rfl, _⟩ := h; rfl) | (obtain ⟨_, _, _, _, _, _, _, _, _, _, _, _, _, rfl, _⟩ := h; rfl)
theorem R_len_law_drawn_number {as : List Ag} {o : Out} (h : R_law_drawn_number as o) : as.length = 1 := by first | (obtain ⟨rfl, _⟩ := h; rfl) | (obtain ⟨_, rfl, _⟩ := h; rfl) | (obtain ⟨_, _, rfl, _⟩ := h; rfl) | (obtain ⟨_, _, _, rfl, _⟩ := h; rfl) | (obtain ⟨_, _, _, _, rfl, _⟩ := h; rfl) | (obtain ⟨_, _, _, _, _, rfl, _⟩ := h; rfl) | (obtain ⟨_, _, _, _, _, _, rfl, _⟩ := h; rfl) | (obtain ⟨_, _, _, _, _, _, _, rfl, _⟩ := h; rfl) | (obtain ⟨_, _, _, _, _, _, _, _, rfl, _⟩ := h; rfl) | (obtain ⟨_, _, _, _, _, _, _, _, _, rfl, _⟩ := h; rfl) | (obtain ⟨_, _, _, _, _, _, _, _, _, _, rfl, _⟩ := h; rfl) | (obtain ⟨_, _, _, _, _, _, _, _, _, _, _, rfl, _⟩ := h; rfl) | (obtain ⟨_, _, _, _, _, _, _, _, _, _, _, _, rfl, _⟩ := h; rfl) | (obtain ⟨_, _, _, _, _, _, _, _, _, _, _, _, _, rfl, _⟩ := h; rfl)
theorem R_len_law_drawn_text {as : List Ag} {o : Out} (h : R_law_drawn_text as o) : as.length = 1 := by first | (obtain ⟨rfl, _⟩ := h; rfl) | (obtain ⟨_, rfl, _⟩ := h; rfl) | (obtain ⟨_, _, rfl, _⟩ := h; rfl) | (obtain ⟨_, _, _, rfl, _⟩ := h; rfl) | (obtain ⟨_, _, _, _, rfl, _⟩ := h; rfl) | (obtain ⟨_, _, _, _, _, rfl, _⟩ := h; rfl) | (obtain ⟨_, _, _, _, _, _, rfl, _⟩ := h; rfl) | (obtain ⟨_, _, _, _, _, _, _, rfl, _⟩ := h; rfl) | (obtain ⟨_, _, _, _, _, _, _, _, rfl, _⟩ := h; rfl) | (obtain ⟨_, _, _, _, _, _, _, _, _, rfl, _⟩ := h; rfl) | (obtain ⟨_, _, _, _, _, _, _, _, _, _, rfl, _⟩ := h; rfl) | (obtain ⟨_, _, _, _, _, _, _, _, _, _, _, rfl, _⟩ := h; rfl) | (obtain ⟨_, _, _, _, _, _, _, _, _, _, _, _, rfl, _⟩ := h; rfl) | (obtain ⟨_, _, _, _, _, _, _, _, _, _, _, _, _, rfl, _⟩ := h; rfl)
theorem R_len_law_drawn_deed {as : List Ag} {o : Out} (h : R_law_drawn_deed as o) : as.length = 1 := by first | (obtain ⟨rfl, _⟩ := h; rfl) | (obtain ⟨_, rfl, _⟩ := h; rfl) | (obtain ⟨_, _, rfl, _⟩ := h; rfl) | (obtain ⟨_, _, _, rfl, _⟩ := h; rfl) | (obtain ⟨_, _, _, _, rfl, _⟩ := h; rfl) | (obtain ⟨_, _, _, _, _, rfl, _⟩ := h; rfl) | (obtain ⟨_, _, _, _, _, _, rfl, _⟩ := h; rfl) | (obtain ⟨_, _, _, _, _, _, _, rfl, _⟩ := h; rfl) | (obtain ⟨_, _, _, _, _, _, _, _, rfl, _⟩ := h; rfl) | (obtain ⟨_, _, _, _, _, _, _, _, _, rfl, _⟩ := h; rfl) | (obtain ⟨_, _, _, _, _, _, _, _, _, _, rfl, _⟩ := h; rfl) | (obtain ⟨_, _, _, _, _, _, _, _, _, _, _, rfl, _⟩ := h; rfl) | (obtain ⟨_, _, _, _, _, _, _, _, _, _, _, _, rfl, _⟩ := h; rfl) | (obtain ⟨_, _, _, _, _, _, _, _, _, _, _, _, _, rfl, _⟩ := h; rfl)
theorem R_len_law_spoilt {as : List Ag} {o : Out} (h : R_law_spoilt as o) : as.length = 2 := by first | (obtain ⟨rfl, _⟩ := h; rfl) | (obtain ⟨_, rfl, _⟩ := h; rfl) | (obtain ⟨_, _, rfl, _⟩ := h; rfl) | (obtain ⟨_, _, _, rfl, _⟩ := h; rfl) | (obtain ⟨_, _, _, _, rfl, _⟩ := h; rfl) | (obtain ⟨_, _, _, _, _, rfl, _⟩ := h; rfl) | (obtain ⟨_, _, _, _, _, _, rfl, _⟩ := h; rfl) | (obtain ⟨_, _, _, _, _, _, _, rfl, _⟩ := h; rfl) | (obtain ⟨_, _, _, _, _, _, _, _, rfl, _⟩ := h; rfl) | (obtain ⟨_, _, _, _, _, _, _, _, _, rfl, _⟩ := h; rfl) | (obtain ⟨_, _, _, _, _, _, _, _, _, _, rfl, _⟩ := h; rfl) | (obtain ⟨_, _, _, _, _, _, _, _, _, _, _, rfl, _⟩ := h; rfl) | (obtain ⟨_, _, _, _, _, _, _, _, _, _, _, _, rfl, _⟩ := h; rfl) | (obtain ⟨_, _, _, _, _, _, _, _, _, _, _, _, _, rfl, _⟩ := h; rfl)
theorem R_len_law_told {c : CA} {as : List Ag} {o : Out} (h : R_law_told c as o) : as.length = 2 := by first | (obtain ⟨rfl, _⟩ := h; rfl) | (obtain ⟨_, rfl, _⟩ := h; rfl) | (obtain ⟨_, _, rfl, _⟩ := h; rfl) | (obtain ⟨_, _, _, rfl, _⟩ := h; rfl) | (obtain ⟨_, _, _, _, rfl, _⟩ := h; rfl) | (obtain ⟨_, _, _, _, _, rfl, _⟩ := h; rfl) | (obtain ⟨_, _, _, _, _, _, rfl, _⟩ := h; rfl) | (obtain ⟨_, _, _, _, _, _, _, rfl, _⟩ := h; rfl) | (obtain ⟨_, _, _, _, _, _, _, _, rfl, _⟩ := h; rfl) | (obtain ⟨_, _, _, _, _, _, _, _, _, rfl, _⟩ := h; rfl) | (obtain ⟨_, _, _, _, _, _, _, _, _, _, rfl, _⟩ := h; rfl) | (obtain ⟨_, _, _, _, _, _, _, _, _, _, _, rfl, _⟩ := h; rfl) | (obtain ⟨_, _, _, _, _, _, _, _, _, _, _, _, rfl, _⟩ := h; rfl) | (obtain ⟨_, _, _, _, _, _, _, _, _, _, _, _, _, rfl, _⟩ := h; rfl)
theorem R_len_law_own {as : List Ag} {o : Out} (h : R_law_own as o) : as.length = 2 := by first | (obtain ⟨rfl, _⟩ := h; rfl) | (obtain ⟨_, rfl, _⟩ := h; rfl) | (obtain ⟨_, _, rfl, _⟩ := h; rfl) | (obtain ⟨_, _, _, rfl, _⟩ := h; rfl) | (obtain ⟨_, _, _, _, rfl, _⟩ := h; rfl) | (obtain ⟨_, _, _, _, _, rfl, _⟩ := h; rfl) | (obtain ⟨_, _, _, _, _, _, rfl, _⟩ := h; rfl) | (obtain ⟨_, _, _, _, _, _, _, rfl, _⟩ := h; rfl) | (obtain ⟨_, _, _, _, _, _, _, _, rfl, _⟩ := h; rfl) | (obtain ⟨_, _, _, _, _, _, _, _, _, rfl, _⟩ := h; rfl) | (obtain ⟨_, _, _, _, _, _, _, _, _, _, rfl, _⟩ := h; rfl) | (obtain ⟨_, _, _, _, _, _, _, _, _, _, _, rfl, _⟩ := h; rfl) | (obtain ⟨_, _, _, _, _, _, _, _, _, _, _, _, rfl, _⟩ := h; rfl) | (obtain ⟨_, _, _, _, _, _, _, _, _, _, _, _, _, rfl, _⟩ := h; rfl)
theorem R_len_law_in_a_row {c : CA} {as : List Ag} {o : Out} (h : R_law_in_a_row c as o) : as.length = 2 := by first | (obtain ⟨rfl, _⟩ := h; rfl) | (obtain ⟨_, rfl, _⟩ := h; rfl) | (obtain ⟨_, _, rfl, _⟩ := h; rfl) | (obtain ⟨_, _, _, rfl, _⟩ := h; rfl) | (obtain ⟨_, _, _, _, rfl, _⟩ := h; rfl) | (obtain ⟨_, _, _, _, _, rfl, _⟩ := h; rfl) | (obtain ⟨_, _, _, _, _, _, rfl, _⟩ := h; rfl) | (obtain ⟨_, _, _, _, _, _, _, rfl, _⟩ := h; rfl) | (obtain ⟨_, _, _, _, _, _, _, _, rfl, _⟩ := h; rfl) | (obtain ⟨_, _, _, _, _, _, _, _, _, rfl, _⟩ := h; rfl) | (obtain ⟨_, _, _, _, _, _, _, _, _, _, rfl, _⟩ := h; rfl) | (obtain ⟨_, _, _, _, _, _, _, _, _, _, _, rfl, _⟩ := h; rfl) | (obtain ⟨_, _, _, _, _, _, _, _, _, _, _, _, rfl, _⟩ := h; rfl) | (obtain ⟨_, _, _, _, _, _, _, _, _, _, _, _, _, rfl, _⟩ := h; rfl)
theorem R_len_law {c : CA} {as : List Ag} {o : Out} (h : R_law c as o) : as.length = 1 := by first | (obtain ⟨rfl, _⟩ := h; rfl) | (obtain ⟨_, rfl, _⟩ := h; rfl) | (obtain ⟨_, _, rfl, _⟩ := h; rfl) | (obtain ⟨_, _, _, rfl, _⟩ := h; rfl) | (obtain ⟨_, _, _, _, rfl, _⟩ := h; rfl) | (obtain ⟨_, _, _, _, _, rfl, _⟩ := h; rfl) | (obtain ⟨_, _, _, _, _, _, rfl, _⟩ := h; rfl) | (obtain ⟨_, _, _, _, _, _, _, rfl, _⟩ := h; rfl) | (obtain ⟨_, _, _, _, _, _, _, _, rfl, _⟩ := h; rfl) | (obtain ⟨_, _, _, _, _, _, _, _, _, rfl, _⟩ := h; rfl) | (obtain ⟨_, _, _, _, _, _, _, _, _, _, rfl, _⟩ := h; rfl) | (obtain ⟨_, _, _, _, _, _, _, _, _, _, _, rfl, _⟩ := h; rfl) | (obtain ⟨_, _, _, _, _, _, _, _, _, _, _, _, rfl, _⟩ := h; rfl) | (obtain ⟨_, _, _, _, _, _, _, _, _, _, _, _, _, rfl, _⟩ := h; rfl)
def d_Reader_init : He.DefD := ⟨("Reader", some "__init__"), "__init__", "Reader.__init__", defArgs s_Reader_init, defBody s_Reader_init, defScope s_Reader_init, [], []⟩
def d_Reader_read_byte : He.DefD := ⟨("Reader", some "read_byte"), "read_byte", "Reader.read_byte", defArgs s_Reader_read_byte, defBody s_Reader_read_byte, defScope s_Reader_read_byte, [], []⟩
def d_Reader_read_choice : He.DefD := ⟨("Reader", some "read_choice"), "read_choice", "Reader.read_choice", defArgs s_Reader_read_choice, defBody s_Reader_read_choice, defScope s_Reader_read_choice, [], []⟩
def d_Reader_end : He.DefD := ⟨("Reader", some "end"), "end", "Reader.end", defArgs s_Reader_end, defBody s_Reader_end, defScope s_Reader_end, [], []⟩
def d_Reader_read_number : He.DefD := ⟨("Reader", some "read_number"), "read_number", "Reader.read_number", defArgs s_Reader_read_number, defBody s_Reader_read_number, defScope s_Reader_read_number, [], []⟩
def d_Reader_read_count : He.DefD := ⟨("Reader", some "read_count"), "read_count", "Reader.read_count", defArgs s_Reader_read_count, defBody s_Reader_read_count, defScope s_Reader_read_count, [], []⟩
def d_Reader_read_character : He.DefD := ⟨("Reader", some "read_character"), "read_character", "Reader.read_character", defArgs s_Reader_read_character, defBody s_Reader_read_character, defScope s_Reader_read_character, [], []⟩
def d_Reader_read_string : He.DefD := ⟨("Reader", some "read_string"), "read_string", "Reader.read_string", defArgs s_Reader_read_string, defBody s_Reader_read_string, defScope s_Reader_read_string, [], []⟩
def d_Reader_read_mark : He.DefD := ⟨("Reader", some "read_mark"), "read_mark", "Reader.read_mark", defArgs s_Reader_read_mark, defBody s_Reader_read_mark, defScope s_Reader_read_mark, [], []⟩
def d_Reader_read_deed : He.DefD := ⟨("Reader", some "read_deed"), "read_deed", "Reader.read_deed", defArgs s_Reader_read_deed, defBody s_Reader_read_deed, defScope s_Reader_read_deed, [], []⟩
def d_Reader_read_triple : He.DefD := ⟨("Reader", some "read_triple"), "read_triple", "Reader.read_triple", defArgs s_Reader_read_triple, defBody s_Reader_read_triple, defScope s_Reader_read_triple, [], []⟩
def d_Reader_read_triples : He.DefD := ⟨("Reader", some "read_triples"), "read_triples", "Reader.read_triples", defArgs s_Reader_read_triples, defBody s_Reader_read_triples, defScope s_Reader_read_triples, [], []⟩
def d_Reader_read_packet : He.DefD := ⟨("Reader", some "read_packet"), "read_packet", "Reader.read_packet", defArgs s_Reader_read_packet, defBody s_Reader_read_packet, defScope s_Reader_read_packet, [], []⟩
def d_write_number : He.DefD := ⟨("write_number", none), "write_number", "write_number", defArgs s_write_number, defBody s_write_number, defScope s_write_number, [], []⟩
def d_write_list : He.DefD := ⟨("write_list", none), "write_list", "write_list", defArgs s_write_list, defBody s_write_list, defScope s_write_list, [], []⟩
def d_write_string : He.DefD := ⟨("write_string", none), "write_string", "write_string", defArgs s_write_string, defBody s_write_string, defScope s_write_string, [], []⟩
def d_write_mark : He.DefD := ⟨("write_mark", none), "write_mark", "write_mark", defArgs s_write_mark, defBody s_write_mark, defScope s_write_mark, [], []⟩
def d_write_deed : He.DefD := ⟨("write_deed", none), "write_deed", "write_deed", defArgs s_write_deed, defBody s_write_deed, defScope s_write_deed, [], []⟩
def d_write_triples : He.DefD := ⟨("write_triples", none), "write_triples", "write_triples", defArgs s_write_triples, defBody s_write_triples, defScope s_write_triples, [], []⟩
def d_write_packet : He.DefD := ⟨("write_packet", none), "write_packet", "write_packet", defArgs s_write_packet, defBody s_write_packet, defScope s_write_packet, [], []⟩
def d_law_next : He.DefD := ⟨("_law_next", none), "_law_next", "_law_next", defArgs s_law_next, defBody s_law_next, defScope s_law_next, [], []⟩
def d_law_same : He.DefD := ⟨("_law_same", none), "_law_same", "_law_same", defArgs s_law_same, defBody s_law_same, defScope s_law_same, [], []⟩
def d_law_number : He.DefD := ⟨("_law_number", none), "_law_number", "_law_number", defArgs s_law_number, defBody s_law_number, defScope s_law_number, [], []⟩
def d_law_text : He.DefD := ⟨("_law_text", none), "_law_text", "_law_text", defArgs s_law_text, defBody s_law_text, defScope s_law_text, [], []⟩
def d_law_mark : He.DefD := ⟨("_law_mark", none), "_law_mark", "_law_mark", defArgs s_law_mark, defBody s_law_mark, defScope s_law_mark, [], []⟩
def d_law_deed : He.DefD := ⟨("_law_deed", none), "_law_deed", "_law_deed", defArgs s_law_deed, defBody s_law_deed, defScope s_law_deed, [], []⟩
def d_law_triples : He.DefD := ⟨("_law_triples", none), "_law_triples", "_law_triples", defArgs s_law_triples, defBody s_law_triples, defScope s_law_triples, [], []⟩
def d_law_read_number : He.DefD := ⟨("_law_read_number", none), "_law_read_number", "_law_read_number", defArgs s_law_read_number, defBody s_law_read_number, defScope s_law_read_number, [], []⟩
def d_law_sign : He.DefD := ⟨("_law_sign", none), "_law_sign", "_law_sign", defArgs s_law_sign, defBody s_law_sign, defScope s_law_sign, [], []⟩
def d_law_read_text : He.DefD := ⟨("_law_read_text", none), "_law_read_text", "_law_read_text", defArgs s_law_read_text, defBody s_law_read_text, defScope s_law_read_text, [], []⟩
def d_law_read_mark : He.DefD := ⟨("_law_read_mark", none), "_law_read_mark", "_law_read_mark", defArgs s_law_read_mark, defBody s_law_read_mark, defScope s_law_read_mark, [], []⟩
def d_law_read_deed : He.DefD := ⟨("_law_read_deed", none), "_law_read_deed", "_law_read_deed", defArgs s_law_read_deed, defBody s_law_read_deed, defScope s_law_read_deed, [], []⟩
def d_law_read_triples : He.DefD := ⟨("_law_read_triples", none), "_law_read_triples", "_law_read_triples", defArgs s_law_read_triples, defBody s_law_read_triples, defScope s_law_read_triples, [], []⟩
def d_law_read_packet : He.DefD := ⟨("_law_read_packet", none), "_law_read_packet", "_law_read_packet", defArgs s_law_read_packet, defBody s_law_read_packet, defScope s_law_read_packet, [], []⟩
def d_law_drawn_number : He.DefD := ⟨("_law_drawn_number", none), "_law_drawn_number", "_law_drawn_number", defArgs s_law_drawn_number, defBody s_law_drawn_number, defScope s_law_drawn_number, [], []⟩
def d_law_drawn_text : He.DefD := ⟨("_law_drawn_text", none), "_law_drawn_text", "_law_drawn_text", defArgs s_law_drawn_text, defBody s_law_drawn_text, defScope s_law_drawn_text, [], []⟩
def d_law_drawn_deed : He.DefD := ⟨("_law_drawn_deed", none), "_law_drawn_deed", "_law_drawn_deed", defArgs s_law_drawn_deed, defBody s_law_drawn_deed, defScope s_law_drawn_deed, [], []⟩
def d_law_spoilt : He.DefD := ⟨("_law_spoilt", none), "_law_spoilt", "_law_spoilt", defArgs s_law_spoilt, defBody s_law_spoilt, defScope s_law_spoilt, [], []⟩
def d_law_told : He.DefD := ⟨("_law_told", none), "_law_told", "_law_told", defArgs s_law_told, defBody s_law_told, defScope s_law_told, [], []⟩
def d_law_own : He.DefD := ⟨("_law_own", none), "_law_own", "_law_own", defArgs s_law_own, defBody s_law_own, defScope s_law_own, [], []⟩
def d_law_in_a_row : He.DefD := ⟨("_law_in_a_row", none), "_law_in_a_row", "_law_in_a_row", defArgs s_law_in_a_row, defBody s_law_in_a_row, defScope s_law_in_a_row, [], []⟩
def d_law : He.DefD := ⟨("law", none), "law", "law", defArgs s_law, defBody s_law, defScope s_law, [], []⟩
def fn : List He.DefD := [d_Reader_init, d_Reader_read_byte, d_Reader_read_choice, d_Reader_end, d_Reader_read_number, d_Reader_read_count, d_Reader_read_character, d_Reader_read_string, d_Reader_read_mark, d_Reader_read_deed, d_Reader_read_triple, d_Reader_read_triples, d_Reader_read_packet, d_write_number, d_write_list, d_write_string, d_write_mark, d_write_deed, d_write_triples, d_write_packet, d_law_next, d_law_same, d_law_number, d_law_text, d_law_mark, d_law_deed, d_law_triples, d_law_read_number, d_law_sign, d_law_read_text, d_law_read_mark, d_law_read_deed, d_law_read_triples, d_law_read_packet, d_law_drawn_number, d_law_drawn_text, d_law_drawn_deed, d_law_spoilt, d_law_told, d_law_own, d_law_in_a_row, d_law]
def fa : List He.Fa := btFa ++ [.mkr "Reader", .meth "Reader" "read_byte", .meth "Reader" "read_choice", .meth "Reader" "end", .meth "Reader" "read_number", .meth "Reader" "read_count", .meth "Reader" "read_character", .meth "Reader" "read_string", .meth "Reader" "read_mark", .meth "Reader" "read_deed", .meth "Reader" "read_triple", .meth "Reader" "read_triples", .meth "Reader" "read_packet", .glo "write_number", .glo "write_list", .glo "write_string", .glo "write_mark", .glo "write_deed", .glo "write_triples", .glo "write_packet", .glo "_law_next", .glo "_law_same", .glo "_law_number", .glo "_law_text", .glo "_law_mark", .glo "_law_deed", .glo "_law_triples", .glo "_law_read_number", .glo "_law_sign", .glo "_law_read_text", .glo "_law_read_mark", .glo "_law_read_deed", .glo "_law_read_triples", .glo "_law_read_packet", .glo "_law_drawn_number", .glo "_law_drawn_text", .glo "_law_drawn_deed", .glo "_law_spoilt", .glo "_law_told", .glo "_law_own", .glo "_law_in_a_row", .glo "law", .glo "Reader", .cls "Reader", .noat "Reader" "data", .noat "Reader" "at", .glo "DamagedPacket", .exc "DamagedPacket", .exm "DamagedPacket" "DamagedPacket" true, .str "BEFORE_PERCENT" " !\"#$", .str "AFTER_PERCENT" "&'()*+,-./0123456789:;<=>?@ABCDEFGHIJKLMNOPQRSTUVWXYZ[\\]^_`abcdefghijklmnopqrstuvwxyz{|}~", .int "NUMBER_BYTES" 60]
abbrev Rw : PySem.W.OpenRow := PySem.W.OpenLaw.row PySem.Challenge.rw_orderwhole_k12_bytes_written_and_read
abbrev hk : PySem.W.Hook := He.hookD 5 fa fn
def ob (s : PySem.W.SharedT) : He.AlD := He.obsDG 5 fa fn (HandSHeadRun.getT s)
theorem ob_eq (s : PySem.W.SharedT) : ob s = hk.obs s.abs := He.obsDG_eq (HandSHeadRun.getT_eq s)
theorem run (w : World) : HandSHeadRun.RunEq Rw (PySem.W.view Rw.prog [39]) hk ob 5000 [("_wall" : Str), ("OrderwholeError" : Str), ("DamagedPacket" : Str), ("Reader" : Str), ("write_number" : Str), ("write_list" : Str), ("write_string" : Str), ("write_mark" : Str), ("write_deed" : Str), ("write_triples" : Str), ("write_packet" : Str), ("_law_next" : Str), ("_law_same" : Str), ("_law_number" : Str), ("_law_text" : Str), ("_law_mark" : Str), ("_law_deed" : Str), ("_law_triples" : Str), ("_law_read_number" : Str), ("_law_sign" : Str), ("_law_read_text" : Str), ("_law_read_mark" : Str), ("_law_read_deed" : Str), ("_law_read_triples" : Str), ("_law_read_packet" : Str), ("_law_drawn_number" : Str), ("_law_drawn_text" : Str), ("_law_drawn_deed" : Str), ("_law_spoilt" : Str), ("_law_told" : Str), ("_law_own" : Str), ("_law_in_a_row" : Str), ("BEFORE_PERCENT" : Str), ("AFTER_PERCENT" : Str), ("NUMBER_BYTES" : Str)] w := by
  intro os
  kernel_rfl
def ca (K : PySem.W.Frag) : CA := ⟨He.ga K "Reader", He.ga K "DamagedPacket"⟩
theorem facts {P : Program} {w : World} {K : PySem.W.Frag} {h : Heap} {mg : Str → Option Value} {f : Addr} (X0 : K.In h) (G : h.Ns mainGlobals mg) (hfa : mg ("law" : Str) = some (.ref f)) (cc : He.SaysD fa fn K) :
    ∃ fd : FuncData, (∀ (s : Shared) (v : Value), BindsTo s fd ⟨[v], []⟩ [("script", v)]) ∧ ∀ base : Heap, K.In base → base.Ns mainGlobals mg → FnOk P w K mg base CX0 lv_law f fd ["script"] (spD K (R_law (ca K))) := by
  have T : Bt mg := bt_of X0 G cc
  have X : CF K (ca K) := ⟨He.cls_ok (cc.fact 59 (f := .cls "Reader") rfl), He.noat_ok (cc.fact 60 (f := .noat "Reader" "data") rfl), He.noat_ok (cc.fact 61 (f := .noat "Reader" "at") rfl), He.exm_ok (cc.fact 64 (f := .exm "DamagedPacket" "DamagedPacket" true) rfl)⟩
  have e_DamagedPacket : Ce K mg "DamagedPacket" (ca K).DamagedPacket := ⟨He.glo_ok X0 G (cc.fact 62 (f := .glo "DamagedPacket") rfl), (He.exc_ok (cc.fact 63 (f := .exc "DamagedPacket") rfl)).1, (He.exc_ok (cc.fact 63 (f := .exc "DamagedPacket") rfl)).2.1, (He.exc_ok (cc.fact 63 (f := .exc "DamagedPacket") rfl)).2.2.1, (He.exc_ok (cc.fact 63 (f := .exc "DamagedPacket") rfl)).2.2.2, X.ex_DamagedPacket⟩
  have gc_Reader := He.glo_ok X0 G (cc.fact 58 (f := .glo "Reader") rfl)
  obtain ⟨tk_BEFORE_PERCENT, k_BEFORE_PERCENT⟩ := He.str_ok X0 G (cc.fact 65 (f := .str "BEFORE_PERCENT" " !\"#$") rfl)
  obtain ⟨tk_AFTER_PERCENT, k_AFTER_PERCENT⟩ := He.str_ok X0 G (cc.fact 66 (f := .str "AFTER_PERCENT" "&'()*+,-./0123456789:;<=>?@ABCDEFGHIJKLMNOPQRSTUVWXYZ[\\]^_`abcdefghijklmnopqrstuvwxyz{|}~") rfl)
  obtain ⟨tk_NUMBER_BYTES, k_NUMBER_BYTES⟩ := He.int_ok X0 G (cc.fact 67 (f := .int "NUMBER_BYTES" 60) rfl)
  obtain ⟨fd_Reader_init, F_Reader_init⟩ := cc.def_ 0 (d := d_Reader_init) rfl
  have m_Reader_init := He.mkr_ok (cc.fact 16 (f := .mkr "Reader") rfl)
  obtain ⟨fd_Reader_read_byte, F_Reader_read_byte⟩ := cc.def_ 1 (d := d_Reader_read_byte) rfl
  have m_Reader_read_byte := He.meth_ok (cc.fact 17 (f := .meth "Reader" "read_byte") rfl)
  obtain ⟨fd_Reader_read_choice, F_Reader_read_choice⟩ := cc.def_ 2 (d := d_Reader_read_choice) rfl
  have m_Reader_read_choice := He.meth_ok (cc.fact 18 (f := .meth "Reader" "read_choice") rfl)
  obtain ⟨fd_Reader_end, F_Reader_end⟩ := cc.def_ 3 (d := d_Reader_end) rfl
  have m_Reader_end := He.meth_ok (cc.fact 19 (f := .meth "Reader" "end") rfl)
  obtain ⟨fd_Reader_read_number, F_Reader_read_number⟩ := cc.def_ 4 (d := d_Reader_read_number) rfl
  have m_Reader_read_number := He.meth_ok (cc.fact 20 (f := .meth "Reader" "read_number") rfl)
  obtain ⟨fd_Reader_read_count, F_Reader_read_count⟩ := cc.def_ 5 (d := d_Reader_read_count) rfl
  have m_Reader_read_count := He.meth_ok (cc.fact 21 (f := .meth "Reader" "read_count") rfl)
  obtain ⟨fd_Reader_read_character, F_Reader_read_character⟩ := cc.def_ 6 (d := d_Reader_read_character) rfl
  have m_Reader_read_character := He.meth_ok (cc.fact 22 (f := .meth "Reader" "read_character") rfl)
  obtain ⟨fd_Reader_read_string, F_Reader_read_string⟩ := cc.def_ 7 (d := d_Reader_read_string) rfl
  have m_Reader_read_string := He.meth_ok (cc.fact 23 (f := .meth "Reader" "read_string") rfl)
  obtain ⟨fd_Reader_read_mark, F_Reader_read_mark⟩ := cc.def_ 8 (d := d_Reader_read_mark) rfl
  have m_Reader_read_mark := He.meth_ok (cc.fact 24 (f := .meth "Reader" "read_mark") rfl)
  obtain ⟨fd_Reader_read_deed, F_Reader_read_deed⟩ := cc.def_ 9 (d := d_Reader_read_deed) rfl
  have m_Reader_read_deed := He.meth_ok (cc.fact 25 (f := .meth "Reader" "read_deed") rfl)
  obtain ⟨fd_Reader_read_triple, F_Reader_read_triple⟩ := cc.def_ 10 (d := d_Reader_read_triple) rfl
  have m_Reader_read_triple := He.meth_ok (cc.fact 26 (f := .meth "Reader" "read_triple") rfl)
  obtain ⟨fd_Reader_read_triples, F_Reader_read_triples⟩ := cc.def_ 11 (d := d_Reader_read_triples) rfl
  have m_Reader_read_triples := He.meth_ok (cc.fact 27 (f := .meth "Reader" "read_triples") rfl)
  obtain ⟨fd_Reader_read_packet, F_Reader_read_packet⟩ := cc.def_ 12 (d := d_Reader_read_packet) rfl
  have m_Reader_read_packet := He.meth_ok (cc.fact 28 (f := .meth "Reader" "read_packet") rfl)
  obtain ⟨fd_write_number, F_write_number⟩ := cc.def_ 13 (d := d_write_number) rfl
  have g_write_number := He.glo_ok X0 G (cc.fact 29 (f := .glo "write_number") rfl)
  obtain ⟨fd_write_list, F_write_list⟩ := cc.def_ 14 (d := d_write_list) rfl
  have g_write_list := He.glo_ok X0 G (cc.fact 30 (f := .glo "write_list") rfl)
  obtain ⟨fd_write_string, F_write_string⟩ := cc.def_ 15 (d := d_write_string) rfl
  have g_write_string := He.glo_ok X0 G (cc.fact 31 (f := .glo "write_string") rfl)
  obtain ⟨fd_write_mark, F_write_mark⟩ := cc.def_ 16 (d := d_write_mark) rfl
  have g_write_mark := He.glo_ok X0 G (cc.fact 32 (f := .glo "write_mark") rfl)
  obtain ⟨fd_write_deed, F_write_deed⟩ := cc.def_ 17 (d := d_write_deed) rfl
  have g_write_deed := He.glo_ok X0 G (cc.fact 33 (f := .glo "write_deed") rfl)
  obtain ⟨fd_write_triples, F_write_triples⟩ := cc.def_ 18 (d := d_write_triples) rfl
  have g_write_triples := He.glo_ok X0 G (cc.fact 34 (f := .glo "write_triples") rfl)
  obtain ⟨fd_write_packet, F_write_packet⟩ := cc.def_ 19 (d := d_write_packet) rfl
  have g_write_packet := He.glo_ok X0 G (cc.fact 35 (f := .glo "write_packet") rfl)
  obtain ⟨fd_law_next, F_law_next⟩ := cc.def_ 20 (d := d_law_next) rfl
  have g_law_next := He.glo_ok X0 G (cc.fact 36 (f := .glo "_law_next") rfl)
  obtain ⟨fd_law_same, F_law_same⟩ := cc.def_ 21 (d := d_law_same) rfl
  have g_law_same := He.glo_ok X0 G (cc.fact 37 (f := .glo "_law_same") rfl)
  obtain ⟨fd_law_number, F_law_number⟩ := cc.def_ 22 (d := d_law_number) rfl
  have g_law_number := He.glo_ok X0 G (cc.fact 38 (f := .glo "_law_number") rfl)
  obtain ⟨fd_law_text, F_law_text⟩ := cc.def_ 23 (d := d_law_text) rfl
  have g_law_text := He.glo_ok X0 G (cc.fact 39 (f := .glo "_law_text") rfl)
  obtain ⟨fd_law_mark, F_law_mark⟩ := cc.def_ 24 (d := d_law_mark) rfl
  have g_law_mark := He.glo_ok X0 G (cc.fact 40 (f := .glo "_law_mark") rfl)
  obtain ⟨fd_law_deed, F_law_deed⟩ := cc.def_ 25 (d := d_law_deed) rfl
  have g_law_deed := He.glo_ok X0 G (cc.fact 41 (f := .glo "_law_deed") rfl)
  obtain ⟨fd_law_triples, F_law_triples⟩ := cc.def_ 26 (d := d_law_triples) rfl
  have g_law_triples := He.glo_ok X0 G (cc.fact 42 (f := .glo "_law_triples") rfl)
  obtain ⟨fd_law_read_number, F_law_read_number⟩ := cc.def_ 27 (d := d_law_read_number) rfl
  have g_law_read_number := He.glo_ok X0 G (cc.fact 43 (f := .glo "_law_read_number") rfl)
  obtain ⟨fd_law_sign, F_law_sign⟩ := cc.def_ 28 (d := d_law_sign) rfl
  have g_law_sign := He.glo_ok X0 G (cc.fact 44 (f := .glo "_law_sign") rfl)
  obtain ⟨fd_law_read_text, F_law_read_text⟩ := cc.def_ 29 (d := d_law_read_text) rfl
  have g_law_read_text := He.glo_ok X0 G (cc.fact 45 (f := .glo "_law_read_text") rfl)
  obtain ⟨fd_law_read_mark, F_law_read_mark⟩ := cc.def_ 30 (d := d_law_read_mark) rfl
  have g_law_read_mark := He.glo_ok X0 G (cc.fact 46 (f := .glo "_law_read_mark") rfl)
  obtain ⟨fd_law_read_deed, F_law_read_deed⟩ := cc.def_ 31 (d := d_law_read_deed) rfl
  have g_law_read_deed := He.glo_ok X0 G (cc.fact 47 (f := .glo "_law_read_deed") rfl)
  obtain ⟨fd_law_read_triples, F_law_read_triples⟩ := cc.def_ 32 (d := d_law_read_triples) rfl
  have g_law_read_triples := He.glo_ok X0 G (cc.fact 48 (f := .glo "_law_read_triples") rfl)
  obtain ⟨fd_law_read_packet, F_law_read_packet⟩ := cc.def_ 33 (d := d_law_read_packet) rfl
  have g_law_read_packet := He.glo_ok X0 G (cc.fact 49 (f := .glo "_law_read_packet") rfl)
  obtain ⟨fd_law_drawn_number, F_law_drawn_number⟩ := cc.def_ 34 (d := d_law_drawn_number) rfl
  have g_law_drawn_number := He.glo_ok X0 G (cc.fact 50 (f := .glo "_law_drawn_number") rfl)
  obtain ⟨fd_law_drawn_text, F_law_drawn_text⟩ := cc.def_ 35 (d := d_law_drawn_text) rfl
  have g_law_drawn_text := He.glo_ok X0 G (cc.fact 51 (f := .glo "_law_drawn_text") rfl)
  obtain ⟨fd_law_drawn_deed, F_law_drawn_deed⟩ := cc.def_ 36 (d := d_law_drawn_deed) rfl
  have g_law_drawn_deed := He.glo_ok X0 G (cc.fact 52 (f := .glo "_law_drawn_deed") rfl)
  obtain ⟨fd_law_spoilt, F_law_spoilt⟩ := cc.def_ 37 (d := d_law_spoilt) rfl
  have g_law_spoilt := He.glo_ok X0 G (cc.fact 53 (f := .glo "_law_spoilt") rfl)
  obtain ⟨fd_law_told, F_law_told⟩ := cc.def_ 38 (d := d_law_told) rfl
  have g_law_told := He.glo_ok X0 G (cc.fact 54 (f := .glo "_law_told") rfl)
  obtain ⟨fd_law_own, F_law_own⟩ := cc.def_ 39 (d := d_law_own) rfl
  have g_law_own := He.glo_ok X0 G (cc.fact 55 (f := .glo "_law_own") rfl)
  obtain ⟨fd_law_in_a_row, F_law_in_a_row⟩ := cc.def_ 40 (d := d_law_in_a_row) rfl
  have g_law_in_a_row := He.glo_ok X0 G (cc.fact 56 (f := .glo "_law_in_a_row") rfl)
  obtain ⟨fd_law, F_law⟩ := cc.def_ 41 (d := d_law) rfl
  have e := hfa.symm.trans (He.glo_ok X0 G (cc.fact 57 (f := .glo "law") rfl))
  cases e
  refine ⟨fd_law, fun s v => FunD.bindsA (ps := ["script"]) F_law (fun _ _ _ _ _ _ us hl => match us, hl with | [_], _ => rfl) s [v] rfl, fun base _ _ => ?_⟩
  have c_Reader_init : Cc P w K mg base CX0 "Reader" (ca K).Reader lv_Reader_init ["self", "data"] (R_Reader_init (ca K)) _ fd_Reader_init := ⟨okD (k := 0) (lv := lvr_Reader_init) F_Reader_init sc_Reader_init rfl (fun as o h => R_len_Reader_init h) (fun vs as o h hl => body_Reader_init X h hl) fun cdv A outer s H E hr => w_Reader_init T X hr, m_Reader_init, gc_Reader, F_Reader_init.bindsN (fun _ _ _ _ _ _ us hl => match us, hl with | [_, _], _ => rfl)⟩
  have c_Reader_read_byte : Cm P w K mg base (L2.CX P w) (ca K).Reader "read_byte" lv_Reader_read_byte ["self"] (R_Reader_read_byte (ca K)) _ fd_Reader_read_byte := ⟨okDX (k := 0) (lv := lvr_Reader_read_byte) F_Reader_read_byte sc_Reader_read_byte rfl (fun as o h => R_len_Reader_read_byte h) (fun E vs as o h hl => body_Reader_read_byte X h hl) fun cdv A outer s H E hr => w_Reader_read_byte T X e_DamagedPacket hr, m_Reader_read_byte, F_Reader_read_byte.bindsN (fun _ _ _ _ _ _ us hl => match us, hl with | [_], _ => rfl)⟩
  have c_Reader_read_choice : Cm P w K mg base (L2.CX P w) (ca K).Reader "read_choice" lv_Reader_read_choice ["self", "count"] (R_Reader_read_choice (ca K)) _ fd_Reader_read_choice := ⟨okDX (k := 1) (lv := lvr_Reader_read_choice) F_Reader_read_choice sc_Reader_read_choice rfl (fun as o h => R_len_Reader_read_choice h) (fun E vs as o h hl => body_Reader_read_choice X h hl) fun cdv A outer s H E hr => w_Reader_read_choice T c_Reader_read_byte X e_DamagedPacket hr, m_Reader_read_choice, F_Reader_read_choice.bindsN (fun _ _ _ _ _ _ us hl => match us, hl with | [_, _], _ => rfl)⟩
  have c_Reader_end : Cm P w K mg base (L2.CX P w) (ca K).Reader "end" lv_Reader_end ["self"] (R_Reader_end (ca K)) _ fd_Reader_end := ⟨okDX (k := 0) (lv := lvr_Reader_end) F_Reader_end sc_Reader_end rfl (fun as o h => R_len_Reader_end h) (fun E vs as o h hl => body_Reader_end X h hl) fun cdv A outer s H E hr => w_Reader_end T X e_DamagedPacket hr, m_Reader_end, F_Reader_end.bindsN (fun _ _ _ _ _ _ us hl => match us, hl with | [_], _ => rfl)⟩
  have c_Reader_read_number : Cm P w K mg base (L2.CX P w) (ca K).Reader "read_number" lv_Reader_read_number ["self"] (R_Reader_read_number (ca K)) _ fd_Reader_read_number := ⟨okDX (k := 4) (lv := lvr_Reader_read_number) F_Reader_read_number sc_Reader_read_number rfl (fun as o h => R_len_Reader_read_number h) (fun E vs as o h hl => body_Reader_read_number X h hl) fun cdv A outer s H E hr => w_Reader_read_number T c_Reader_read_byte X e_DamagedPacket k_NUMBER_BYTES hr, m_Reader_read_number, F_Reader_read_number.bindsN (fun _ _ _ _ _ _ us hl => match us, hl with | [_], _ => rfl)⟩
  have c_Reader_read_count : Cm P w K mg base (L2.CX P w) (ca K).Reader "read_count" lv_Reader_read_count ["self"] (R_Reader_read_count (ca K)) _ fd_Reader_read_count := ⟨okDX (k := 1) (lv := lvr_Reader_read_count) F_Reader_read_count sc_Reader_read_count rfl (fun as o h => R_len_Reader_read_count h) (fun E vs as o h hl => body_Reader_read_count X h hl) fun cdv A outer s H E hr => w_Reader_read_count T c_Reader_read_number X e_DamagedPacket hr, m_Reader_read_count, F_Reader_read_count.bindsN (fun _ _ _ _ _ _ us hl => match us, hl with | [_], _ => rfl)⟩
  have c_Reader_read_character : Cm P w K mg base (L2.CX P w) (ca K).Reader "read_character" lv_Reader_read_character ["self"] (R_Reader_read_character (ca K)) _ fd_Reader_read_character := ⟨okDX (k := 1) (lv := lvr_Reader_read_character) F_Reader_read_character sc_Reader_read_character rfl (fun as o h => R_len_Reader_read_character h) (fun E vs as o h hl => body_Reader_read_character X h hl) fun cdv A outer s H E hr => w_Reader_read_character T c_Reader_read_number X e_DamagedPacket k_BEFORE_PERCENT k_AFTER_PERCENT hr, m_Reader_read_character, F_Reader_read_character.bindsN (fun _ _ _ _ _ _ us hl => match us, hl with | [_], _ => rfl)⟩
  have c_Reader_read_string : Cm P w K mg base (L2.CX P w) (ca K).Reader "read_string" lv_Reader_read_string ["self"] (R_Reader_read_string (ca K)) _ fd_Reader_read_string := ⟨okDX (k := 1) (lv := lvr_Reader_read_string) F_Reader_read_string sc_Reader_read_string rfl (fun as o h => R_len_Reader_read_string h) (fun E vs as o h hl => body_Reader_read_string X h hl) fun cdv A outer s H E hr => w_Reader_read_string T c_Reader_read_character c_Reader_read_count X hr, m_Reader_read_string, F_Reader_read_string.bindsN (fun _ _ _ _ _ _ us hl => match us, hl with | [_], _ => rfl)⟩
  have c_Reader_read_mark : Cm P w K mg base (L2.CX P w) (ca K).Reader "read_mark" lv_Reader_read_mark ["self"] (R_Reader_read_mark (ca K)) _ fd_Reader_read_mark := ⟨okDX (k := 1) (lv := lvr_Reader_read_mark) F_Reader_read_mark sc_Reader_read_mark rfl (fun as o h => R_len_Reader_read_mark h) (fun E vs as o h hl => body_Reader_read_mark X h hl) fun cdv A outer s H E hr => w_Reader_read_mark T c_Reader_read_number X hr, m_Reader_read_mark, F_Reader_read_mark.bindsN (fun _ _ _ _ _ _ us hl => match us, hl with | [_], _ => rfl)⟩
  have c_Reader_read_deed : Cm P w K mg base (L2.CX P w) (ca K).Reader "read_deed" lv_Reader_read_deed ["self"] (R_Reader_read_deed (ca K)) _ fd_Reader_read_deed := ⟨okDX (k := 5) (lv := lvr_Reader_read_deed) F_Reader_read_deed sc_Reader_read_deed rfl (fun as o h => R_len_Reader_read_deed h) (fun E vs as o h hl => body_Reader_read_deed X h hl) fun cdv A outer s H E hr => w_Reader_read_deed T c_Reader_read_choice c_Reader_read_count c_Reader_read_mark c_Reader_read_number c_Reader_read_string X hr, m_Reader_read_deed, F_Reader_read_deed.bindsN (fun _ _ _ _ _ _ us hl => match us, hl with | [_], _ => rfl)⟩
  have c_Reader_read_triple : Cm P w K mg base (L2.CX P w) (ca K).Reader "read_triple" lv_Reader_read_triple ["self"] (R_Reader_read_triple (ca K)) _ fd_Reader_read_triple := ⟨okDX (k := 2) (lv := lvr_Reader_read_triple) F_Reader_read_triple sc_Reader_read_triple rfl (fun as o h => R_len_Reader_read_triple h) (fun E vs as o h hl => body_Reader_read_triple X h hl) fun cdv A outer s H E hr => w_Reader_read_triple T c_Reader_read_deed c_Reader_read_number X hr, m_Reader_read_triple, F_Reader_read_triple.bindsN (fun _ _ _ _ _ _ us hl => match us, hl with | [_], _ => rfl)⟩
  have c_Reader_read_triples : Cm P w K mg base (L2.CX P w) (ca K).Reader "read_triples" lv_Reader_read_triples ["self"] (R_Reader_read_triples (ca K)) _ fd_Reader_read_triples := ⟨okDX (k := 1) (lv := lvr_Reader_read_triples) F_Reader_read_triples sc_Reader_read_triples rfl (fun as o h => R_len_Reader_read_triples h) (fun E vs as o h hl => body_Reader_read_triples X h hl) fun cdv A outer s H E hr => w_Reader_read_triples T c_Reader_read_count c_Reader_read_triple X hr, m_Reader_read_triples, F_Reader_read_triples.bindsN (fun _ _ _ _ _ _ us hl => match us, hl with | [_], _ => rfl)⟩
  have c_Reader_read_packet : Cm P w K mg base (L2.CX P w) (ca K).Reader "read_packet" lv_Reader_read_packet ["self"] (R_Reader_read_packet (ca K)) _ fd_Reader_read_packet := ⟨okDX (k := 0) (lv := lvr_Reader_read_packet) F_Reader_read_packet sc_Reader_read_packet rfl (fun as o h => R_len_Reader_read_packet h) (fun E vs as o h hl => body_Reader_read_packet X h hl) fun cdv A outer s H E hr => w_Reader_read_packet T c_Reader_read_byte c_Reader_read_triples X e_DamagedPacket hr, m_Reader_read_packet, F_Reader_read_packet.bindsN (fun _ _ _ _ _ _ us hl => match us, hl with | [_], _ => rfl)⟩
  have c_write_number : Cl P w K mg base CX0 "write_number" lv_write_number ["number"] (R_write_number) _ fd_write_number := ⟨okD (k := 1) (lv := lvr_write_number) F_write_number sc_write_number rfl (fun as o h => R_len_write_number h) (fun vs as o h hl => body_write_number h hl) fun cdv A outer s H E hr => w_write_number T hr, g_write_number, F_write_number.kp, F_write_number.bindsN (fun _ _ _ _ _ _ us hl => match us, hl with | [_], _ => rfl)⟩
  have c_write_list : Cl P w K mg base CX0 "write_list" lv_write_list ["items"] (R_write_list) _ fd_write_list := ⟨okD (k := 2) (lv := lvr_write_list) F_write_list sc_write_list rfl (fun as o h => R_len_write_list h) (fun vs as o h hl => body_write_list h hl) fun cdv A outer s H E hr => w_write_list T c_write_number hr, g_write_list, F_write_list.kp, F_write_list.bindsN (fun _ _ _ _ _ _ us hl => match us, hl with | [_], _ => rfl)⟩
  have c_write_string : Cl P w K mg base CX0 "write_string" lv_write_string ["text"] (R_write_string) _ fd_write_string := ⟨okD (k := 1) (lv := lvr_write_string) F_write_string sc_write_string rfl (fun as o h => R_len_write_string h) (fun vs as o h hl => body_write_string h hl) fun cdv A outer s H E hr => w_write_string T c_write_list c_write_number hr, g_write_string, F_write_string.kp, F_write_string.bindsN (fun _ _ _ _ _ _ us hl => match us, hl with | [_], _ => rfl)⟩
  have c_write_mark : Cl P w K mg base CX0 "write_mark" lv_write_mark ["mark"] (R_write_mark) _ fd_write_mark := ⟨okD (k := 0) (lv := lvr_write_mark) F_write_mark sc_write_mark rfl (fun as o h => R_len_write_mark h) (fun vs as o h hl => body_write_mark h hl) fun cdv A outer s H E hr => w_write_mark T c_write_number hr, g_write_mark, F_write_mark.kp, F_write_mark.bindsN (fun _ _ _ _ _ _ us hl => match us, hl with | [_], _ => rfl)⟩
  have c_write_deed : Cl P w K mg base CX0 "write_deed" lv_write_deed ["deed"] (R_write_deed) _ fd_write_deed := ⟨okD (k := 8) (lv := lvr_write_deed) F_write_deed sc_write_deed rfl (fun as o h => R_len_write_deed h) (fun vs as o h hl => body_write_deed h hl) fun cdv A outer s H E hr => w_write_deed T c_write_list c_write_mark c_write_number c_write_string hr, g_write_deed, F_write_deed.kp, F_write_deed.bindsN (fun _ _ _ _ _ _ us hl => match us, hl with | [_], _ => rfl)⟩
  have c_write_triples : Cl P w K mg base CX0 "write_triples" lv_write_triples ["triples"] (R_write_triples) _ fd_write_triples := ⟨okD (k := 4) (lv := lvr_write_triples) F_write_triples sc_write_triples rfl (fun as o h => R_len_write_triples h) (fun vs as o h hl => body_write_triples h hl) fun cdv A outer s H E hr => w_write_triples T c_write_deed c_write_list c_write_number hr, g_write_triples, F_write_triples.kp, F_write_triples.bindsN (fun _ _ _ _ _ _ us hl => match us, hl with | [_], _ => rfl)⟩
  have c_write_packet : Cl P w K mg base CX0 "write_packet" lv_write_packet ["packet"] (R_write_packet) _ fd_write_packet := ⟨okD (k := 0) (lv := lvr_write_packet) F_write_packet sc_write_packet rfl (fun as o h => R_len_write_packet h) (fun vs as o h hl => body_write_packet h hl) fun cdv A outer s H E hr => w_write_packet T c_write_triples hr, g_write_packet, F_write_packet.kp, F_write_packet.bindsN (fun _ _ _ _ _ _ us hl => match us, hl with | [_], _ => rfl)⟩
  have c_law_next : Cl P w K mg base CX0 "_law_next" lv_law_next ["state", "limit"] (R_law_next) _ fd_law_next := ⟨okD (k := 2) (lv := lvr_law_next) F_law_next sc_law_next rfl (fun as o h => R_len_law_next h) (fun vs as o h hl => body_law_next h hl) fun cdv A outer s H E hr => w_law_next T hr, g_law_next, F_law_next.kp, F_law_next.bindsN (fun _ _ _ _ _ _ us hl => match us, hl with | [_, _], _ => rfl)⟩
  have ok_law_same : ∀ n, FnOk P w K mg base CX0 (n + 1 + 0) (He.ga K "_law_same") fd_law_same ["actual", "expected"] (spD K (R_law_same n)) := by
    intro n
    induction n with
    | zero => exact F_law_same.ok sc_law_same (fun vs H Q E h => (R_zero_law_same h).elim) (fun _ _ _ _ _ _ _ _ _ h => (R_zero_law_same h).elim)
    | succ n ih => exact okD F_law_same sc_law_same (k := 1) rfl (fun as o h => R_len_law_same h) (fun vs as o h hl => body_law_same h hl) fun cdv A outer s H E hr => w_law_same T ⟨ih, g_law_same, F_law_same.kp, F_law_same.bindsN (fun _ _ _ _ _ _ us hl => match us, hl with | [_, _], _ => rfl)⟩ hr
  have c_law_same : Cl P w K mg base CX0 "_law_same" lv_law_same ["actual", "expected"] (R_law_same 8) _ fd_law_same := ⟨ok_law_same 8, g_law_same, F_law_same.kp, F_law_same.bindsN (fun _ _ _ _ _ _ us hl => match us, hl with | [_, _], _ => rfl)⟩
  have c_law_number : Cl P w K mg base CX0 "_law_number" lv_law_number ["number"] (R_law_number) _ fd_law_number := ⟨okD (k := 1) (lv := lvr_law_number) F_law_number sc_law_number rfl (fun as o h => R_len_law_number h) (fun vs as o h hl => body_law_number h hl) fun cdv A outer s H E hr => w_law_number T hr, g_law_number, F_law_number.kp, F_law_number.bindsN (fun _ _ _ _ _ _ us hl => match us, hl with | [_], _ => rfl)⟩
  have c_law_text : Cl P w K mg base CX0 "_law_text" lv_law_text ["text"] (R_law_text) _ fd_law_text := ⟨okD (k := 2) (lv := lvr_law_text) F_law_text sc_law_text rfl (fun as o h => R_len_law_text h) (fun vs as o h hl => body_law_text h hl) fun cdv A outer s H E hr => w_law_text T c_law_number hr, g_law_text, F_law_text.kp, F_law_text.bindsN (fun _ _ _ _ _ _ us hl => match us, hl with | [_], _ => rfl)⟩
  have c_law_mark : Cl P w K mg base CX0 "_law_mark" lv_law_mark ["mark"] (R_law_mark) _ fd_law_mark := ⟨okD (k := 0) (lv := lvr_law_mark) F_law_mark sc_law_mark rfl (fun as o h => R_len_law_mark h) (fun vs as o h hl => body_law_mark h hl) fun cdv A outer s H E hr => w_law_mark T c_law_number hr, g_law_mark, F_law_mark.kp, F_law_mark.bindsN (fun _ _ _ _ _ _ us hl => match us, hl with | [_], _ => rfl)⟩
  have c_law_deed : Cl P w K mg base CX0 "_law_deed" lv_law_deed ["deed"] (R_law_deed) _ fd_law_deed := ⟨okD (k := 2) (lv := lvr_law_deed) F_law_deed sc_law_deed rfl (fun as o h => R_len_law_deed h) (fun vs as o h hl => body_law_deed h hl) fun cdv A outer s H E hr => w_law_deed T c_law_mark c_law_number c_law_text hr, g_law_deed, F_law_deed.kp, F_law_deed.bindsN (fun _ _ _ _ _ _ us hl => match us, hl with | [_], _ => rfl)⟩
  have c_law_triples : Cl P w K mg base CX0 "_law_triples" lv_law_triples ["triples"] (R_law_triples) _ fd_law_triples := ⟨okD (k := 4) (lv := lvr_law_triples) F_law_triples sc_law_triples rfl (fun as o h => R_len_law_triples h) (fun vs as o h hl => body_law_triples h hl) fun cdv A outer s H E hr => w_law_triples T c_law_deed c_law_number hr, g_law_triples, F_law_triples.kp, F_law_triples.bindsN (fun _ _ _ _ _ _ us hl => match us, hl with | [_], _ => rfl)⟩
  have c_law_read_number : Cl P w K mg base CX0 "_law_read_number" lv_law_read_number ["data", "at"] (R_law_read_number) _ fd_law_read_number := ⟨okD (k := 3) (lv := lvr_law_read_number) F_law_read_number sc_law_read_number rfl (fun as o h => R_len_law_read_number h) (fun vs as o h hl => body_law_read_number h hl) fun cdv A outer s H E hr => w_law_read_number T hr, g_law_read_number, F_law_read_number.kp, F_law_read_number.bindsN (fun _ _ _ _ _ _ us hl => match us, hl with | [_, _], _ => rfl)⟩
  have c_law_sign : Cl P w K mg base CX0 "_law_sign" lv_law_sign ["code"] (R_law_sign) _ fd_law_sign := ⟨okD (k := 2) (lv := lvr_law_sign) F_law_sign sc_law_sign rfl (fun as o h => R_len_law_sign h) (fun vs as o h hl => body_law_sign h hl) fun cdv A outer s H E hr => w_law_sign T hr, g_law_sign, F_law_sign.kp, F_law_sign.bindsN (fun _ _ _ _ _ _ us hl => match us, hl with | [_], _ => rfl)⟩
  have c_law_read_text : Cl P w K mg base CX0 "_law_read_text" lv_law_read_text ["data", "at"] (R_law_read_text) _ fd_law_read_text := ⟨okD (k := 4) (lv := lvr_law_read_text) F_law_read_text sc_law_read_text rfl (fun as o h => R_len_law_read_text h) (fun vs as o h hl => body_law_read_text h hl) fun cdv A outer s H E hr => w_law_read_text T c_law_read_number c_law_sign hr, g_law_read_text, F_law_read_text.kp, F_law_read_text.bindsN (fun _ _ _ _ _ _ us hl => match us, hl with | [_, _], _ => rfl)⟩
  have c_law_read_mark : Cl P w K mg base CX0 "_law_read_mark" lv_law_read_mark ["data", "at"] (R_law_read_mark) _ fd_law_read_mark := ⟨okD (k := 2) (lv := lvr_law_read_mark) F_law_read_mark sc_law_read_mark rfl (fun as o h => R_len_law_read_mark h) (fun vs as o h hl => body_law_read_mark h hl) fun cdv A outer s H E hr => w_law_read_mark T c_law_read_number hr, g_law_read_mark, F_law_read_mark.kp, F_law_read_mark.bindsN (fun _ _ _ _ _ _ us hl => match us, hl with | [_, _], _ => rfl)⟩
  have c_law_read_deed : Cl P w K mg base CX0 "_law_read_deed" lv_law_read_deed ["data", "at"] (R_law_read_deed) _ fd_law_read_deed := ⟨okD (k := 8) (lv := lvr_law_read_deed) F_law_read_deed sc_law_read_deed rfl (fun as o h => R_len_law_read_deed h) (fun vs as o h hl => body_law_read_deed h hl) fun cdv A outer s H E hr => w_law_read_deed T c_law_read_mark c_law_read_number c_law_read_text hr, g_law_read_deed, F_law_read_deed.kp, F_law_read_deed.bindsN (fun _ _ _ _ _ _ us hl => match us, hl with | [_, _], _ => rfl)⟩
  have c_law_read_triples : Cl P w K mg base CX0 "_law_read_triples" lv_law_read_triples ["data", "at"] (R_law_read_triples) _ fd_law_read_triples := ⟨okD (k := 5) (lv := lvr_law_read_triples) F_law_read_triples sc_law_read_triples rfl (fun as o h => R_len_law_read_triples h) (fun vs as o h hl => body_law_read_triples h hl) fun cdv A outer s H E hr => w_law_read_triples T c_law_read_deed c_law_read_mark c_law_read_number hr, g_law_read_triples, F_law_read_triples.kp, F_law_read_triples.bindsN (fun _ _ _ _ _ _ us hl => match us, hl with | [_, _], _ => rfl)⟩
  have c_law_read_packet : Cl P w K mg base CX0 "_law_read_packet" lv_law_read_packet ["data", "at"] (R_law_read_packet) _ fd_law_read_packet := ⟨okD (k := 0) (lv := lvr_law_read_packet) F_law_read_packet sc_law_read_packet rfl (fun as o h => R_len_law_read_packet h) (fun vs as o h hl => body_law_read_packet h hl) fun cdv A outer s H E hr => w_law_read_packet T c_law_read_triples hr, g_law_read_packet, F_law_read_packet.kp, F_law_read_packet.bindsN (fun _ _ _ _ _ _ us hl => match us, hl with | [_, _], _ => rfl)⟩
  have c_law_drawn_number : Cl P w K mg base CX0 "_law_drawn_number" lv_law_drawn_number ["state"] (R_law_drawn_number) _ fd_law_drawn_number := ⟨okD (k := 0) (lv := lvr_law_drawn_number) F_law_drawn_number sc_law_drawn_number rfl (fun as o h => R_len_law_drawn_number h) (fun vs as o h hl => body_law_drawn_number h hl) fun cdv A outer s H E hr => w_law_drawn_number T c_law_next hr, g_law_drawn_number, F_law_drawn_number.kp, F_law_drawn_number.bindsN (fun _ _ _ _ _ _ us hl => match us, hl with | [_], _ => rfl)⟩
  have c_law_drawn_text : Cl P w K mg base CX0 "_law_drawn_text" lv_law_drawn_text ["state"] (R_law_drawn_text) _ fd_law_drawn_text := ⟨okD (k := 2) (lv := lvr_law_drawn_text) F_law_drawn_text sc_law_drawn_text rfl (fun as o h => R_len_law_drawn_text h) (fun vs as o h hl => body_law_drawn_text h hl) fun cdv A outer s H E hr => w_law_drawn_text T c_law_next hr, g_law_drawn_text, F_law_drawn_text.kp, F_law_drawn_text.bindsN (fun _ _ _ _ _ _ us hl => match us, hl with | [_], _ => rfl)⟩
  have c_law_drawn_deed : Cl P w K mg base CX0 "_law_drawn_deed" lv_law_drawn_deed ["state"] (R_law_drawn_deed) _ fd_law_drawn_deed := ⟨okD (k := 3) (lv := lvr_law_drawn_deed) F_law_drawn_deed sc_law_drawn_deed rfl (fun as o h => R_len_law_drawn_deed h) (fun vs as o h hl => body_law_drawn_deed h hl) fun cdv A outer s H E hr => w_law_drawn_deed T c_law_drawn_number c_law_drawn_text c_law_next hr, g_law_drawn_deed, F_law_drawn_deed.kp, F_law_drawn_deed.bindsN (fun _ _ _ _ _ _ us hl => match us, hl with | [_], _ => rfl)⟩
  have c_law_spoilt : Cl P w K mg base CX0 "_law_spoilt" lv_law_spoilt ["state", "data"] (R_law_spoilt) _ fd_law_spoilt := ⟨okD (k := 4) (lv := lvr_law_spoilt) F_law_spoilt sc_law_spoilt rfl (fun as o h => R_len_law_spoilt h) (fun vs as o h hl => body_law_spoilt h hl) fun cdv A outer s H E hr => w_law_spoilt T c_law_next hr, g_law_spoilt, F_law_spoilt.kp, F_law_spoilt.bindsN (fun _ _ _ _ _ _ us hl => match us, hl with | [_, _], _ => rfl)⟩
  have c_law_told : Cl P w K mg base CX0 "_law_told" lv_law_told ["kind", "data"] (R_law_told (ca K)) _ fd_law_told := ⟨okD (k := 4) (lv := lvr_law_told) F_law_told sc_law_told rfl (fun as o h => R_len_law_told h) (fun vs as o h hl => body_law_told X h hl) fun cdv A outer s H E hr => w_law_told T c_Reader_end c_Reader_init c_Reader_read_deed c_Reader_read_number c_Reader_read_packet c_Reader_read_string c_Reader_read_triples X e_DamagedPacket hr, g_law_told, F_law_told.kp, F_law_told.bindsN (fun _ _ _ _ _ _ us hl => match us, hl with | [_, _], _ => rfl)⟩
  have c_law_own : Cl P w K mg base CX0 "_law_own" lv_law_own ["kind", "data"] (R_law_own) _ fd_law_own := ⟨okD (k := 0) (lv := lvr_law_own) F_law_own sc_law_own rfl (fun as o h => R_len_law_own h) (fun vs as o h hl => body_law_own h hl) fun cdv A outer s H E hr => w_law_own T c_law_read_deed c_law_read_number c_law_read_packet c_law_read_text c_law_read_triples hr, g_law_own, F_law_own.kp, F_law_own.bindsN (fun _ _ _ _ _ _ us hl => match us, hl with | [_, _], _ => rfl)⟩
  have c_law_in_a_row : Cl P w K mg base CX0 "_law_in_a_row" lv_law_in_a_row ["things", "written"] (R_law_in_a_row (ca K)) _ fd_law_in_a_row := ⟨okD (k := 4) (lv := lvr_law_in_a_row) F_law_in_a_row sc_law_in_a_row rfl (fun as o h => R_len_law_in_a_row h) (fun vs as o h hl => body_law_in_a_row X h hl) fun cdv A outer s H E hr => w_law_in_a_row T c_Reader_end c_Reader_init c_Reader_read_deed c_Reader_read_number c_Reader_read_packet c_Reader_read_string c_Reader_read_triples c_law_same X hr, g_law_in_a_row, F_law_in_a_row.kp, F_law_in_a_row.bindsN (fun _ _ _ _ _ _ us hl => match us, hl with | [_, _], _ => rfl)⟩
  exact okD (k := 13) (lv := lvr_law) F_law sc_law rfl (fun as o h => R_len_law h) (fun vs as o h hl => body_law X h hl) fun cdv A outer s H E hr => w_law T c_law_deed c_law_drawn_deed c_law_drawn_number c_law_drawn_text c_law_in_a_row c_law_next c_law_number c_law_own c_law_same c_law_spoilt c_law_text c_law_told c_law_triples c_write_deed c_write_number c_write_packet c_write_string c_write_triples X hr
end K12
open PySem PySem.W PySem.Calls PyProof.Rows
theorem PySem.Challenge.cw_orderwhole_k12_bytes_written_and_read_holds : PySem.Challenge.rw_orderwhole_k12_bytes_written_and_read.Holds := by
  w_on; o_law
  refine HandSHeadRun.head_any (r := OpenLaw.row PySem.Challenge.rw_orderwhole_k12_bytes_written_and_read) (q := view (OpenLaw.row PySem.Challenge.rw_orderwhole_k12_bytes_written_and_read).prog [39]) (H := K12.hk) (ob := K12.ob) (M := 5000) (loose := [("_wall" : Str), ("OrderwholeError" : Str), ("DamagedPacket" : Str), ("Reader" : Str), ("write_number" : Str), ("write_list" : Str), ("write_string" : Str), ("write_mark" : Str), ("write_deed" : Str), ("write_triples" : Str), ("write_packet" : Str), ("_law_next" : Str), ("_law_same" : Str), ("_law_number" : Str), ("_law_text" : Str), ("_law_mark" : Str), ("_law_deed" : Str), ("_law_triples" : Str), ("_law_read_number" : Str), ("_law_sign" : Str), ("_law_read_text" : Str), ("_law_read_mark" : Str), ("_law_read_deed" : Str), ("_law_read_triples" : Str), ("_law_read_packet" : Str), ("_law_drawn_number" : Str), ("_law_drawn_text" : Str), ("_law_drawn_deed" : Str), ("_law_spoilt" : Str), ("_law_told" : Str), ("_law_own" : Str), ("_law_in_a_row" : Str), ("BEFORE_PERCENT" : Str), ("AFTER_PERCENT" : Str), ("NUMBER_BYTES" : Str)]) (d := HandSHeadRun.topDef (OpenLaw.row PySem.Challenge.rw_orderwhole_k12_bytes_written_and_read).prog 39) (kwd := []) K12.ob_eq
    (by kernel_rfl) (fun s => by kernel_rfl) K12.run (by kernel_rfl) (by kernel_rfl) (by kernel_rfl) (by rfl) (by first | assumption | decide +kernel) (by decide +kernel) ⟨rfl, rfl, rfl, rfl, rfl, by decide +kernel⟩ ?hw ?hc
  case hw => w_witness2
  case hc =>
    refine L2.walk_ofE (l := PySem.Challenge.rw_orderwhole_k12_bytes_written_and_read) (n := 63) (k := K12.lv_law) (x := "script") (CX := L2.CX0) rfl (by decide) (by kernel_rfl) ⟨rfl, by decide, by decide⟩ ?F (fun _ _ _ _ z => z)
    intro w mg fa h Y G hmg0
    obtain ⟨K, KX, c⟩ := Y
    have hmg : mg ("law" : PySem.Str) = some (.ref fa) := by
      have e : (HandSHeadRun.topDef (OpenLaw.row PySem.Challenge.rw_orderwhole_k12_bytes_written_and_read).prog 39).name = ("law" : PySem.Str) := by kernel_rfl
      rw [← e]
      exact hmg0
    obtain ⟨fd, hb, hF⟩ := K12.facts (P := (PySem.Challenge.rw_orderwhole_k12_bytes_written_and_read).prog) (w := w) KX G hmg c
    exact ⟨K, fd, DW.spD K (K12.R_law (K12.ca K)), KX, hb, fun H a ns hl hO hS => DW.spD_law hS (K12.R_law_in hl), hF⟩

