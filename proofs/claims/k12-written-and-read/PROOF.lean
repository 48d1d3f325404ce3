import PyProof.Rows.All
import Wide.All
import OpenK.AllK
import Wide.FinOn
import HandS.ForExc
import HandS.Comp
import HandS.Dict
import HandS.Iter
import HandS.Text
import HandS.TupAny
import HandS.IsInst
import HandS.ExcIs
import KE.KDictKeyed
import KE.KDictLaw
import HandS.Deep
import HandS.Wide
import HandS.TupMul
import HandS.RaiseMore
import HandS.TupLe
import HandS.TryOnly
import PyProof.StrOps2
import HandS.Conv
import HandS.Spec
import KE.KDictDisplayH
import KE.KDictList
import KE.KDictCopyH
import KE.SortData
import HandS.More
import KE.DataCmp
import HandS.ExcCtx
import HandS.SuiteRaise
import HandS.EndBits
import PySem.Challenge.RW_fencewright_k12_written_and_read
set_option Elab.async false
set_option linter.all false
set_option maxRecDepth 100000
set_option maxHeartbeats 4000000
/-! the data layer: what a def does, told over pure data (PyData) and owned trees of lists -/
namespace FW
open PySem PySem.Spec PyProof.Rows L2

/-- what may be owned: a list, a dict -/
inductive LxO where
  | lst (xs : List V)
  | ext (f : Heap → Prop)
def LxO.ho : LxO → HO
  | .lst xs => .lst xs
  | .ext f => .ext f
/-- the heap without the places of Z -/
def hid (Z : List Addr) (H : Hp) : Hp := fun a => if a ∈ Z then none else H a
theorem hid_in {Z : List Addr} {H : Hp} {a : Addr} (h : a ∈ Z) : hid Z H a = none := if_pos h
theorem hid_out {Z : List Addr} {H : Hp} {a : Addr} (h : a ∉ Z) : hid Z H a = H a := if_neg h
theorem hid_some {Z : List Addr} {H : Hp} {a : Addr} {o : HO} (h : hid Z H a = some o) : a ∉ Z ∧ H a = some o := by
  by_cases q : a ∈ Z
  · rw [hid_in q] at h; cases h
  · exact ⟨q, by rw [hid_out q] at h; exact h⟩
theorem hid_nil {H : Hp} : hid [] H = H := funext fun a => hid_out (by simp)
theorem hid_same {Z : List Addr} {H : Hp} : Same (hid Z H) H := fun _ _ h => (hid_some h).2
theorem hid_sub {Y Z : List Addr} {H : Hp} (h : ∀ a, a ∈ Z → a ∈ Y) : Same (hid Y H) (hid Z H) := fun a o e => by
  obtain ⟨n, e⟩ := hid_some e
  rw [hid_out fun q => n (h a q)]; exact e
theorem hid_mono {Z : List Addr} {H H' : Hp} (h : Same H H') : Same (hid Z H) (hid Z H') := fun a o e => by
  obtain ⟨n, e⟩ := hid_some e
  rw [hid_out n]; exact h a o e
/-- places that were free are hidden besides -/
theorem hid_new {Y Z : List Addr} {H H' : Hp} (h : Same H H') (hy : ∀ a, a ∈ Y → a ∈ Z ∨ H a = none) : Same (hid Z H) (hid Y H') := fun a o e => by
  obtain ⟨n, e⟩ := hid_some e
  rw [hid_out fun q => (hy a q).elim n fun z => by rw [z] at e; cases e]
  exact h a o e

theorem sqT_mono {K : PySem.W.Frag} {H H' : Hp} {a : Addr} {xs : List V} (e : Same H H') (h : SqT K H a xs) : SqT K H' a xs := by
  rcases h with (h | ⟨o, h⟩) | h
  · exact .inl (.inl (e _ _ h))
  · exact .inl (.inr ⟨o, e _ _ h⟩)
  · exact .inr h

/-! ### pure data -/
mutual
inductive DD (K : PySem.W.Frag) (H : Hp) : V → PyData → Prop
  | non : DD K H .non .none
  | bl (b : Bool) : DD K H (.bl b) (.bool b)
  | int (i : Int) : DD K H (.int i) (.int i)
  | str (x : Str) : DD K H (.str x) (.str x)
  | lst {a : Addr} {xs : List V} {ds : List PyData} : H a = some (.lst xs) → DDs K H xs ds → DD K H (.ref a) (.list ds)
  | tup {a : Addr} {xs : List V} {ds : List PyData} : SqT K H a xs → DDs K H xs ds → DD K H (.ref a) (.tuple ds)
  | dct {a : Addr} {kvs : List (Key × V)} : H a = some (.dK kvs) → DD K H (.ref a) (.dict [])
inductive DDs (K : PySem.W.Frag) (H : Hp) : List V → List PyData → Prop
  | nil : DDs K H [] []
  | cons {v : V} {vs : List V} {d : PyData} {ds : List PyData} : DD K H v d → DDs K H vs ds → DDs K H (v :: vs) (d :: ds)
end
section
variable {K : PySem.W.Frag} {H H' : Hp}
mutual
theorem DD.mono (e : Same H H') : ∀ {v : V} {d : PyData}, DD K H v d → DD K H' v d
  | _, _, .non => .non
  | _, _, .bl b => .bl b
  | _, _, .int i => .int i
  | _, _, .str x => .str x
  | _, _, .lst h t => .lst (e _ _ h) (DDs.mono e t)
  | _, _, .tup h t => .tup (sqT_mono e h) (DDs.mono e t)
  | _, _, .dct h => .dct (e _ _ h)
theorem DDs.mono (e : Same H H') : ∀ {vs : List V} {ds : List PyData}, DDs K H vs ds → DDs K H' vs ds
  | _, _, .nil => .nil
  | _, _, .cons h t => .cons (DD.mono e h) (DDs.mono e t)
end
theorem DDs.length : ∀ {vs : List V} {ds : List PyData}, DDs K H vs ds → vs.length = ds.length
  | _, _, .nil => rfl
  | _, _, .cons _ t => congrArg (· + 1) (DDs.length t)
theorem DDs.get : ∀ {vs : List V} {ds : List PyData} {i : Nat} {d : PyData}, DDs K H vs ds → ds[i]? = some d → ∃ v, vs[i]? = some v ∧ DD K H v d
  | _, _, _, _, .nil, e => by simp at e
  | _, _, 0, _, .cons h _, e => by
    have e' := Option.some.inj e
    subst e'; exact ⟨_, rfl, h⟩
  | _, _, i + 1, _, .cons _ t, e => DDs.get (i := i) t e
theorem DDs.append : ∀ {vs ws : List V} {ds es : List PyData}, DDs K H vs ds → DDs K H ws es → DDs K H (vs ++ ws) (ds ++ es)
  | _, _, _, _, .nil, s => s
  | _, _, _, _, .cons h t, s => .cons h (DDs.append t s)
theorem DDs.take : ∀ {vs : List V} {ds : List PyData} (n : Nat), DDs K H vs ds → DDs K H (vs.take n) (ds.take n)
  | _, _, 0, _ => .nil
  | _, _, _ + 1, .nil => .nil
  | _, _, n + 1, .cons h t => .cons h (DDs.take n t)
theorem DDs.drop : ∀ {vs : List V} {ds : List PyData} (n : Nat), DDs K H vs ds → DDs K H (vs.drop n) (ds.drop n)
  | _, _, 0, r => r
  | _, _, _ + 1, .nil => .nil
  | _, _, n + 1, .cons _ t => DDs.drop n t
theorem DDs.rep {vs : List V} {ds : List PyData} (h : DDs K H vs ds) : ∀ k : Nat, DDs K H (List.replicate k vs).flatten (List.replicate k ds).flatten
  | 0 => .nil
  | k + 1 => by
    rw [List.replicate_succ, List.replicate_succ, List.flatten_cons, List.flatten_cons]
    exact h.append (DDs.rep h k)
end

-- no list, no dict within
mutual
def flat : PyData → Bool
  | .list _ => false
  | .dict _ => false
  | .tuple ds => flats ds
  | _ => true
def flats : List PyData → Bool
  | [] => true
  | d :: ds => flat d && flats ds
end
-- no dict within
mutual
def nodct : PyData → Bool
  | .list ds => nodcts ds
  | .dict _ => false
  | .tuple ds => nodcts ds
  | _ => true
def nodcts : List PyData → Bool
  | [] => true
  | d :: ds => nodct d && nodcts ds
end
section
variable {K : PySem.W.Frag} {H : Hp} {Z : List Addr}
theorem sqT_hid {a : Addr} {xs : List V} (hz : ∀ a, a ∈ Z → ∃ ys : LxO, H a = some ys.ho) (h : SqT K H a xs) : SqT K (hid Z H) a xs := by
  rcases h with (h | ⟨o, h⟩) | h
  · refine .inl (.inl ?_)
    rw [hid_out fun q => by obtain ⟨ys, e⟩ := hz a q; rw [h] at e; cases ys <;> cases e]; exact h
  · refine .inl (.inr ⟨o, ?_⟩)
    rw [hid_out fun q => by obtain ⟨ys, e⟩ := hz a q; rw [h] at e; cases ys <;> cases e]; exact h
  · exact .inr h
mutual
theorem DD.flat (hz : ∀ a, a ∈ Z → ∃ ys : LxO, H a = some ys.ho) : ∀ {v : V} {d : PyData}, DD K H v d → flat d = true → DD K (hid Z H) v d
  | _, _, .non, _ => .non
  | _, _, .bl b, _ => .bl b
  | _, _, .int i, _ => .int i
  | _, _, .str x, _ => .str x
  | _, _, .lst h t, f => by simp [FW.flat] at f
  | _, _, .tup h t, f => .tup (sqT_hid hz h) (DDs.flat hz t f)
  | _, _, .dct h, f => by simp [FW.flat] at f
theorem DDs.flat (hz : ∀ a, a ∈ Z → ∃ ys : LxO, H a = some ys.ho) : ∀ {vs : List V} {ds : List PyData}, DDs K H vs ds → flats ds = true → DDs K (hid Z H) vs ds
  | _, _, .nil, _ => .nil
  | _, _, .cons h t, f => by
    have f' := Bool.and_eq_true_iff.mp f
    exact .cons (DD.flat hz h f'.1) (DDs.flat hz t f'.2)
end
mutual
theorem DD.dp : ∀ {v : V} {d : PyData}, DD K H v d → nodct d = true → Dp K H v d
  | _, _, .non, _ => .non
  | _, _, .bl b, _ => .bl b
  | _, _, .int i, _ => .int i
  | _, _, .str x, _ => .str x
  | _, _, .lst h t, f => .lst (.inl (.inl h)) (DDs.dp t f)
  | _, _, .tup h t, f => .tup h (DDs.dp t f)
  | _, _, .dct h, f => by simp [nodct] at f
theorem DDs.dp : ∀ {vs : List V} {ds : List PyData}, DDs K H vs ds → nodcts ds = true → DpAll K H vs ds
  | _, _, .nil, _ => .nil
  | _, _, .cons h t, f => by
    have f' := Bool.and_eq_true_iff.mp f
    exact .cons (DD.dp h f'.1) (DDs.dp t f'.2)
end
end

/-! ### owned trees of lists; their leaves are data -/
inductive OT where
  | leaf (d : PyData)
  | node (l : List OT)
  | scr (ns : List Int)
  | exn (a : Addr)
  | dct (w : World) (kvs : List (NestedKey × PyData))
  | opq
mutual
@[simp] def OT.er : OT → PyData
  | .leaf d => d
  | .node l => .list (OT.ers l)
  | .scr ns => .list (ns.map .int)
  | .exn _ => .dict [(.none, .none)]
  | .dct _ _ => .dict [(.none, .none)]
  | .opq => .dict [(.none, .none)]
@[simp] def OT.ers : List OT → List PyData
  | [] => []
  | t :: l => t.er :: OT.ers l
end
theorem ers_map : ∀ l : List OT, OT.ers l = l.map OT.er
  | [] => rfl
  | t :: l => by rw [OT.ers, List.map_cons, ers_map l]
def OT.isScr : OT → Bool
  | .scr _ => true
  | .exn _ => true
  | .dct _ _ => true
  | .opq => true
  | .leaf _ => false
  | .node _ => false
@[simp] theorem isScr_leaf {d : PyData} : (OT.leaf d).isScr = false := rfl
@[simp] theorem isScr_node {l : List OT} : (OT.node l).isScr = false := rfl
@[simp] theorem isScr_scr {l : List Int} : (OT.scr l).isScr = true := rfl
@[simp] theorem isScr_exn {a : Addr} : (OT.exn a).isScr = true := rfl
@[simp] theorem isScr_dct {w : World} {l : List (NestedKey × PyData)} : (OT.dct w l).isScr = true := rfl
@[simp] theorem isScr_opq : OT.opq.isScr = true := rfl
/-- what stands in a dict's object -/
def rawDct (w : World) (p : Addr) (xs : List (NestedKey × Addr × Value)) (h : Heap) : Prop :=
  ∃ o es ep, h.get? p = some o ∧ o.ExactDict ∧ o.data = .dict es ep ∧ es.toList = xs.map (fun x => (⟨x.1.hash w, .ref x.2.1, x.2.2⟩ : DictEntry)) ∧ (xs.map (·.1)).Nodup
def DKV (K : PySem.W.Frag) (H : Hp) : List (NestedKey × Addr × Value) → List (NestedKey × PyData) → Prop :=
  Paired fun x q => x.1 = q.1 ∧ x.1.depth ≤ 8 ∧ DD K H (.ref x.2.1) x.1.data ∧ ∃ v, RelV v x.2.2 ∧ DD K H v q.2
theorem DKV.mono {K : PySem.W.Frag} {H H' : Hp} (e : Same H H') {xs : List (NestedKey × Addr × Value)} {kvs : List (NestedKey × PyData)} (h : DKV K H xs kvs) : DKV K H' xs kvs :=
  Paired.mapP h fun _ _ ⟨a, b, c, v, d, f⟩ => ⟨a, b, c.mono e, v, d, f.mono e⟩
mutual
inductive Own (K : PySem.W.Frag) (Hs H : Hp) : V → OT → List Addr → Prop
  | leaf {v : V} {d : PyData} : DD K Hs v d → Own K Hs H v (.leaf d) []
  | node {p : Addr} {vs : List V} {ts : List OT} {As : List Addr} : H p = some (.lst vs) → Owns K Hs H vs ts As → Own K Hs H (.ref p) (.node ts) (p :: As)
  | scr {p : Addr} {ns : List Int} : SqL K Hs p (ns.map V.int) → Own K Hs H (.ref p) (.scr ns) []
  | exn {p : Addr} : Own K Hs H (.ref p) (.exn p) []
  | dct {w : World} {p : Addr} {xs : List (NestedKey × Addr × Value)} {kvs : List (NestedKey × PyData)} : (p == sysModules) = false → xs.length ≤ sizeLine → H p = some (.ext (rawDct w p xs)) → DKV K Hs xs kvs → Own K Hs H (.ref p) (.dct w kvs) [p]
  | opq {v : V} : Own K Hs H v .opq []
inductive Owns (K : PySem.W.Frag) (Hs H : Hp) : List V → List OT → List Addr → Prop
  | nil : Owns K Hs H [] [] []
  | cons {v : V} {vs : List V} {t : OT} {ts : List OT} {A B : List Addr} : t.isScr = false → Own K Hs H v t A → Owns K Hs H vs ts B → Owns K Hs H (v :: vs) (t :: ts) (A ++ B)
end
section
variable {K : PySem.W.Frag} {Hs Hs' H H' : Hp}
mutual
theorem Own.mono (e : Same Hs Hs') : ∀ {v : V} {t : OT} {A : List Addr}, Own K Hs H v t A → (∀ a, a ∈ A → ∀ o, H a = some o → H' a = some o) → Own K Hs' H' v t A
  | _, _, _, .leaf d, _ => .leaf (d.mono e)
  | _, _, _, .node h t, k => .node (k _ List.mem_cons_self _ h) (Owns.mono e t fun a ha => k a (List.mem_cons_of_mem _ ha))
  | _, _, _, .scr h, _ => .scr (e.seq h)
  | _, _, _, .exn, _ => .exn
  | _, _, _, .dct n z h r, k => .dct n z (k _ List.mem_cons_self _ h) (r.mono e)
  | _, _, _, .opq, _ => .opq
theorem Owns.mono (e : Same Hs Hs') : ∀ {vs : List V} {ts : List OT} {A : List Addr}, Owns K Hs H vs ts A → (∀ a, a ∈ A → ∀ o, H a = some o → H' a = some o) → Owns K Hs' H' vs ts A
  | _, _, _, .nil, _ => .nil
  | _, _, _, .cons n h t, k => .cons n (Own.mono e h fun a ha => k a (List.mem_append_left _ ha)) (Owns.mono e t fun a ha => k a (List.mem_append_right _ ha))
end
theorem Own.same {v : V} {t : OT} {A : List Addr} (h : Own K Hs H v t A) (e : Same Hs Hs') (e' : Same H H') : Own K Hs' H' v t A := h.mono e fun a _ o q => e' a o q
theorem Owns.same {v : List V} {t : List OT} {A : List Addr} (h : Owns K Hs H v t A) (e : Same Hs Hs') (e' : Same H H') : Owns K Hs' H' v t A := h.mono e fun a _ o q => e' a o q
mutual
theorem Own.there : ∀ {v : V} {t : OT} {A : List Addr}, Own K Hs H v t A → ∀ a, a ∈ A → ∃ xs : LxO, H a = some xs.ho
  | _, _, _, .leaf d, a, h => by simp at h
  | _, _, _, .node q t, a, h => by
    rcases List.mem_cons.mp h with e | h
    · subst e; exact ⟨.lst _, q⟩
    · exact Owns.there t a h
  | _, _, _, .scr _, a, h => by simp at h
  | _, _, _, .exn, a, h => by simp at h
  | _, _, _, .dct _ _ q _, a, h => by
    rcases List.mem_cons.mp h with e | h
    · subst e; exact ⟨.ext _, q⟩
    · simp at h
  | _, _, _, .opq, a, h => by simp at h
theorem Owns.there : ∀ {vs : List V} {ts : List OT} {A : List Addr}, Owns K Hs H vs ts A → ∀ a, a ∈ A → ∃ xs : LxO, H a = some xs.ho
  | _, _, _, .nil, a, h => by simp at h
  | _, _, _, .cons _ q t, a, h => by
    rcases List.mem_append.mp h with h | h
    · exact Own.there q a h
    · exact Owns.there t a h
end
-- a tree that is no longer owned is data
mutual
theorem Own.dd (e : Same Hs H') : ∀ {v : V} {t : OT} {A : List Addr}, Own K Hs H v t A → t.isScr = false → (∀ a, a ∈ A → ∀ o, H a = some o → H' a = some o) → DD K H' v t.er
  | _, _, _, .leaf d, _, _ => d.mono e
  | _, _, _, .node h t, n, k => .lst (k _ List.mem_cons_self _ h) (Owns.dd e t fun a ha => k a (List.mem_cons_of_mem _ ha))
  | _, _, _, .scr _, n, _ => by cases n
  | _, _, _, .exn, n, _ => by cases n
  | _, _, _, .dct _ _ _ _, n, _ => by cases n
  | _, _, _, .opq, n, _ => by cases n
theorem Owns.dd (e : Same Hs H') : ∀ {vs : List V} {ts : List OT} {A : List Addr}, Owns K Hs H vs ts A → (∀ a, a ∈ A → ∀ o, H a = some o → H' a = some o) → DDs K H' vs (OT.ers ts)
  | _, _, _, .nil, _ => .nil
  | _, _, _, .cons n h t, k => .cons (Own.dd e h n fun a ha => k a (List.mem_append_left _ ha)) (Owns.dd e t fun a ha => k a (List.mem_append_right _ ha))
end
theorem Owns.length : ∀ {vs : List V} {ts : List OT} {A : List Addr}, Owns K Hs H vs ts A → vs.length = ts.length
  | _, _, _, .nil => rfl
  | _, _, _, .cons _ _ t => congrArg (· + 1) (Owns.length t)
theorem Owns.append : ∀ {vs ws : List V} {ts us : List OT} {A B : List Addr}, Owns K Hs H vs ts A → Owns K Hs H ws us B → Owns K Hs H (vs ++ ws) (ts ++ us) (A ++ B)
  | _, _, _, _, _, _, .nil, s => s
  | _, _, _, _, _, _, .cons n h t, s => by
    rw [List.append_assoc]
    exact .cons n h (Owns.append t s)
end

/-! ### the slots -/
abbrev Ev := List (Option OT)
inductive EnvR (K : PySem.W.Frag) (Hs H : Hp) : L2.St → Ev → List Addr → Prop
  | nil : EnvR K Hs H [] [] []
  | skip {x : Option V} {σ : L2.St} {Γ : Ev} {A : List Addr} : EnvR K Hs H σ Γ A → EnvR K Hs H (x :: σ) (none :: Γ) A
  | cons {v : V} {σ : L2.St} {t : OT} {Γ : Ev} {A B : List Addr} : Own K Hs H v t A → EnvR K Hs H σ Γ B → EnvR K Hs H (some v :: σ) (some t :: Γ) (A ++ B)
section
variable {K : PySem.W.Frag} {Hs Hs' H H' : Hp}
theorem EnvR.mono (e : Same Hs Hs') : ∀ {σ : L2.St} {Γ : Ev} {A : List Addr}, EnvR K Hs H σ Γ A → (∀ a, a ∈ A → ∀ o, H a = some o → H' a = some o) → EnvR K Hs' H' σ Γ A
  | _, _, _, .nil, _ => .nil
  | _, _, _, .skip t, k => .skip (EnvR.mono e t k)
  | _, _, _, .cons h t, k => .cons (h.mono e fun a ha => k a (List.mem_append_left _ ha)) (EnvR.mono e t fun a ha => k a (List.mem_append_right _ ha))
theorem EnvR.there : ∀ {σ : L2.St} {Γ : Ev} {A : List Addr}, EnvR K Hs H σ Γ A → ∀ a, a ∈ A → ∃ xs : LxO, H a = some xs.ho
  | _, _, _, .nil, a, h => by simp at h
  | _, _, _, .skip t, a, h => EnvR.there t a h
  | _, _, _, .cons q t, a, h => by
    rcases List.mem_append.mp h with h | h
    · exact Own.there q a h
    · exact EnvR.there t a h
/-- what stands in a slot, and the rest -/
theorem EnvR.get : ∀ {σ : L2.St} {Γ : Ev} {A : List Addr} {i : Nat} {t : OT}, EnvR K Hs H σ Γ A → Γ[i]? = some (some t) → ∃ v B, σ[i]? = some (some v) ∧ Own K Hs H v t B ∧ (∀ a, a ∈ B → a ∈ A)
  | _, _, _, _, _, .nil, e => by simp at e
  | _, _, _, 0, _, .skip _, e => by cases e
  | _, _, _, i + 1, _, .skip r, e => EnvR.get (i := i) r e
  | _, _, _, 0, _, .cons h _, e => by
    cases e
    exact ⟨_, _, rfl, h, fun a ha => List.mem_append_left _ ha⟩
  | _, _, _, i + 1, _, .cons _ r, e => by
    obtain ⟨v, B, h1, h2, h3⟩ := EnvR.get (i := i) r e
    exact ⟨v, B, h1, h2, fun a ha => List.mem_append_right _ (h3 a ha)⟩
theorem EnvR.length : ∀ {σ : L2.St} {Γ : Ev} {A : List Addr}, EnvR K Hs H σ Γ A → σ.length = Γ.length
  | _, _, _, .nil => rfl
  | _, _, _, .skip t => congrArg (· + 1) (EnvR.length t)
  | _, _, _, .cons _ t => congrArg (· + 1) (EnvR.length t)
/-- a slot is stored: the tree that stood there is let go, the new one is owned -/
theorem EnvR.set : ∀ {σ : L2.St} {Γ : Ev} {A : List Addr} {i : Nat} {v : V} {t : OT} {B : List Addr}, EnvR K Hs H σ Γ A → i < σ.length → Own K Hs H v t B → A.Nodup → B.Nodup → (∀ a, a ∈ B → a ∉ A) →
    ∃ A', EnvR K Hs H (σ.set i (some v)) (Γ.set i (some t)) A' ∧ A'.Nodup ∧ ∀ a, a ∈ A' → a ∈ B ∨ a ∈ A
  | _, _, _, _, _, _, _, .nil, l, _, _, _, _ => by simp at l
  | _, _, _, 0, _, _, B, .skip r, _, h, n, nb, dj => ⟨B ++ _, .cons h r, List.nodup_append.mpr ⟨nb, n, fun a ha b hb e => dj a ha (e ▸ hb)⟩, fun a ha => List.mem_append.mp ha⟩
  | _, _, _, i + 1, _, _, B, .skip r, l, h, n, nb, dj => by
    obtain ⟨A', h1, h2, h3⟩ := EnvR.set (i := i) r (Nat.lt_of_succ_lt_succ l) h n nb dj
    exact ⟨A', .skip h1, h2, h3⟩
  | _, _, _, 0, _, _, B, .cons (A := A0) (B := C) _ r, _, h, n, nb, dj => by
    have n' := List.nodup_append.mp n
    exact ⟨B ++ C, .cons h r, List.nodup_append.mpr ⟨nb, n'.2.1, fun a ha b hb e => dj a ha (List.mem_append_right _ (e ▸ hb))⟩, fun a ha => (List.mem_append.mp ha).imp id fun z => List.mem_append_right _ z⟩
  | _, _, _, i + 1, _, _, B, .cons (A := A0) (B := C) q r, l, h, n, nb, dj => by
    have n' := List.nodup_append.mp n
    obtain ⟨A', h1, h2, h3⟩ := EnvR.set (i := i) r (Nat.lt_of_succ_lt_succ l) h n'.2.1 nb fun a ha z => dj a ha (List.mem_append_right _ z)
    refine ⟨A0 ++ A', .cons q h1, List.nodup_append.mpr ⟨n'.1, h2, fun a ha b hb e => ?_⟩, fun a ha => ?_⟩
    · subst e
      rcases h3 a hb with z | z
      · exact dj a z (List.mem_append_left _ ha)
      · exact n'.2.2 a ha a z rfl
    · rcases List.mem_append.mp ha with z | z
      · exact .inr (List.mem_append_left _ z)
      · exact (h3 a z).imp id fun y => List.mem_append_right _ y
/-- all is data, as it is read -/
def vw : OT → OT
  | .leaf d => .leaf d
  | .node l => .leaf (OT.node l).er
  | .scr ns => .scr ns
  | .exn a => .exn a
  | .dct _ _ => .opq
  | .opq => .opq
@[simp] theorem vw_leaf {d : PyData} : vw (.leaf d) = .leaf d := rfl
@[simp] theorem vw_node {l : List OT} : vw (.node l) = .leaf (.list (OT.ers l)) := rfl
@[simp] theorem vw_scr {l : List Int} : vw (.scr l) = .scr l := rfl
@[simp] theorem vw_exn {a : Addr} : vw (.exn a) = .exn a := rfl
@[simp] theorem vw_dct {w : World} {l : List (NestedKey × PyData)} : vw (.dct w l) = .opq := rfl
@[simp] theorem vw_opq : vw .opq = .opq := rfl
def OT.isOpq : OT → Bool
  | .dct _ _ => true
  | .opq => true
  | _ => false
theorem opq_er : ∀ {t : OT}, t.isOpq = true → t.er = .dict [(.none, .none)]
  | .dct _ _, _ => rfl
  | .opq, _ => rfl
theorem opq_scr : ∀ {t : OT}, t.isOpq = true → t.isScr = true
  | .dct _ _, _ => rfl
  | .opq, _ => rfl
abbrev vws (Γ : Ev) : Ev := Γ.map (Option.map vw)
end
end FW

set_option Elab.async false
set_option linter.all false
set_option maxRecDepth 100000
set_option maxHeartbeats 4000000
namespace FW
open PySem PySem.Spec PyProof.Rows L2

/-- the frame of a def's run: places of the callers that are hidden, the heap at the entry, the places that the arguments own, the slots at the entry -/
structure FrF where
  Z : List Addr
  H0 : Hp
  A0 : List Addr
  s0 : L2.St
structure Rel (K : PySem.W.Frag) (fx : List Nat) (φ : FrF) (A : List Addr) (σ : L2.St) (H : Hp) (Γ : Ev) : Prop where
  env : EnvR K (hid (A ++ φ.Z) H) H σ Γ A
  nd : A.Nodup
  az : ∀ a, a ∈ A → a ∉ φ.Z
  keep : ∀ b o, φ.H0 b = some o → b ∉ φ.A0 → H b = some o
  own : ∀ a, a ∈ A → a ∈ φ.A0 ∨ φ.H0 a = none
  zs : ∀ a, a ∈ φ.Z → a ∉ φ.A0 ∧ ∃ xs : LxO, φ.H0 a = some xs.ho
  a0 : ∀ a, a ∈ φ.A0 → ∃ xs : LxO, H a = some xs.ho
  fix : ∀ i, i ∈ fx → σ[i]? = φ.s0[i]?
def Dom (A Z : List Addr) (H : Hp) : Prop := ∀ a, a ∈ A ++ Z → ∃ xs : LxO, H a = some xs.ho
section
variable {K : PySem.W.Frag} {fx : List Nat} {φ : FrF} {A Z : List Addr} {σ : L2.St} {H H' H1 H2 : Hp} {Γ : Ev} {v : V} {t : OT}
theorem Rel.dom (r : Rel K fx φ A σ H Γ) : Dom A φ.Z H := fun a h => by
  rcases List.mem_append.mp h with h | h
  · exact r.env.there a h
  · obtain ⟨n, xs, e⟩ := r.zs a h
    exact ⟨xs, r.keep a _ e n⟩
theorem Dom.mono (d : Dom A Z H) (e : Same H H') : Dom A Z H' := fun a h => by
  obtain ⟨xs, q⟩ := d a h
  exact ⟨xs, e _ _ q⟩
theorem Rel.mono (r : Rel K fx φ A σ H Γ) (e : Same H H') : Rel K fx φ A σ H' Γ :=
  ⟨r.env.mono (hid_mono e) fun a _ o q => e a o q, r.nd, r.az, fun b o q n => e b o (r.keep b o q n), r.own, r.zs, fun a h => by
    obtain ⟨xs, q⟩ := r.a0 a h
    exact ⟨xs, e _ _ q⟩, r.fix⟩

/-- a result: what it owns is new -/
def Res (K : PySem.W.Frag) (A Z : List Addr) (H H' : Hp) (v : V) (t : OT) : Prop :=
  ∃ As, As.Nodup ∧ (∀ a, a ∈ As → H a = none) ∧ Own K (hid (As ++ (A ++ Z)) H') H' v t As
theorem Res.back (e : Same H H1) (r : Res K A Z H1 H' v t) : Res K A Z H H' v t := by
  obtain ⟨As, n, f, o⟩ := r
  exact ⟨As, n, fun a h => e.free (f a h), o⟩
theorem Res.mono (e : Same H1 H2) (r : Res K A Z H H1 v t) : Res K A Z H H2 v t := by
  obtain ⟨As, n, f, o⟩ := r
  exact ⟨As, n, f, o.same (hid_mono e) e⟩
theorem Res.leaf {d : PyData} (h : DD K (hid (A ++ Z) H') v d) : Res K A Z H H' v (.leaf d) := ⟨[], List.nodup_nil, fun _ h => by simp at h, .leaf h⟩
/-- a value that is read -/
inductive CV (K : PySem.W.Frag) (Hs : Hp) : V → OT → Prop
  | dat {v : V} {t : OT} : t.isScr = false → DD K Hs v t.er → CV K Hs v t
  | scr {p : Addr} {ns : List Int} : SqL K Hs p (ns.map V.int) → CV K Hs (.ref p) (.scr ns)
  | exn {p : Addr} : CV K Hs (.ref p) (.exn p)
  | opq {v : V} {t : OT} : t.isOpq = true → CV K Hs v t
inductive CVs (K : PySem.W.Frag) (Hs : Hp) : List V → List OT → Prop
  | nil : CVs K Hs [] []
  | cons {v : V} {vs : List V} {t : OT} {ts : List OT} : CV K Hs v t → CVs K Hs vs ts → CVs K Hs (v :: vs) (t :: ts)
theorem CV.mono {Hs Hs' : Hp} (e : Same Hs Hs') (c : CV K Hs v t) : CV K Hs' v t := by
  cases c with
  | dat n d => exact .dat n (d.mono e)
  | scr h => exact .scr (e.seq h)
  | exn => exact .exn
  | opq h => exact .opq h
theorem CVs.mono {Hs Hs' : Hp} (e : Same Hs Hs') : ∀ {vs : List V} {ts : List OT}, CVs K Hs vs ts → CVs K Hs' vs ts
  | _, _, .nil => .nil
  | _, _, .cons h t => .cons (h.mono e) (CVs.mono e t)
theorem Own.cv {Hs : Hp} {B : List Addr} (o : Own K Hs H v t B) (e : Same Hs H') (k : ∀ a, a ∈ B → ∀ o, H a = some o → H' a = some o) : CV K H' v t := by
  cases t with
  | leaf d => exact .dat rfl (o.dd e rfl k)
  | node l => exact .dat rfl (o.dd e rfl k)
  | scr ns =>
    cases o with
    | scr h => exact .scr (e.seq h)
  | exn a =>
    cases o with
    | exn => exact .exn
  | dct w l => exact .opq rfl
  | opq => exact .opq rfl
theorem Res.cv (d : Dom A Z H) (r : Res K A Z H H' v t) : CV K (hid (A ++ Z) H') v t := by
  obtain ⟨As, n, f, o⟩ := r
  refine o.cv (hid_sub fun a h => List.mem_append_right _ h) fun a h ob e => ?_
  rw [hid_out fun q => by
    obtain ⟨xs, z⟩ := d a q
    rw [f a h] at z; cases z]
  exact e
theorem CV.dd {Hs : Hp} (c : CV K Hs v t) (h : t.isScr = false) : DD K Hs v t.er := by
  cases c with
  | dat _ d => exact d
  | scr _ => cases h
  | exn => cases h
  | opq z => rw [opq_scr z] at h; cases h
theorem scr_dds {Hs : Hp} : ∀ ns : List Int, DDs K Hs (ns.map V.int) (ns.map PyData.int)
  | [] => .nil
  | n :: r => .cons (.int n) (scr_dds r)
theorem CV.list {Hs : Hp} (c : CV K Hs v t) {ds : List PyData} (e : t.er = .list ds) : ∃ a xs, v = .ref a ∧ SqL K Hs a xs ∧ DDs K Hs xs ds := by
  cases c with
  | dat n d =>
    rw [e] at d
    cases d with
    | lst h q => exact ⟨_, _, rfl, .inl (.inl h), q⟩
  | scr h =>
    cases e
    exact ⟨_, _, rfl, h, scr_dds _⟩
  | exn => cases e
  | opq z => rw [opq_er z] at e; cases e
theorem CV.tup {Hs : Hp} (c : CV K Hs v t) {ds : List PyData} (e : t.er = .tuple ds) : ∃ a xs, v = .ref a ∧ SqT K Hs a xs ∧ DDs K Hs xs ds := by
  cases c with
  | dat n d =>
    rw [e] at d
    cases d with
    | tup h q => exact ⟨_, _, rfl, h, q⟩
  | scr h => cases e
  | exn => cases e
  | opq z => rw [opq_er z] at e; cases e
theorem CV.tlist {Hs : Hp} (c : CV K Hs v t) (n : t.isScr = false) {ds : List PyData} (e : t.er = .list ds) : ∃ a xs, v = .ref a ∧ Hs a = some (.lst xs) ∧ DDs K Hs xs ds := by
  have d := c.dd n
  rw [e] at d
  cases d with
  | lst h q => exact ⟨_, _, rfl, h, q⟩
theorem CV.int {Hs : Hp} (c : CV K Hs v t) {i : Int} (e : t.er = .int i) : v = .int i := by
  cases c with
  | dat n d => rw [e] at d; cases d; rfl
  | scr h => cases e
  | exn => cases e
  | opq z => rw [opq_er z] at e; cases e
theorem CV.bl {Hs : Hp} (c : CV K Hs v t) {i : Bool} (e : t.er = .bool i) : v = .bl i := by
  cases c with
  | dat n d => rw [e] at d; cases d; rfl
  | scr h => cases e
  | exn => cases e
  | opq z => rw [opq_er z] at e; cases e
theorem CV.str {Hs : Hp} (c : CV K Hs v t) {i : Str} (e : t.er = .str i) : v = .str i := by
  cases c with
  | dat n d => rw [e] at d; cases d; rfl
  | scr h => cases e
  | exn => cases e
  | opq z => rw [opq_er z] at e; cases e
theorem CV.non {Hs : Hp} (c : CV K Hs v t) (e : t.er = .none) : v = .non := by
  cases c with
  | dat n d => rw [e] at d; cases d; rfl
  | scr h => cases e
  | exn => cases e
  | opq z => rw [opq_er z] at e; cases e
theorem seq_up {Hs : Hp} {a : Addr} {xs : List V} (e : Same Hs H) (h : SqL K Hs a xs) : SqL K H a xs := e.seq h
end

theorem PE.imp {X : Cx} {e : Expr} {t t' : TE} (p : PE X e t) (h : ∀ σ H Q, t' σ H Q → t σ H Q) : PE X e t' := ⟨fun pins s σ H Q I q => p.run pins s σ H Q I (h σ H Q q)⟩
theorem PT.imp {X : Cx} {e : Expr} {t t' : TT} (p : PT X e t) (h : ∀ σ H Q, t' σ H Q → t σ H Q) : PT X e t' := ⟨fun pins s σ H Q I q => p.run pins s σ H Q I (h σ H Q q)⟩
theorem PW.imp {X : Cx} {e : Expr} {t t' : TT} (p : PW X e t) (h : ∀ σ H Q, t' σ H Q → t σ H Q) : PW X e t' := ⟨fun wh pins s σ H Q I q => p.run wh pins s σ H Q I (h σ H Q q)⟩
theorem PA.imp {X : Cx} {e : List Expr} {t t' : TA} (p : PA X e t) (h : ∀ σ H Q, t' σ H Q → t σ H Q) : PA X e t' := ⟨fun po pins s σ H Q I q => p.run po pins s σ H Q I (h σ H Q q)⟩
theorem PS.imp {X : Cx} {e : Stmt} {t t' : TS} (p : PS X e t) (h : ∀ D σ H, t' D σ H → t D σ H) : PS X e t' := ⟨fun pins s σ H D I q => p.run pins s σ H D I (h D σ H q)⟩
theorem PSs.imp {X : Cx} {e : List Stmt} {t t' : TS} (p : PSs X e t) (h : ∀ D σ H, t' D σ H → t D σ H) : PSs X e t' := ⟨fun pins s σ H D I q => p.run pins s σ H D I (h D σ H q)⟩

abbrev TD := Ev → (OT → Prop) → (Value → Prop) → Prop
abbrev TDA := Ev → (List OT → Prop) → (Value → Prop) → Prop
abbrev TDT := Ev → (Bool → Prop) → (Value → Prop) → Prop
section
variable (K : PySem.W.Frag) (W : WX) (fx : List Nat)
def lift (t : TD) : TE := fun σ H Q => ∃ φ A Γ Qd Ed, Rel K fx φ A σ H Γ ∧ t Γ Qd Ed ∧ (∀ r v H', Same H H' → Res K A φ.Z H H' v r → Qd r → Q v H') ∧ (∀ c H', Same H H' → Ed c → W c none σ H')
def liftT (t : TDT) : TT := fun σ H Q => ∃ φ A Γ Qd Ed, Rel K fx φ A σ H Γ ∧ t Γ Qd Ed ∧ (∀ b H', Same H H' → Qd b → Q b H') ∧ (∀ c H', Same H H' → Ed c → W c none σ H')
/-- arguments that are read -/
def liftA (t : TDA) : TA := fun σ H Q => ∃ φ A Γ Qd Ed, Rel K fx φ A σ H Γ ∧ t Γ Qd Ed ∧ (∀ rs vs H', Same H H' → CVs K (hid (A ++ φ.Z) H') vs rs → Qd rs → Q vs H') ∧ (∀ c H', Same H H' → Ed c → W c none σ H')
/-- items that are owned -/
def liftO (t : TDA) : TA := fun σ H Q => ∃ φ A Γ Qd Ed, Rel K fx φ A σ H Γ ∧ t Γ Qd Ed ∧
  (∀ rs vs H', Same H H' → (∃ As, As.Nodup ∧ (∀ a, a ∈ As → H a = none) ∧ Owns K (hid (As ++ (A ++ φ.Z)) H') H' vs rs As) → Qd rs → Q vs H') ∧ (∀ c H', Same H H' → Ed c → W c none σ H')
end
abbrev DE (X : Cx) (W : WX) (fx : List Nat) (e : Expr) (t : TD) : Prop := PE X e (lift X.K W fx t)
abbrev DT (X : Cx) (W : WX) (fx : List Nat) (e : Expr) (t : TDT) : Prop := PT X e (liftT X.K W fx t)
abbrev DW (X : Cx) (W : WX) (fx : List Nat) (e : Expr) (t : TDT) : Prop := PW X e (liftT X.K W fx t)
abbrev DA (X : Cx) (W : WX) (fx : List Nat) (e : List Expr) (t : TDA) : Prop := PA X e (liftA X.K W fx t)
abbrev DO (X : Cx) (W : WX) (fx : List Nat) (e : List Expr) (t : TDA) : Prop := PA X e (liftO X.K W fx t)

/-! ### the ways to a rule -/
/-- what follows, told over the heap -/
def Kt (K : PySem.W.Frag) (A Z : List Addr) (H1 : Hp) (Qd : OT → Prop) (Q : VK) : Prop := ∀ y v H', Same H1 H' → Res K A Z H1 H' v y → Qd y → Q v H'
theorem Kt.leaf {K : PySem.W.Frag} {A Z : List Addr} {H1 : Hp} {Qd : OT → Prop} {Q : VK} {v : V} {d : PyData} (k : Kt K A Z H1 Qd Q) (h : DD K (hid (A ++ Z) H1) v d) (q : Qd (.leaf d)) : Q v H1 := k _ _ _ (Same.refl _) (.leaf h) q
theorem same_upd {H : Hp} {p : Addr} {o : HO} (h : H p = none) : Same H (upd H p o) := fun b x e => by
  rw [upd_ne (ne_of_none e h)]
  exact e
theorem hid_upd {Z : List Addr} {H : Hp} {p : Addr} {o : HO} (hz : p ∉ Z) : hid Z (upd H p o) p = some o := by
  rw [hid_out hz, upd_same]
theorem Dom.free {A Z : List Addr} {H : Hp} {p : Addr} (d : Dom A Z H) (h : H p = none) : p ∉ A ++ Z := fun q => by
  obtain ⟨xs, z⟩ := d p q
  rw [h] at z; cases z
/-- a new tuple of data -/
theorem Kt.tup {K : PySem.W.Frag} {A Z : List Addr} {H1 : Hp} {Qd : OT → Prop} {Q : VK} {vs : List V} {ds : List PyData} (dm : Dom A Z H1) (k : Kt K A Z H1 Qd Q) (h : DDs K (hid (A ++ Z) H1) vs ds) (q : Qd (.leaf (.tuple ds))) :
    ∀ p, H1 p = none → Q (.ref p) (upd H1 p (.tup vs)) := fun p np => by
  have s := same_upd (o := .tup vs) np
  exact k _ _ _ s (.leaf (.tup (.inl (.inl (hid_upd (dm.free np)))) (h.mono (hid_mono s)))) q
theorem owns_leaf {K : PySem.W.Frag} {Hs H : Hp} : ∀ {vs : List V} {ds : List PyData}, DDs K Hs vs ds → Owns K Hs H vs (ds.map .leaf) []
  | _, _, .nil => .nil
  | _, _, .cons h t => .cons rfl (.leaf h) (owns_leaf t)
/-- a new list of data -/
theorem Kt.lst {K : PySem.W.Frag} {A Z : List Addr} {H1 : Hp} {Qd : OT → Prop} {Q : VK} {vs : List V} {ds : List PyData} (dm : Dom A Z H1) (k : Kt K A Z H1 Qd Q) (h : DDs K (hid (A ++ Z) H1) vs ds) (q : Qd (.node (ds.map .leaf))) :
    ∀ p, H1 p = none → Q (.ref p) (upd H1 p (.lst vs)) := fun p np => by
  have s := same_upd (o := .lst vs) np
  refine k _ _ _ s ⟨[p], List.nodup_cons.mpr ⟨by simp, List.nodup_nil⟩, fun a h => ?_, .node upd_same ?_⟩ q
  · have e : a = p := by simpa using h
    rw [e]; exact np
  · exact owns_leaf (h.mono (hid_new s fun a z => by
      rcases List.mem_append.mp z with z | z
      · exact .inr (by have e : a = p := by simpa using z
                       rw [e]; exact np)
      · exact .inl z))

def U1 (K : PySem.W.Frag) (r : V → Hp → VK → Prop) (f : OT → (OT → Prop) → Prop) : Prop := ∀ A Z H1 x v Q Qd, Dom A Z H1 → CV K (hid (A ++ Z) H1) v x → f x Qd → Kt K A Z H1 Qd Q → r v H1 Q
def U2 (K : PySem.W.Frag) (r : R2) (f : OT → OT → (OT → Prop) → Prop) : Prop := ∀ A Z H1 x y v u Q Qd, Dom A Z H1 → CV K (hid (A ++ Z) H1) v x → CV K (hid (A ++ Z) H1) u y → f x y Qd → Kt K A Z H1 Qd Q → r v u H1 Q
def UA (K : PySem.W.Frag) (r : List V → Hp → VK → Prop) (f : List OT → (OT → Prop) → Prop) : Prop := ∀ A Z H1 xs vs Q Qd, Dom A Z H1 → CVs K (hid (A ++ Z) H1) vs xs → f xs Qd → Kt K A Z H1 Qd Q → r vs H1 Q
@[simp] def tU (f : OT → (OT → Prop) → Prop) (t : TD) : TD := fun Γ Q E => t Γ (fun x => f x Q) E
@[simp] def tB (f : OT → OT → (OT → Prop) → Prop) (t u : TD) : TD := fun Γ Q E => t Γ (fun x => u Γ (fun y => f x y Q) E) E
@[simp] def tF (f : List OT → (OT → Prop) → Prop) (t : TDA) : TD := fun Γ Q E => t Γ (fun xs => f xs Q) E
section
variable {X : Cx} {W : WX} {fx : List Nat} {e e' : Expr} {t u : TD} {ta : TDA}
theorem U2.or {K : PySem.W.Frag} {r r' : R2} {f : OT → OT → (OT → Prop) → Prop} {f' : OT → OT → (OT → Prop) → Prop} (h : U2 K r f) (h' : U2 K r' f') : U2 K (fun x y H Q => r x y H Q ∨ r' x y H Q) (fun x y Q => f x y Q ∨ f' x y Q) := fun A Z H1 x y v u Q Qd d c c' q k =>
  q.elim (fun q => .inl (h A Z H1 x y v u Q Qd d c c' q k)) fun q => .inr (h' A Z H1 x y v u Q Qd d c c' q k)
theorem U2.inl {K : PySem.W.Frag} {r r' : R2} {f : OT → OT → (OT → Prop) → Prop} (h : U2 K r f) : U2 K (fun x y H Q => r x y H Q ∨ r' x y H Q) f := fun A Z H1 x y v u Q Qd d c c' q k => .inl (h A Z H1 x y v u Q Qd d c c' q k)
theorem U2.inr {K : PySem.W.Frag} {r r' : R2} {f : OT → OT → (OT → Prop) → Prop} (h : U2 K r' f) : U2 K (fun x y H Q => r x y H Q ∨ r' x y H Q) f := fun A Z H1 x y v u Q Qd d c c' q k => .inr (h A Z H1 x y v u Q Qd d c c' q k)
theorem de_un {r : V → Hp → VK → Prop} {f : OT → (OT → Prop) → Prop} (p : PE X e (tUn r (lift X.K W fx t))) (h : U1 X.K r f) : DE X W fx e (tU f t) := by
  refine PE.imp p fun σ H Q ⟨φ, A, Γ, Qd, Ed, rel, q, k, ke⟩ => ?_
  refine ⟨φ, A, Γ, _, Ed, rel, q, fun x v H1 s1 r1 q1 => ?_, ke⟩
  exact h A φ.Z H1 x v Q Qd (rel.dom.mono s1) (r1.cv rel.dom) q1 fun y w H' s' r' qy => k y w H' (s1.trans s') (r'.back s1) qy
theorem de_bin {r : R2} {f : OT → OT → (OT → Prop) → Prop} (p : PE X e (tOp r (lift X.K W fx t) (lift X.K W fx u))) (h : U2 X.K r f) : DE X W fx e (tB f t u) := by
  refine PE.imp p fun σ H Q ⟨φ, A, Γ, Qd, Ed, rel, q, k, ke⟩ => ?_
  refine ⟨φ, A, Γ, _, Ed, rel, q, fun x v H1 s1 r1 q1 => ?_, ke⟩
  refine ⟨φ, A, Γ, _, Ed, rel.mono s1, q1, fun y w H2 s2 r2 q2 => ?_, fun c H' s' q' => ke c H' (s1.trans s') q'⟩
  exact h A φ.Z H2 x y v w Q Qd ((rel.dom.mono s1).mono s2) ((r1.cv rel.dom).mono (hid_mono s2)) (r2.cv (rel.dom.mono s1)) q2 fun z z' H' s' r' qz => k z z' H' ((s1.trans s2).trans s') (r'.back (s1.trans s2)) qz
/-- a call, a display: what is read is a list -/
theorem de_args {r : List V → Hp → VK → Prop} {f : List OT → (OT → Prop) → Prop} (p : PE X e (fun σ H Q => liftA X.K W fx ta σ H fun vs H1 => r vs H1 Q)) (h : UA X.K r f) : DE X W fx e (tF f ta) := by
  refine PE.imp p fun σ H Q ⟨φ, A, Γ, Qd, Ed, rel, q, k, ke⟩ => ?_
  refine ⟨φ, A, Γ, _, Ed, rel, q, fun xs vs H1 s1 r1 q1 => ?_, ke⟩
  exact h A φ.Z H1 xs vs Q Qd (rel.dom.mono s1) r1 q1 fun y w H' s' r' qy => k y w H' (s1.trans s') (r'.back s1) qy
/-- a test by its value -/
@[simp] def tTV (t : TD) : TDT := fun Γ Q E => t Γ (fun x => ∃ b, x.er = .bool b ∧ Q b) E
theorem dt_of (p : PT X e (tTest (lift X.K W fx t))) : DT X W fx e (tTV t) := by
  refine PT.imp p fun σ H Q ⟨φ, A, Γ, Qd, Ed, rel, q, k, ke⟩ => ?_
  refine ⟨φ, A, Γ, _, Ed, rel, q, fun x v H1 s1 r1 ⟨b, e1, q1⟩ => ?_, ke⟩
  have e2 := (r1.cv rel.dom).bl e1
  exact ⟨b, e2, k b H1 s1 q1⟩
theorem dt_op {r : R2} {f : OT → OT → (OT → Prop) → Prop} (p : PT X e (tTest (tOp r (lift X.K W fx t) (lift X.K W fx u)))) (h : U2 X.K r f) : DT X W fx e (tTV (tB f t u)) := by
  refine PT.imp p fun σ H Q ⟨φ, A, Γ, Qd, Ed, rel, q, k, ke⟩ => ?_
  refine ⟨φ, A, Γ, _, Ed, rel, q, fun x v H1 s1 r1 q1 => ?_, ke⟩
  refine ⟨φ, A, Γ, _, Ed, rel.mono s1, q1, fun y w H2 s2 r2 q2 => ?_, fun c H' s' q' => ke c H' (s1.trans s') q'⟩
  refine h A φ.Z H2 x y v w _ _ ((rel.dom.mono s1).mono s2) ((r1.cv rel.dom).mono (hid_mono s2)) (r2.cv (rel.dom.mono s1)) q2 fun z z' H' s' r' ⟨b, e1, q1⟩ => ?_
  exact ⟨b, (r'.cv ((rel.dom.mono s1).mono s2)).bl e1, k b H' ((s1.trans s2).trans s') q1⟩
end
end FW

set_option Elab.async false
set_option linter.all false
set_option maxRecDepth 100000
set_option maxHeartbeats 4000000
namespace FW
open PySem PySem.Spec PyProof.Rows L2

/-- an answer that may lack -/
def oq {α : Type} (o : Option α) (Q : α → Prop) : Prop := ∃ r, o = some r ∧ Q r
@[simp] theorem oq_some {α : Type} {r : α} {Q : α → Prop} : oq (some r) Q = Q r := propext ⟨fun ⟨_, e, q⟩ => by cases e; exact q, fun q => ⟨_, rfl, q⟩⟩
@[simp] theorem oq_none {α : Type} {Q : α → Prop} : oq (none : Option α) Q = False := propext ⟨fun ⟨_, e, _⟩ => by (cases e), False.elim⟩
@[simp] theorem oq_if {α : Type} {c : Prop} [Decidable c] {r : α} {Q : α → Prop} : oq (if c then some r else none) Q = (c ∧ Q r) := by
  by_cases h : c
  · rw [if_pos h, oq_some]; exact propext ⟨fun q => ⟨h, q⟩, fun q => q.2⟩
  · rw [if_neg h, oq_none]; exact propext ⟨False.elim, fun q => h q.1⟩
theorem oq_ite {α : Type} {c : Prop} [Decidable c] {r : α} {Q : α → Prop} (h : c) (q : Q r) : oq (if c then some r else none) Q := ⟨r, if_pos h, q⟩

def OT.isNode : OT → Bool
  | .node _ => true
  | .dct _ _ => true
  | .opq => false
  | .leaf _ => false
  | .scr _ => false
  | .exn _ => false
@[simp] theorem isNode_leaf {d : PyData} : (OT.leaf d).isNode = false := rfl
@[simp] theorem isNode_node {l : List OT} : (OT.node l).isNode = true := rfl
@[simp] theorem isNode_scr {l : List Int} : (OT.scr l).isNode = false := rfl
@[simp] theorem isNode_exn {a : Addr} : (OT.exn a).isNode = false := rfl
@[simp] theorem isNode_dct {w : World} {l : List (NestedKey × PyData)} : (OT.dct w l).isNode = true := rfl
@[simp] theorem isNode_opq : OT.opq.isNode = false := rfl
mutual
def oflat : OT → Bool
  | .leaf d => flat d
  | .node l => oflats l
  | .scr _ => false
  | .exn _ => false
  | .dct _ _ => false
  | .opq => false
def oflats : List OT → Bool
  | [] => true
  | t :: l => oflat t && oflats l
end
section
variable {K : PySem.W.Frag} {fx : List Nat} {φ : FrF} {A Z Y : List Addr} {σ : L2.St} {H H' H1 H2 Hs : Hp} {Γ : Ev} {v : V} {t : OT}
mutual
theorem Own.flatY (e : Same Hs H) (hy : ∀ a, a ∈ Y → ∃ ys : LxO, H a = some ys.ho) : ∀ {v : V} {t : OT} {A : List Addr}, Own K Hs H v t A → oflat t = true → Own K (hid Y H) H v t A
  | _, _, _, .leaf d, f => .leaf (DD.flat hy (d.mono e) f)
  | _, _, _, .node h t, f => .node h (Owns.flatY e hy t f)
  | _, _, _, .scr _, f => by cases f
  | _, _, _, .exn, f => by cases f
  | _, _, _, .dct _ _ _ _, f => by cases f
  | _, _, _, .opq, f => by cases f
theorem Owns.flatY (e : Same Hs H) (hy : ∀ a, a ∈ Y → ∃ ys : LxO, H a = some ys.ho) : ∀ {vs : List V} {ts : List OT} {A : List Addr}, Owns K Hs H vs ts A → oflats ts = true → Owns K (hid Y H) H vs ts A
  | _, _, _, .nil, _ => .nil
  | _, _, _, .cons n h t, f => by
    have f' := Bool.and_eq_true_iff.mp f
    exact .cons n (Own.flatY e hy h f'.1) (Owns.flatY e hy t f'.2)
end
theorem EnvR.view (e : Same Hs H) : ∀ {σ : L2.St} {Γ : Ev} {A : List Addr}, EnvR K Hs H σ Γ A → EnvR K H H σ (vws Γ) []
  | _, _, _, .nil => .nil
  | _, _, _, .skip t => .skip (EnvR.view e t)
  | _, _, _, .cons (t := t) h r => by
    have r' := EnvR.view e r
    cases t with
    | leaf d =>
      cases h with
      | leaf d' => exact .cons (A := []) (B := []) (.leaf (d'.mono e)) r'
    | node l => exact .cons (A := []) (B := []) (.leaf (h.dd e rfl fun a _ o q => q)) r'
    | scr ns =>
      cases h with
      | scr h => exact .cons (A := []) (B := []) (.scr (e.seq h)) r'
    | exn a =>
      cases h with
      | exn => exact .cons (A := []) (B := []) .exn r'
    | dct w l => exact .cons (A := []) (B := []) .opq r'
    | opq => exact .cons (A := []) (B := []) .opq r'
theorem Rel.view (r : Rel K fx φ A σ H Γ) : Rel K fx ⟨[], H, [], φ.s0⟩ [] σ H (vws Γ) := by
  refine ⟨?_, List.nodup_nil, fun a h => by simp at h, fun b o e _ => e, fun a h => by simp at h, fun a h => by simp at h, fun a h => by simp at h, r.fix⟩
  have q := r.env.view hid_same
  show EnvR K (hid ([] ++ []) H) H σ (vws Γ) []
  rw [List.append_nil, hid_nil]
  exact q
theorem Res.unview (d : Dom A Z H) (e : Same H H') (r : Res K [] [] H H' v t) (f : oflat t = true) : Res K A Z H H' v t := by
  obtain ⟨As, n, fr, o⟩ := r
  refine ⟨As, n, fr, o.flatY hid_same (fun a h => ?_) f⟩
  rcases List.mem_append.mp h with h | h
  · exact o.there a h
  · exact d.mono e a h
/-- the frame from here on; Y: new places that are hidden besides -/
theorem Rel.rebase (r : Rel K fx φ A σ H Γ) (e : Same H H1) (Y : List Addr) (hy : ∀ a, a ∈ Y → H a = none ∧ ∃ xs : LxO, H1 a = some xs.ho) : Rel K fx ⟨Y ++ φ.Z, H1, A, φ.s0⟩ A σ H1 Γ := by
  have r1 := r.mono e
  refine ⟨?_, r.nd, fun a ha hz => ?_, fun b o q _ => q, fun a h => .inl h, fun a ha => ?_, fun a h => r1.dom a (List.mem_append_left _ h), r.fix⟩
  · refine r.env.mono (hid_new e fun a ha => ?_) fun a _ o q => e a o q
    rcases List.mem_append.mp ha with h | h
    · exact .inl (List.mem_append_left _ h)
    · rcases List.mem_append.mp h with h | h
      · exact .inr (hy a h).1
      · exact .inl (List.mem_append_right _ h)
  · rcases List.mem_append.mp hz with h | h
    · obtain ⟨xs, z⟩ := r.dom a (List.mem_append_left _ ha)
      rw [(hy a h).1] at z; cases z
    · exact r.az a ha h
  · rcases List.mem_append.mp ha with h | h
    · refine ⟨fun q => ?_, (hy a h).2⟩
      obtain ⟨xs, z⟩ := r.dom a (List.mem_append_left _ q)
      rw [(hy a h).1] at z; cases z
    · exact ⟨fun q => r.az a q h, r1.dom a (List.mem_append_right _ h)⟩
end

section
variable {X : Cx} {W : WX} {fx : List Nat} {e e' : Expr} {es : List Expr} {t u : TD} {ta : TDA} {pos : Pos}
/-! ### names, constants -/
@[simp] def tName (i : Nat) : TD := fun Γ Q _ => ∃ t, Γ[i]? = some (some t) ∧ t.isNode = false ∧ Q t
theorem de_name (i : Nat) {x : Str} (hN : X.N[i]? = some x := by rfl) (hv : Vis X.env.scope x := by first | exact Or.inl rfl | exact Or.inr (Or.inl rfl) | exact Or.inr (Or.inr rfl)) (hd : (x == ("__debug__" : Str)) = false := by decide)
    (hcd : (x == ("__classdict__" : Str)) = false := by decide) : DE X W fx (.Name x pos) (tName i) := by
  refine PE.imp (pe_var hN hv hd hcd) fun σ H Q ⟨φ, A, Γ, Qd, Ed, rel, ⟨t, e1, n, q⟩, k, ke⟩ => ?_
  obtain ⟨v, B, e2, o, _⟩ := rel.env.get e1
  refine ⟨v, e2, k t v H (Same.refl _) ?_ q⟩
  cases o with
  | leaf d => exact .leaf d
  | node _ _ => cases n
  | scr h => exact ⟨[], List.nodup_nil, fun _ h => by simp at h, .scr h⟩
  | exn => exact ⟨[], List.nodup_nil, fun _ h => by simp at h, .exn⟩
  | dct _ _ _ _ => cases n
  | opq => exact ⟨[], List.nodup_nil, fun _ h => by simp at h, .opq⟩
@[simp] def tK (d : PyData) : TD := fun _ Q _ => Q (.leaf d)
theorem de_int {i : Int} {j : Nat} : DE X W fx (.Constant (.int i) j pos) (tK (.int i)) := PE.imp pe_int fun σ H Q ⟨φ, A, Γ, Qd, Ed, rel, q, k, ke⟩ => k _ _ H (Same.refl _) (.leaf (.int i)) q
theorem de_bl {i : Bool} {j : Nat} : DE X W fx (.Constant (.bool i) j pos) (tK (.bool i)) := PE.imp pe_bl fun σ H Q ⟨φ, A, Γ, Qd, Ed, rel, q, k, ke⟩ => k _ _ H (Same.refl _) (.leaf (.bl i)) q
theorem de_str {i : Str} {j : Nat} : DE X W fx (.Constant (.str i) j pos) (tK (.str i)) := PE.imp pe_str fun σ H Q ⟨φ, A, Γ, Qd, Ed, rel, q, k, ke⟩ => k _ _ H (Same.refl _) (.leaf (.str i)) q
theorem de_non {j : Nat} : DE X W fx (.Constant .none j pos) (tK .none) := PE.imp pe_non fun σ H Q ⟨φ, A, Γ, Qd, Ed, rel, q, k, ke⟩ => k _ _ H (Same.refl _) (.leaf .non) q
/-- a constant of the module: a number, a text -/
theorem de_globI {x : Str} {i : Int} {u : Value} (hg : Gl X x) (hm : X.mg x = some u) (r : RelV (.int i) u) (hd : (x == ("__debug__" : Str)) = false := by decide) : DE X W fx (.Name x pos) (tK (.int i)) :=
  PE.imp (pe_glob hg hm r hd) fun σ H Q ⟨φ, A, Γ, Qd, Ed, rel, q, k, ke⟩ => k _ _ H (Same.refl _) (.leaf (.int i)) q
theorem de_globS {x : Str} {i : Str} {u : Value} (hg : Gl X x) (hm : X.mg x = some u) (r : RelV (.str i) u) (hd : (x == ("__debug__" : Str)) = false := by decide) : DE X W fx (.Name x pos) (tK (.str i)) :=
  PE.imp (pe_glob hg hm r hd) fun σ H Q ⟨φ, A, Γ, Qd, Ed, rel, q, k, ke⟩ => k _ _ H (Same.refl _) (.leaf (.str i)) q
/-! ### all slots read as data -/
@[simp] def tV (t : TD) : TD := fun Γ Q E => t (vws Γ) (fun r => oflat r = true ∧ Q r) E
theorem de_view (h : DE X W fx e t) : DE X W fx e (tV t) := by
  refine PE.imp h fun σ H Q ⟨φ, A, Γ, Qd, Ed, rel, q, k, ke⟩ => ?_
  exact ⟨_, [], vws Γ, _, Ed, rel.view, q, fun r v H' s res ⟨fl, qd⟩ => k r v H' s (res.unview rel.dom s fl) qd, ke⟩
@[simp] def tVT (t : TDT) : TDT := fun Γ Q E => t (vws Γ) Q E
theorem dt_view (h : DT X W fx e t') : DT X W fx e (tVT t') := by
  refine PT.imp h fun σ H Q ⟨φ, A, Γ, Qd, Ed, rel, q, k, ke⟩ => ?_
  exact ⟨_, [], vws Γ, _, Ed, rel.view, q, k, ke⟩
/-! ### arguments, displays -/
@[simp] def tA0 : TDA := fun _ Q _ => Q []
@[simp] def tAc (t : TD) (ta : TDA) : TDA := fun Γ Q E => t Γ (fun x => ta Γ (fun xs => Q (x :: xs)) E) E
@[simp] def tOc (t : TD) (ta : TDA) : TDA := fun Γ Q E => t Γ (fun x => x.isScr = false ∧ ta Γ (fun xs => Q (x :: xs)) E) E
theorem da_nil : DA X W fx [] tA0 := PA.imp pa_nil fun σ H Q ⟨φ, A, Γ, Qd, Ed, rel, q, k, ke⟩ => k _ _ H (Same.refl _) .nil q
theorem da_cons (h : DE X W fx e t) (hr : DA X W fx es ta) (hs : starEach (e :: es) X.env = (false, eval e X.env) :: starEach es X.env := by rfl) : DA X W fx (e :: es) (tAc t ta) := by
  refine PA.imp (pa_cons h hr hs) fun σ H Q ⟨φ, A, Γ, Qd, Ed, rel, q, k, ke⟩ => ?_
  refine ⟨φ, A, Γ, _, Ed, rel, q, fun x v H1 s1 r1 q1 => ?_, ke⟩
  refine ⟨φ, A, Γ, _, Ed, rel.mono s1, q1, fun xs vs H2 s2 r2 q2 => ?_, fun c H' s' q' => ke c H' (s1.trans s') q'⟩
  exact k _ _ H2 (s1.trans s2) (.cons ((r1.cv rel.dom).mono (hid_mono s2)) r2) q2
theorem do_nil : DO X W fx [] tA0 := PA.imp pa_nil fun σ H Q ⟨φ, A, Γ, Qd, Ed, rel, q, k, ke⟩ => k _ _ H (Same.refl _) ⟨[], List.nodup_nil, fun _ h => by simp at h, .nil⟩ q
theorem do_cons (h : DE X W fx e t) (hr : DO X W fx es ta) (hs : starEach (e :: es) X.env = (false, eval e X.env) :: starEach es X.env := by rfl) : DO X W fx (e :: es) (tOc t ta) := by
  refine PA.imp (pa_cons h hr hs) fun σ H Q ⟨φ, A, Γ, Qd, Ed, rel, q, k, ke⟩ => ?_
  refine ⟨φ, A, Γ, _, Ed, rel, q, fun x v H1 s1 ⟨As1, n1, f1, o1⟩ ⟨ns, q1⟩ => ?_, ke⟩
  refine ⟨_, A, Γ, _, Ed, rel.rebase s1 As1 fun a ha => ⟨f1 a ha, o1.there a ha⟩, q1, fun xs vs H2 s2 ⟨As2, n2, f2, o2⟩ q2 => ?_, fun c H' s' q' => ke c H' (s1.trans s') q'⟩
  refine k _ _ H2 (s1.trans s2) ⟨As1 ++ As2, List.nodup_append.mpr ⟨n1, n2, fun a ha b hb eab => ?_⟩, fun a ha => ?_, .cons ns (o1.same (hid_new s2 fun a ha => ?_) s2) (o2.same (hid_sub fun a ha => ?_) (Same.refl _))⟩ q2
  · obtain ⟨xs', z⟩ := o1.there a ha
    rw [eab, f2 b hb] at z; cases z
  · rcases List.mem_append.mp ha with z | z
    · exact f1 a z
    · exact s1.free (f2 a z)
  · simp only [List.mem_append] at ha ⊢
    rcases ha with (z | z) | z
    · exact .inl (.inl z)
    · exact .inr (f2 a z)
    · exact .inl (.inr z)
  · simp only [List.mem_append] at ha ⊢
    rcases ha with (z | z) | z | z
    · exact .inr (.inr (.inl z))
    · exact .inl z
    · exact .inr (.inl z)
    · exact .inr (.inr (.inr z))
theorem CVs.dds {K : PySem.W.Frag} {Hs : Hp} : ∀ {vs : List V} {ts : List OT}, CVs K Hs vs ts → (ts.all fun t => !t.isScr) = true → DDs K Hs vs (ts.map OT.er)
  | _, _, .nil, _ => .nil
  | _, _, .cons h t, n => by
    have n' := Bool.and_eq_true_iff.mp n
    exact .cons (h.dd (by simpa using n'.1)) (CVs.dds t n'.2)
theorem CVs.length {K : PySem.W.Frag} {Hs : Hp} : ∀ {vs : List V} {ts : List OT}, CVs K Hs vs ts → vs.length = ts.length
  | _, _, .nil => rfl
  | _, _, .cons _ t => congrArg (· + 1) (CVs.length t)
@[simp] def fTup (xs : List OT) (Q : OT → Prop) : Prop := (xs.all fun t => !t.isScr) = true ∧ xs.length ≤ sizeLine ∧ Q (.leaf (.tuple (xs.map OT.er)))
theorem de_tup {x1 : Nat} (h : DA X W fx es ta) : DE X W fx (.Tuple es x1 pos) (tF fTup ta) := by
  refine de_args (pe_tup h) fun A Z H1 xs vs Q Qd dm c ⟨n, l, q⟩ k => ⟨by rw [c.length]; exact l, Kt.tup dm k (c.dds n) q⟩
@[simp] def fLst (ta : TDA) : TD := fun Γ Q E => ta Γ (fun xs => xs.length ≤ sizeLine ∧ Q (.node xs)) E
theorem de_lst (h : DO X W fx es ta) : DE X W fx (.List es pos) (fLst ta) := by
  refine PE.imp (pe_lst h) fun σ H Q ⟨φ, A, Γ, Qd, Ed, rel, q, k, ke⟩ => ?_
  refine ⟨φ, A, Γ, _, Ed, rel, q, fun xs vs H1 s1 ⟨As, n, f, o⟩ ⟨l, q1⟩ => ⟨by rw [o.length]; exact l, fun p np => ?_⟩, ke⟩
  have s := same_upd (o := .lst vs) np
  have np' : p ∉ As := fun z => by
    obtain ⟨xs', y⟩ := o.there p z
    rw [np] at y; cases y
  refine k _ _ _ (s1.trans s) ⟨p :: As, List.nodup_cons.mpr ⟨np', n⟩, fun a ha => ?_, .node upd_same (o.same (hid_new s fun a ha => ?_) s)⟩ q1
  · rcases List.mem_cons.mp ha with z | z
    · rw [z]; exact s1.free np
    · exact f a z
  · rcases List.mem_cons.mp ha with z | z
    · exact .inr (by rw [z]; exact np)
    · exact .inl z
/-! ### operators -/
def addD : PyData → PyData → Option OT
  | .int i, .int j => some (.leaf (.int (i + j)))
  | .str a, .str b => if a.length + b.length ≤ sizeLine then some (.leaf (.str (a ++ b))) else none
  | .tuple a, .tuple b => if a.length + b.length ≤ sizeLine then some (.leaf (.tuple (a ++ b))) else none
  | .list a, .list b => if a.length + b.length ≤ sizeLine then some (.node ((a ++ b).map .leaf)) else none
  | _, _ => none
@[simp] theorem addD_int {i j : Int} : addD (.int i) (.int j) = some (.leaf (.int (i + j))) := rfl
@[simp] theorem addD_str {a b : Str} : addD (.str a) (.str b) = if a.length + b.length ≤ sizeLine then some (.leaf (.str (a ++ b))) else none := rfl
@[simp] theorem addD_tup {a b : List PyData} : addD (.tuple a) (.tuple b) = if a.length + b.length ≤ sizeLine then some (.leaf (.tuple (a ++ b))) else none := rfl
@[simp] theorem addD_list {a b : List PyData} : addD (.list a) (.list b) = if a.length + b.length ≤ sizeLine then some (.node ((a ++ b).map .leaf)) else none := rfl
@[simp] def f2 (g : PyData → PyData → Option OT) (x y : OT) (Q : OT → Prop) : Prop := x.isScr = false ∧ y.isScr = false ∧ oq (g x.er y.er) Q
theorem opt_ite {α : Type} {c : Prop} [Decidable c] {x r : α} (h : (if c then some x else none) = some r) : c ∧ r = x := by
  split at h
  · exact ⟨by assumption, (Option.some.inj h).symm⟩
  · cases h
theorem u_add {K : PySem.W.Frag} : U2 K (fun x y H Q => rI0 (fun i j => .int (i + j)) x y H Q ∨ (∃ i j, x = .str i ∧ y = .str j ∧ i.length + j.length ≤ sizeLine ∧ Q (.str (i ++ j)) H) ∨ rCatA K x y H Q ∨ rCat x y H Q) (f2 addD) := by
  intro A Z H1 x y v u Q Qd dm c c' ⟨n, n', r, e, q⟩ k
  have dx := c.dd n
  have dy := c'.dd n'
  generalize x.er = a at *
  generalize y.er = b at *
  cases dx with
  | int i =>
    cases dy with
    | int j =>
      cases e
      exact .inl ⟨i, j, rfl, rfl, k.leaf (.int _) q⟩
    | _ => cases e
  | str i =>
    cases dy with
    | str j =>
      obtain ⟨l, rfl⟩ := opt_ite e
      exact .inr (.inl ⟨i, j, rfl, rfl, l, k.leaf (.str _) q⟩)
    | _ => cases e
  | tup h t =>
    cases dy with
    | tup h' t' =>
      obtain ⟨l, rfl⟩ := opt_ite e
      refine .inr (.inr (.inl ⟨_, _, _, _, rfl, rfl, sqT_mono hid_same h, sqT_mono hid_same h', by rw [t.length, t'.length]; exact l, fun z => ?_, fun _ z => ?_, fun _ _ p np => ?_⟩))
      · subst z; cases t
        exact k.leaf (.tup h' t') q
      · subst z; cases t'
        rw [List.append_nil] at q
        exact k.leaf (.tup h t) q
      · exact Kt.tup dm k (t.append t') q p np
    | _ => cases e
  | lst h t =>
    cases dy with
    | lst h' t' =>
      obtain ⟨l, rfl⟩ := opt_ite e
      exact .inr (.inr (.inr ⟨_, _, _, _, rfl, rfl, (hid_some h).2, (hid_some h').2, by rw [t.length, t'.length]; exact l, Kt.lst dm k (t.append t') q⟩))
    | _ => cases e
  | _ => cases e
theorem de_add {a b : Expr} (ha : DE X W fx a t) (hb : DE X W fx b u) : DE X W fx (.BinOp a .Add b pos) (tB (f2 addD) t u) :=
  de_bin (pe_op (op_add.or (op_add_str.or (op_catA.or op_cat))) ha hb) u_add
/-- two whole numbers -/
@[simp] def iD (C : Int → Int → Bool) (g : Int → Int → PyData) : PyData → PyData → Option OT
  | .int i, .int j => if C i j = true then some (.leaf (g i j)) else none
  | _, _ => none
theorem u_int {K : PySem.W.Frag} {C : Int → Int → Prop} {Cb : Int → Int → Bool} {g : Int → Int → V} {gd : Int → Int → PyData} (hc : ∀ i j, Cb i j = true → C i j) (hg : ∀ Hs i j, DD K Hs (g i j) (gd i j)) : U2 K (rI C g) (f2 (iD Cb gd)) := by
  intro A Z H1 x y v u Q Qd dm c c' ⟨n, n', r, e, q⟩ k
  have dx := c.dd n
  have dy := c'.dd n'
  generalize x.er = a at *
  generalize y.er = b at *
  cases dx with
  | int i =>
    cases dy with
    | int j =>
      obtain ⟨l, rfl⟩ := opt_ite e
      exact ⟨i, j, rfl, rfl, hc i j l, k.leaf (hg _ i j) q⟩
    | _ => cases e
  | _ => cases e
theorem u_int0 {K : PySem.W.Frag} {g : Int → Int → V} {gd : Int → Int → PyData} (hg : ∀ Hs i j, DD K Hs (g i j) (gd i j)) : U2 K (rI0 g) (f2 (iD (fun _ _ => true) gd)) := fun A Z H1 x y v u Q Qd dm c c' q k => by
  obtain ⟨i, j, h1, h2, _, h3⟩ := u_int (C := fun _ _ => True) (g := g) (fun _ _ _ => trivial) hg A Z H1 x y v u Q Qd dm c c' q k
  exact ⟨i, j, h1, h2, h3⟩
@[simp] def subD := iD (fun _ _ => true) fun i j => .int (i - j)
theorem de_sub {a b : Expr} (ha : DE X W fx a t) (hb : DE X W fx b u) : DE X W fx (.BinOp a .Sub b pos) (tB (f2 subD) t u) := de_bin (pe_op op_sub ha hb) (u_int0 fun _ _ _ => .int _)
@[simp] def modD := iD (fun _ j => decide (j ≠ 0)) fun i j => .int (i.fmod j)
theorem de_mod {a b : Expr} (ha : DE X W fx a t) (hb : DE X W fx b u) : DE X W fx (.BinOp a .Mod b pos) (tB (f2 modD) t u) := de_bin (pe_op op_modN ha hb) (u_int (fun _ _ h => of_decide_eq_true h) fun _ _ _ => .int _)
@[simp] def fdivD := iD (fun _ j => decide (j ≠ 0 ∧ j.natAbs < 1073741824)) fun i j => .int (i.fdiv j)
theorem de_fdiv {a b : Expr} (ha : DE X W fx a t) (hb : DE X W fx b u) : DE X W fx (.BinOp a .FloorDiv b pos) (tB (f2 fdivD) t u) := de_bin (pe_op op_fdivN ha hb) (u_int (fun i j h => (of_decide_eq_true h : j ≠ 0 ∧ j.natAbs < 1073741824)) fun _ _ _ => .int _)
@[simp] def powD := iD (fun i j => decide (0 ≤ j ∧ j ≤ 1000000 ∧ i.natAbs < 2 ^ 64)) fun i j => .int (i ^ j.toNat)
theorem de_pow {a b : Expr} (ha : DE X W fx a t) (hb : DE X W fx b u) : DE X W fx (.BinOp a .Pow b pos) (tB (f2 powD) t u) := de_bin (pe_op op_pow ha hb) (u_int (fun i j h => (of_decide_eq_true h : 0 ≤ j ∧ j ≤ 1000000 ∧ i.natAbs < 2 ^ 64)) fun _ _ _ => .int _)
def CMulB (i j : Int) : Prop := i.natAbs.log2 + j.natAbs.log2 < 100000000
theorem CMulB.ok {i j : Int} (h : CMulB i j) : IntMulOk i j := by
  have b : ∀ x : Int, Builtin.Int.intBits x ≤ x.natAbs.log2 + 1 := fun x => by
    unfold Builtin.Int.intBits
    split <;> omega
  have h1 := b i
  have h2 := b j
  have h3 : i.natAbs.log2 + j.natAbs.log2 < 100000000 := h
  have e : bitsLine = 134217728 := by decide
  unfold IntMulOk
  intro z
  rw [Bool.and_eq_true] at z
  have z2 := z.2
  unfold Builtin.Int.intTooBig at z2
  have z3 := of_decide_eq_true z2
  rw [e] at z3
  omega
theorem op_mulB : OpR X (binaryOp .Mult) (rI CMulB fun i j => .int (i * j)) := opI fun _ _ _ _ _ _ _ hc q => mul_int q (CMulB.ok hc)
@[simp] def mulID := iD (fun i j => decide (i.natAbs.log2 + j.natAbs.log2 < 100000000)) fun i j => .int (i * j)
theorem de_mulI {a b : Expr} (ha : DE X W fx a t) (hb : DE X W fx b u) : DE X W fx (.BinOp a .Mult b pos) (tB (f2 mulID) t u) := de_bin (pe_op op_mulB ha hb) (u_int (fun i j h => (of_decide_eq_true h : i.natAbs.log2 + j.natAbs.log2 < 100000000)) fun _ _ _ => .int _)
/-- a list, so many times -/
@[simp] def mulLD : PyData → PyData → Option OT
  | .list a, .int k => if -(2 ^ 63) ≤ k ∧ k < 2 ^ 63 ∧ a.length * k.toNat ≤ sizeLine then some (.node ((List.replicate k.toNat a).flatten.map .leaf)) else none
  | _, _ => none
theorem u_mulL {K : PySem.W.Frag} : U2 K rRep (f2 mulLD) := by
  intro A Z H1 x y v u Q Qd dm c c' ⟨n, n', r, e, q⟩ k
  have dx := c.dd n
  have dy := c'.dd n'
  generalize x.er = a at *
  generalize y.er = b at *
  cases dx with
  | lst h t =>
    cases dy with
    | int j =>
      obtain ⟨⟨l1, l2, l3⟩, rfl⟩ := opt_ite e
      exact ⟨_, j, _, rfl, rfl, (hid_some h).2, l1, l2, by rw [t.length]; exact l3, Kt.lst dm k (t.rep j.toNat) q⟩
    | _ => cases e
  | _ => cases e
theorem de_mulL {a b : Expr} (ha : DE X W fx a t) (hb : DE X W fx b u) : DE X W fx (.BinOp a .Mult b pos) (tB (f2 mulLD) t u) := de_bin (pe_op op_rep ha hb) u_mulL
@[simp] def mulTD : PyData → PyData → Option OT
  | .tuple a, .int k => if a ≠ [] ∧ 2 ≤ k ∧ k ≤ 1000 ∧ a.length ≤ 1000 then some (.leaf (.tuple (List.replicate k.toNat a).flatten)) else none
  | _, _ => none
theorem u_mulT {K : PySem.W.Frag} : U2 K (rRepT K) (f2 mulTD) := by
  intro A Z H1 x y v u Q Qd dm c c' ⟨n, n', r, e, q⟩ k
  have dx := c.dd n
  have dy := c'.dd n'
  generalize x.er = a at *
  generalize y.er = b at *
  cases dx with
  | tup h t =>
    cases dy with
    | int j =>
      have e : (if _ then _ else _) = some r := e
      split at e
      · rename_i l
        obtain ⟨l0, l1, l2, l3⟩ := l
        cases e
        refine ⟨_, j, _, rfl, rfl, sqT_mono hid_same h, fun z => ?_, l1, l2, by rw [t.length]; exact l3, Kt.tup dm k (t.rep j.toNat) q⟩
        subst z; cases t; exact l0 rfl
      · cases e
    | _ => cases e
  | _ => cases e
theorem de_mulT {a b : Expr} (ha : DE X W fx a t) (hb : DE X W fx b u) : DE X W fx (.BinOp a .Mult b pos) (tB (f2 mulTD) t u) := de_bin (pe_op op_repT ha hb) u_mulT
@[simp] def fNeg (x : OT) (Q : OT → Prop) : Prop := ∃ i, x.er = .int i ∧ Q (.leaf (.int (-i)))
theorem de_neg {a : Expr} (ha : DE X W fx a t) : DE X W fx (.UnaryOp .USub a pos) (tU fNeg t) := de_un (pe_un un_neg ha) fun A Z H1 x v Q Qd dm c ⟨i, e, q⟩ k => ⟨i, c.int e, k.leaf (.int _) q⟩
end
end FW

set_option Elab.async false
set_option linter.all false
set_option maxRecDepth 100000
set_option maxHeartbeats 4000000
namespace FW
open PySem PySem.Spec PyProof.Rows L2
section
variable {K : PySem.W.Frag} {Hs : Hp}
theorem DDs.atI {xs : List V} {ds : List PyData} {i : Int} {d : PyData} (h : DDs K Hs xs ds) (e : L2.atI ds i = some d) : ∃ v, L2.atI xs i = some v ∧ DD K Hs v d := by
  unfold L2.atI at e ⊢
  rw [h.length]
  cases q : ixN ds.length i with
  | none => rw [q] at e; cases e
  | some j =>
    rw [q] at e
    exact h.get (i := j) e
end
def cutL {α : Type} (xs : List α) (lo hi : Option Int) : List α := (xs.drop (HT.sIx xs.length 0 lo)).take (HT.sIx xs.length xs.length hi - HT.sIx xs.length 0 lo)
theorem cutL_v (xs : List V) (lo hi : Option Int) : cutV xs lo hi = cutL xs lo hi := rfl
theorem DDs.cut {K : PySem.W.Frag} {Hs : Hp} {xs : List V} {ds : List PyData} (h : DDs K Hs xs ds) (lo hi : Option Int) : DDs K Hs (cutV xs lo hi) (cutL ds lo hi) := by
  unfold cutV cutL
  rw [h.length]
  exact (h.drop _).take _
theorem cut_whole {α : Type} {xs : List α} {lo hi : Option Int} (h : HT.sIx xs.length 0 lo = 0 ∧ HT.sIx xs.length xs.length hi = xs.length) : cutL xs lo hi = xs := by
  unfold cutL
  rw [h.1, h.2]
  simp
@[simp] theorem atI_ofNat {α : Type} (xs : List α) (n : Nat) : atI xs (n : Int) = xs[n]? := by
  unfold atI ixN
  rw [if_pos (Int.natCast_nonneg n)]
  by_cases h : (n : Int) < xs.length
  · rw [if_pos h]; rfl
  · rw [if_neg h]
    exact (List.getElem?_eq_none (by omega)).symm
@[simp] theorem atI_zero {α : Type} (xs : List α) : atI xs 0 = xs[0]? := atI_ofNat xs 0
@[simp] theorem atI_one {α : Type} (xs : List α) : atI xs 1 = xs[1]? := atI_ofNat xs 1
@[simp] theorem atI_two {α : Type} (xs : List α) : atI xs 2 = xs[2]? := atI_ofNat xs 2
@[simp] theorem atI_three {α : Type} (xs : List α) : atI xs 3 = xs[3]? := atI_ofNat xs 3
/-! ### items, slices -/
def ixD : PyData → PyData → Option PyData
  | .list ds, .int i => atI ds i
  | .tuple ds, .int i => atI ds i
  | .str z, .int i => if z.length ≤ sizeLine then (atI z.cps.toList i).map fun c => .str ⟨#[c]⟩ else none
  | _, _ => none
@[simp] def fIx (x y : OT) (Q : OT → Prop) : Prop := y.isScr = false ∧ oq (ixD x.er y.er) fun d => Q (.leaf d)
@[simp] theorem ixD_list {ds : List PyData} {i : Int} : ixD (.list ds) (.int i) = atI ds i := rfl
@[simp] theorem ixD_tup {ds : List PyData} {i : Int} : ixD (.tuple ds) (.int i) = atI ds i := rfl
@[simp] theorem ixD_str {z : Str} {i : Int} : ixD (.str z) (.int i) = if z.length ≤ sizeLine then (atI z.cps.toList i).map fun c => .str ⟨#[c]⟩ else none := rfl
theorem int_of_ix {a b d : PyData} (h : ixD a b = some d) : ∃ i, b = .int i := by
  cases a <;> cases b <;> first | exact ⟨_, rfl⟩ | cases h
theorem u_ix {K : PySem.W.Frag} : U2 K (rIx K) fIx := by
  intro A Z H1 x y v u Q Qd dm c c' ⟨n', d, e, q⟩ k
  obtain ⟨i, ei⟩ := int_of_ix e
  have eu := c'.int ei
  subst eu
  rw [ei] at e
  cases hx : x.er with
  | list ds =>
    rw [hx] at e
    obtain ⟨a, xs, rfl, h, t⟩ := c.list hx
    obtain ⟨w, e1, dw⟩ := t.atI e
    exact .inl ⟨a, xs, i, w, rfl, rfl, hid_same.seq h, e1, k.leaf dw q⟩
  | tuple ds =>
    rw [hx] at e
    obtain ⟨a, xs, rfl, h, t⟩ := c.tup hx
    obtain ⟨w, e1, dw⟩ := t.atI e
    exact .inr (.inl ⟨a, xs, i, w, rfl, rfl, sqT_mono hid_same h, e1, k.leaf dw q⟩)
  | str z =>
    rw [hx] at e
    have ev := c.str hx
    subst ev
    have e : (if z.length ≤ sizeLine then (atI z.cps.toList i).map fun c => PyData.str ⟨#[c]⟩ else none) = some d := e
    split at e
    · rename_i l
      cases h : atI z.cps.toList i with
      | none => rw [h] at e; cases e
      | some ch =>
        rw [h] at e; cases e
        exact .inr (.inr ⟨z, i, ch, rfl, rfl, l, h, k.leaf (.str _) q⟩)
    · cases e
  | _ => rw [hx] at e; cases e
abbrev TDo := Ev → (Option Int → Prop) → (Value → Prop) → Prop
def liftP (K : PySem.W.Frag) (W : WX) (fx : List Nat) (t : TDo) : TO := fun σ H Q => ∃ φ A Γ Qd Ed, Rel K fx φ A σ H Γ ∧ t Γ Qd Ed ∧ (∀ b H', Same H H' → Qd b → Q b H') ∧ (∀ c H', Same H H' → Ed c → W c none σ H')
section
variable {X : Cx} {W : WX} {fx : List Nat} {e e' a b c : Expr} {es : List Expr} {t u w : TD} {ta : TDA} {pos p2 : Pos} {lo hi : Option Expr} {tl th : TDo}
theorem de_ix (ha : DE X W fx a t) (hb : DE X W fx b u) (hs : PlainIx b := by exact fun _ _ => rfl) : DE X W fx (.Subscript a b pos) (tB fIx t u) := de_bin (pe_ix ix_seq ha hb hs) u_ix
abbrev DP (X : Cx) (W : WX) (fx : List Nat) (e : Option Expr) (t : TDo) : Prop := PO X e (liftP X.K W fx t)
theorem PO.imp {X : Cx} {e : Option Expr} {t t' : TO} (p : PO X e t) (h : ∀ σ H Q, t' σ H Q → t σ H Q) : PO X e t' := ⟨fun pins s σ H Q I q => p.run pins s σ H Q I (h σ H Q q)⟩
@[simp] def tP0 : TDo := fun _ Q _ => Q none
@[simp] def tP1 (t : TD) : TDo := fun Γ Q E => t Γ (fun x => ∃ i, x.er = .int i ∧ Q (some i)) E
theorem dp_none : DP X W fx none tP0 := PO.imp po_none fun σ H Q ⟨φ, A, Γ, Qd, Ed, rel, q, k, ke⟩ => k _ H (Same.refl _) q
theorem dp_some (h : DE X W fx e t) : DP X W fx (some e) (tP1 t) := PO.imp (po_some h) fun σ H Q ⟨φ, A, Γ, Qd, Ed, rel, q, k, ke⟩ =>
  ⟨φ, A, Γ, _, Ed, rel, q, fun x v H1 s1 r1 ⟨i, e1, q1⟩ => ⟨i, (r1.cv rel.dom).int e1, k _ H1 s1 q1⟩, ke⟩
def slD : PyData → Option Int → Option Int → Option OT
  | .list ds, lo, hi => some (.node ((cutL ds lo hi).map .leaf))
  | .tuple ds, lo, hi => some (.leaf (.tuple (cutL ds lo hi)))
  | .str z, lo, hi => if z.length ≤ sizeLine then some (.leaf (.str (cutS z lo hi))) else none
  | _, _, _ => none
@[simp] theorem slD_list {ds : List PyData} {lo hi : Option Int} : slD (.list ds) lo hi = some (.node ((cutL ds lo hi).map .leaf)) := rfl
@[simp] theorem slD_tup {ds : List PyData} {lo hi : Option Int} : slD (.tuple ds) lo hi = some (.leaf (.tuple (cutL ds lo hi))) := rfl
@[simp] theorem slD_str {z : Str} {lo hi : Option Int} : slD (.str z) lo hi = if z.length ≤ sizeLine then some (.leaf (.str (cutS z lo hi))) else none := rfl
@[simp] def tSlD (t : TD) (tl th : TDo) : TD := fun Γ Q E => t Γ (fun x => tl Γ (fun l => th Γ (fun h => oq (slD x.er l h) Q) E) E) E
theorem de_slice (ha : DE X W fx a t) (hl : DP X W fx lo tl) (hh : DP X W fx hi th) : DE X W fx (.Subscript a (.Slice lo hi none p2) pos) (tSlD t tl th) := by
  refine PE.imp (pe_slice (sl_list.or (sl_tupA.or sl_str)) ha hl hh) fun σ H Q ⟨φ, A, Γ, Qd, Ed, rel, q, k, ke⟩ => ?_
  refine ⟨φ, A, Γ, _, Ed, rel, q, fun x v H1 s1 r1 q1 => ?_, ke⟩
  refine ⟨φ, A, Γ, _, Ed, rel.mono s1, q1, fun l H2 s2 q2 => ?_, fun c H' s' q' => ke c H' (s1.trans s') q'⟩
  refine ⟨φ, A, Γ, _, Ed, (rel.mono s1).mono s2, q2, fun h H3 s3 ⟨r, e1, q3⟩ => ?_, fun c H' s' q' => ke c H' ((s1.trans s2).trans s') q'⟩
  have sa := (s1.trans s2).trans s3
  have c := (r1.cv rel.dom).mono (hid_mono (s2.trans s3))
  have dm := rel.dom.mono sa
  have k' : Kt X.K A φ.Z H3 Qd Q := fun y w H' s' r' qy => k y w H' (sa.trans s') (r'.back sa) qy
  cases hx : x.er with
  | list ds =>
    rw [hx] at e1
    cases e1
    obtain ⟨a, xs, rfl, h', t'⟩ := c.list hx
    exact .inl ⟨a, xs, rfl, hid_same.seq h', Kt.lst dm k' (t'.cut l h) q3⟩
  | tuple ds =>
    rw [hx] at e1
    cases e1
    obtain ⟨a, xs, rfl, h', t'⟩ := c.tup hx
    refine .inr (.inl ⟨a, xs, rfl, sqT_mono hid_same h', fun wh => ?_, fun _ => Kt.tup dm k' (t'.cut l h) q3⟩)
    rw [t'.length] at wh
    rw [cut_whole wh] at q3
    exact k'.leaf (.tup h' t') q3
  | str z =>
    rw [hx] at e1
    obtain ⟨l', rfl⟩ := opt_ite e1
    have ev := c.str hx
    subst ev
    exact .inr (.inr ⟨z, rfl, l', k'.leaf (.str _) q3⟩)
  | _ => rw [hx] at e1; cases e1
/-! ### comparisons -/
def okd (d : PyData) : Bool := nodct d && SeqAt.shaped d
/-- two numbers, two texts; else data that may be compared -/
def eqOk : PyData → PyData → Bool
  | .int _, .int _ => true
  | .str _, .str _ => true
  | .none, .str _ => true
  | .int _, .str _ => true
  | .bool _, .str _ => true
  | a, b => okd a && okd b
@[simp] theorem eqOk_int {i j : Int} : eqOk (.int i) (.int j) = true := rfl
@[simp] theorem eqOk_str {i j : Str} : eqOk (.str i) (.str j) = true := rfl
@[simp] theorem eqOk_nstr {j : Str} : eqOk .none (.str j) = true := rfl
@[simp] theorem eqOk_istr {i : Int} {j : Str} : eqOk (.int i) (.str j) = true := rfl
@[simp] theorem eqOk_bstr {i : Bool} {j : Str} : eqOk (.bool i) (.str j) = true := rfl
@[simp] def fEq (x y : OT) (Q : OT → Prop) : Prop := x.isScr = false ∧ y.isScr = false ∧ eqOk x.er y.er = true ∧ Q (.leaf (.bool (PyData.eqv x.er y.er)))
@[simp] def fNe (x y : OT) (Q : OT → Prop) : Prop := x.isScr = false ∧ y.isScr = false ∧ eqOk x.er y.er = true ∧ Q (.leaf (.bool (!PyData.eqv x.er y.er)))
theorem u_eq_aux {K : PySem.W.Frag} {H : Hp} {v u : V} {a b : PyData} (c : DD K H v a) (c' : DD K H u b) (o : eqOk a b = true) : (scal v u = true ∧ decide (v = u) = PyData.eqv a b) ∨ (okd a = true ∧ okd b = true) := by
  unfold eqOk at o
  split at o
  · cases c; cases c'; rename_i i j
    exact .inl ⟨rfl, by rw [dec_int]; simp [PyData.eqv]⟩
  · cases c; cases c'; rename_i i j
    exact .inl ⟨rfl, by rw [dec_str]; simp [PyData.eqv]⟩
  · cases c; cases c'
    exact .inl ⟨rfl, decide_eq_false (fun h => nomatch h)⟩
  · cases c; cases c'
    exact .inl ⟨rfl, decide_eq_false (fun h => nomatch h)⟩
  · cases c; cases c'
    exact .inl ⟨rfl, decide_eq_false (fun h => nomatch h)⟩
  · exact .inr (Bool.and_eq_true_iff.mp o)
theorem u_eq {K : PySem.W.Frag} : U2 K (fun x y H Q => rEqD K x y H Q ∨ rEq x y H Q) fEq := by
  intro A Z H1 x y v u Q Qd dm c c' ⟨n, n', o, q⟩ k
  have c1 := (c.dd n).mono hid_same
  have c2 := (c'.dd n').mono hid_same
  rcases u_eq_aux c1 c2 o with ⟨s, e⟩ | ⟨o, o'⟩
  · refine .inr ⟨s, ?_⟩
    rw [e]
    exact k.leaf (.bl _) q
  · have o := Bool.and_eq_true_iff.mp o
    have o' := Bool.and_eq_true_iff.mp o'
    exact .inl ⟨_, _, c1.dp o.1, c2.dp o'.1, o.2, o'.2, k.leaf (.bl _) q⟩
theorem u_ne {K : PySem.W.Frag} : U2 K (fun x y H Q => rNeD K x y H Q ∨ rNe x y H Q) fNe := by
  intro A Z H1 x y v u Q Qd dm c c' ⟨n, n', o, q⟩ k
  have c1 := (c.dd n).mono hid_same
  have c2 := (c'.dd n').mono hid_same
  rcases u_eq_aux c1 c2 o with ⟨s, e⟩ | ⟨o, o'⟩
  · refine .inr ⟨s, ?_⟩
    rw [e]
    exact k.leaf (.bl _) q
  · have o := Bool.and_eq_true_iff.mp o
    have o' := Bool.and_eq_true_iff.mp o'
    exact .inl ⟨_, _, c1.dp o.1, c2.dp o'.1, o.2, o'.2, k.leaf (.bl _) q⟩
theorem de_eq {k : Nat} (hr : Room k X.A) (ha : DE X W fx a t) (hb : DE X W fx b u) : DE X W fx (.Compare a [.Eq] [b] pos) (tB fEq t u) := de_bin (pe_cmpR ((op_eqD hr.units).or op_eq) ha hb (nomark _)) u_eq
theorem de_ne {k : Nat} (hr : Room k X.A) (ha : DE X W fx a t) (hb : DE X W fx b u) : DE X W fx (.Compare a [.NotEq] [b] pos) (tB fNe t u) := de_bin (pe_cmpR ((op_neD hr.units).or op_ne) ha hb (nomark _)) u_ne
theorem dt_eq {k : Nat} (hr : Room k X.A) (ha : DE X W fx a t) (hb : DE X W fx b u) : DT X W fx (.Compare a [.Eq] [b] pos) (tTV (tB fEq t u)) := dt_op (pt_cmpR ((op_eqD hr.units).or op_eq) ha hb (nomark _)) u_eq
theorem dt_ne {k : Nat} (hr : Room k X.A) (ha : DE X W fx a t) (hb : DE X W fx b u) : DT X W fx (.Compare a [.NotEq] [b] pos) (tTV (tB fNe t u)) := dt_op (pt_cmpR ((op_neD hr.units).or op_ne) ha hb (nomark _)) u_ne
@[simp] def cmpD (p : Int → Int → Bool) := iD (fun _ _ => true) fun i j => .bool (p i j)
theorem u_cmp {K : PySem.W.Frag} {p : Int → Int → Bool} : U2 K (rI0 fun i j => .bl (p i j)) (f2 (cmpD p)) := u_int0 fun _ _ _ => .bl _
theorem de_lt (ha : DE X W fx a t) (hb : DE X W fx b u) : DE X W fx (.Compare a [.Lt] [b] pos) (tB (f2 (cmpD fun i j => decide (i < j))) t u) := de_bin (pe_cmpR op_lt ha hb (nomark _)) u_cmp
theorem de_le (ha : DE X W fx a t) (hb : DE X W fx b u) : DE X W fx (.Compare a [.LtE] [b] pos) (tB (f2 (cmpD fun i j => decide (i ≤ j))) t u) := de_bin (pe_cmpR op_le ha hb (nomark _)) u_cmp
theorem de_gt (ha : DE X W fx a t) (hb : DE X W fx b u) : DE X W fx (.Compare a [.Gt] [b] pos) (tB (f2 (cmpD fun i j => decide (j < i))) t u) := de_bin (pe_cmpR op_gt ha hb (nomark _)) u_cmp
theorem de_ge (ha : DE X W fx a t) (hb : DE X W fx b u) : DE X W fx (.Compare a [.GtE] [b] pos) (tB (f2 (cmpD fun i j => decide (j ≤ i))) t u) := de_bin (pe_cmpR op_ge ha hb (nomark _)) u_cmp
theorem dt_lt (ha : DE X W fx a t) (hb : DE X W fx b u) : DT X W fx (.Compare a [.Lt] [b] pos) (tTV (tB (f2 (cmpD fun i j => decide (i < j))) t u)) := dt_op (pt_cmpR op_lt ha hb (nomark _)) u_cmp
theorem dt_le (ha : DE X W fx a t) (hb : DE X W fx b u) : DT X W fx (.Compare a [.LtE] [b] pos) (tTV (tB (f2 (cmpD fun i j => decide (i ≤ j))) t u)) := dt_op (pt_cmpR op_le ha hb (nomark _)) u_cmp
theorem dt_gt (ha : DE X W fx a t) (hb : DE X W fx b u) : DT X W fx (.Compare a [.Gt] [b] pos) (tTV (tB (f2 (cmpD fun i j => decide (j < i))) t u)) := dt_op (pt_cmpR op_gt ha hb (nomark _)) u_cmp
theorem dt_ge (ha : DE X W fx a t) (hb : DE X W fx b u) : DT X W fx (.Compare a [.GtE] [b] pos) (tTV (tB (f2 (cmpD fun i j => decide (j ≤ i))) t u)) := dt_op (pt_cmpR op_ge ha hb (nomark _)) u_cmp
/-- a op b op' c of whole numbers -/
@[simp] def tCh (p p' : Int → Int → Bool) (t u w : TD) : TD := fun Γ Q E => t Γ (fun x => u Γ (fun y => ∃ i j, x.er = .int i ∧ y.er = .int j ∧ if p i j = true then w Γ (fun z => ∃ k, z.er = .int k ∧ Q (.leaf (.bool (p' j k)))) E else Q (.leaf (.bool false))) E) E
theorem ch_imp {K : PySem.W.Frag} {p p' : Int → Int → Bool} {σ : L2.St} {H : Hp} {Q : VK} (h : lift K W fx (tCh p p' t u w) σ H Q) : tChain (rI0 fun i j => .bl (p i j)) (rI0 fun i j => .bl (p' i j)) (lift K W fx t) (lift K W fx u) (lift K W fx w) σ H Q := by
  obtain ⟨φ, A, Γ, Qd, Ed, rel, q, k, ke⟩ := h
  refine ⟨φ, A, Γ, _, Ed, rel, q, fun x v H1 s1 r1 q1 => ?_, ke⟩
  refine ⟨φ, A, Γ, _, Ed, rel.mono s1, q1, fun y w' H2 s2 r2 ⟨i, j, ei, ej, q2⟩ => ?_, fun c H' s' q' => ke c H' (s1.trans s') q'⟩
  have c1 := (r1.cv rel.dom).int ei
  have c2 := (r2.cv (rel.dom.mono s1)).int ej
  subst c1 c2
  refine ⟨i, j, rfl, rfl, _, rfl, ?_⟩
  by_cases hp : p i j = true
  · rw [if_pos hp] at q2 ⊢
    refine ⟨φ, A, Γ, _, Ed, (rel.mono s1).mono s2, q2, fun z w' H3 s3 r3 ⟨m, em, q3⟩ => ?_, fun c H' s' q' => ke c H' ((s1.trans s2).trans s') q'⟩
    have c3 := (r3.cv ((rel.dom.mono s1).mono s2)).int em
    subst c3
    exact ⟨j, m, rfl, rfl, k _ _ H3 ((s1.trans s2).trans s3) (.leaf (.bl _)) q3⟩
  · rw [if_neg hp] at q2 ⊢
    exact k _ _ H2 (s1.trans s2) (.leaf (.bl _)) q2
theorem de_chain {op op' : CmpOp} {p p' : Int → Int → Bool} (ho : OpR X (compareOp op) (rI0 fun i j => .bl (p i j))) (ho' : OpR X (compareOp op') (rI0 fun i j => .bl (p' i j))) (ha : DE X W fx a t) (hb : DE X W fx b u) (hc : DE X W fx c w)
    (hm : lastMarks [op, op'] [b, c] = false := by with_unfolding_all rfl) : DE X W fx (.Compare a [op, op'] [b, c] pos) (tCh p p' t u w) := PE.imp (pe_chain ho ho' ha hb hc hm) fun σ H Q h => ch_imp h
theorem dt_chain {op op' : CmpOp} {p p' : Int → Int → Bool} (ho : OpR X (compareOp op) (rI0 fun i j => .bl (p i j))) (ho' : OpR X (compareOp op') (rI0 fun i j => .bl (p' i j))) (ha : DE X W fx a t) (hb : DE X W fx b u) (hc : DE X W fx c w)
    (hm : lastMarks [op, op'] [b, c] = false := by with_unfolding_all rfl) : DT X W fx (.Compare a [op, op'] [b, c] pos) (tTV (tCh p p' t u w)) := PT.imp (pt_chain ho ho' ha hb hc hm) fun σ H Q ⟨φ, A, Γ, Qd, Ed, rel, q, k, ke⟩ => by
  refine ch_imp ⟨φ, A, Γ, _, Ed, rel, q, fun x v H1 s1 r1 ⟨b, e1, q1⟩ => ?_, ke⟩
  exact ⟨b, (r1.cv rel.dom).bl e1, k b H1 s1 q1⟩
/-- is None -/
@[simp] def isNonD : PyData → Bool
  | .none => true
  | _ => false
@[simp] def fIsN (p : Bool → Bool) (x y : OT) (Q : OT → Prop) : Prop := y.er = .none ∧ x.isScr = false ∧ Q (.leaf (.bool (p (isNonD x.er))))
theorem isN_dd {K : PySem.W.Frag} {Hs : Hp} {v : V} {d : PyData} (h : DD K Hs v d) : decide (v = .non) = isNonD d := by
  cases h <;> rfl
theorem de_isN (ha : DE X W fx a t) (hb : DE X W fx b u) : DE X W fx (.Compare a [.Is] [b] pos) (tB (fIsN id) t u) := de_bin (pe_cmpR op_isN ha hb (nomark _)) fun A Z H1 x y v u Q Qd dm c c' ⟨e, n, q⟩ k =>
  ⟨c'.non e, by rw [isN_dd (c.dd n)]; exact k.leaf (.bl _) q⟩
theorem de_notN (ha : DE X W fx a t) (hb : DE X W fx b u) : DE X W fx (.Compare a [.IsNot] [b] pos) (tB (fIsN not) t u) := de_bin (pe_cmpR op_notN ha hb (nomark _)) fun A Z H1 x y v u Q Qd dm c c' ⟨e, n, q⟩ k =>
  ⟨c'.non e, by rw [isN_dd (c.dd n)]; exact k.leaf (.bl _) q⟩
theorem dt_isN (ha : DE X W fx a t) (hb : DE X W fx b u) : DT X W fx (.Compare a [.Is] [b] pos) (tTV (tB (fIsN id) t u)) := dt_op (pt_cmpR op_isN ha hb (nomark _)) fun A Z H1 x y v u Q Qd dm c c' ⟨e, n, q⟩ k =>
  ⟨c'.non e, by rw [isN_dd (c.dd n)]; exact k.leaf (.bl _) q⟩
theorem dt_notN (ha : DE X W fx a t) (hb : DE X W fx b u) : DT X W fx (.Compare a [.IsNot] [b] pos) (tTV (tB (fIsN not) t u)) := dt_op (pt_cmpR op_notN ha hb (nomark _)) fun A Z H1 x y v u Q Qd dm c c' ⟨e, n, q⟩ k =>
  ⟨c'.non e, by rw [isN_dd (c.dd n)]; exact k.leaf (.bl _) q⟩
/-- x in a list of data -/
def anyEqv (ds : List PyData) (x : PyData) : Bool := ds.any fun z => PyData.eqv z x
@[simp] def fIn (p : Bool → Bool) (x y : OT) (Q : OT → Prop) : Prop := ∃ ds, y.er = .list ds ∧ x.isScr = false ∧ y.isScr = false ∧ okd x.er = true ∧ okd y.er = true ∧ Q (.leaf (.bool (p (anyEqv ds x.er))))
theorem units65 {k : Nat} {A : Around} (hr : Room (k + 1) A) : A.units + 65 < cLine := by
  have := hr.un
  omega
theorem u_in {K : PySem.W.Frag} : U2 K (rInD K) (fIn id) := by
  intro A Z H1 x y v u Q Qd dm c c' ⟨ds, e, n, n', o, o', q⟩ k
  have o := Bool.and_eq_true_iff.mp o
  have o' := Bool.and_eq_true_iff.mp o'
  have d' := ((c'.dd n').mono hid_same).dp o'.1
  rw [e] at d'
  exact ⟨_, ds, ((c.dd n).mono hid_same).dp o.1, d', o.2, by rw [← e]; exact o'.2, k.leaf (.bl _) q⟩
theorem u_notIn {K : PySem.W.Frag} : U2 K (rNotInD K) (fIn not) := by
  intro A Z H1 x y v u Q Qd dm c c' ⟨ds, e, n, n', o, o', q⟩ k
  have o := Bool.and_eq_true_iff.mp o
  have o' := Bool.and_eq_true_iff.mp o'
  have d' := ((c'.dd n').mono hid_same).dp o'.1
  rw [e] at d'
  exact ⟨_, ds, ((c.dd n).mono hid_same).dp o.1, d', o.2, by rw [← e]; exact o'.2, k.leaf (.bl _) q⟩
theorem de_in {k : Nat} (hr : Room (k + 1) X.A) (ha : DE X W fx a t) (hb : DE X W fx b u) (hm : behindInMarks .In b = false := by rfl) : DE X W fx (.Compare a [.In] [b] pos) (tB (fIn id) t u) := de_bin (pe_cmpR (op_inD (units65 hr)) ha hb hm) u_in
theorem de_notIn {k : Nat} (hr : Room (k + 1) X.A) (ha : DE X W fx a t) (hb : DE X W fx b u) (hm : behindInMarks .NotIn b = false := by rfl) : DE X W fx (.Compare a [.NotIn] [b] pos) (tB (fIn not) t u) := de_bin (pe_cmpR (op_notInD (units65 hr)) ha hb hm) u_notIn
theorem dt_in {k : Nat} (hr : Room (k + 1) X.A) (ha : DE X W fx a t) (hb : DE X W fx b u) (hm : behindInMarks .In b = false := by rfl) : DT X W fx (.Compare a [.In] [b] pos) (tTV (tB (fIn id) t u)) := dt_op (pt_cmpR (op_inD (units65 hr)) ha hb hm) u_in
theorem dt_notIn {k : Nat} (hr : Room (k + 1) X.A) (ha : DE X W fx a t) (hb : DE X W fx b u) (hm : behindInMarks .NotIn b = false := by rfl) : DT X W fx (.Compare a [.NotIn] [b] pos) (tTV (tB (fIn not) t u)) := dt_op (pt_cmpR (op_notInD (units65 hr)) ha hb hm) u_notIn
/-! ### and, or, not, if -/
@[simp] def tAndT (t u : TDT) : TDT := fun Γ Q E => t Γ (fun c => if c = true then u Γ Q E else Q false) E
@[simp] def tOrT (t u : TDT) : TDT := fun Γ Q E => t Γ (fun c => if c = true then Q true else u Γ Q E) E
@[simp] def tNotT (t : TDT) : TDT := fun Γ Q E => t Γ (fun c => Q (!c)) E
variable {tt tu : TDT} {rest : List Expr}
theorem dw_and1 (ha : DT X W fx a tt) : DW X W fx (.BoolOp .And [a] pos) tt := pw_and1 ha
theorem dw_or1 (ha : DT X W fx a tt) : DW X W fx (.BoolOp .Or [a] pos) tt := pw_or1 ha
theorem dw_and (ha : DT X W fx a tt) (hb : DW X W fx (.BoolOp .And (b :: rest) pos) tu) : DW X W fx (.BoolOp .And (a :: b :: rest) pos) (tAndT tt tu) := PW.imp (pw_and ha hb) fun σ H Q ⟨φ, A, Γ, Qd, Ed, rel, q, k, ke⟩ => by
  refine ⟨φ, A, Γ, _, Ed, rel, q, fun c H1 s1 q1 => ?_, ke⟩
  cases c with
  | true => exact ⟨φ, A, Γ, _, Ed, rel.mono s1, q1, fun b H2 s2 q2 => k b H2 (s1.trans s2) q2, fun c H' s' q' => ke c H' (s1.trans s') q'⟩
  | false => exact k false H1 s1 q1
theorem dw_or (ha : DT X W fx a tt) (hb : DW X W fx (.BoolOp .Or (b :: rest) pos) tu) : DW X W fx (.BoolOp .Or (a :: b :: rest) pos) (tOrT tt tu) := PW.imp (pw_or ha hb) fun σ H Q ⟨φ, A, Γ, Qd, Ed, rel, q, k, ke⟩ => by
  refine ⟨φ, A, Γ, _, Ed, rel, q, fun c H1 s1 q1 => ?_, ke⟩
  cases c with
  | true => exact k true H1 s1 q1
  | false => exact ⟨φ, A, Γ, _, Ed, rel.mono s1, q1, fun b H2 s2 q2 => k b H2 (s1.trans s2) q2, fun c H' s' q' => ke c H' (s1.trans s') q'⟩
theorem dt_w (h : DW X W fx e tt) : DT X W fx e tt := PW.pt h
theorem dt_not (ha : DT X W fx a tt) : DT X W fx (.UnaryOp .Not a pos) (tNotT tt) := PT.imp (pt_not ha) fun σ H Q ⟨φ, A, Γ, Qd, Ed, rel, q, k, ke⟩ =>
  ⟨φ, A, Γ, _, Ed, rel, q, fun c H1 s1 q1 => k (!c) H1 s1 q1, ke⟩
/-- a value that is True or False, as a test -/
theorem dt_val (h : DE X W fx e t) (he : ∀ whole, isTrue e X.env whole = (do let v ← whole; standAt e.pos; holding [v] (truthy v)) := by intro _; rfl) : DT X W fx e (tTV t) := dt_of (pt_val h he)
@[simp] def tAndD (t u : TD) : TD := fun Γ Q E => t Γ (fun x => ∃ c, x.er = .bool c ∧ if c = true then u Γ Q E else Q (.leaf (.bool false))) E
@[simp] def tOrD (t u : TD) : TD := fun Γ Q E => t Γ (fun x => ∃ c, x.er = .bool c ∧ if c = true then Q (.leaf (.bool true)) else u Γ Q E) E
@[simp] def tNotD (t : TD) : TD := fun Γ Q E => t Γ (fun x => ∃ c, x.er = .bool c ∧ Q (.leaf (.bool (!c)))) E
theorem de_one {op : BoolOp} (h : DE X W fx a t) : DE X W fx (.BoolOp op [a] pos) t := pe_one h
theorem de_and (ha : DE X W fx a t) (hb : DE X W fx (.BoolOp .And (b :: rest) pos) u) : DE X W fx (.BoolOp .And (a :: b :: rest) pos) (tAndD t u) := PE.imp (pe_and ha hb) fun σ H Q ⟨φ, A, Γ, Qd, Ed, rel, q, k, ke⟩ => by
  refine ⟨φ, A, Γ, _, Ed, rel, q, fun x v H1 s1 r1 ⟨c, ec, q1⟩ => ⟨c, (r1.cv rel.dom).bl ec, ?_⟩, ke⟩
  cases c with
  | true => exact ⟨φ, A, Γ, _, Ed, rel.mono s1, q1, fun y w H2 s2 r2 q2 => k y w H2 (s1.trans s2) (r2.back s1) q2, fun c H' s' q' => ke c H' (s1.trans s') q'⟩
  | false => exact k _ _ H1 s1 (.leaf (.bl _)) q1
theorem de_or (ha : DE X W fx a t) (hb : DE X W fx (.BoolOp .Or (b :: rest) pos) u) : DE X W fx (.BoolOp .Or (a :: b :: rest) pos) (tOrD t u) := PE.imp (pe_or ha hb) fun σ H Q ⟨φ, A, Γ, Qd, Ed, rel, q, k, ke⟩ => by
  refine ⟨φ, A, Γ, _, Ed, rel, q, fun x v H1 s1 r1 ⟨c, ec, q1⟩ => ⟨c, (r1.cv rel.dom).bl ec, ?_⟩, ke⟩
  cases c with
  | true => exact k _ _ H1 s1 (.leaf (.bl _)) q1
  | false => exact ⟨φ, A, Γ, _, Ed, rel.mono s1, q1, fun y w H2 s2 r2 q2 => k y w H2 (s1.trans s2) (r2.back s1) q2, fun c H' s' q' => ke c H' (s1.trans s') q'⟩
theorem de_not (ha : DE X W fx a t) : DE X W fx (.UnaryOp .Not a pos) (tNotD t) := PE.imp (pe_not ha) fun σ H Q ⟨φ, A, Γ, Qd, Ed, rel, q, k, ke⟩ =>
  ⟨φ, A, Γ, _, Ed, rel, q, fun x v H1 s1 r1 ⟨c, ec, q1⟩ => ⟨c, (r1.cv rel.dom).bl ec, k _ _ H1 s1 (.leaf (.bl _)) q1⟩, ke⟩
@[simp] def tIfD (tt : TDT) (t u : TD) : TD := fun Γ Q E => tt Γ (fun c => if c = true then t Γ Q E else u Γ Q E) E
theorem de_ifExp (hc : DT X W fx c tt) (ha : DE X W fx a t) (hb : DE X W fx b u) : DE X W fx (.IfExp c a b pos) (tIfD tt t u) := PE.imp (pe_ifExp hc ha hb) fun σ H Q ⟨φ, A, Γ, Qd, Ed, rel, q, k, ke⟩ => by
  refine ⟨φ, A, Γ, _, Ed, rel, q, fun c H1 s1 q1 => ?_, ke⟩
  cases c with
  | true => exact ⟨φ, A, Γ, _, Ed, rel.mono s1, q1, fun y w H2 s2 r2 q2 => k y w H2 (s1.trans s2) (r2.back s1) q2, fun c H' s' q' => ke c H' (s1.trans s') q'⟩
  | false => exact ⟨φ, A, Γ, _, Ed, rel.mono s1, q1, fun y w H2 s2 r2 q2 => k y w H2 (s1.trans s2) (r2.back s1) q2, fun c H' s' q' => ke c H' (s1.trans s') q'⟩
end
end FW

set_option Elab.async false
set_option linter.all false
set_option maxRecDepth 100000
set_option maxHeartbeats 4000000
namespace FW
open PySem PySem.Spec PyProof.Rows L2
section
variable {X : Cx} {W : WX} {fx : List Nat} {e e' a b c : Expr} {es : List Expr} {t u w : TD} {ta : TDA} {pos p p2 q2 : Pos}
/-- a call of a built-in with one argument -/
theorem de_call1 {r : List V → Hp → VK → Prop} {f : OT → (OT → Prop) → Prop} (h : PE X e (tCB r (tCons (lift X.K W fx t) tNil))) (hu : U1 X.K (fun v H Q => r [v] H Q) f) : DE X W fx e (tU f t) := de_un (r := fun v H Q => r [v] H Q) h hu
def lenD : PyData → Option Nat
  | .list ds => some ds.length
  | .tuple ds => some ds.length
  | .str z => if z.length ≤ sizeLine then some z.length else none
  | _ => none
@[simp] theorem lenD_list {ds : List PyData} : lenD (.list ds) = some ds.length := rfl
@[simp] theorem lenD_tup {ds : List PyData} : lenD (.tuple ds) = some ds.length := rfl
@[simp] theorem lenD_str {z : Str} : lenD (.str z) = if z.length ≤ sizeLine then some z.length else none := rfl
@[simp] def fLen (x : OT) (Q : OT → Prop) : Prop := oq (lenD x.er) fun n => Q (.leaf (.int n))
theorem u_len {K : PySem.W.Frag} : U1 K (fun v H Q => ∃ x n, [v] = [x] ∧ LenV K x H n ∧ Q (.int n) H) fLen := by
  intro A Z H1 x v Q Qd dm c ⟨n, e, q⟩ k
  cases hx : x.er with
  | list ds =>
    rw [hx] at e; cases e
    obtain ⟨a, xs, rfl, h, t⟩ := c.list hx
    exact ⟨_, _, rfl, .inl ⟨xs, hid_same.seq h, t.length.symm⟩, k.leaf (.int _) q⟩
  | tuple ds =>
    rw [hx] at e; cases e
    obtain ⟨a, xs, rfl, h, t⟩ := c.tup hx
    exact ⟨_, _, rfl, .inr ⟨xs, sqT_mono hid_same h, t.length.symm⟩, k.leaf (.int _) q⟩
  | str z =>
    rw [hx] at e
    have ev := c.str hx
    subst ev
    have e : (if z.length ≤ sizeLine then some z.length else none) = some n := e
    split at e
    · rename_i l
      cases e
      exact ⟨_, _, rfl, ⟨l, rfl⟩, k.leaf (.int _) q⟩
    · cases e
  | _ => rw [hx] at e; cases e
theorem de_len (hg : Gl X "len") (m : X.mg "len" = none) (ha : DE X W fx a t) (hs : starEach [a] X.env = (false, eval a X.env) :: starEach [] X.env := by rfl) : DE X W fx (.Call (.Name "len" p) [a] [] pos) (tU fLen t) := de_call1 (pe_callB call_len hg m PySem.boot_len (pa_cons ha pa_nil hs) (he := hs)) u_len
@[simp] def fAbs (x : OT) (Q : OT → Prop) : Prop := ∃ i, x.er = .int i ∧ Q (.leaf (.int (if i < 0 then -i else i)))
theorem de_abs (hg : Gl X "abs") (m : X.mg "abs" = none) (hb : bootBuiltins "abs" = some (.builtin "abs")) (ha : DE X W fx a t) (hs : starEach [a] X.env = (false, eval a X.env) :: starEach [] X.env := by rfl) : DE X W fx (.Call (.Name "abs" p) [a] [] pos) (tU fAbs t) :=
  de_call1 (pe_callB call_abs hg m hb (pa_cons ha pa_nil hs) (he := hs)) fun A Z H1 x v Q Qd dm c ⟨i, e, q⟩ k => ⟨i, by rw [c.int e], k.leaf (.int _) q⟩
@[simp] def fIntB (x : OT) (Q : OT → Prop) : Prop := ∃ i, x.er = .bool i ∧ Q (.leaf (.int (if i then 1 else 0)))
theorem de_intB (hg : Gl X "int") (m : X.mg "int" = none) (hb : bootBuiltins "int" = some (.type "int")) (ha : DE X W fx a t) (hs : starEach [a] X.env = (false, eval a X.env) :: starEach [] X.env := by rfl) : DE X W fx (.Call (.Name "int" p) [a] [] pos) (tU fIntB t) :=
  de_call1 (pe_callTy call_int1 hg m hb (pa_cons ha pa_nil hs) (he := hs)) fun A Z H1 x v Q Qd dm c ⟨i, e, q⟩ k => .inr ⟨i, by rw [c.bl e], k.leaf (.int _) q⟩
@[simp] def strD : PyData → Option Str
  | .int i => if i.natAbs.log2 < 1920 then some (toString i) else none
  | .str a => some a
  | _ => none
@[simp] def fStr (x : OT) (Q : OT → Prop) : Prop := x.isScr = false ∧ oq (strD x.er) fun z => Q (.leaf (.str z))
theorem de_strC (hg : Gl X "str") (m : X.mg "str" = none) (hb : bootBuiltins "str" = some (.type "str")) (ha : DE X W fx a t) (hs : starEach [a] X.env = (false, eval a X.env) :: starEach [] X.env := by rfl) : DE X W fx (.Call (.Name "str" p) [a] [] pos) (tU fStr t) := by
  refine de_call1 (pe_callTy (call_str_int.or SkE.call_str_str) hg m hb (pa_cons ha pa_nil hs) (he := hs)) fun A Z H1 x v Q Qd dm c ⟨n, z, e, q⟩ k => ?_
  have d := c.dd n
  generalize x.er = a at *
  cases d with
  | int i =>
    have e : (if i.natAbs.log2 < 1920 then some (toString i : Str) else none) = some z := e
    split at e
    · rename_i l
      cases e
      exact .inl ⟨i, rfl, l, k.leaf (.str _) q⟩
    · cases e
  | str y =>
    cases e
    exact .inr ⟨_, rfl, k.leaf (.str _) q⟩
  | _ => cases e
def itemsD : PyData → Option (List PyData)
  | .list ds => some ds
  | .tuple ds => some ds
  | _ => none
@[simp] theorem itemsD_list {l : List PyData} : itemsD (.list l) = some l := rfl
@[simp] theorem itemsD_tuple {l : List PyData} : itemsD (.tuple l) = some l := rfl
@[simp] def fTuple (x : OT) (Q : OT → Prop) : Prop := x.isScr = false ∧ oq (itemsD x.er) fun ds => Q (.leaf (.tuple ds))
theorem de_tuple (hg : Gl X "tuple") (m : X.mg "tuple" = none) (hb : bootBuiltins "tuple" = some (.type "tuple")) (ha : DE X W fx a t) (hs : starEach [a] X.env = (false, eval a X.env) :: starEach [] X.env := by rfl) : DE X W fx (.Call (.Name "tuple" p) [a] [] pos) (tU fTuple t) := by
  refine de_call1 (pe_callTy call_tuple_of hg m hb (pa_cons ha pa_nil hs) (he := hs)) fun A Z H1 x v Q Qd dm c ⟨n, ds, e, q⟩ k => ?_
  cases hx : x.er with
  | list ds' =>
    rw [hx] at e; cases e
    obtain ⟨a, xs, rfl, h, t⟩ := c.list hx
    exact ⟨a, xs, rfl, .inl ⟨hid_same.seq h, Kt.tup dm k t q⟩⟩
  | tuple ds' =>
    rw [hx] at e; cases e
    obtain ⟨a, xs, rfl, h, t⟩ := c.tup hx
    exact ⟨a, xs, rfl, .inr ⟨sqT_mono hid_same h, k.leaf (.tup h t) q⟩⟩
  | _ => rw [hx] at e; cases e
@[simp] def fList (x : OT) (Q : OT → Prop) : Prop := oq (itemsD x.er) fun ds => Q (.node (ds.map .leaf))
theorem de_list (hg : Gl X "list") (m : X.mg "list" = none) (hb : bootBuiltins "list" = some (.type "list")) (ha : DE X W fx a t) (hs : starEach [a] X.env = (false, eval a X.env) :: starEach [] X.env := by rfl) : DE X W fx (.Call (.Name "list" p) [a] [] pos) (tU fList t) := by
  refine de_call1 (pe_callTy call_list_of hg m hb (pa_cons ha pa_nil hs) (he := hs)) fun A Z H1 x v Q Qd dm c ⟨ds, e, q⟩ k => ?_
  cases hx : x.er with
  | list ds' =>
    rw [hx] at e; cases e
    obtain ⟨a, xs, rfl, h, t⟩ := c.list hx
    exact ⟨a, xs, rfl, .inl (hid_same.seq h), Kt.lst dm k t q⟩
  | tuple ds' =>
    rw [hx] at e; cases e
    obtain ⟨a, xs, rfl, h, t⟩ := c.tup hx
    exact ⟨a, xs, rfl, .inr (sqT_mono hid_same h), Kt.lst dm k t q⟩
  | _ => rw [hx] at e; cases e
/-! ### isinstance of a built-in class -/
inductive Ty where
  | int | bool | str | list | tuple
  deriving DecidableEq
@[simp] def Ty.nm : Ty → String
  | .int => "int" | .bool => "bool" | .str => "str" | .list => "list" | .tuple => "tuple"
def isIntD : PyData → Bool
  | .int _ => true | .bool _ => true | .none => false | .str _ => false | .list _ => false | .tuple _ => false | .dict _ => false
def isBoolD : PyData → Bool
  | .int _ => false | .bool _ => true | .none => false | .str _ => false | .list _ => false | .tuple _ => false | .dict _ => false
def isStrD : PyData → Bool
  | .int _ => false | .bool _ => false | .none => false | .str _ => true | .list _ => false | .tuple _ => false | .dict _ => false
def isListD : PyData → Bool
  | .int _ => false | .bool _ => false | .none => false | .str _ => false | .list _ => true | .tuple _ => false | .dict _ => false
def isTupD : PyData → Bool
  | .int _ => false | .bool _ => false | .none => false | .str _ => false | .list _ => false | .tuple _ => true | .dict _ => false
@[simp] theorem isIntD_int {i : Int} : isIntD (.int i) = true := rfl
@[simp] theorem isIntD_bool {b : Bool} : isIntD (.bool b) = true := rfl
@[simp] theorem isIntD_none  : isIntD .none = false := rfl
@[simp] theorem isIntD_str {z : Str} : isIntD (.str z) = false := rfl
@[simp] theorem isIntD_list {l : List PyData} : isIntD (.list l) = false := rfl
@[simp] theorem isIntD_tuple {l : List PyData} : isIntD (.tuple l) = false := rfl
@[simp] theorem isIntD_dict {l : List (PyData × PyData)} : isIntD (.dict l) = false := rfl
@[simp] theorem isBoolD_int {i : Int} : isBoolD (.int i) = false := rfl
@[simp] theorem isBoolD_bool {b : Bool} : isBoolD (.bool b) = true := rfl
@[simp] theorem isBoolD_none  : isBoolD .none = false := rfl
@[simp] theorem isBoolD_str {z : Str} : isBoolD (.str z) = false := rfl
@[simp] theorem isBoolD_list {l : List PyData} : isBoolD (.list l) = false := rfl
@[simp] theorem isBoolD_tuple {l : List PyData} : isBoolD (.tuple l) = false := rfl
@[simp] theorem isBoolD_dict {l : List (PyData × PyData)} : isBoolD (.dict l) = false := rfl
@[simp] theorem isStrD_int {i : Int} : isStrD (.int i) = false := rfl
@[simp] theorem isStrD_bool {b : Bool} : isStrD (.bool b) = false := rfl
@[simp] theorem isStrD_none  : isStrD .none = false := rfl
@[simp] theorem isStrD_str {z : Str} : isStrD (.str z) = true := rfl
@[simp] theorem isStrD_list {l : List PyData} : isStrD (.list l) = false := rfl
@[simp] theorem isStrD_tuple {l : List PyData} : isStrD (.tuple l) = false := rfl
@[simp] theorem isStrD_dict {l : List (PyData × PyData)} : isStrD (.dict l) = false := rfl
@[simp] theorem isListD_int {i : Int} : isListD (.int i) = false := rfl
@[simp] theorem isListD_bool {b : Bool} : isListD (.bool b) = false := rfl
@[simp] theorem isListD_none  : isListD .none = false := rfl
@[simp] theorem isListD_str {z : Str} : isListD (.str z) = false := rfl
@[simp] theorem isListD_list {l : List PyData} : isListD (.list l) = true := rfl
@[simp] theorem isListD_tuple {l : List PyData} : isListD (.tuple l) = false := rfl
@[simp] theorem isListD_dict {l : List (PyData × PyData)} : isListD (.dict l) = false := rfl
@[simp] theorem isTupD_int {i : Int} : isTupD (.int i) = false := rfl
@[simp] theorem isTupD_bool {b : Bool} : isTupD (.bool b) = false := rfl
@[simp] theorem isTupD_none  : isTupD .none = false := rfl
@[simp] theorem isTupD_str {z : Str} : isTupD (.str z) = false := rfl
@[simp] theorem isTupD_list {l : List PyData} : isTupD (.list l) = false := rfl
@[simp] theorem isTupD_tuple {l : List PyData} : isTupD (.tuple l) = true := rfl
@[simp] theorem isTupD_dict {l : List (PyData × PyData)} : isTupD (.dict l) = false := rfl
@[simp] def isD : Ty → PyData → Bool
  | .int => isIntD
  | .bool => isBoolD
  | .str => isStrD
  | .list => isListD
  | .tuple => isTupD
def tyD : PyData → String
  | .none => "NoneType" | .bool _ => "bool" | .int _ => "int" | .str _ => "str" | .list _ => "list" | .tuple _ => "tuple" | .dict _ => "dict"
theorem kit_int : kitB "NoneType" "int" = some false ∧ kitB "bool" "int" = some true ∧ kitB "int" "int" = some true ∧ kitB "str" "int" = some false ∧ kitB "list" "int" = some false ∧ kitB "tuple" "int" = some false ∧ kitB "dict" "int" = some false := by decide +kernel
theorem kit_bool : kitB "NoneType" "bool" = some false ∧ kitB "bool" "bool" = some true ∧ kitB "int" "bool" = some false ∧ kitB "str" "bool" = some false ∧ kitB "list" "bool" = some false ∧ kitB "tuple" "bool" = some false ∧ kitB "dict" "bool" = some false := by decide +kernel
theorem kit_str : kitB "NoneType" "str" = some false ∧ kitB "bool" "str" = some false ∧ kitB "int" "str" = some false ∧ kitB "str" "str" = some true ∧ kitB "list" "str" = some false ∧ kitB "tuple" "str" = some false ∧ kitB "dict" "str" = some false := by decide +kernel
theorem kit_list : kitB "NoneType" "list" = some false ∧ kitB "bool" "list" = some false ∧ kitB "int" "list" = some false ∧ kitB "str" "list" = some false ∧ kitB "list" "list" = some true ∧ kitB "tuple" "list" = some false ∧ kitB "dict" "list" = some false := by decide +kernel
theorem kit_tuple : kitB "NoneType" "tuple" = some false ∧ kitB "bool" "tuple" = some false ∧ kitB "int" "tuple" = some false ∧ kitB "str" "tuple" = some false ∧ kitB "list" "tuple" = some false ∧ kitB "tuple" "tuple" = some true ∧ kitB "dict" "tuple" = some false := by decide +kernel
theorem kit_all (T : Ty) (d : PyData) : kitB (tyD d) T.nm = some (isD T d) := by
  obtain ⟨a1, a2, a3, a4, a5, a6, a7⟩ := kit_int
  obtain ⟨b1, b2, b3, b4, b5, b6, b7⟩ := kit_bool
  obtain ⟨c1, c2, c3, c4, c5, c6, c7⟩ := kit_str
  obtain ⟨d1, d2, d3, d4, d5, d6, d7⟩ := kit_list
  obtain ⟨e1, e2, e3, e4, e5, e6, e7⟩ := kit_tuple
  cases T <;> cases d <;> assumption
theorem tyX_of {K : PySem.W.Frag} {H : Hp} {v : V} {d : PyData} (h : DD K H v d) : TyX K H v (.type (tyD d)) := by
  cases h with
  | non => exact .base .non
  | bl b => exact .base (.bl b)
  | int i => exact .base (.int i)
  | str x => exact .base (.str x)
  | lst h _ => exact .base (.lst h)
  | tup h _ =>
    rcases h with (h | ⟨o, h⟩) | ⟨o, its, n, h, hc, _⟩
    · exact .base (.tup h)
    · exact .fTuple h
    · exact .kTuple h hc
  | dct h => exact .base (.dK h)
@[simp] def fIsi (T : Ty) (x : OT) (Q : OT → Prop) : Prop := x.isScr = false ∧ Q (.leaf (.bool (isD T x.er)))
theorem de_isi (T : Ty) {n : Str} (hg : Gl X "isinstance") (m : X.mg "isinstance" = none) (hb : bootBuiltins "isinstance" = some (.builtin "isinstance")) (hgT : Gl X n) (mT : X.mg n = none) (hbT : bootBuiltins n = some (.type T.nm)) (hn : n ≠ "__name__") (hd : (n == ("__debug__" : Str)) = false)
    (ha : DE X W fx a t) (hs : starEach [a, .Name n q2] X.env = (false, eval a X.env) :: starEach [.Name n q2] X.env := by rfl) (hs2 : starEach [.Name n q2] X.env = (false, eval (.Name n q2) X.env) :: starEach [] X.env := by rfl)
    (hpl : (backTo pos (starEach [.Name n q2] X.env)).any (·.1) = false := by rfl) :
    DE X W fx (.Call (.Name "isinstance" p) [a, .Name n q2] [] pos) (tU (fIsi T) t) := by
  refine PE.imp (pe_callB call_isi hg m hb (pa_cons ha (pa_cons (pe_bltn (v := .ty T.nm) hgT mT hbT rfl hn hd) pa_nil hs2) hs) (he := hs) (hpl := hpl)) fun σ H Q ⟨φ, A, Γ, Qd, Ed, rel, q, k, ke⟩ => ?_
  refine ⟨φ, A, Γ, _, Ed, rel, q, fun x v H1 s1 r1 ⟨ns, q1⟩ => ?_, ke⟩
  exact ⟨v, .ty T.nm, _, _, _, rfl, .ty _, tyX_of (((r1.cv rel.dom).dd ns).mono hid_same), kit_ty (kit_all T x.er), k _ _ H1 s1 (.leaf (.bl _)) q1⟩
end

/-! ### defs: a promise over data -/
abbrev SD := List OT → (OT → Prop) → (Value → Prop) → Prop
def spP (K : PySem.W.Frag) (S : SD) : Sp := fun vs H Q E => ∃ Z rs Qd Ed, Dom [] Z H ∧ CVs K (hid Z H) vs rs ∧ S (rs.map vw) Qd Ed ∧ Kt K [] Z H Qd Q ∧ (∀ c H', Same H H' → Ed c → E c none H')
/-- need_web's way: what is handed in comes back -/
def spI (K : PySem.W.Frag) (ok : PyData → Bool) (C : Value) : Sp := fun vs H Q E => ∃ Z v d, Dom [] Z H ∧ vs = [v] ∧ DD K (hid Z H) v d ∧ (ok d = true → ∀ H', Same H H' → Q v H') ∧ (ok d = false → ∀ H', Same H H' → E C none H')
section
variable {X : Cx} {W : WX} {fx : List Nat} {e e' a b c : Expr} {es : List Expr} {t u w : TD} {ta : TDA} {pos p p2 q2 : Pos} {k : Nat} {f : Addr} {fd : FuncData} {ps : List Str} {S : SD} {x : Str}
@[simp] def tCallD (S : SD) (ta : TDA) : TD := fun Γ Q E => ta Γ (fun xs => S (xs.map vw) Q E) E
theorem de_call (F : FnOk X.prog X.w X.K X.mg X.base (L2.CX X.prog X.w) k f fd ps (spP X.K S)) (tk : Takes X W) (hr : Room k X.A) (hg : Gl X x) (hm : X.mg x = some (.ref f)) (hk : PySem.W.keepIn X.K (.ref f) = true) (hb : Binds X.K fd ps [])
    (ha : DA X W fx (e :: es) ta) (hdb : (x == ("__debug__" : Str)) = false := by decide) (he : starEach (e :: es) X.env = (false, eval e X.env) :: starEach es X.env := by rfl) (hpl : (backTo pos (starEach es X.env)).any (·.1) = false := by rfl) :
    DE X W fx (.Call (.Name x p) (e :: es) [] pos) (tCallD S ta) := by
  refine PE.imp (pe_callS F hr hg hm hk hb (fun σ => passAt tk σ) ha hdb he hpl) fun σ H Q ⟨φ, A, Γ, Qd, Ed, rel, q, k, ke⟩ => ?_
  refine ⟨φ, A, Γ, _, Ed, rel, q, fun xs vs H1 s1 r1 q1 => ?_, ke⟩
  refine ⟨A ++ φ.Z, xs, Qd, Ed, rel.dom.mono s1, r1, q1, fun y w H' s' r' qy => k y w H' (s1.trans s') ?_ qy, fun c H' s' q' => ke c H' (s1.trans s') q'⟩
  exact Res.back s1 r'
@[simp] def tCallI (ok : PyData → Bool) (C : Value) (t : TD) : TD := fun Γ Q E => t Γ (fun x => x.isScr = false ∧ if ok x.er = true then Q (.leaf x.er) else E C) E
theorem de_callI {ok : PyData → Bool} {C : Value} (F : FnOk X.prog X.w X.K X.mg X.base (L2.CX X.prog X.w) k f fd ps (spI X.K ok C)) (tk : Takes X W) (hr : Room k X.A) (hg : Gl X x) (hm : X.mg x = some (.ref f)) (hk : PySem.W.keepIn X.K (.ref f) = true) (hb : Binds X.K fd ps [])
    (ha : DE X W fx e t) (hs : starEach [e] X.env = (false, eval e X.env) :: starEach [] X.env := by rfl) (hdb : (x == ("__debug__" : Str)) = false := by decide) (he : starEach [e] X.env = (false, eval e X.env) :: starEach [] X.env := by rfl) (hpl : (backTo pos (starEach [] X.env)).any (·.1) = false := by rfl) :
    DE X W fx (.Call (.Name x p) [e] [] pos) (tCallI ok C t) := by
  refine PE.imp (pe_callS F hr hg hm hk hb (fun σ => passAt tk σ) (pa_cons ha pa_nil hs) hdb he hpl) fun σ H Q ⟨φ, A, Γ, Qd, Ed, rel, q, k, ke⟩ => ?_
  refine ⟨φ, A, Γ, _, Ed, rel, q, fun x v H1 s1 r1 ⟨ns, q1⟩ => ?_, ke⟩
  have d := (r1.cv rel.dom).dd ns
  refine ⟨A ++ φ.Z, v, x.er, rel.dom.mono s1, rfl, d, fun o H' s' => ?_, fun o H' s' => ?_⟩
  · rw [if_pos o] at q1
    exact k _ _ H' (s1.trans s') (.leaf (d.mono (hid_mono s'))) q1
  · rw [if_neg (by rw [o]; exact Bool.false_ne_true)] at q1
    exact ke C H' (s1.trans s') q1
end
end FW

set_option Elab.async false
set_option linter.all false
set_option maxRecDepth 100000
set_option maxHeartbeats 4000000
namespace FW
open PySem PySem.Spec PyProof.Rows L2
/-- what is wanted behind a statement, told over data -/
structure DEnds where
  nx : Ev → Prop
  rt : OT → Ev → Prop
  bk : Ev → Prop
  ct : Ev → Prop
  ex : Value → Ev → Prop
  rf : Ev → Prop := fun _ => False
abbrev TDS := DEnds → Ev → Prop
structure EndsR (K : PySem.W.Frag) (W : WX) (fx : List Nat) (φ : FrF) (Dd : DEnds) (D : Ends) : Prop where
  nx : ∀ σ H A Γ, Rel K fx φ A σ H Γ → Dd.nx Γ → D.nx σ H
  rt : ∀ σ H A Γ v r As, Rel K fx φ A σ H Γ → As.Nodup → (∀ a, a ∈ As → a ∉ A ++ φ.Z ∧ (φ.H0 a = none ∨ a ∈ φ.A0)) → Own K (hid (As ++ (A ++ φ.Z)) H) H v r As → Dd.rt r Γ → D.rt v H
  bk : ∀ σ H A Γ, Rel K fx φ A σ H Γ → Dd.bk Γ → D.bk σ H
  ct : ∀ σ H A Γ, Rel K fx φ A σ H Γ → Dd.ct Γ → D.ct σ H
  ex : ∀ c σ H A Γ, Rel K fx φ A σ H Γ → Dd.ex c Γ → W c none σ H
  rf : ∀ σ H A Γ v, Rel K fx φ A σ H Γ → σ[0]? = some (some v) → Dd.rf Γ → D.rt v H
def liftS (K : PySem.W.Frag) (W : WX) (fx : List Nat) (t : TDS) : TS := fun D σ H => ∃ φ A Γ Dd, Rel K fx φ A σ H Γ ∧ t Dd Γ ∧ EndsR K W fx φ Dd D
abbrev DS (X : Cx) (W : WX) (fx : List Nat) (e : Stmt) (t : TDS) : Prop := PS X e (liftS X.K W fx t)
abbrev DSs (X : Cx) (W : WX) (fx : List Nat) (e : List Stmt) (t : TDS) : Prop := PSs X e (liftS X.K W fx t)
section
variable {K : PySem.W.Frag} {W : WX} {fx : List Nat} {φ : FrF} {A A' Z Y : List Addr} {σ σ' : L2.St} {H H' H1 H2 : Hp} {Γ Γ' : Ev} {v : V} {t : OT} {i : Nat}
/-- a place that was free then -/
theorem Rel.fresh (r : Rel K fx φ A σ H Γ) {a : Addr} (h : H a = none) : φ.H0 a = none := by
  cases q : φ.H0 a with
  | none => rfl
  | some o =>
    by_cases ha : a ∈ φ.A0
    · obtain ⟨xs, z⟩ := r.a0 a ha
      rw [h] at z; cases z
    · have z := r.keep a o q ha
      rw [h] at z; cases z
/-- a slot takes a result -/
theorem Rel.set (r : Rel K fx φ A σ H Γ) (s : Same H H1) (q : Res K A φ.Z H H1 v t) (hi : i < Γ.length) (hf : i ∉ fx) : ∃ A', Rel K fx φ A' (σ.set i (some v)) H1 (Γ.set i (some t)) ∧ ∀ a, a ∈ A' → a ∈ A ∨ H a = none := by
  obtain ⟨As, n, f, o⟩ := q
  have e1 : EnvR K (hid (As ++ (A ++ φ.Z)) H1) H1 σ Γ A := r.env.mono (hid_new s fun a ha => by
    rcases List.mem_append.mp ha with z | z
    · exact .inr (f a z)
    · exact .inl z) fun a _ o q => s a o q
  have dj : ∀ a, a ∈ As → a ∉ A := fun a ha z => by
    obtain ⟨xs, y⟩ := r.dom a (List.mem_append_left _ z)
    rw [f a ha] at y; cases y
  obtain ⟨A', h1, h2, h3⟩ := e1.set (by rw [e1.length]; exact hi) o r.nd n dj
  refine ⟨A', ⟨h1.mono (hid_sub fun a ha => ?_) fun a _ o q => q, h2, fun a ha hz => ?_, fun b o q nb => s _ _ (r.keep b o q nb), fun a ha => ?_, r.zs, (r.mono s).a0, fun j hj => ?_⟩, fun a ha => (h3 a ha).elim (fun z => .inr (f a z)) .inl⟩
  · rcases List.mem_append.mp ha with z | z
    · rcases h3 a z with z | z
      · exact List.mem_append_left _ z
      · exact List.mem_append_right _ (List.mem_append_left _ z)
    · exact List.mem_append_right _ (List.mem_append_right _ z)
  · rcases h3 a ha with z | z
    · obtain ⟨xs, y⟩ := r.dom a (List.mem_append_right _ hz)
      rw [f a z] at y; cases y
    · exact r.az a z hz
  · rcases h3 a ha with z | z
    · exact .inr (r.fresh (f a z))
    · exact r.own a z
  · rw [List.getElem?_set_ne (fun e : i = j => hf (e.symm ▸ hj))]
    exact r.fix j hj
/-- what was data when the frame was laid is data still -/
theorem Rel.stays (r : Rel K fx φ A σ H Γ) : Same (hid (φ.A0 ++ φ.Z) φ.H0) (hid (A ++ φ.Z) H) := fun b o e => by
  obtain ⟨n, e⟩ := hid_some e
  have n1 : b ∉ φ.A0 := fun z => n (List.mem_append_left _ z)
  rw [hid_out fun z => ?_]
  · exact r.keep b o e n1
  · rcases List.mem_append.mp z with z | z
    · rcases r.own b z with y | y
      · exact n1 y
      · rw [e] at y; cases y
    · exact n (List.mem_append_right _ z)
/-- back in the elder frame -/
theorem Rel.unbase (r : Rel K fx φ A σ H1 Γ) (r' : Rel K fx ⟨Y ++ φ.Z, H1, A, φ.s0⟩ A' σ' H' Γ') : Rel K fx φ A' σ' H' Γ' := by
  have nA : ∀ b o, φ.H0 b = some o → b ∉ φ.A0 → b ∉ A := fun b o q n z => by
    rcases r.own b z with y | y
    · exact n y
    · rw [q] at y; cases y
  refine ⟨r'.env.mono (hid_sub fun a ha => ?_) fun a _ o q => q, r'.nd, fun a ha hz => r'.az a ha (List.mem_append_right _ hz), fun b o q n => r'.keep b o (r.keep b o q n) (nA b o q n), fun a ha => ?_, r.zs, fun a ha => ?_, r'.fix⟩
  · rcases List.mem_append.mp ha with z | z
    · exact List.mem_append_left _ z
    · exact List.mem_append_right _ (List.mem_append_right _ z)
  · rcases r'.own a ha with z | z
    · exact r.own a z
    · exact .inr (r.fresh z)
  · by_cases h : a ∈ A
    · exact r'.a0 a h
    · obtain ⟨xs, z⟩ := r.a0 a ha
      exact ⟨xs, r'.keep a _ z h⟩
/-- a slot is emptied: its tree goes out -/
theorem EnvR.out {Hs : Hp} : ∀ {σ : L2.St} {Γ : Ev} {A : List Addr} {i : Nat} {t : OT}, EnvR K Hs H σ Γ A → A.Nodup → Γ[i]? = some (some t) →
    ∃ v B A', σ[i]? = some (some v) ∧ Own K Hs H v t B ∧ EnvR K Hs H σ (Γ.set i none) A' ∧ B.Nodup ∧ A'.Nodup ∧ (∀ a, a ∈ B → a ∈ A ∧ a ∉ A') ∧ ∀ a, a ∈ A' → a ∈ A
  | _, _, _, _, _, .nil, _, e => by simp at e
  | _, _, _, 0, _, .skip _, _, e => by cases e
  | _, _, _, i + 1, _, .skip r, n, e => by
    obtain ⟨v, B, A', h1, h2, h3, h4, h5, h6, h7⟩ := EnvR.out (i := i) r n e
    exact ⟨v, B, A', h1, h2, .skip h3, h4, h5, h6, h7⟩
  | _, _, _, 0, _, .cons (A := B) (B := C) h r, n, e => by
    cases e
    have n' := List.nodup_append.mp n
    exact ⟨_, B, C, rfl, h, .skip r, n'.1, n'.2.1, fun a ha => ⟨List.mem_append_left _ ha, fun z => n'.2.2 a ha a z rfl⟩, fun a ha => List.mem_append_right _ ha⟩
  | _, _, _, i + 1, _, .cons (A := B0) (B := C) h r, n, e => by
    have n' := List.nodup_append.mp n
    obtain ⟨v, B, A', h1, h2, h3, h4, h5, h6, h7⟩ := EnvR.out (i := i) r n'.2.1 e
    refine ⟨v, B, B0 ++ A', h1, h2, .cons h h3, h4, List.nodup_append.mpr ⟨n'.1, h5, fun a ha b hb e => n'.2.2 a ha b (h7 b hb) e⟩, fun a ha => ⟨List.mem_append_right _ (h6 a ha).1, fun z => ?_⟩, fun a ha => ?_⟩
    · rcases List.mem_append.mp z with z | z
      · exact n'.2.2 a z a (h6 a ha).1 rfl
      · exact (h6 a ha).2 z
    · rcases List.mem_append.mp ha with z | z
      · exact List.mem_append_left _ z
      · exact List.mem_append_right _ (h7 a z)
theorem Rel.sub {Γ' : Ev} (r : Rel K fx φ A σ H Γ) (e : EnvR K (hid (A ++ φ.Z) H) H σ Γ' A') (n : A'.Nodup) (h : ∀ a, a ∈ A' → a ∈ A) : Rel K fx φ A' σ H Γ' :=
  ⟨e.mono (hid_sub fun a ha => by
    rcases List.mem_append.mp ha with z | z
    · exact List.mem_append_left _ (h a z)
    · exact List.mem_append_right _ z) fun a _ o q => q, n, fun a ha => r.az a (h a ha), r.keep, fun a ha => r.own a (h a ha), r.zs, r.a0, r.fix⟩
end
section
variable {X : Cx} {W : WX} {fx : List Nat} {e a : Expr} {st : Stmt} {sts rest : List Stmt} {t : TD} {tt : TDT} {s1 s2 : TDS} {pos : Pos}
@[simp] def tNx : TDS := fun D Γ => D.nx Γ
@[simp] def tSq (t u : TDS) : TDS := fun D Γ => t { D with nx := u D } Γ
theorem ds_nil : DSs X W fx [] tNx := PSs.imp pss_nil fun D σ H ⟨φ, A, Γ, Dd, rel, q, er⟩ => er.nx σ H A Γ rel q
theorem ds_cons (h1 : DS X W fx st s1) (h2 : DSs X W fx rest s2) : DSs X W fx (st :: rest) (tSq s1 s2) := PSs.imp (pss_cons h1 h2) fun D σ H ⟨φ, A, Γ, Dd, rel, q, er⟩ =>
  ⟨φ, A, Γ, _, rel, q, ⟨fun σ' H' A' Γ' rel' q' => ⟨φ, A', Γ', Dd, rel', q', er⟩, er.rt, er.bk, er.ct, er.ex, er.rf⟩⟩
theorem ds_one (h : DS X W fx st s1) : DSs X W fx [st] s1 := pss_one h
@[simp] def tSet (i : Nat) (t : TD) : TDS := fun D Γ => t Γ (fun r => i < Γ.length ∧ D.nx (Γ.set i (some r))) fun c => D.ex c Γ
theorem ds_set {i : Nat} {x : Str} {pos' : Pos} (hN : X.N.Nodup) (hi : X.N[i]? = some x) (hx : Loc X.env.scope x) (he : DE X W fx e t) (hs : swapsWith e (some (.Name x pos')) pos.line X.env = pure false := by rfl) (hf : X.fn x = true ∨ X.env.scope.names.lookup x = some .local := by first | exact .inl rfl | exact .inr rfl | assumption)
    (hfx : i ∉ fx := by decide) : DS X W fx (.Assign [.Name x pos'] e pos) (tSet i t) := PS.imp (ps_set hN hi hx he hs hf) fun D σ H ⟨φ, A, Γ, Dd, rel, q, er⟩ =>
  ⟨φ, A, Γ, _, _, rel, q, fun r v H1 s1 r1 ⟨hi, q1⟩ => by
    obtain ⟨A', rel', _⟩ := rel.set s1 r1 hi hfx
    exact er.nx _ _ A' _ rel' q1, fun c H' s' q' => er.ex c σ H' A Γ (rel.mono s') q'⟩
@[simp] def tEx (t : TD) : TDS := fun D Γ => t Γ (fun _ => D.nx Γ) fun c => D.ex c Γ
theorem ds_expr (he : DE X W fx e t) (hs : swapsWith e none pos.line X.env = pure false := by rfl) : DS X W fx (.Expr e pos) (tEx t) := PS.imp (ps_expr he hs) fun D σ H ⟨φ, A, Γ, Dd, rel, q, er⟩ =>
  ⟨φ, A, Γ, _, _, rel, q, fun r v H1 s1 r1 q1 => er.nx _ _ A Γ (rel.mono s1) q1, fun c H' s' q' => er.ex c σ H' A Γ (rel.mono s') q'⟩
@[simp] def tRt (t : TD) : TDS := fun D Γ => t Γ (fun r => D.rt r Γ) fun c => D.ex c Γ
theorem ds_ret (he : DE X W fx e t) : DS X W fx (.Return (some e) pos) (tRt t) := PS.imp (ps_ret he) fun D σ H ⟨φ, A, Γ, Dd, rel, q, er⟩ =>
  ⟨φ, A, Γ, _, _, rel, q, fun r v H1 s1 ⟨As, n, f, o⟩ q1 => er.rt σ H1 A Γ v r As (rel.mono s1) n (fun a ha => ⟨fun z => absurd (rel.dom a z) (fun ⟨xs, y⟩ => by rw [f a ha] at y; exact nomatch y), .inl (rel.fresh (f a ha))⟩) o q1, fun c H' s' q' => er.ex c σ H' A Γ (rel.mono s') q'⟩
@[simp] def tRtN : TDS := fun D Γ => D.rt (.leaf .none) Γ
theorem ds_retN : DS X W fx (.Return none pos) tRtN := PS.imp ps_retN fun D σ H ⟨φ, A, Γ, Dd, rel, q, er⟩ => er.rt σ H A Γ .non (.leaf .none) [] rel List.nodup_nil (fun _ h => by simp at h) (.leaf .non) q
/-- the first slot's very value is handed back -/
@[simp] def tRtF : TDS := fun D Γ => (∃ t, Γ[0]? = some (some t)) ∧ D.rf Γ
theorem ds_retF {x : Str} {p : Pos} (hN : X.N[0]? = some x := by rfl) (hv : Vis X.env.scope x := by first | exact Or.inl rfl | exact Or.inr (Or.inl rfl) | exact Or.inr (Or.inr rfl)) (hd : (x == ("__debug__" : Str)) = false := by decide)
    (hcd : (x == ("__classdict__" : Str)) = false := by decide) : DS X W fx (.Return (some (.Name x p)) pos) tRtF := PS.imp (ps_ret (pe_var hN hv hd hcd)) fun D σ H ⟨φ, A, Γ, Dd, rel, ⟨⟨t, e1⟩, q⟩, er⟩ => by
  obtain ⟨v, B, e2, _⟩ := rel.env.get e1
  exact ⟨v, e2, er.rf σ H A Γ v rel e2 q⟩
/-- a slot's own tree is handed back -/
@[simp] def tRtO (i : Nat) : TDS := fun D Γ => ∃ t, Γ[i]? = some (some t) ∧ D.rt t (Γ.set i none)
theorem ds_retO (i : Nat) {x : Str} {p : Pos} (hN : X.N[i]? = some x := by rfl) (hv : Vis X.env.scope x := by first | exact Or.inl rfl | exact Or.inr (Or.inl rfl) | exact Or.inr (Or.inr rfl)) (hd : (x == ("__debug__" : Str)) = false := by decide)
    (hcd : (x == ("__classdict__" : Str)) = false := by decide) : DS X W fx (.Return (some (.Name x p)) pos) (tRtO i) := PS.imp (ps_ret (pe_var hN hv hd hcd)) fun D σ H ⟨φ, A, Γ, Dd, rel, ⟨t, e1, q⟩, er⟩ => by
  obtain ⟨v, B, A', h1, h2, h3, h4, h5, h6, h7⟩ := rel.env.out rel.nd e1
  refine ⟨v, h1, er.rt σ H A' _ v t B (rel.sub h3 h5 h7) h4 (fun a ha => ⟨fun z => ?_, ?_⟩) (h2.same (hid_sub fun a ha => ?_) (Same.refl _)) q⟩
  · rcases List.mem_append.mp z with z | z
    · exact (h6 a ha).2 z
    · exact rel.az a (h6 a ha).1 z
  · rcases rel.own a (h6 a ha).1 with z | z
    · exact .inr z
    · exact .inl z
  · rcases List.mem_append.mp ha with z | z
    · exact List.mem_append_left _ (h6 a z).1
    · rcases List.mem_append.mp z with z | z
      · exact List.mem_append_left _ (h7 a z)
      · exact List.mem_append_right _ z
@[simp] def tIf (c : TDT) (t u : TDS) : TDS := fun D Γ => c Γ (fun b => if b = true then t D Γ else u D Γ) fun c => D.ex c Γ
theorem ds_if {c : Expr} {x y : List Stmt} (hc : DT X W fx c tt) (ha : DSs X W fx x s1) (hb : DSs X W fx y s2) : DS X W fx (.If c x y pos) (tIf tt s1 s2) := PS.imp (ps_if hc ha hb) fun D σ H ⟨φ, A, Γ, Dd, rel, q, er⟩ =>
  ⟨φ, A, Γ, _, _, rel, q, fun b H1 s q1 => by
    cases b with
    | true => exact ⟨φ, A, Γ, Dd, rel.mono s, q1, er⟩
    | false => exact ⟨φ, A, Γ, Dd, rel.mono s, q1, er⟩, fun c H' s' q' => er.ex c σ H' A Γ (rel.mono s') q'⟩
@[simp] def tBk : TDS := fun D Γ => D.bk Γ
@[simp] def tCt : TDS := fun D Γ => D.ct Γ
theorem ds_break : DS X W fx (.Break pos) tBk := PS.imp ps_break fun D σ H ⟨φ, A, Γ, Dd, rel, q, er⟩ => er.bk σ H A Γ rel q
theorem ds_pass : DS X W fx (.Pass pos) tNx := PS.imp ps_pass fun D σ H ⟨φ, A, Γ, Dd, rel, q, er⟩ => er.nx σ H A Γ rel q
/-- raise C("..") -/
@[simp] def tRaise (c : Value) : TDS := fun D Γ => D.ex c Γ
theorem ds_raise {C : Addr} (hc : X.calm = true) (tk : Takes X W) (he : PMk X e (fun _ H Q => Q (.ref C) none H)) : DS X W fx (.Raise (some e) none pos) (tRaise (.ref C)) := PS.imp (ps_raise hc tk he) fun D σ H ⟨φ, A, Γ, Dd, rel, q, er⟩ => er.ex _ σ H A Γ rel q
/-! ### loops -/
abbrev TGD := PyData → Ev → (Ev → Prop) → Prop
def GD (K : PySem.W.Frag) (fx : List Nat) (g : TG) (gd : TGD) : Prop := ∀ φ A Γ σ H v d (Q : L2.St → Hp → Prop) Qd, Rel K fx φ A σ H Γ → DD K (hid (A ++ φ.Z) H) v d → gd d Γ Qd → (∀ σ' A' Γ', Rel K fx φ A' σ' H Γ' → Qd Γ' → Q σ' H) → g v σ H Q
@[simp] def gN (i : Nat) : TGD := fun d Γ Q => i < Γ.length ∧ Q (Γ.set i (some (.leaf d)))
theorem gd_name {K : PySem.W.Frag} {i : Nat} (hf : i ∉ fx) : GD K fx (gName i) (gN i) := fun φ A Γ σ H v d Q Qd rel h ⟨hi, q⟩ k => by
  obtain ⟨A', r, _⟩ := rel.set (Same.refl _) (Res.leaf (A := A) (Z := φ.Z) h) hi hf
  exact k _ A' _ r q
@[simp] def gN2 (i j : Nat) : TGD := fun d Γ Q => ∃ d1 d2, d = .tuple [d1, d2] ∧ i < Γ.length ∧ j < Γ.length ∧ Q ((Γ.set i (some (.leaf d1))).set j (some (.leaf d2)))
theorem gd_two {K : PySem.W.Frag} {i j : Nat} (hf : i ∉ fx) (hf' : j ∉ fx) : GD K fx (gTup K 2 (gCons (gName i) (gCons (gName j) gNil))) (gN2 i j) := fun φ A Γ σ H v d Q Qd rel h ⟨d1, d2, ed, hi, hj, q⟩ k => by
  subst ed
  cases h with
  | tup h t =>
    cases t with
    | cons h1 t =>
      cases t with
      | cons h2 t =>
        cases t
        obtain ⟨A', r, sb⟩ := rel.set (Same.refl _) (Res.leaf (A := A) (Z := φ.Z) h1) hi hf
        have h2' : DD K (hid (A' ++ φ.Z) H) _ d2 := h2.mono fun b o e => by
          obtain ⟨n, e⟩ := hid_some e
          rw [hid_out fun y => ?_]
          · exact e
          · rcases List.mem_append.mp y with y | y
            · rcases sb b y with y | y
              · exact n (List.mem_append_left _ y)
              · rw [e] at y; cases y
            · exact n (List.mem_append_right _ y)
        obtain ⟨A2, r2, _⟩ := r.set (Same.refl _) (Res.leaf (A := A') (Z := φ.Z) h2') (by rw [List.length_set]; exact hj) hf'
        exact ⟨_, _, rfl, sqT_mono hid_same h, rfl, _, _, rfl, _, _, rfl, rfl, k _ A2 _ r2 q⟩
end
end FW

set_option Elab.async false
set_option linter.all false
set_option maxRecDepth 100000
set_option maxHeartbeats 4000000
namespace FW
open PySem PySem.Spec PyProof.Rows L2
/-- a loop over items, by an invariant over the turn -/
def forInv (ds : List PyData) (g : TGD) (tb : TDS) (D : DEnds) (Γ : Ev) : Prop :=
  ∃ Iv : Nat → Ev → Prop, Iv 0 Γ ∧ (∀ n d Γ', ds[n]? = some d → Iv n Γ' → g d Γ' fun Γ2 => tb { D with nx := Iv (n + 1), ct := Iv (n + 1), bk := D.nx } Γ2) ∧ ∀ Γ', Iv ds.length Γ' → D.nx Γ'
section
variable {X : Cx} {W : WX} {fx : List Nat} {e a b tg : Expr} {st : Stmt} {sts rest body : List Stmt} {t u : TD} {ta : TDA} {tt : TDT} {s1 s2 tb : TDS} {pos p : Pos} {g : TG} {gd : TGD}
theorem for_core {J : It} {K : PySem.W.Frag} {φ : FrF} {A : List Addr} {σ : L2.St} {H : Hp} {Γ : Ev} {ds : List PyData} {D : Ends} {Dd : DEnds} (rel : Rel K fx φ A σ H Γ) (er : EndsR K W fx φ Dd D) (hg : GD K fx g gd) (q : forInv ds gd tb Dd Γ)
    (hgo : ∀ i A' σ' H' Γ', Rel K fx ⟨[] ++ φ.Z, H, A, φ.s0⟩ A' σ' H' Γ' → i < ds.length → J.go i H' ∧ ∀ x H2, J.yld i H' x H2 → H2 = H' ∧ ∃ d, ds[i]? = some d ∧ DD K (hid (A ++ φ.Z) H) x d)
    (hst : ∀ A' σ' H' Γ', Rel K fx ⟨[] ++ φ.Z, H, A, φ.s0⟩ A' σ' H' Γ' → J.stop ds.length H') :
    ∃ Wv : Nat → Nat → L2.St → Hp → Prop, (∃ m, Wv 0 m σ H) ∧ ∀ i m σ H, Wv i m σ H →
      (J.stop i H ∧ D.nx σ H) ∨ (J.go i H ∧ ∃ N : L2.St → Hp → Prop, (∀ σ' H', N σ' H' → ∃ m', m' < m ∧ Wv (i + 1) m' σ' H') ∧ ∀ x H', J.yld i H x H' → g x σ H' fun σ2 H2 => liftS K W fx tb { D with nx := N, ct := N, bk := D.nx } σ2 H2) := by
  obtain ⟨Iv, i0, turn, fin⟩ := q
  have base := rel.rebase (Same.refl _) [] fun _ h => by simp at h
  refine ⟨fun i m σ' H' => m = ds.length - i ∧ i ≤ ds.length ∧ ∃ A' Γ', Rel K fx ⟨[] ++ φ.Z, H, A, φ.s0⟩ A' σ' H' Γ' ∧ Iv i Γ', ⟨ds.length, by simp, Nat.zero_le _, A, Γ, base, i0⟩, ?_⟩
  rintro i m σ1 H1 ⟨rfl, hi, A', Γ', r1, iv⟩
  by_cases hlt : i < ds.length
  · obtain ⟨go, yl⟩ := hgo i A' σ1 H1 Γ' r1 hlt
    refine .inr ⟨go, fun σ' H' => i + 1 ≤ ds.length ∧ ∃ A' Γ', Rel K fx ⟨[] ++ φ.Z, H, A, φ.s0⟩ A' σ' H' Γ' ∧ Iv (i + 1) Γ', fun σ' H' ⟨h1, h2⟩ => ⟨ds.length - (i + 1), by omega, rfl, h1, h2⟩, fun x H2 y => ?_⟩
    obtain ⟨rfl, d, ed, dd⟩ := yl x H2 y
    refine hg _ A' Γ' σ1 H2 x d _ _ r1 (dd.mono r1.stays) (turn i d Γ' ed iv) fun σ' A2 Γ2 r2 q2 => ?_
    refine ⟨_, A2, Γ2, _, r2, q2, ⟨fun σ3 H3 A3 Γ3 r3 q3 => ⟨hlt, A3, Γ3, r3, q3⟩, fun σ3 H3 A3 Γ3 v r As r3 n f o q3 => ?_, fun σ3 H3 A3 Γ3 r3 q3 => er.nx σ3 H3 A3 Γ3 (rel.unbase r3) q3, fun σ3 H3 A3 Γ3 r3 q3 => ⟨hlt, A3, Γ3, r3, q3⟩, fun c σ3 H3 A3 Γ3 r3 q3 => er.ex c σ3 H3 A3 Γ3 (rel.unbase r3) q3, fun σ3 H3 A3 Γ3 v r3 z q3 => er.rf σ3 H3 A3 Γ3 v (rel.unbase r3) z q3⟩⟩
    refine er.rt σ3 H3 A3 Γ3 v r As (rel.unbase r3) n (fun a ha => ⟨(f a ha).1, ?_⟩) o q3
    rcases (f a ha).2 with z | z
    · exact .inl (rel.fresh z)
    · rcases rel.own a z with z | z
      · exact .inr z
      · exact .inl z
  · have e : i = ds.length := by omega
    subst e
    exact .inl ⟨hst A' σ1 H1 Γ' r1, er.nx σ1 H1 A' Γ' (rel.unbase r1) (fin Γ' iv)⟩
@[simp] def tFor (src : OT → Option (List PyData)) (t : TD) (gd : TGD) (tb : TDS) : TDS := fun D Γ => t Γ (fun x => ∃ ds, src x = some ds ∧ forInv ds gd tb D Γ) fun c => D.ex c Γ
def srcL (x : OT) : Option (List PyData) := match x.er with
  | .list ds => some ds
  | _ => none
def srcT (x : OT) : Option (List PyData) := match x.er with
  | .tuple ds => some ds
  | _ => none
def srcS (x : OT) : Option (List PyData) := match x.er with
  | .str z => some (z.cps.toList.map fun c => .str ⟨#[c]⟩)
  | _ => none
@[simp] theorem srcL_leaf {l : List PyData} : srcL (.leaf (.list l)) = some l := rfl
@[simp] theorem srcL_node {l : List OT} : srcL (.node l) = some (OT.ers l) := rfl
@[simp] theorem srcL_scr {l : List Int} : srcL (.scr l) = some (l.map .int) := rfl
@[simp] theorem srcT_leaf {l : List PyData} : srcT (.leaf (.tuple l)) = some l := rfl
@[simp] theorem srcS_leaf {z : Str} : srcS (.leaf (.str z)) = some (z.cps.toList.map fun c => .str ⟨#[c]⟩) := rfl
theorem srcL_er {x : OT} {ds : List PyData} (h : srcL x = some ds) : x.er = .list ds := by
  unfold srcL at h
  split at h
  · rename_i e; cases h; exact e
  · cases h
theorem srcT_er {x : OT} {ds : List PyData} (h : srcT x = some ds) : x.er = .tuple ds := by
  unfold srcT at h
  split at h
  · rename_i e; cases h; exact e
  · cases h
theorem srcS_er {x : OT} {ds : List PyData} (h : srcS x = some ds) : ∃ z : Str, x.er = .str z ∧ ds = z.cps.toList.map fun c => .str ⟨#[c]⟩ := by
  unfold srcS at h
  split at h
  · rename_i z e; cases h; exact ⟨z, e, rfl⟩
  · cases h
theorem DDs.at {K : PySem.W.Frag} {Hs : Hp} {xs : List V} {ds : List PyData} {i : Nat} {x : V} (h : DDs K Hs xs ds) (e : xs[i]? = some x) : ∃ d, ds[i]? = some d ∧ DD K Hs x d := by
  have l := h.length
  have hi : i < ds.length := by rw [← l]; exact (List.getElem?_eq_some_iff.mp e).1
  obtain ⟨v, e1, d⟩ := h.get (List.getElem?_eq_getElem hi)
  rw [e] at e1; cases e1
  exact ⟨_, List.getElem?_eq_getElem hi, d⟩
theorem ds_forL (po : PassesOwn (model X.prog X.w) X.A X.env X.xe) (hc : X.calm = true) (he : DE X W fx e t) (hp : PG X tg g) (hg : GD X.K fx g gd) (hb : DSs X W fx body tb) (hs : ∀ x, foldedSetIterable e X.env x = pure x := by intro _; rfl) :
    DS X W fx (.For tg e body [] pos) (tFor srcL t gd tb) := PS.imp (ps_for po hc (pi_list he) hp hb hs) fun D σ H ⟨φ, A, Γ, Dd, rel, q, er⟩ => by
  refine ⟨φ, A, Γ, _, _, rel, q, fun x v H1 s1 r1 ⟨ds, es, q1⟩ => ?_, fun c H' s' q' => er.ex c σ H' A Γ (rel.mono s') q'⟩
  obtain ⟨a, xs, rfl, h, t'⟩ := (r1.cv rel.dom).list (srcL_er es)
  have up : ∀ A' σ' H' Γ', Rel X.K fx ⟨[] ++ φ.Z, H1, A, φ.s0⟩ A' σ' H' Γ' → SqL X.K H' a xs := fun A' σ' H' Γ' r => hid_same.seq (r.stays.seq h)
  refine ⟨a, rfl, ⟨xs, hid_same.seq h⟩, for_core (rel.mono s1) er hg q1 (fun i A' σ' H' Γ' r hi => ?_) fun A' σ' H' Γ' r => ⟨xs, up _ _ _ _ r, Nat.le_of_eq t'.length⟩⟩
  have hx : i < xs.length := by rw [t'.length]; exact hi
  refine ⟨⟨xs, xs[i], up _ _ _ _ r, List.getElem?_eq_getElem hx⟩, fun x H2 y => ⟨y.1, ?_⟩⟩
  have e1 := y.2 xs (up _ _ _ _ r)
  exact t'.at e1
theorem ds_forT (po : PassesOwn (model X.prog X.w) X.A X.env X.xe) (hc : X.calm = true) (he : DE X W fx e t) (hp : PG X tg g) (hg : GD X.K fx g gd) (hb : DSs X W fx body tb) (hs : ∀ x, foldedSetIterable e X.env x = pure x := by intro _; rfl) :
    DS X W fx (.For tg e body [] pos) (tFor srcT t gd tb) := PS.imp (ps_for po hc (pi_tup he) hp hb hs) fun D σ H ⟨φ, A, Γ, Dd, rel, q, er⟩ => by
  refine ⟨φ, A, Γ, _, _, rel, q, fun x v H1 s1 r1 ⟨ds, es, q1⟩ => ?_, fun c H' s' q' => er.ex c σ H' A Γ (rel.mono s') q'⟩
  obtain ⟨a, xs, rfl, h, t'⟩ := (r1.cv rel.dom).tup (srcT_er es)
  have up : ∀ A' σ' H' Γ', Rel X.K fx ⟨[] ++ φ.Z, H1, A, φ.s0⟩ A' σ' H' Γ' → SqT X.K H' a xs := fun A' σ' H' Γ' r => sqT_mono hid_same (sqT_mono r.stays h)
  refine ⟨a, rfl, ⟨xs, sqT_mono hid_same h⟩, for_core (rel.mono s1) er hg q1 (fun i A' σ' H' Γ' r hi => ?_) fun A' σ' H' Γ' r => ⟨xs, up _ _ _ _ r, Nat.le_of_eq t'.length⟩⟩
  have hx : i < xs.length := by rw [t'.length]; exact hi
  refine ⟨⟨xs, xs[i], up _ _ _ _ r, List.getElem?_eq_getElem hx⟩, fun x H2 y => ⟨y.1, ?_⟩⟩
  have e1 := y.2 xs (up _ _ _ _ r)
  exact t'.at e1
theorem ds_forS (po : PassesOwn (model X.prog X.w) X.A X.env X.xe) (hc : X.calm = true) (he : DE X W fx e t) (hp : PG X tg g) (hg : GD X.K fx g gd) (hb : DSs X W fx body tb) (hs : ∀ x, foldedSetIterable e X.env x = pure x := by intro _; rfl) :
    DS X W fx (.For tg e body [] pos) (tFor srcS t gd tb) := PS.imp (ps_for po hc (pi_str he) hp hb hs) fun D σ H ⟨φ, A, Γ, Dd, rel, q, er⟩ => by
  refine ⟨φ, A, Γ, _, _, rel, q, fun x v H1 s1 r1 ⟨ds, es, q1⟩ => ?_, fun c H' s' q' => er.ex c σ H' A Γ (rel.mono s') q'⟩
  obtain ⟨z, ez, rfl⟩ := srcS_er es
  have ev := (r1.cv rel.dom).str ez
  subst ev
  refine ⟨z, rfl, for_core (rel.mono s1) er hg q1 (fun i A' σ' H' Γ' r hi => ?_) fun A' σ' H' Γ' r => ?_⟩
  · have hi' : i < z.cps.size := by simpa using hi
    refine ⟨hi', fun x H2 y => ⟨y.1, ?_⟩⟩
    obtain ⟨_, c, e1, rfl⟩ := y
    refine ⟨.str ⟨#[c]⟩, ?_, .str _⟩
    rw [List.getElem?_map, Array.getElem?_toList, e1]
    rfl
  · show z.cps.size ≤ _
    simp
def rangeD (lo : Int) (n : Nat) : List PyData := (List.range n).map fun i => .int (lo + (i : Nat))
theorem rangeD_get {lo : Int} {n i : Nat} (h : i < n) : (rangeD lo n)[i]? = some (.int (lo + (i : Nat))) := by
  unfold rangeD
  rw [List.getElem?_map, List.getElem?_range h]
  rfl
theorem rangeD_length {lo : Int} {n : Nat} : (rangeD lo n).length = n := by simp [rangeD]
theorem range_core {K : PySem.W.Frag} {φ : FrF} {A : List Addr} {σ : L2.St} {H : Hp} {Γ : Ev} {lo : Int} {n : Nat} {D : Ends} {Dd : DEnds} (rel : Rel K fx φ A σ H Γ) (er : EndsR K W fx φ Dd D) (hg : GD K fx g gd) (q : forInv (rangeD lo n) gd tb Dd Γ) :
    ∃ Wv : Nat → Nat → L2.St → Hp → Prop, (∃ m, Wv 0 m σ H) ∧ ∀ i m σ H, Wv i m σ H →
      ((Itr lo n).stop i H ∧ D.nx σ H) ∨ ((Itr lo n).go i H ∧ ∃ N : L2.St → Hp → Prop, (∀ σ' H', N σ' H' → ∃ m', m' < m ∧ Wv (i + 1) m' σ' H') ∧ ∀ x H', (Itr lo n).yld i H x H' → g x σ H' fun σ2 H2 => liftS K W fx tb { D with nx := N, ct := N, bk := D.nx } σ2 H2) := by
  refine for_core rel er hg q (fun i A' σ' H' Γ' r hi => ?_) fun A' σ' H' Γ' r => ?_
  · rw [rangeD_length] at hi
    refine ⟨hi, fun x H2 y => ⟨y.1, _, rangeD_get hi, ?_⟩⟩
    obtain ⟨_, rfl⟩ := y
    exact .int _
  · rw [rangeD_length]
    exact Nat.le_refl _
@[simp] def tForR1 (t : TD) (gd : TGD) (tb : TDS) : TDS := fun D Γ => t Γ (fun x => ∃ j, x.er = .int j ∧ -(2 ^ 62) ≤ j ∧ j < 2 ^ 62 ∧ forInv (rangeD 0 j.toNat) gd tb D Γ) fun c => D.ex c Γ
theorem ds_forR1 (po : PassesOwn (model X.prog X.w) X.A X.env X.xe) (hc : X.calm = true) (hgR : Gl X "range") (m : X.mg "range" = none) (he : DE X W fx a t) (hp : PG X tg g) (hg : GD X.K fx g gd) (hb : DSs X W fx body tb)
    (hse : starEach [a] X.env = (false, eval a X.env) :: starEach [] X.env := by rfl) (hse2 : starEach [a] X.env = [(false, eval a X.env)] := by rfl) {pp : Pos} (hs : ∀ x, foldedSetIterable (.Call (.Name "range" p) [a] [] pp) X.env x = pure x := by intro _; rfl) :
    DS X W fx (.For tg (.Call (.Name "range" p) [a] [] pp) body [] pos) (tForR1 t gd tb) := PS.imp (ps_for po hc (pi_range1 hgR m (pa_cons he pa_nil hse) hse2) hp hb hs) fun D σ H ⟨φ, A, Γ, Dd, rel, q, er⟩ => by
  refine ⟨φ, A, Γ, _, _, rel, q, fun x v H1 s1 r1 ⟨j, ej, b1, b2, q1⟩ => ?_, fun c H' s' q' => er.ex c σ H' A Γ (rel.mono s') q'⟩
  have ev := (r1.cv rel.dom).int ej
  subst ev
  exact ⟨j, rfl, b1, b2, range_core (rel.mono s1) er hg q1⟩
@[simp] def tForR2 (t u : TD) (gd : TGD) (tb : TDS) : TDS := fun D Γ => t Γ (fun x => u Γ (fun y => ∃ i j, x.er = .int i ∧ y.er = .int j ∧ (-(2 ^ 62) ≤ i ∧ i < 2 ^ 62 ∧ -(2 ^ 62) ≤ j ∧ j < 2 ^ 62) ∧ forInv (rangeD i (j - i).toNat) gd tb D Γ) fun c => D.ex c Γ) fun c => D.ex c Γ
theorem ds_forR2 (po : PassesOwn (model X.prog X.w) X.A X.env X.xe) (hc : X.calm = true) (hgR : Gl X "range") (m : X.mg "range" = none) (ha : DE X W fx a t) (hb' : DE X W fx b u) (hp : PG X tg g) (hg : GD X.K fx g gd) (hb : DSs X W fx body tb)
    (hs1 : starEach [a, b] X.env = (false, eval a X.env) :: starEach [b] X.env := by rfl) (hs2 : starEach [b] X.env = (false, eval b X.env) :: starEach [] X.env := by rfl)
    (hs3 : starEach [a, b] X.env = [(false, eval a X.env), (false, eval b X.env)] := by rfl) (hs4 : starEach [b] X.env = [(false, eval b X.env)] := by rfl) {pp : Pos} (hs : ∀ x, foldedSetIterable (.Call (.Name "range" p) [a, b] [] pp) X.env x = pure x := by intro _; rfl) :
    DS X W fx (.For tg (.Call (.Name "range" p) [a, b] [] pp) body [] pos) (tForR2 t u gd tb) := PS.imp (ps_for po hc (pi_range2 hgR m (pa_cons ha (pa_cons hb' pa_nil hs2) hs1) hs3 hs4) hp hb hs) fun D σ H ⟨φ, A, Γ, Dd, rel, q, er⟩ => by
  refine ⟨φ, A, Γ, _, _, rel, q, fun x v H1 s1 r1 q1 => ?_, fun c H' s' q' => er.ex c σ H' A Γ (rel.mono s') q'⟩
  refine ⟨φ, A, Γ, _, _, rel.mono s1, q1, fun y w H2 s2 r2 ⟨i, j, ei, ej, bb, q2⟩ => ?_, fun c H' s' q' => er.ex c σ H' A Γ ((rel.mono s1).mono s') q'⟩
  have ev := (r1.cv rel.dom).int ei
  subst ev
  have ev := (r2.cv (rel.mono s1).dom).int ej
  subst ev
  exact ⟨i, j, rfl, bb, range_core ((rel.mono s1).mono s2) er hg q2⟩
/-- while, by a word and a number that falls -/
def tWh (c : TDT) (tb : TDS) : TDS := fun D Γ => ∃ P : Nat → Ev → Prop, (∃ m, P m Γ) ∧ ∀ m Γ', P m Γ' → c Γ' (fun b => if b = true then tb { D with nx := fun Γ2 => ∃ m', m' < m ∧ P m' Γ2, ct := fun Γ2 => ∃ m', m' < m ∧ P m' Γ2, bk := D.nx } Γ' else D.nx Γ') fun x => D.ex x Γ'
theorem ds_while {c : Expr} (po : PassesOwn (model X.prog X.w) X.A X.env X.xe) (hc : DT X W fx c tt) (hb : DSs X W fx body tb) : DS X W fx (.While c body [] pos) (tWh tt tb) := PS.imp (ps_while po hc hb) fun D σ H ⟨φ, A, Γ, Dd, rel, ⟨P, ⟨m0, p0⟩, turn⟩, er⟩ => by
  refine ⟨fun m σ' H' => ∃ A' Γ', Rel X.K fx φ A' σ' H' Γ' ∧ P m Γ', ⟨m0, A, Γ, rel, p0⟩, ?_⟩
  rintro m σ1 H1 ⟨A1, Γ1, r1, p1⟩
  refine ⟨φ, A1, Γ1, _, _, r1, turn m Γ1 p1, fun b H2 s2 q2 => ?_, fun c H' s' q' => er.ex c σ1 H' A1 Γ1 (r1.mono s') q'⟩
  cases b with
  | true =>
    refine ⟨fun σ' H' => ∃ m', m' < m ∧ ∃ A' Γ', Rel X.K fx φ A' σ' H' Γ' ∧ P m' Γ', fun σ' H' ⟨m', h1, h2⟩ => ⟨m', h1, h2⟩, ?_⟩
    exact ⟨φ, A1, Γ1, _, r1.mono s2, q2, ⟨fun σ' H' A' Γ' r' ⟨m', h1, h2⟩ => ⟨m', h1, A', Γ', r', h2⟩, er.rt, er.nx, fun σ' H' A' Γ' r' ⟨m', h1, h2⟩ => ⟨m', h1, A', Γ', r', h2⟩, er.ex, er.rf⟩⟩
  | false => exact er.nx σ1 H2 A1 Γ1 (r1.mono s2) q2
end
/-! ### a def's promise by its body -/
def startE (N : List Str) (rs : List OT) : Ev := rs.map (fun r => some (vw r)) ++ List.replicate (N.length - rs.length) none
@[simp] def endP (Qd : OT → Prop) (Ed : Value → Prop) : DEnds := { nx := fun _ => Qd (.leaf .none), rt := fun r _ => Qd r, bk := fun _ => False, ct := fun _ => False, ex := fun c _ => Ed c }
section
variable {K : PySem.W.Frag} {W : WX} {fx : List Nat} {H : Hp} {Z : List Addr}
theorem envR_none : ∀ n : Nat, EnvR K (hid Z H) H (List.replicate n none) (List.replicate n none) []
  | 0 => .nil
  | n + 1 => .skip (envR_none n)
theorem CV.own {Hs : Hp} {v : V} {r : OT} (h : CV K Hs v r) : Own K Hs H v (vw r) [] := by
  cases r with
  | leaf d => exact .leaf (h.dd rfl)
  | node l => exact .leaf (h.dd rfl)
  | scr ns =>
    cases h with
    | dat n _ => cases n
    | scr h => exact .scr h
    | opq z => cases z
  | exn a =>
    cases h with
    | dat n _ => cases n
    | exn => exact .exn
    | opq z => cases z
  | dct w l => exact .opq
  | opq => exact .opq
theorem envR_start : ∀ {vs : List V} {rs : List OT} (n : Nat), CVs K (hid Z H) vs rs → EnvR K (hid Z H) H (vs.map some ++ List.replicate n none) (rs.map (fun r => some (vw r)) ++ List.replicate n none) []
  | _, _, n, .nil => envR_none n
  | _, _, n, .cons h t => .cons (A := []) (B := []) h.own (envR_start n t)
theorem rel_start {N : List Str} {vs : List V} {rs : List OT} (dm : Dom [] Z H) (c : CVs K (hid Z H) vs rs) : Rel K [] ⟨Z, H, [], L2.start N vs⟩ [] (L2.start N vs) H (startE N rs) := by
  refine ⟨?_, List.nodup_nil, fun a h => by simp at h, fun b o e _ => e, fun a h => by simp at h, fun a h => ⟨by simp, dm a h⟩, fun a h => by simp at h, fun i h => by simp at h⟩
  show EnvR K (hid Z H) H _ _ []
  unfold L2.start startE
  rw [← c.length]
  exact envR_start _ c
theorem ends_start {Q : VK} {E : XK} {Qd : OT → Prop} {Ed : Value → Prop} {s0 : L2.St} (k : Kt K [] Z H Qd Q) (ke : ∀ c H', Same H H' → Ed c → E c none H') : EndsR K (fun cls d _ H => E cls d H) fx ⟨Z, H, [], s0⟩ (endP Qd Ed) { nx := fun _ H' => Q .non H', rt := Q } := by
  have sm : ∀ {A σ H' Γ}, Rel K fx ⟨Z, H, [], s0⟩ A σ H' Γ → Same H H' := fun r b o e => r.keep b o e (by simp)
  refine ⟨fun σ H' A Γ r q => k _ _ _ (sm r) (.leaf .non) q, fun σ H' A Γ v r As rel n f o q => k _ _ _ (sm rel) ⟨As, n, fun a ha => ?_, o.same (hid_sub fun a ha => ?_) (Same.refl _)⟩ q, fun _ _ _ _ _ q => q.elim, fun _ _ _ _ _ q => q.elim, fun c σ H' A Γ r q => ke c H' (sm r) q, fun _ _ _ _ _ _ _ q => q.elim⟩
  · rcases (f a ha).2 with z | z
    · exact z
    · simp at z
  · rcases List.mem_append.mp ha with z | z
    · exact List.mem_append_left _ z
    · exact List.mem_append_right _ (List.mem_append_right _ z)
end
section
variable {P : Program} {w : World} {K : PySem.W.Frag} {mg : Str → Option Value} {base : Heap}
abbrev wE (E : XK) : WX := fun cls d _ H => E cls d H
theorem fnP {x qual : Str} {st : Stmt} {f : Addr} {fd : FuncData} {N ps : List Str} {k : Nat} {S : SD} (F : Fun K x qual st f fd) (Sc : FnScope N ps (defScope st)) (len : ∀ rs Qd Ed, S rs Qd Ed → rs.length = ps.length)
    (hbody : ∀ (cdv : Value) (A : Around) (outer : List Env) (s : Shared) (H : Hp) (E : XK), Room k (A.deeper (envOfC qual (defScope st) s.heap.objs.size f cdv)) →
      Takes (cxOf (L2.CX P w) P w K mg base N qual (defScope st) f cdv A outer s H E) (wE E) → PassesOwn (model P w) (A.deeper (envOfC qual (defScope st) s.heap.objs.size f cdv)) (envOfC qual (defScope st) s.heap.objs.size f cdv) (cxOf (L2.CX P w) P w K mg base N qual (defScope st) f cdv A outer s H E).xe →
      ∃ t : TDS, PSs (cxOf (L2.CX P w) P w K mg base N qual (defScope st) f cdv A outer s H E) (defBody st) (liftS K (wE E) [] t) ∧ ∀ rs Qd Ed, S rs Qd Ed → t (endP Qd Ed) (rs.map some ++ List.replicate (N.length - rs.length) none)) : FnOk P w K mg base (L2.CX P w) (k + 1) f fd ps (spP K S) := by
  refine F.okX Sc (fun vs H Q E ⟨Z, rs, Qd, Ed, dm, c, s, k1, k2⟩ => ?_) fun cdv A outer s H vs Q E hr ⟨Z, rs, Qd, Ed, dm, c, sd, k1, k2⟩ => ?_
  · have l := len _ _ _ s
    rw [List.length_map] at l
    rw [c.length, l]
  · obtain ⟨t, h, q⟩ := hbody cdv A outer s H E hr (takes_of rfl rfl rfl rfl) (passes_of rfl)
    refine ⟨_, h, ⟨Z, H, [], L2.start N vs⟩, [], startE N rs, _, rel_start dm c, ?_, ends_start k1 k2⟩
    have z := q _ Qd Ed sd
    rw [List.map_map, List.length_map] at z
    exact z
/-- need_web's way -/
theorem fnI {x qual : Str} {st : Stmt} {f : Addr} {fd : FuncData} {N : List Str} {p : Str} {k : Nat} {ok : PyData → Bool} {C : Value} (F : Fun K x qual st f fd) (Sc : FnScope N [p] (defScope st))
    (hbody : ∀ (cdv : Value) (A : Around) (outer : List Env) (s : Shared) (H : Hp) (E : XK), Room k (A.deeper (envOfC qual (defScope st) s.heap.objs.size f cdv)) →
      Takes (cxOf (L2.CX P w) P w K mg base N qual (defScope st) f cdv A outer s H E) (wE E) → PassesOwn (model P w) (A.deeper (envOfC qual (defScope st) s.heap.objs.size f cdv)) (envOfC qual (defScope st) s.heap.objs.size f cdv) (cxOf (L2.CX P w) P w K mg base N qual (defScope st) f cdv A outer s H E).xe →
      ∃ t : TDS, PSs (cxOf (L2.CX P w) P w K mg base N qual (defScope st) f cdv A outer s H E) (defBody st) (liftS K (wE E) [0] t) ∧
        ∀ d, t { nx := fun _ => False, rt := fun _ _ => False, bk := fun _ => False, ct := fun _ => False, ex := fun c _ => c = C ∧ ok d = false, rf := fun _ => ok d = true } (some (.leaf d) :: List.replicate (N.length - 1) none)) : FnOk P w K mg base (L2.CX P w) (k + 1) f fd [p] (spI K ok C) := by
  refine F.okX Sc (fun vs H Q E ⟨Z, v, d, _, e, _⟩ => by rw [e]; rfl) fun cdv A outer s H vs Q E hr ⟨Z, v, d, dm, e, dd, k1, k2⟩ => ?_
  subst e
  obtain ⟨t, h, q⟩ := hbody cdv A outer s H E hr (takes_of rfl rfl rfl rfl) (passes_of rfl)
  have c : CVs K (hid Z H) [v] [.leaf d] := .cons (.dat rfl dd) .nil
  have r := rel_start (N := N) dm c
  have sm : ∀ {A σ H' Γ}, Rel K [0] ⟨Z, H, [], L2.start N [v]⟩ A σ H' Γ → Same H H' := fun r b o e => r.keep b o e (by simp)
  refine ⟨_, h, ⟨Z, H, [], L2.start N [v]⟩, [], startE N [.leaf d], _, ⟨r.env, r.nd, r.az, r.keep, r.own, r.zs, r.a0, fun i _ => rfl⟩, q d, ?_⟩
  refine ⟨fun _ _ _ _ _ q => q.elim, fun _ _ _ _ _ _ _ _ _ _ _ q => q.elim, fun _ _ _ _ _ q => q.elim, fun _ _ _ _ _ q => q.elim, fun c σ H' A Γ r qc => ?_, fun σ H' A Γ v' r z q => ?_⟩
  · obtain ⟨rfl, qo⟩ := qc
    exact k2 qo H' (sm r)
  · have e := r.fix 0 (by simp)
    rw [z] at e
    have e' : v' = v := by
      have z : (L2.start N [v])[0]? = some (some v) := rfl
      rw [z] at e
      cases e; rfl
    subst e'
    exact k1 q H' (sm r)
end
end FW

set_option Elab.async false
set_option linter.all false
set_option maxRecDepth 100000
set_option maxHeartbeats 4000000
namespace FW
open PySem PySem.Spec PyProof.Rows L2
/-! ### an owned tree, changed at a path -/
@[simp] def OT.at : OT → List Nat → Option OT
  | t, [] => some t
  | .node l, j :: js => (l[j]?).bind fun t => t.at js
  | _, _ :: _ => none
@[simp] def OT.put : OT → List Nat → OT → OT
  | _, [], u => u
  | .node l, j :: js, u => .node (l.modify j fun t => t.put js u)
  | t, _ :: _, _ => t
def Reach (H : Hp) : V → List Nat → V → Prop
  | r, [], v => r = v
  | r, j :: js, v => ∃ p xs w, r = .ref p ∧ H p = some (.lst xs) ∧ xs[j]? = some w ∧ Reach H w js v
theorem Reach.mono {H H' : Hp} (e : Same H H') : ∀ {js : List Nat} {r v : V}, Reach H r js v → Reach H' r js v
  | [], _, _, h => h
  | _ :: _, _, _, ⟨p, xs, w, h1, h2, h3, h4⟩ => ⟨p, xs, w, h1, e _ _ h2, h3, Reach.mono e h4⟩
theorem Reach.snoc {H : Hp} {j : Nat} {p : Addr} {xs : List V} {w : V} : ∀ {js : List Nat} {r : V}, Reach H r js (.ref p) → H p = some (.lst xs) → xs[j]? = some w → Reach H r (js ++ [j]) w
  | [], _, h, h1, h2 => ⟨p, xs, w, h, h1, h2, rfl⟩
  | _ :: _, _, ⟨q, ys, u, a1, a2, a3, a4⟩, h1, h2 => ⟨q, ys, u, a1, a2, a3, Reach.snoc a4 h1 h2⟩
section
variable {K : PySem.W.Frag} {Hs Hs' H H' : Hp}
/-- one child of a list of trees, and what another in its place wants -/
theorem Owns.split : ∀ {vs : List V} {ts : List OT} {C : List Addr} {j : Nat} {t : OT} {w : V}, Owns K Hs H vs ts C → C.Nodup → ts[j]? = some t → vs[j]? = some w →
    t.isScr = false ∧ ∃ (B R : List Addr), Own K Hs H w t B ∧ B.Nodup ∧ (∀ a, a ∈ B → a ∈ C ∧ a ∉ R) ∧ (∀ a, a ∈ R → a ∈ C) ∧
      ∀ (Hs' H' : Hp) (t' : OT) (B' : List Addr), Same Hs Hs' → (∀ a, a ∈ R → ∀ o, H a = some o → H' a = some o) → t'.isScr = false → Own K Hs' H' w t' B' → B'.Nodup → (∀ b, b ∈ B' → b ∉ R) →
        ∃ C', Owns K Hs' H' vs (ts.set j t') C' ∧ C'.Nodup ∧ ∀ a, a ∈ C' → a ∈ B' ∨ a ∈ R
  | _, _, _, _, _, _, .nil, _, e, _ => by simp at e
  | _, _, _, 0, _, _, .cons (A := B) (B := C) ns h r, n, e, e2 => by
    cases e; cases e2
    have n' := List.nodup_append.mp n
    refine ⟨ns, B, C, h, n'.1, fun a ha => ⟨List.mem_append_left _ ha, fun z => n'.2.2 a ha a z rfl⟩, fun a ha => List.mem_append_right _ ha, fun Hs' H' t' B' s k ns' o nb dj => ?_⟩
    exact ⟨B' ++ C, .cons ns' o (r.mono s k), List.nodup_append.mpr ⟨nb, n'.2.1, fun a ha b hb e => dj a ha (e ▸ hb)⟩, fun a ha => List.mem_append.mp ha⟩
  | _, _, _, j + 1, _, _, .cons (A := B0) (B := C) ns0 h r, n, e, e2 => by
    have n' := List.nodup_append.mp n
    obtain ⟨ns, B, R, h1, h2, h3, h4, h5⟩ := Owns.split (j := j) r n'.2.1 e e2
    refine ⟨ns, B, B0 ++ R, h1, h2, fun a ha => ⟨List.mem_append_right _ (h3 a ha).1, fun z => ?_⟩, fun a ha => ?_, fun Hs' H' t' B' s k ns' o nb dj => ?_⟩
    · rcases List.mem_append.mp z with z | z
      · exact n'.2.2 a z a (h3 a ha).1 rfl
      · exact (h3 a ha).2 z
    · rcases List.mem_append.mp ha with z | z
      · exact List.mem_append_left _ z
      · exact List.mem_append_right _ (h4 a z)
    · obtain ⟨C', c1, c2, c3⟩ := h5 Hs' H' t' B' s (fun a ha => k a (List.mem_append_right _ ha)) ns' o nb fun b hb z => dj b hb (List.mem_append_right _ z)
      refine ⟨B0 ++ C', .cons ns0 (h.mono s fun a ha => k a (List.mem_append_left _ ha)) c1, List.nodup_append.mpr ⟨n'.1, c2, fun a ha b hb e => ?_⟩, fun a ha => ?_⟩
      · subst e
        rcases c3 a hb with z | z
        · exact dj a z (List.mem_append_left _ ha)
        · exact n'.2.2 a ha a (h4 a z) rfl
      · rcases List.mem_append.mp ha with z | z
        · exact .inr (List.mem_append_left _ z)
        · exact (c3 a z).imp id fun y => List.mem_append_right _ y
theorem modify_set {α : Type} (f : α → α) : ∀ {l : List α} {j : Nat} {t : α}, l[j]? = some t → l.modify j f = l.set j (f t)
  | [], _, _, h => by simp at h
  | a :: l, 0, t, h => by cases h; rfl
  | a :: l, j + 1, t, h => by
    rw [List.modify_succ_cons, List.set_cons_succ, modify_set f (l := l) (j := j) h]
/-- the list at a path, and what another in its place wants -/
theorem Own.upd : ∀ {js : List Nat} {v : V} {t : OT} {As : List Addr} {q : Addr} {ts : List OT}, Own K Hs H v t As → As.Nodup → Reach H v js (.ref q) → t.at js = some (.node ts) →
    t.isScr = false ∧ ∃ (vs : List V) (Bs : List Addr), H q = some (.lst vs) ∧ Owns K Hs H vs ts Bs ∧ (q :: Bs).Nodup ∧ (∀ a, a ∈ q :: Bs → a ∈ As) ∧
      ∀ (Hs' H' : Hp) (vs' : List V) (ts' : List OT) (Bs' : List Addr), Same Hs Hs' → (∀ a, a ∈ As → a ≠ q → a ∉ Bs → ∀ o, H a = some o → H' a = some o) → H' q = some (.lst vs') → Owns K Hs' H' vs' ts' Bs' → (q :: Bs').Nodup → (∀ b, b ∈ Bs' → b ∈ Bs ∨ b ∉ As) →
        ∃ As', Own K Hs' H' v (t.put js (.node ts')) As' ∧ As'.Nodup ∧ ∀ a, a ∈ As' → a ∈ As ∨ a ∈ Bs'
  | [], _, t, As, q, ts, o, n, h, e => by
    have h' : _ = V.ref q := h
    subst h'
    have e' : t = .node ts := Option.some.inj e
    subst e'
    cases o with
    | node hq r =>
      refine ⟨rfl, _, _, hq, r, n, fun a ha => ha, fun Hs' H' vs' ts' Bs' s k h1 h2 h3 h4 => ⟨q :: Bs', .node h1 h2, h3, fun a ha => ?_⟩⟩
      rcases List.mem_cons.mp ha with z | z
      · exact .inl (z ▸ List.mem_cons_self)
      · exact .inr z
  | j :: js, _, t, As, q, ts, o, n, ⟨p, xs, w, h1, h2, h3, h4⟩, e => by
    cases t with
    | leaf d => cases e
    | scr ns => cases e
    | exn a => cases e
    | dct w l => cases e
    | opq => cases e
    | node us =>
      cases o with
      | @node p' vs _ Cs hp r =>
        cases h1
        rw [hp] at h2
        cases h2
        have n' := List.nodup_cons.mp n
        have e1 : (us[j]?).bind (fun t => t.at js) = some (.node ts) := e
        cases e2 : us[j]? with
        | none => rw [e2] at e1; cases e1
        | some u =>
          rw [e2] at e1
          obtain ⟨ns, B, R, o1, b1, b2, b3, b4⟩ := r.split n'.2 e2 h3
          obtain ⟨_, vs', Bs, g1, g2, g3, g4, g5⟩ := Own.upd o1 b1 h4 e1
          have qp : p ≠ q := fun z => n'.1 (by rw [z]; exact (b2 q (g4 q List.mem_cons_self)).1)
          refine ⟨rfl, vs', Bs, g1, g2, g3, fun a ha => List.mem_cons_of_mem _ (b2 a (g4 a ha)).1, fun Hs' H' vs2 ts2 Bs2 s k k1 k2 k3 k4 => ?_⟩
          obtain ⟨A2, c1, c2, c3⟩ := g5 Hs' H' vs2 ts2 Bs2 s (fun a ha => k a (List.mem_cons_of_mem _ (b2 a ha).1)) k1 k2 k3 fun b hb => (k4 b hb).imp id fun z y => z (List.mem_cons_of_mem _ (b2 b y).1)
          have notR : ∀ b, b ∈ A2 → b ∉ R := fun b hb z => by
            rcases c3 b hb with y | y
            · exact (b2 b y).2 z
            · rcases k4 b y with y | y
              · exact (b2 b (g4 b (List.mem_cons_of_mem _ y))).2 z
              · exact y (List.mem_cons_of_mem _ (b3 b z))
          have nscr : (u.put js (.node ts2)).isScr = false := by
            cases js with
            | nil => rfl
            | cons _ _ => cases u <;> first | rfl | (cases ns)
          obtain ⟨C', d1, d2, d3⟩ := b4 Hs' H' _ A2 s (fun a ha => k a (List.mem_cons_of_mem _ (b3 a ha)) (fun z => (b2 q (g4 q List.mem_cons_self)).2 (z ▸ ha)) fun z => (b2 a (g4 a (List.mem_cons_of_mem _ z))).2 ha) nscr c1 c2 notR
          refine ⟨p :: C', ?_, List.nodup_cons.mpr ⟨fun z => ?_, d2⟩, fun a ha => ?_⟩
          · show Own K Hs' H' (.ref p) (.node (us.modify j fun t => t.put js (.node ts2))) (p :: C')
            rw [modify_set _ e2]
            exact .node (k p List.mem_cons_self qp (fun z => n'.1 (b2 p (g4 p (List.mem_cons_of_mem _ z))).1) _ hp) d1
          · rcases d3 p z with y | y
            · rcases c3 p y with y | y
              · exact n'.1 (b2 p y).1
              · rcases k4 p y with y | y
                · exact n'.1 (b2 p (g4 p (List.mem_cons_of_mem _ y))).1
                · exact y List.mem_cons_self
            · exact n'.1 (b3 p y)
          · rcases List.mem_cons.mp ha with z | z
            · exact .inl (z ▸ List.mem_cons_self)
            · rcases d3 a z with y | y
              · exact (c3 a y).imp (fun y => List.mem_cons_of_mem _ (b2 a y).1) id
              · exact .inl (List.mem_cons_of_mem _ (b3 a y))
/-- a slot's tree, and what another in its place wants -/
theorem EnvR.split : ∀ {σ : L2.St} {Γ : Ev} {A : List Addr} {i : Nat} {t : OT}, EnvR K Hs H σ Γ A → A.Nodup → Γ[i]? = some (some t) →
    ∃ (v : V) (B R : List Addr), σ[i]? = some (some v) ∧ Own K Hs H v t B ∧ B.Nodup ∧ (∀ a, a ∈ B → a ∈ A ∧ a ∉ R) ∧ (∀ a, a ∈ R → a ∈ A) ∧
      ∀ (Hs' H' : Hp) (t' : OT) (B' : List Addr), Same Hs Hs' → (∀ a, a ∈ R → ∀ o, H a = some o → H' a = some o) → Own K Hs' H' v t' B' → B'.Nodup → (∀ b, b ∈ B' → b ∉ R) →
        ∃ A', EnvR K Hs' H' σ (Γ.set i (some t')) A' ∧ A'.Nodup ∧ ∀ a, a ∈ A' → a ∈ B' ∨ a ∈ R
  | _, _, _, _, _, .nil, _, e => by simp at e
  | _, _, _, 0, _, .skip _, _, e => by cases e
  | _, _, _, i + 1, _, .skip r, n, e => by
    obtain ⟨v, B, R, h1, h2, h3, h4, h5, h6⟩ := EnvR.split (i := i) r n e
    refine ⟨v, B, R, h1, h2, h3, h4, h5, fun Hs' H' t' B' s k o nb dj => ?_⟩
    obtain ⟨A', c1, c2, c3⟩ := h6 Hs' H' t' B' s k o nb dj
    exact ⟨A', .skip c1, c2, c3⟩
  | _, _, _, 0, _, .cons (A := B) (B := C) h r, n, e => by
    cases e
    have n' := List.nodup_append.mp n
    refine ⟨_, B, C, rfl, h, n'.1, fun a ha => ⟨List.mem_append_left _ ha, fun z => n'.2.2 a ha a z rfl⟩, fun a ha => List.mem_append_right _ ha, fun Hs' H' t' B' s k o nb dj => ?_⟩
    exact ⟨B' ++ C, .cons o (r.mono s k), List.nodup_append.mpr ⟨nb, n'.2.1, fun a ha b hb e => dj a ha (e ▸ hb)⟩, fun a ha => List.mem_append.mp ha⟩
  | _, _, _, i + 1, _, .cons (A := B0) (B := C) h r, n, e => by
    have n' := List.nodup_append.mp n
    obtain ⟨v, B, R, h1, h2, h3, h4, h5, h6⟩ := EnvR.split (i := i) r n'.2.1 e
    refine ⟨v, B, B0 ++ R, h1, h2, h3, fun a ha => ⟨List.mem_append_right _ (h4 a ha).1, fun z => ?_⟩, fun a ha => ?_, fun Hs' H' t' B' s k o nb dj => ?_⟩
    · rcases List.mem_append.mp z with z | z
      · exact n'.2.2 a z a (h4 a ha).1 rfl
      · exact (h4 a ha).2 z
    · rcases List.mem_append.mp ha with z | z
      · exact List.mem_append_left _ z
      · exact List.mem_append_right _ (h5 a z)
    · obtain ⟨C', c1, c2, c3⟩ := h6 Hs' H' t' B' s (fun a ha => k a (List.mem_append_right _ ha)) o nb fun b hb z => dj b hb (List.mem_append_right _ z)
      refine ⟨B0 ++ C', .cons (h.mono s fun a ha => k a (List.mem_append_left _ ha)) c1, List.nodup_append.mpr ⟨n'.1, c2, fun a ha b hb e => ?_⟩, fun a ha => ?_⟩
      · subst e
        rcases c3 a hb with z | z
        · exact dj a z (List.mem_append_left _ ha)
        · exact n'.2.2 a ha a (h5 a z) rfl
      · rcases List.mem_append.mp ha with z | z
        · exact .inr (List.mem_append_left _ z)
        · exact (c3 a z).imp id fun y => List.mem_append_right _ y
end
mutual
theorem own_det {K : PySem.W.Frag} {Hs Hs2 H : Hp} : ∀ {v : V} {t : OT} {C C2 : List Addr}, Own K Hs H v t C → Own K Hs2 H v t C2 → C = C2
  | _, _, _, _, .leaf _, .leaf _ => rfl
  | _, _, _, _, .node h r, .node h2 r2 => by
    rw [h] at h2
    cases h2
    rw [owns_det r r2]
  | _, _, _, _, .scr _, .scr _ => rfl
  | _, _, _, _, .exn, .exn => rfl
  | _, _, _, _, .dct _ _ _ _, .dct _ _ _ _ => rfl
  | _, _, _, _, .opq, .opq => rfl
theorem owns_det {K : PySem.W.Frag} {Hs Hs2 H : Hp} : ∀ {vs : List V} {ts : List OT} {C C2 : List Addr}, Owns K Hs H vs ts C → Owns K Hs2 H vs ts C2 → C = C2
  | _, _, _, _, .nil, .nil => rfl
  | _, _, _, _, .cons _ h r, .cons _ h2 r2 => by rw [own_det h h2, owns_det r r2]
end
section
variable {K : PySem.W.Frag} {W : WX} {fx : List Nat} {φ : FrF} {A A' Z Y : List Addr} {σ σ' : L2.St} {H H' H1 H2 : Hp} {Γ Γ' : Ev} {v : V} {t : OT} {i : Nat}
/-- the owned list at a path of slot i is changed; Ns: new places that may come in, owned by what is put there -/
theorem Rel.change {js : List Nat} {root : V} {q : Addr} {ts : List OT} {Ns : List Addr} (r : Rel K fx φ A σ H Γ) (ev : EnvR K (hid (Ns ++ (A ++ φ.Z)) H) H σ Γ A) (n1 : ∀ a, a ∈ Ns → (a ∈ φ.A0 ∨ φ.H0 a = none) ∧ a ∉ A ++ φ.Z)
    (e : Γ[i]? = some (some t)) (h : t.at js = some (.node ts)) (hr : σ[i]? = some (some root)) (hq : Reach H root js (.ref q)) :
    ∃ (vs : List V) (Bs : List Addr), H q = some (.lst vs) ∧ q ∈ A ∧ Owns K (hid (Ns ++ (A ++ φ.Z)) H) H vs ts Bs ∧ (q :: Bs).Nodup ∧ (∀ a, a ∈ q :: Bs → a ∈ A) ∧
      ∀ (vs' : List V) (ts' : List OT) (Bs' : List Addr), (∀ b, b ∈ Bs' → b ∈ Bs ∨ b ∈ Ns) → (q :: Bs').Nodup →
        Owns K (hid (Ns ++ (A ++ φ.Z)) H) (upd H q (.lst vs')) vs' ts' Bs' → ∃ A', Rel K fx φ A' σ (upd H q (.lst vs')) (Γ.set i (some (t.put js (.node ts')))) ∧ ∀ a, a ∈ A' → a ∈ A ∨ a ∈ Ns := by
  obtain ⟨v2, B2, R2, h1, h2, h3, h4, h5, h6⟩ := ev.split r.nd e
  rw [hr] at h1; cases h1
  obtain ⟨_, vs, Bs, g1, g2, g3, g4, g5⟩ := h2.upd h3 hq h
  have qA : q ∈ A := (h4 q (g4 q List.mem_cons_self)).1
  refine ⟨vs, Bs, g1, qA, g2, g3, fun a ha => (h4 a (g4 a ha)).1, fun vs' ts' Bs' n2 n3 o => ?_⟩
  -- what is hidden does not see the change
  have hs : hid (Ns ++ (A ++ φ.Z)) (upd H q (.lst vs')) = hid (Ns ++ (A ++ φ.Z)) H := by
    funext b
    by_cases hb : b ∈ Ns ++ (A ++ φ.Z)
    · rw [hid_in hb, hid_in hb]
    · rw [hid_out hb, hid_out hb, upd_ne]
      intro z
      exact hb (List.mem_append_right _ (List.mem_append_left _ (z ▸ qA)))
  have other : ∀ a, a ≠ q → ∀ o, H a = some o → upd H q (.lst vs') a = some o := fun a n o z => by rw [upd_ne n]; exact z
  obtain ⟨B3, c1, c2, c3⟩ := g5 (hid (Ns ++ (A ++ φ.Z)) H) (upd H q (.lst vs')) vs' ts' Bs' (Same.refl _) (fun a _ n _ => other a n) upd_same o n3 fun b hb => (n2 b hb).imp id fun z y => (n1 b z).2 (List.mem_append_left _ (h4 b y).1)
  have nR : ∀ b, b ∈ B3 → b ∉ R2 := fun b hb z => by
    rcases c3 b hb with y | y
    · exact (h4 b y).2 z
    · rcases n2 b y with y | y
      · exact (h4 b (g4 b (List.mem_cons_of_mem _ y))).2 z
      · exact (n1 b y).2 (List.mem_append_left _ (h5 b z))
  obtain ⟨A', d1, d2, d3⟩ := h6 (hid (Ns ++ (A ++ φ.Z)) H) (upd H q (.lst vs')) _ B3 (Same.refl _) (fun a ha => other a fun z => (h4 q (g4 q List.mem_cons_self)).2 (z ▸ ha)) c1 c2 nR
  have sub : ∀ a, a ∈ A' → a ∈ A ∨ a ∈ Ns := fun a ha => by
    rcases d3 a ha with z | z
    · rcases c3 a z with y | y
      · exact .inl (h4 a y).1
      · rcases n2 a y with y | y
        · exact .inl (h4 a (g4 a (List.mem_cons_of_mem _ y))).1
        · exact .inr y
    · exact .inl (h5 a z)
  refine ⟨A', ⟨?_, d2, fun a ha hz => ?_, fun b ob e1 nb => ?_, fun a ha => ?_, r.zs, fun a ha => ?_, r.fix⟩, sub⟩
  · rw [← hs] at d1
    refine d1.mono (hid_sub fun a ha => ?_) fun a _ o z => z
    rcases List.mem_append.mp ha with z | z
    · rcases sub a z with y | y
      · exact List.mem_append_right _ (List.mem_append_left _ y)
      · exact List.mem_append_left _ y
    · exact List.mem_append_right _ (List.mem_append_right _ z)
  · rcases sub a ha with y | y
    · exact r.az a y hz
    · exact (n1 a y).2 (List.mem_append_right _ hz)
  · refine other b (fun z => ?_) ob (r.keep b ob e1 nb)
    subst z
    rcases r.own b qA with y | y
    · exact nb y
    · rw [e1] at y; cases y
  · rcases sub a ha with y | y
    · exact r.own a y
    · exact (n1 a y).1
  · obtain ⟨xs, z⟩ := r.a0 a ha
    by_cases ea : a = q
    · subst ea; exact ⟨.lst vs', upd_same⟩
    · exact ⟨xs, other a ea _ z⟩
theorem Owns.child {Hs : Hp} : ∀ {vs : List V} {us : List OT} {C : List Addr} {j : Nat} {u : OT} {w : V}, Owns K Hs H vs us C → us[j]? = some u → vs[j]? = some w → ∃ B, Own K Hs H w u B
  | _, _, _, _, _, _, .nil, h, _ => by simp at h
  | _, _, _, 0, _, _, .cons _ h _, e, e2 => by cases e; cases e2; exact ⟨_, h⟩
  | _, _, _, j + 1, _, _, .cons _ _ r, e, e2 => Owns.child (j := j) r e e2
theorem Own.reach_ref {Hs : Hp} : ∀ {js : List Nat} {r v : V} {t : OT} {As : List Addr} {ts : List OT}, Own K Hs H r t As → Reach H r js v → t.at js = some (.node ts) → ∃ q, v = .ref q
  | [], _, _, t, _, ts, o, h, e => by
    have h' : _ = _ := h
    have e' : t = .node ts := Option.some.inj e
    subst e'
    cases o with
    | node _ _ => exact ⟨_, h'.symm⟩
  | j :: js, _, _, t, _, ts, o, ⟨p, xs, w, h1, h2, h3, h4⟩, e => by
    cases t with
    | leaf d => cases e
    | scr ns => cases e
    | exn a => cases e
    | dct w l => cases e
    | opq => cases e
    | node us =>
      cases o with
      | node hp r =>
        cases h1
        rw [hp] at h2
        cases h2
        have e1 : (us[j]?).bind (fun t => t.at js) = some (.node ts) := e
        cases e2 : us[j]? with
        | none => rw [e2] at e1; cases e1
        | some u =>
          rw [e2] at e1
          obtain ⟨B, o2⟩ := r.child e2 h3
          exact Own.reach_ref o2 h4 e1
theorem Rel.reach {js : List Nat} {root v : V} {ts : List OT} (r : Rel K fx φ A σ H Γ) (e : Γ[i]? = some (some t)) (h : t.at js = some (.node ts)) (hr : σ[i]? = some (some root)) (hq : Reach H root js v) : ∃ q, v = .ref q := by
  obtain ⟨w, B, h1, o, _⟩ := r.env.get e
  rw [hr] at h1; cases h1
  exact o.reach_ref hq h
end
abbrev TDR := Ev → (List Nat → Prop) → (Value → Prop) → Prop
def liftR (K : PySem.W.Frag) (W : WX) (fx : List Nat) (i : Nat) (t : TDR) : TE := fun σ H Q => ∃ φ A Γ Qd Ed, Rel K fx φ A σ H Γ ∧ t Γ Qd Ed ∧ (∀ js v H', Same H H' → (∃ root, σ[i]? = some (some root) ∧ Reach H' root js v) → Qd js → Q v H') ∧ (∀ c H', Same H H' → Ed c → W c none σ H')
abbrev DR (X : Cx) (W : WX) (fx : List Nat) (i : Nat) (e : Expr) (t : TDR) : Prop := PE X e (liftR X.K W fx i t)
/-- the owned list at a path -/
def lstAt (i : Nat) (js : List Nat) (Γ : Ev) (Q : OT → List OT → Prop) : Prop := ∃ tree ts, Γ[i]? = some (some tree) ∧ tree.at js = some (.node ts) ∧ Q tree ts
section
variable {X : Cx} {W : WX} {fx : List Nat} {e a b : Expr} {t u : TD} {tr : TDR} {pos p apos : Pos} {i k : Nat}
@[simp] def tR0 (i : Nat) : TDR := fun Γ Q _ => (∃ t, Γ[i]? = some (some t)) ∧ Q []
theorem dr_name (i : Nat) {x : Str} (hN : X.N[i]? = some x := by rfl) (hv : Vis X.env.scope x := by first | exact Or.inl rfl | exact Or.inr (Or.inl rfl) | exact Or.inr (Or.inr rfl)) (hd : (x == ("__debug__" : Str)) = false := by decide)
    (hcd : (x == ("__classdict__" : Str)) = false := by decide) : DR X W fx i (.Name x pos) (tR0 i) := by
  refine PE.imp (pe_var hN hv hd hcd) fun σ H Q ⟨φ, A, Γ, Qd, Ed, rel, ⟨⟨t, e1⟩, q⟩, k, ke⟩ => ?_
  obtain ⟨v, B, e2, _⟩ := rel.env.get e1
  exact ⟨v, e2, k [] v H (Same.refl _) ⟨v, e2, rfl⟩ q⟩
@[simp] def tRx (i : Nat) (tr : TDR) (t : TD) : TDR := fun Γ Q E => tr Γ (fun js => t Γ (fun r => ∃ k, r.er = .int k ∧ lstAt i js Γ fun _ ts => ∃ j, ixN ts.length k = some j ∧ Q (js ++ [j])) E) E
theorem dr_ix (ha : DR X W fx i a tr) (hb : DE X W fx b t) (hs : PlainIx b := by exact fun _ _ => rfl) : DR X W fx i (.Subscript a b pos) (tRx i tr t) := by
  refine PE.imp (pe_ix ix_list ha hb hs) fun σ H Q ⟨φ, A, Γ, Qd, Ed, rel, q, k, ke⟩ => ?_
  refine ⟨φ, A, Γ, _, Ed, rel, q, fun js v H1 s1 ⟨root, hr, re⟩ q1 => ?_, ke⟩
  refine ⟨φ, A, Γ, _, Ed, rel.mono s1, q1, fun r w H2 s2 r2 ⟨kk, ek, tree, ts, e1, e2, j, ej, q2⟩ => ?_, fun c H' s' q' => ke c H' (s1.trans s') q'⟩
  have rel2 := (rel.mono s1).mono s2
  have re2 := re.mono s2
  obtain ⟨q', rfl⟩ := rel2.reach e1 e2 hr re2
  have ew := (r2.cv (rel.mono s1).dom).int ek
  subst ew
  obtain ⟨vs, Bs, g1, g2, g3, _⟩ := rel2.change (Ns := []) rel2.env (fun _ h => by simp at h) e1 e2 hr re2
  have hl := g3.length
  have hj := (ixN_seq ej).2.1
  have hj' : j < vs.length := by rw [hl]; exact hj
  refine ⟨q', vs, kk, vs[j], rfl, rfl, .inl (.inl g1), ?_, k _ _ H2 (s1.trans s2) ⟨root, hr, re2.snoc g1 (List.getElem?_eq_getElem hj')⟩ q2⟩
  unfold L2.atI
  rw [hl, ej]
  exact List.getElem?_eq_getElem hj'
/-- xs.append(e) -/
@[simp] def tApp (i : Nat) (tr : TDR) (t : TD) : TDS := fun D Γ => tr Γ (fun js => lstAt i js Γ fun tree ts => ts.length < sizeLine ∧ t Γ (fun r => r.isScr = false ∧ D.nx (Γ.set i (some (tree.put js (.node (ts ++ [r])))))) fun c => D.ex c Γ) fun c => D.ex c Γ
theorem ds_app {epos : Pos} (ha : DR X W fx i a tr) (he : DE X W fx e t) (hs : starEach [e] X.env = (false, eval e X.env) :: starEach [] X.env := by rfl) (hbase : attributeBase a "append" X.env (eval a X.env) = eval a X.env := by rfl)
    (hfew : ((backTo pos (starEach (e :: []) X.env)).all (fun x => !x.1) && (backToKw pos (keywordEach [] X.env)).all (fun x => x.1.isSome)
      && decide ((e :: []).length + ([] : List Keyword).length + (if ([] : List Keyword).isEmpty then 0 else 1) < 30)) = true := by rfl)
    (hline : (apos.endLine == pos.line) = true := by rfl) (hplain : (backTo pos (starEach [] X.env)).any (·.1) = false := by rfl) (hsw : swapsWith (.Call (.Attribute a "append" apos) [e] [] pos) none epos.line X.env = pure false := by rfl) :
    DS X W fx (.Expr (.Call (.Attribute a "append" apos) [e] [] pos) epos) (tApp i tr t) := PS.imp (ps_expr (pe_bm PySem.F.plainAttrs_list PySem.F.slot_list_append PySem.F.type_list_append mt_append ha (pa_cons he pa_nil hs) hbase hfew hline hs hplain) hsw) fun D σ H ⟨φ, A, Γ, Dd, rel, q, er⟩ => by
  refine ⟨φ, A, Γ, _, _, rel, q, fun js v H1 s1 ⟨root, hr, re⟩ ⟨tree, ts, e1, e2, hz, q1⟩ => ?_, fun c H' s' q' => er.ex c σ H' A Γ (rel.mono s') q'⟩
  have rel1 := rel.mono s1
  obtain ⟨q', rfl⟩ := rel1.reach e1 e2 hr re
  obtain ⟨vs, Bs, g1, g2, _⟩ := rel1.change (Ns := []) rel1.env (fun _ h => by simp at h) e1 e2 hr re
  refine ⟨Or.inl ⟨rfl, _, Or.inl (Or.inl g1)⟩, φ, A, Γ, _, _, rel1, q1, fun r y H2 s2 ⟨As, n, f, o⟩ ⟨ns, q2⟩ => ?_, fun c H' s' q' => er.ex c σ H' A Γ (rel1.mono s') q'⟩
  have rel2 := rel1.mono s2
  have nd : ∀ a, a ∈ As → a ∉ A ++ φ.Z := fun a ha z => by
    obtain ⟨xs, w⟩ := rel1.dom a z
    rw [f a ha] at w; cases w
  obtain ⟨vs2, Bs2, c1, c2, c3, c4, c5, c6⟩ := rel2.change (Ns := As) (rel1.env.mono (hid_new s2 fun a ha => (List.mem_append.mp ha).elim (fun z => .inr (f a z)) .inl) fun a _ o z => s2 a o z) (fun a ha => ⟨.inr (rel1.fresh (f a ha)), nd a ha⟩) e1 e2 hr (re.mono s2)
  rw [s2 _ _ g1] at c1; cases c1
  have qs : q' ∉ As := fun z => nd q' z (List.mem_append_left _ c2)
  obtain ⟨A', r', _⟩ := c6 (vs ++ [y]) (ts ++ [r]) (Bs2 ++ (As ++ [])) (fun b hb => by simpa using hb) (by
    have c4' := List.nodup_cons.mp c4
    refine List.nodup_cons.mpr ⟨fun z => ?_, List.nodup_append.mpr ⟨c4'.2, by simpa using n, fun a ha b hb eab => ?_⟩⟩
    · rcases List.mem_append.mp z with z | z
      · exact c4'.1 z
      · exact qs (by simpa using z)
    · subst eab
      exact nd a (by simpa using hb) (List.mem_append_left _ (c5 a (List.mem_cons_of_mem _ ha)))) (by
    refine (c3.mono (Same.refl _) fun a ha ob z => ?_).append (.cons ns (o.mono (Same.refl _) fun a ha ob z => ?_) .nil)
    · rw [upd_ne fun y : a = q' => (List.nodup_cons.mp c4).1 (y ▸ ha)]; exact z
    · rw [upd_ne fun y : a = q' => qs (y ▸ ha)]; exact z)
  refine ⟨q', vs, y, rfl, rfl, s2 _ _ g1, by rw [c3.length]; exact hz, er.nx _ _ A' _ r' q2⟩
end
end FW

set_option Elab.async false
set_option linter.all false
set_option maxRecDepth 100000
set_option maxHeartbeats 4000000
namespace FW
open PySem PySem.Spec PyProof.Rows L2
abbrev W0 : WX := fun _ _ _ _ => False
/-- a slot that owns nothing -/
def free1 (i : Nat) (Γ : Ev) : Prop := ∃ o, Γ[i]? = some o ∧ (∀ l, o ≠ some (.node l)) ∧ ∀ w l, o ≠ some (.dct w l)
section
variable {K : PySem.W.Frag} {W : WX} {fx : List Nat} {φ : FrF} {A A' Z Y : List Addr} {σ σ' : L2.St} {Hs H H' H1 H2 : Hp} {Γ Γ' : Ev} {v : V} {t : OT} {i : Nat}
theorem EnvR.wipe : ∀ {σ : L2.St} {Γ : Ev} {A : List Addr} {i : Nat}, EnvR K Hs H σ Γ A → free1 i Γ → EnvR K Hs H (σ.set i none) (Γ.set i none) A
  | _, _, _, _, .nil, ⟨_, e, _⟩ => by simp at e
  | _, _, _, 0, .skip r, _ => .skip r
  | _, _, _, i + 1, .skip r, f => .skip (EnvR.wipe (i := i) r f)
  | _, _, _, 0, .cons (t := t) h r, ⟨o, e, n⟩ => by
    cases e
    cases h with
    | leaf d => exact .skip r
    | node _ _ => exact absurd rfl (n.1 _)
    | dct _ _ _ _ => exact absurd rfl (n.2 _ _)
    | opq => exact .skip r
    | scr h => exact .skip r
    | exn => exact .skip r
  | _, _, _, i + 1, .cons h r, f => .cons h (EnvR.wipe (i := i) r f)
theorem Rel.wipe (r : Rel K fx φ A σ H Γ) (f : free1 i Γ) (hf : i ∉ fx) : Rel K fx φ A (σ.set i none) H (Γ.set i none) :=
  ⟨r.env.wipe f, r.nd, r.az, r.keep, r.own, r.zs, r.a0, fun j hj => by rw [List.getElem?_set_ne (fun e : i = j => hf (e.symm ▸ hj))]; exact r.fix j hj⟩
/-- a slot that owns nothing takes a thing of data: the owned places are the same -/
theorem EnvR.setLeaf : ∀ {σ : L2.St} {Γ : Ev} {A : List Addr} {i : Nat} {d : PyData}, EnvR K Hs H σ Γ A → Γ[i]? = some none → DD K Hs v d → EnvR K Hs H (σ.set i (some v)) (Γ.set i (some (.leaf d))) A
  | _, _, _, _, _, .nil, e, _ => by simp at e
  | _, _, _, 0, _, .skip r, _, h => .cons (A := []) (.leaf h) r
  | _, _, _, i + 1, _, .skip r, f, h => .skip (EnvR.setLeaf (i := i) r f h)
  | _, _, _, 0, _, .cons _ _, e, _ => by cases e
  | _, _, _, i + 1, _, .cons h r, f, h2 => .cons h (EnvR.setLeaf (i := i) r f h2)
end
structure PTsW (X : Cx) (W : WX) (fx : List Nat) (ifs : List Expr) (t : TDT) : Prop where
  h : PTs X ifs (liftT X.K W fx t)
abbrev DTs (X : Cx) (W : WX) (fx : List Nat) (ifs : List Expr) (t : TDT) : Prop := PTs X ifs (liftT X.K W fx t)
theorem PTs.imp {X : Cx} {e : List Expr} {t t' : TT} (p : PTs X e t) (h : ∀ σ H Q, t' σ H Q → t σ H Q) : PTs X e t' := ⟨fun pins s σ H Q I q => p.run pins s σ H Q I (h σ H Q q)⟩
@[simp] def tYesD : TDT := fun _ Q _ => Q true
/-- [elt for slot i in items if test] -/
def compInv (ds : List PyData) (i : Nat) (tt : TDT) (te : TD) (Γ : Ev) (Q : OT → Prop) : Prop :=
  free1 i Γ ∧ ∃ Iv : Nat → List OT → Prop, Iv 0 [] ∧ (∀ n d acc, ds[n]? = some d → Iv n acc → tt (Γ.set i (some (.leaf d))) (fun b => if b = true then te (Γ.set i (some (.leaf d))) (fun r => r.isScr = false ∧ acc.length < sizeLine ∧ Iv (n + 1) (acc ++ [r])) (fun _ => False) else Iv (n + 1) acc) fun _ => False) ∧
    ∀ acc, Iv ds.length acc → Q (.node acc)
section
variable {X : Cx} {W : WX} {fx : List Nat} {e a b : Expr} {t u : TD} {tr : TDR} {pos p apos : Pos} {i k : Nat}
theorem dts_nil : DTs X W fx [] tYesD := PTs.imp pts_nil fun σ H Q ⟨φ, A, Γ, Qd, Ed, rel, q, k, ke⟩ => k true H (Same.refl _) q
theorem dts_one {c : Expr} {tt : TDT} (h : DT X W fx c tt) : DTs X W fx [c] tt := pts_one h
theorem lc_coreD {J : It} {K : PySem.W.Frag} {φ : FrF} {A : List Addr} {σ : L2.St} {H1 : Hp} {Γ : Ev} {ds : List PyData} {tt : TDT} {te : TD} {Qd : OT → Prop} {Q : VK} {D : Addr} (rel : Rel K fx φ A σ H1 Γ) (hf : i ∉ fx) (k : Kt K A φ.Z H1 Qd Q) (q : compInv ds i tt te Γ Qd) (nD : H1 D = none)
    (hgo : ∀ n H', Same H1 H' → n < ds.length → J.go n H' ∧ ∀ x H2, J.yld n H' x H2 → H2 = H' ∧ ∃ d, ds[n]? = some d ∧ DD K (hid (A ++ φ.Z) H1) x d) (hst : ∀ H', Same H1 H' → J.stop ds.length H') :
    ∃ Wv : Nat → Nat → Hp → Prop, (∃ m, Wv 0 m (upd H1 D (.lst []))) ∧ ∀ n m H, Wv n m H →
      (J.stop n H ∧ Q (.ref D) H) ∨ (J.go n H ∧ ∃ Nx : Hp → Prop, (∀ H', Nx H' → ∃ m', m' < m ∧ Wv (n + 1) m' H') ∧ ∀ x H', J.yld n H x H' → gName i x (wipe σ [i]) H' fun σ2 H2 => wipe σ2 [i] = wipe σ [i] ∧ liftT K W0 fx tt σ2 H2 fun b H3 =>
        if b = true then lift K W0 fx te σ2 H3 fun y H4 => ∃ acc, H4 D = some (.lst acc) ∧ acc.length < sizeLine ∧ Nx (upd H4 D (.lst (acc ++ [y]))) else Nx H3) := by
  obtain ⟨fr, Iv, i0, turn, fin⟩ := q
  have St : ∀ n (H : Hp), (n ≤ ds.length ∧ Same H1 H ∧ ∃ acc vs As, Iv n acc ∧ H D = some (.lst vs) ∧ (D :: As).Nodup ∧ (∀ a, a ∈ As → H1 a = none) ∧ Owns K (hid ((D :: As) ++ (A ++ φ.Z)) H) H vs acc As) = (n ≤ ds.length ∧ Same H1 H ∧ ∃ acc vs As, Iv n acc ∧ H D = some (.lst vs) ∧ (D :: As).Nodup ∧ (∀ a, a ∈ As → H1 a = none) ∧ Owns K (hid ((D :: As) ++ (A ++ φ.Z)) H) H vs acc As) := fun _ _ => rfl
  refine ⟨fun n m H => m = ds.length - n ∧ (n ≤ ds.length ∧ Same H1 H ∧ ∃ acc vs As, Iv n acc ∧ H D = some (.lst vs) ∧ (D :: As).Nodup ∧ (∀ a, a ∈ As → H1 a = none) ∧ Owns K (hid ((D :: As) ++ (A ++ φ.Z)) H) H vs acc As), ⟨ds.length, by simp, Nat.zero_le _, same_upd nD, [], [], [], i0, upd_same, by simp, fun a h => by simp at h, .nil⟩, ?_⟩
  rintro n m H ⟨rfl, hn, sm, acc, vs, As, iv, hD, nd, fa, ow⟩
  have wp : wipe σ [i] = σ.set i none := rfl
  by_cases hlt : n < ds.length
  · obtain ⟨go, yl⟩ := hgo n H sm hlt
    refine .inr ⟨go, fun H' => n + 1 ≤ ds.length ∧ Same H1 H' ∧ ∃ acc vs As, Iv (n + 1) acc ∧ H' D = some (.lst vs) ∧ (D :: As).Nodup ∧ (∀ a, a ∈ As → H1 a = none) ∧ Owns K (hid ((D :: As) ++ (A ++ φ.Z)) H') H' vs acc As, fun H' h => ⟨ds.length - (n + 1), by omega, rfl, h⟩, fun x H2 y => ?_⟩
    obtain ⟨rfl, d, ed, dd⟩ := yl x H2 y
    have fy : ∀ a, a ∈ D :: As → H1 a = none ∧ ∃ xs : LxO, H2 a = some xs.ho := fun a ha => by
      rcases List.mem_cons.mp ha with z | z
      · subst z; exact ⟨nD, .lst _, hD⟩
      · exact ⟨fa a z, ow.there a z⟩
    have r1 := rel.rebase sm (D :: As) fy
    have r2 := r1.wipe fr hf
    obtain ⟨o, eo, _⟩ := fr
    have hi : i < Γ.length := (List.getElem?_eq_some_iff.mp eo).1
    have e0 : (Γ.set i none)[i]? = some none := List.getElem?_set_self hi
    have dd2 : DD K (hid (A ++ ((D :: As) ++ φ.Z)) H2) x d := dd.mono (hid_new sm fun a ha => by
      rcases List.mem_append.mp ha with z | z
      · exact .inl (List.mem_append_left _ z)
      · rcases List.mem_append.mp z with z | z
        · exact .inr (fy a z).1
        · exact .inl (List.mem_append_right _ z))
    have r3 : Rel K fx ⟨(D :: As) ++ φ.Z, H2, A, φ.s0⟩ A ((σ.set i none).set i (some x)) H2 (Γ.set i (some (.leaf d))) := by
      have z := r2.env.setLeaf e0 dd2
      rw [show (Γ.set i none).set i (some (OT.leaf d)) = Γ.set i (some (OT.leaf d)) from List.set_set ..] at z
      exact ⟨z, r2.nd, r2.az, r2.keep, r2.own, r2.zs, r2.a0, fun j hj => by rw [List.getElem?_set_ne (fun e : i = j => hf (e.symm ▸ hj))]; exact r2.fix j hj⟩
    refine ⟨by rw [wp]; show ((σ.set i none).set i (some x)).set i none = σ.set i none; rw [List.set_set, List.set_set], _, A, _, _, _, r3, turn n d acc ed iv, fun b H3 s3 q3 => ?_, fun c H' _ z => z.elim⟩
    cases b with
    | false => exact ⟨hlt, sm.trans s3, acc, vs, As, q3, s3 _ _ hD, nd, fa, ow.same (hid_mono s3) s3⟩
    | true =>
      refine ⟨_, A, _, _, _, r3.mono s3, q3, fun r y H4 s4 ⟨Bs, nb, fb, ob⟩ ⟨ns, hz, iv'⟩ => ?_, fun c H' _ z => z.elim⟩
      have s34 := s3.trans s4
      have hD4 := s34 _ _ hD
      have ow4 : Owns K (hid ((D :: As) ++ (A ++ φ.Z)) H4) H4 vs acc As := ow.same (hid_mono s34) s34
      refine ⟨vs, hD4, by rw [ow.length]; exact hz, hlt, ?_, acc ++ [r], vs ++ [y], As ++ (Bs ++ []), iv', upd_same, ?_, fun a ha => ?_, ?_⟩
      · intro b o e
        rw [upd_ne (ne_of_none e nD)]
        exact s34 _ _ (sm _ _ e)
      · have nd' := List.nodup_cons.mp nd
        have dB : ∀ a, a ∈ Bs → H2 a = none := fun a ha => s3.free (fb a ha)
        refine List.nodup_cons.mpr ⟨fun z => ?_, List.nodup_append.mpr ⟨nd'.2, by simpa using nb, fun a ha b hb eab => ?_⟩⟩
        · rcases List.mem_append.mp z with z | z
          · exact nd'.1 z
          · have := dB D (by simpa using z)
            rw [hD] at this; cases this
        · subst eab
          obtain ⟨xs, w⟩ := ow.there a ha
          rw [dB a (by simpa using hb)] at w; cases w
      · rcases List.mem_append.mp ha with z | z
        · exact fa a z
        · exact sm.free (s3.free (fb a (by simpa using z)))
      · have other : ∀ a, a ≠ D → ∀ o, H4 a = some o → upd H4 D (.lst (vs ++ [y])) a = some o := fun a n o z => by rw [upd_ne n]; exact z
        have hs : Same (hid ((D :: (As ++ (Bs ++ []))) ++ (A ++ φ.Z)) H4) (hid ((D :: (As ++ (Bs ++ []))) ++ (A ++ φ.Z)) (upd H4 D (.lst (vs ++ [y])))) := fun b o e => by
          obtain ⟨n, e⟩ := hid_some e
          rw [hid_out n]
          exact other b (fun z => n (by rw [z]; simp)) o e
        have nDA : ∀ a, a ∈ As → a ≠ D := fun a ha z => (List.nodup_cons.mp nd).1 (z ▸ ha)
        have nDB : ∀ a, a ∈ Bs → a ≠ D := fun a ha z => by
          have := s3.free (fb a ha)
          rw [z, hD] at this; cases this
        refine (Owns.mono (Hs := hid ((D :: (As ++ (Bs ++ []))) ++ (A ++ φ.Z)) H4) hs (ow.same (hid_new s34 fun a ha => ?_) s34) fun a ha o z => other a (nDA a ha) o z).append (.cons ns (Own.mono hs (ob.same (hid_sub fun a ha => ?_) (Same.refl _)) fun a ha o z => other a (nDB a ha) o z) .nil)
        · simp only [List.cons_append, List.mem_cons, List.mem_append, List.append_nil] at ha ⊢
          rcases ha with z | (z | z) | z
          · exact .inl (.inl z)
          · exact .inl (.inr (.inl z))
          · exact .inr (s3.free (fb a z))
          · exact .inl (.inr (.inr z))
        · simp only [List.cons_append, List.mem_cons, List.mem_append, List.append_nil] at ha ⊢
          grind
  · have e : n = ds.length := by omega
    subst e
    refine .inl ⟨hst H sm, k _ _ H sm ⟨D :: As, nd, fun a ha => ?_, .node hD ow⟩ (fin acc iv)⟩
    rcases List.mem_cons.mp ha with z | z
    · subst z; exact nD
    · exact fa a z
end
end FW

set_option Elab.async false
set_option linter.all false
set_option maxRecDepth 100000
set_option maxHeartbeats 4000000
namespace FW
open PySem PySem.Spec PyProof.Rows L2
@[simp] def tLcD (src : OT → Option (List PyData)) (i : Nat) (tt : TDT) (te : TD) (t : TD) : TD := fun Γ Q E => t Γ (fun x => ∃ ds, src x = some ds ∧ compInv ds i tt te Γ Q) E
section
variable {X : Cx} {W : WX} {fx : List Nat} {e a b elt tg : Expr} {ifs : List Expr} {t u te : TD} {tt : TDT} {pos p spos py : Pos} {i k y : Nat} {scope : Scope} {x yn : Str}
theorem lcL_imp {K : PySem.W.Frag} {σ : L2.St} {H : Hp} {Q : VK} (hf : i ∉ fx) (h : lift K W fx (tLcD srcL i tt te t) σ H Q) : tLc (iList K (lift K W fx t)) (gName i) (liftT K W0 fx tt) (lift K W0 fx te) [i] σ H Q := by
  obtain ⟨φ, A, Γ, Qd, Ed, rel, q, k, ke⟩ := h
  refine ⟨φ, A, Γ, _, _, rel, q, fun x v H1 s1 r1 ⟨ds, es, q1⟩ => ?_, ke⟩
  obtain ⟨a, xs, rfl, h, t'⟩ := (r1.cv rel.dom).list (srcL_er es)
  refine ⟨a, rfl, ⟨xs, hid_same.seq h⟩, fun D nD => lc_coreD (rel.mono s1) hf (fun y v H' s' r' qy => k y v H' (s1.trans s') (r'.back s1) qy) q1 nD (fun n H' s' hn => ?_) fun H' s' => ⟨xs, s'.seq (hid_same.seq h), Nat.le_of_eq t'.length⟩⟩
  have hx : n < xs.length := by rw [t'.length]; exact hn
  refine ⟨⟨xs, xs[n], s'.seq (hid_same.seq h), List.getElem?_eq_getElem hx⟩, fun x H2 y => ⟨y.1, ?_⟩⟩
  exact t'.at (y.2 xs (s'.seq (hid_same.seq h)))
theorem lcT_imp {K : PySem.W.Frag} {σ : L2.St} {H : Hp} {Q : VK} (hf : i ∉ fx) (h : lift K W fx (tLcD srcT i tt te t) σ H Q) : tLc (iTup K (lift K W fx t)) (gName i) (liftT K W0 fx tt) (lift K W0 fx te) [i] σ H Q := by
  obtain ⟨φ, A, Γ, Qd, Ed, rel, q, k, ke⟩ := h
  refine ⟨φ, A, Γ, _, _, rel, q, fun x v H1 s1 r1 ⟨ds, es, q1⟩ => ?_, ke⟩
  obtain ⟨a, xs, rfl, h, t'⟩ := (r1.cv rel.dom).tup (srcT_er es)
  have h1 := sqT_mono (hid_same (Z := A ++ φ.Z) (H := H1)) h
  refine ⟨a, rfl, ⟨xs, h1⟩, fun D nD => lc_coreD (rel.mono s1) hf (fun y v H' s' r' qy => k y v H' (s1.trans s') (r'.back s1) qy) q1 nD (fun n H' s' hn => ?_) fun H' s' => ⟨xs, sqT_mono s' h1, Nat.le_of_eq t'.length⟩⟩
  have hx : n < xs.length := by rw [t'.length]; exact hn
  refine ⟨⟨xs, xs[n], sqT_mono s' h1, List.getElem?_eq_getElem hx⟩, fun x H2 y => ⟨y.1, ?_⟩⟩
  exact t'.at (y.2 xs (sqT_mono s' h1))
theorem lcS_imp {K : PySem.W.Frag} {σ : L2.St} {H : Hp} {Q : VK} (hf : i ∉ fx) (h : lift K W fx (tLcD srcS i tt te t) σ H Q) : tLc (iStr (lift K W fx t)) (gName i) (liftT K W0 fx tt) (lift K W0 fx te) [i] σ H Q := by
  obtain ⟨φ, A, Γ, Qd, Ed, rel, q, k, ke⟩ := h
  refine ⟨φ, A, Γ, _, _, rel, q, fun x v H1 s1 r1 ⟨ds, es, q1⟩ => ?_, ke⟩
  obtain ⟨z, ez, rfl⟩ := srcS_er es
  have ev := (r1.cv rel.dom).str ez
  subst ev
  refine ⟨z, rfl, fun D nD => lc_coreD (rel.mono s1) hf (fun y v H' s' r' qy => k y v H' (s1.trans s') (r'.back s1) qy) q1 nD (fun n H' s' hn => ?_) fun H' s' => ?_⟩
  · have hi' : n < z.cps.size := by simpa using hn
    refine ⟨hi', fun x H2 y => ⟨y.1, ?_⟩⟩
    obtain ⟨_, c, e1, rfl⟩ := y
    refine ⟨.str ⟨#[c]⟩, ?_, .str _⟩
    rw [List.getElem?_map, Array.getElem?_toList, e1]
    rfl
  · show z.cps.size ≤ _
    simp
theorem lcR_core {K : PySem.W.Frag} {φ : FrF} {A : List Addr} {σ : L2.St} {H1 : Hp} {Γ : Ev} {lo : Int} {n : Nat} {Qd : OT → Prop} {Q : VK} {D : Addr} (rel : Rel K fx φ A σ H1 Γ) (hf : i ∉ fx) (k : Kt K A φ.Z H1 Qd Q) (q : compInv (rangeD lo n) i tt te Γ Qd) (nD : H1 D = none) :
    ∃ Wv : Nat → Nat → Hp → Prop, (∃ m, Wv 0 m (upd H1 D (.lst []))) ∧ ∀ n' m H, Wv n' m H →
      ((Itr lo n).stop n' H ∧ Q (.ref D) H) ∨ ((Itr lo n).go n' H ∧ ∃ Nx : Hp → Prop, (∀ H', Nx H' → ∃ m', m' < m ∧ Wv (n' + 1) m' H') ∧ ∀ x H', (Itr lo n).yld n' H x H' → gName i x (wipe σ [i]) H' fun σ2 H2 => wipe σ2 [i] = wipe σ [i] ∧ liftT K W0 fx tt σ2 H2 fun b H3 =>
        if b = true then lift K W0 fx te σ2 H3 fun y H4 => ∃ acc, H4 D = some (.lst acc) ∧ acc.length < sizeLine ∧ Nx (upd H4 D (.lst (acc ++ [y]))) else Nx H3) := by
  refine lc_coreD rel hf k q nD (fun m H' s' hn => ?_) fun H' s' => ?_
  · rw [rangeD_length] at hn
    refine ⟨hn, fun x H2 y => ⟨y.1, _, rangeD_get hn, ?_⟩⟩
    obtain ⟨_, rfl⟩ := y
    exact .int _
  · rw [rangeD_length]
    exact Nat.le_refl _
@[simp] def tLcR1 (i : Nat) (tt : TDT) (te : TD) (t : TD) : TD := fun Γ Q E => t Γ (fun x => ∃ j, x.er = .int j ∧ -(2 ^ 62) ≤ j ∧ j < 2 ^ 62 ∧ compInv (rangeD 0 j.toNat) i tt te Γ Q) E
theorem lcR1_imp {K : PySem.W.Frag} {σ : L2.St} {H : Hp} {Q : VK} (hf : i ∉ fx) (h : lift K W fx (tLcR1 i tt te t) σ H Q) : tLc (iRng1 (tCons (lift K W fx t) tNil)) (gName i) (liftT K W0 fx tt) (lift K W0 fx te) [i] σ H Q := by
  obtain ⟨φ, A, Γ, Qd, Ed, rel, q, k, ke⟩ := h
  refine ⟨φ, A, Γ, _, _, rel, q, fun x v H1 s1 r1 ⟨j, ej, b1, b2, q1⟩ => ?_, ke⟩
  have ev := (r1.cv rel.dom).int ej
  subst ev
  exact ⟨j, rfl, b1, b2, fun D nD => lcR_core (rel.mono s1) hf (fun y v H' s' r' qy => k y v H' (s1.trans s') (r'.back s1) qy) q1 nD⟩
@[simp] def tLcR2 (i : Nat) (tt : TDT) (te : TD) (t u : TD) : TD := fun Γ Q E => t Γ (fun x => u Γ (fun y => ∃ a b, x.er = .int a ∧ y.er = .int b ∧ (-(2 ^ 62) ≤ a ∧ a < 2 ^ 62 ∧ -(2 ^ 62) ≤ b ∧ b < 2 ^ 62) ∧ compInv (rangeD a (b - a).toNat) i tt te Γ Q) E) E
theorem lcR2_imp {K : PySem.W.Frag} {σ : L2.St} {H : Hp} {Q : VK} (hf : i ∉ fx) (h : lift K W fx (tLcR2 i tt te t u) σ H Q) : tLc (iRng2 (tCons (lift K W fx t) (tCons (lift K W fx u) tNil))) (gName i) (liftT K W0 fx tt) (lift K W0 fx te) [i] σ H Q := by
  obtain ⟨φ, A, Γ, Qd, Ed, rel, q, k, ke⟩ := h
  refine ⟨φ, A, Γ, _, _, rel, q, fun x v H1 s1 r1 q1 => ?_, ke⟩
  refine ⟨φ, A, Γ, _, _, rel.mono s1, q1, fun y w H2 s2 r2 ⟨a, b, ea, eb, bb, q2⟩ => ?_, fun c H' s' q' => ke c H' (s1.trans s') q'⟩
  have ev := (r1.cv rel.dom).int ea
  subst ev
  have ev := (r2.cv (rel.mono s1).dom).int eb
  subst ev
  exact ⟨a, b, rfl, bb, fun D nD => lcR_core ((rel.mono s1).mono s2) hf (fun y v H' s' r' qy => k y v H' ((s1.trans s2).trans s') (r'.back (s1.trans s2)) qy) q2 nD⟩
variable (hc : X.calm = true) (hN : X.N.Nodup) (ok : BlkOk X.N X.env.scope scope [(x, i)])
  (hg : ∀ (s : Shared) (H : Hp) (C : Addr) (cl : List (Str × Addr)) (fp : List Addr), PG (X.blk s H scope (compEnvC scope cl C X.env) fp) tg (gName i))
  (ht : ∀ (s : Shared) (H : Hp) (C : Addr) (cl : List (Str × Addr)) (fp : List Addr), PTs (X.blk s H scope (compEnvC scope cl C X.env) fp) ifs (liftT X.K W0 fx tt))
  (hel : ∀ (s : Shared) (H : Hp) (C : Addr) (cl : List (Str × Addr)) (fp : List Addr), PE (X.blk s H scope (compEnvC scope cl C X.env) fp) elt (lift X.K W0 fx te))
include hc hN ok hg ht hel
theorem de_lcL (he : DE X W fx e t) (hf : i ∉ fx := by decide) (hs : ∀ x, foldedSetIterable e X.env x = pure x := by intro _; rfl) : DE X W fx (.ListComp elt [⟨tg, e, ifs, 0⟩] scope pos) (tLcD srcL i tt te t) :=
  PE.imp (pe_lc hc hN (pi_list he) ok hg ht hel hs) fun σ H Q h => lcL_imp hf h
theorem de_lcT (he : DE X W fx e t) (hf : i ∉ fx := by decide) (hs : ∀ x, foldedSetIterable e X.env x = pure x := by intro _; rfl) : DE X W fx (.ListComp elt [⟨tg, e, ifs, 0⟩] scope pos) (tLcD srcT i tt te t) :=
  PE.imp (pe_lc hc hN (pi_tup he) ok hg ht hel hs) fun σ H Q h => lcT_imp hf h
theorem de_lcS (he : DE X W fx e t) (hf : i ∉ fx := by decide) (hs : ∀ x, foldedSetIterable e X.env x = pure x := by intro _; rfl) : DE X W fx (.ListComp elt [⟨tg, e, ifs, 0⟩] scope pos) (tLcD srcS i tt te t) :=
  PE.imp (pe_lc hc hN (pi_str he) ok hg ht hel hs) fun σ H Q h => lcS_imp hf h
theorem de_lcR1 {pp : Pos} (hgR : Gl X "range") (m : X.mg "range" = none) (he : DE X W fx a t) (hf : i ∉ fx := by decide) (hse : starEach [a] X.env = (false, eval a X.env) :: starEach [] X.env := by rfl) (hse2 : starEach [a] X.env = [(false, eval a X.env)] := by rfl)
    (hs : ∀ x, foldedSetIterable (.Call (.Name "range" p) [a] [] pp) X.env x = pure x := by intro _; rfl) : DE X W fx (.ListComp elt [⟨tg, .Call (.Name "range" p) [a] [] pp, ifs, 0⟩] scope pos) (tLcR1 i tt te t) :=
  PE.imp (pe_lc hc hN (pi_range1 hgR m (pa_cons he pa_nil hse) hse2) ok hg ht hel hs) fun σ H Q h => lcR1_imp hf h
theorem de_lcR2 {pp : Pos} (hgR : Gl X "range") (m : X.mg "range" = none) (ha : DE X W fx a t) (hb : DE X W fx b u) (hf : i ∉ fx := by decide) (hs1 : starEach [a, b] X.env = (false, eval a X.env) :: starEach [b] X.env := by rfl) (hs2 : starEach [b] X.env = (false, eval b X.env) :: starEach [] X.env := by rfl)
    (hs3 : starEach [a, b] X.env = [(false, eval a X.env), (false, eval b X.env)] := by rfl) (hs4 : starEach [b] X.env = [(false, eval b X.env)] := by rfl)
    (hs : ∀ x, foldedSetIterable (.Call (.Name "range" p) [a, b] [] pp) X.env x = pure x := by intro _; rfl) : DE X W fx (.ListComp elt [⟨tg, .Call (.Name "range" p) [a, b] [] pp, ifs, 0⟩] scope pos) (tLcR2 i tt te t u) :=
  PE.imp (pe_lc hc hN (pi_range2 hgR m (pa_cons ha (pa_cons hb pa_nil hs2) hs1) hs3 hs4) ok hg ht hel hs) fun σ H Q h => lcR2_imp hf h
theorem set_imp {T : TD} {K : PySem.W.Frag} {D : Ends} {σ : L2.St} {H : Hp} (hfx : y ∉ fx) (h : liftS K W fx (tSet y T) D σ H) : lift K W fx T σ H (fun x H1 => gName y x σ H1 D.nx) := by
  obtain ⟨φ, A, Γ, Dd, rel, q, er⟩ := h
  exact ⟨φ, A, Γ, _, _, rel, q, fun r v H1 s1 r1 ⟨hi, q1⟩ => by
    obtain ⟨A', rel', _⟩ := rel.set s1 r1 hi hfx
    exact er.nx _ _ A' _ rel' q1, fun c H' s' q' => er.ex c σ H' A Γ (rel.mono s') q'⟩
theorem ds_lcL (hy : X.N[y]? = some yn) (hyl : X.env.scope.names.lookup yn = some .local) (hsw : swapsWith (.ListComp elt [⟨tg, e, ifs, 0⟩] scope pos) (some (.Name yn py)) spos.line X.env = pure true) (he : DE X W fx e t) (hf : i ∉ fx := by decide) (hfy : y ∉ fx := by decide) (hs : ∀ x, foldedSetIterable e X.env x = pure x := by intro _; rfl) :
    DS X W fx (.Assign [.Name yn py] (.ListComp elt [⟨tg, e, ifs, 0⟩] scope pos) spos) (tSet y (tLcD srcL i tt te t)) :=
  PS.imp (ps_setLc hc hN hy hyl hsw (pi_list he) ok hg ht hel hs) fun D σ H h => lcL_imp hf (set_imp hc hN ok hg ht hel hfy h)
theorem ds_lcR1 {pp : Pos} (hy : X.N[y]? = some yn) (hyl : X.env.scope.names.lookup yn = some .local) (hgR : Gl X "range") (m : X.mg "range" = none) (hsw : swapsWith (.ListComp elt [⟨tg, .Call (.Name "range" p) [a] [] pp, ifs, 0⟩] scope pos) (some (.Name yn py)) spos.line X.env = pure true) (he : DE X W fx a t) (hf : i ∉ fx := by decide) (hfy : y ∉ fx := by decide)
    (hse : starEach [a] X.env = (false, eval a X.env) :: starEach [] X.env := by rfl) (hse2 : starEach [a] X.env = [(false, eval a X.env)] := by rfl) (hs : ∀ x, foldedSetIterable (.Call (.Name "range" p) [a] [] pp) X.env x = pure x := by intro _; rfl) :
    DS X W fx (.Assign [.Name yn py] (.ListComp elt [⟨tg, .Call (.Name "range" p) [a] [] pp, ifs, 0⟩] scope pos) spos) (tSet y (tLcR1 i tt te t)) :=
  PS.imp (ps_setLc hc hN hy hyl hsw (pi_range1 hgR m (pa_cons he pa_nil hse) hse2) ok hg ht hel hs) fun D σ H h => lcR1_imp hf (set_imp hc hN ok hg ht hel hfy h)
end
end FW

set_option Elab.async false
set_option linter.all false
set_option maxRecDepth 100000
set_option maxHeartbeats 4000000
namespace FW
open PySem PySem.Spec PyProof.Rows L2
theorem bb_isinstance : bootBuiltins "isinstance" = some (.builtin "isinstance") := by decide +kernel
theorem bb_abs : bootBuiltins "abs" = some (.builtin "abs") := by decide +kernel
theorem bb_sorted : bootBuiltins "sorted" = some (.builtin "sorted") := by decide +kernel
theorem bb_min : bootBuiltins "min" = some (.builtin "min") := by decide +kernel
theorem bb_int : bootBuiltins "int" = some (.type "int") := by decide +kernel
theorem bb_bool : bootBuiltins "bool" = some (.type "bool") := by decide +kernel
theorem bb_str : bootBuiltins "str" = some (.type "str") := by decide +kernel
theorem bb_list : bootBuiltins "list" = some (.type "list") := by decide +kernel
theorem bb_tuple : bootBuiltins "tuple" = some (.type "tuple") := by decide +kernel
/-- the tree of a slot is owned no more: it is data -/
def frz (i : Nat) (Γ : Ev) : Ev := match Γ[i]? with
  | some (some t) => Γ.set i (some (vw t))
  | _ => Γ
section
variable {K : PySem.W.Frag} {W : WX} {fx : List Nat} {φ : FrF} {A : List Addr} {σ : L2.St} {H : Hp} {Γ : Ev} {i : Nat}
theorem EnvR.refill {Hs : Hp} : ∀ {σ : L2.St} {Γ : Ev} {A : List Addr} {i : Nat} {v : V} {t : OT}, EnvR K Hs H σ (Γ.set i none) A → i < Γ.length → σ[i]? = some (some v) → Own K Hs H v t [] → EnvR K Hs H σ (Γ.set i (some t)) A
  | _, [], _, _, _, _, _, l, _, _ => by simp at l
  | _, _ :: _, _, 0, _, _, .skip r, _, e, o => by
    cases e
    exact .cons (A := []) o r
  | _, none :: _, _, i + 1, _, _, .skip r, l, e, o => .skip (EnvR.refill (i := i) r (Nat.lt_of_succ_lt_succ l) e o)
  | _, some _ :: _, _, i + 1, _, _, .cons h r, l, e, o => .cons h (EnvR.refill (i := i) r (Nat.lt_of_succ_lt_succ l) e o)
theorem Rel.frz (r : Rel K fx φ A σ H Γ) : ∃ A', Rel K fx φ A' σ H (frz i Γ) := by
  unfold FW.frz
  split
  · rename_i t e
    obtain ⟨v, B, A', h1, h2, h3, h4, h5, h6, h7⟩ := r.env.out r.nd e
    have r' : Rel K fx φ A' σ H (Γ.set i none) := r.sub h3 h5 h7
    have hi : i < Γ.length := (List.getElem?_eq_some_iff.mp e).1
    have c : CV K (hid (A' ++ φ.Z) H) v t := h2.cv (hid_sub fun a ha => by
      rcases List.mem_append.mp ha with z | z
      · exact List.mem_append_left _ (h7 a z)
      · exact List.mem_append_right _ z) fun a ha o q => by
        rw [hid_out fun z => ?_]
        · exact q
        · rcases List.mem_append.mp z with z | z
          · exact (h6 a ha).2 z
          · exact r.az a (h6 a ha).1 z
    exact ⟨A', r'.env.refill hi h1 c.own, r'.nd, r'.az, r'.keep, r'.own, r'.zs, r'.a0, r'.fix⟩
  · exact ⟨A, r⟩
end
section
variable {X : Cx} {W : WX} {fx : List Nat} {st : Stmt} {t : TDS}
@[simp] def tFrz (i : Nat) (t : TDS) : TDS := fun D Γ => t D (frz i Γ)
theorem ds_freeze (i : Nat) (h : DS X W fx st t) : DS X W fx st (tFrz i t) := PS.imp h fun D σ H ⟨φ, A, Γ, Dd, rel, q, er⟩ => by
  obtain ⟨A', r'⟩ := rel.frz (i := i)
  exact ⟨φ, A', _, Dd, r', q, er⟩
end
section
variable {K : PySem.W.Frag} {A Z : List Addr} {H H1 : Hp} {v : V} {r : OT}
theorem Res.frz (d : Dom A Z H) (q : Res K A Z H H1 v r) : Res K A Z H H1 v (vw r) := ⟨[], List.nodup_nil, fun _ h => by simp at h, (q.cv d).own⟩
end
section
variable {X : Cx} {W : WX} {fx : List Nat} {e a b elt tg : Expr} {ifs : List Expr} {t u te : TD} {tt : TDT} {pos p spos py : Pos} {i k y : Nat} {scope : Scope} {x yn : Str}
/-- name = value; what is stored is data from then on -/
@[simp] def tSetF (i : Nat) (t : TD) : TDS := fun D Γ => t Γ (fun r => i < Γ.length ∧ D.nx (Γ.set i (some (vw r)))) fun c => D.ex c Γ
theorem setF_imp {T : TD} {K : PySem.W.Frag} {D : Ends} {σ : L2.St} {H : Hp} (hfx : y ∉ fx) (h : liftS K W fx (tSetF y T) D σ H) : lift K W fx T σ H (fun x H1 => gName y x σ H1 D.nx) := by
  obtain ⟨φ, A, Γ, Dd, rel, q, er⟩ := h
  exact ⟨φ, A, Γ, _, _, rel, q, fun r v H1 s1 r1 ⟨hi, q1⟩ => by
    obtain ⟨A', rel', _⟩ := rel.set s1 (r1.frz rel.dom) hi hfx
    exact er.nx _ _ A' _ rel' q1, fun c H' s' q' => er.ex c σ H' A Γ (rel.mono s') q'⟩
theorem ds_setF {i : Nat} {x : Str} {pos' : Pos} (hN : X.N.Nodup) (hi : X.N[i]? = some x) (hx : Loc X.env.scope x) (he : DE X W fx e t) (hs : swapsWith e (some (.Name x pos')) pos.line X.env = pure false := by rfl) (hf : X.fn x = true ∨ X.env.scope.names.lookup x = some .local := by first | exact .inl rfl | exact .inr rfl | assumption)
    (hfx : i ∉ fx := by decide) : DS X W fx (.Assign [.Name x pos'] e pos) (tSetF i t) := PS.imp (ps_set hN hi hx he hs hf) fun D σ H h => setF_imp hfx h
section
variable (hc : X.calm = true) (hN : X.N.Nodup) (ok : BlkOk X.N X.env.scope scope [(x, i)])
  (hg : ∀ (s : Shared) (H : Hp) (C : Addr) (cl : List (Str × Addr)) (fp : List Addr), PG (X.blk s H scope (compEnvC scope cl C X.env) fp) tg (gName i))
  (ht : ∀ (s : Shared) (H : Hp) (C : Addr) (cl : List (Str × Addr)) (fp : List Addr), PTs (X.blk s H scope (compEnvC scope cl C X.env) fp) ifs (liftT X.K W0 fx tt))
  (hel : ∀ (s : Shared) (H : Hp) (C : Addr) (cl : List (Str × Addr)) (fp : List Addr), PE (X.blk s H scope (compEnvC scope cl C X.env) fp) elt (lift X.K W0 fx te))
include hc hN ok hg ht hel
theorem ds_lcLF (hy : X.N[y]? = some yn) (hyl : X.env.scope.names.lookup yn = some .local) (hsw : swapsWith (.ListComp elt [⟨tg, e, ifs, 0⟩] scope pos) (some (.Name yn py)) spos.line X.env = pure true) (he : DE X W fx e t) (hf : i ∉ fx := by decide) (hfy : y ∉ fx := by decide) (hs : ∀ x, foldedSetIterable e X.env x = pure x := by intro _; rfl) :
    DS X W fx (.Assign [.Name yn py] (.ListComp elt [⟨tg, e, ifs, 0⟩] scope pos) spos) (tSetF y (tLcD srcL i tt te t)) :=
  PS.imp (ps_setLc hc hN hy hyl hsw (pi_list he) ok hg ht hel hs) fun D σ H h => lcL_imp hf (setF_imp hfy h)
theorem ds_lcTF (hy : X.N[y]? = some yn) (hyl : X.env.scope.names.lookup yn = some .local) (hsw : swapsWith (.ListComp elt [⟨tg, e, ifs, 0⟩] scope pos) (some (.Name yn py)) spos.line X.env = pure true) (he : DE X W fx e t) (hf : i ∉ fx := by decide) (hfy : y ∉ fx := by decide) (hs : ∀ x, foldedSetIterable e X.env x = pure x := by intro _; rfl) :
    DS X W fx (.Assign [.Name yn py] (.ListComp elt [⟨tg, e, ifs, 0⟩] scope pos) spos) (tSetF y (tLcD srcT i tt te t)) :=
  PS.imp (ps_setLc hc hN hy hyl hsw (pi_tup he) ok hg ht hel hs) fun D σ H h => lcT_imp hf (setF_imp hfy h)
theorem ds_lcR1F {pp : Pos} (hy : X.N[y]? = some yn) (hyl : X.env.scope.names.lookup yn = some .local) (hgR : Gl X "range") (m : X.mg "range" = none) (hsw : swapsWith (.ListComp elt [⟨tg, .Call (.Name "range" p) [a] [] pp, ifs, 0⟩] scope pos) (some (.Name yn py)) spos.line X.env = pure true) (he : DE X W fx a t) (hf : i ∉ fx := by decide) (hfy : y ∉ fx := by decide)
    (hse : starEach [a] X.env = (false, eval a X.env) :: starEach [] X.env := by rfl) (hse2 : starEach [a] X.env = [(false, eval a X.env)] := by rfl) (hs : ∀ x, foldedSetIterable (.Call (.Name "range" p) [a] [] pp) X.env x = pure x := by intro _; rfl) :
    DS X W fx (.Assign [.Name yn py] (.ListComp elt [⟨tg, .Call (.Name "range" p) [a] [] pp, ifs, 0⟩] scope pos) spos) (tSetF y (tLcR1 i tt te t)) :=
  PS.imp (ps_setLc hc hN hy hyl hsw (pi_range1 hgR m (pa_cons he pa_nil hse) hse2) ok hg ht hel hs) fun D σ H h => lcR1_imp hf (setF_imp hfy h)
end
/-- xs.append(ys), ys a slot's own list, which goes into xs -/
@[simp] def tAppMv (i j : Nat) : TDS := fun D Γ => ∃ ts us, Γ[i]? = some (some (.node ts)) ∧ Γ[j]? = some (some (.node us)) ∧ i ≠ j ∧ ts.length < sizeLine ∧ D.nx ((Γ.set j none).set i (some (.node (ts ++ [.node us]))))
theorem ds_appMv {epos apos p1 p2 : Pos} {i j : Nat} {x z : Str} (hN : X.N[i]? = some x) (hv : Vis X.env.scope x) (hN2 : X.N[j]? = some z) (hv2 : Vis X.env.scope z) (hs : starEach [.Name z p2] X.env = (false, eval (.Name z p2) X.env) :: starEach [] X.env := by rfl)
    (hbase : attributeBase (.Name x p1) "append" X.env (eval (.Name x p1) X.env) = eval (.Name x p1) X.env := by rfl)
    (hfew : ((backTo pos (starEach ((.Name z p2) :: []) X.env)).all (fun x => !x.1) && (backToKw pos (keywordEach [] X.env)).all (fun x => x.1.isSome)
      && decide (((Expr.Name z p2) :: []).length + ([] : List Keyword).length + (if ([] : List Keyword).isEmpty then 0 else 1) < 30)) = true := by rfl)
    (hline : (apos.endLine == pos.line) = true := by rfl) (hplain : (backTo pos (starEach [] X.env)).any (·.1) = false := by rfl) (hsw : swapsWith (.Call (.Attribute (.Name x p1) "append" apos) [.Name z p2] [] pos) none epos.line X.env = pure false := by rfl)
    (hd : (x == ("__debug__" : Str)) = false := by decide) (hcd : (x == ("__classdict__" : Str)) = false := by decide) (hd2 : (z == ("__debug__" : Str)) = false := by decide) (hcd2 : (z == ("__classdict__" : Str)) = false := by decide) :
    DS X W fx (.Expr (.Call (.Attribute (.Name x p1) "append" apos) [.Name z p2] [] pos) epos) (tAppMv i j) := PS.imp (ps_expr (pe_bm PySem.F.plainAttrs_list PySem.F.slot_list_append PySem.F.type_list_append mt_append (pe_var hN hv hd hcd) (pa_cons (pe_var hN2 hv2 hd2 hcd2) pa_nil hs) hbase hfew hline hs hplain) hsw) fun D σ H ⟨φ, A, Γ, Dd, rel, ⟨ts, us, e1, e2, nij, hz, q⟩, er⟩ => by
  obtain ⟨v, B, A', h1, h2, h3, h4, h5, h6, h7⟩ := rel.env.out rel.nd e2
  have r' : Rel X.K fx φ A' σ H (Γ.set j none) := rel.sub h3 h5 h7
  have e1' : (Γ.set j none)[i]? = some (some (.node ts)) := by rw [List.getElem?_set_ne (fun e : j = i => nij e.symm)]; exact e1
  obtain ⟨rt, B2, g1, g2, _⟩ := r'.env.get e1'
  have sub : ∀ a, a ∈ B ++ (A' ++ φ.Z) → a ∈ A ++ φ.Z := fun a ha => by
    rcases List.mem_append.mp ha with y | y
    · exact List.mem_append_left _ (h6 a y).1
    · rcases List.mem_append.mp y with y | y
      · exact List.mem_append_left _ (h7 a y)
      · exact List.mem_append_right _ y
  cases g2 with
  | @node q' vs0 _ As0 hq ow0 =>
  obtain ⟨vs, Bs, c1, c2, c3, c4, c5, c6⟩ := r'.change (Ns := B) (js := []) (h3.mono (hid_sub sub) fun a _ o y => y) (fun a ha => ⟨rel.own a (h6 a ha).1, fun y => by
    rcases List.mem_append.mp y with y | y
    · exact (h6 a ha).2 y
    · exact rel.az a (h6 a ha).1 y⟩) e1' rfl g1 rfl
  have qB : q' ∉ B := fun y => (h6 q' y).2 c2
  obtain ⟨A2, r2, _⟩ := c6 (vs ++ [v]) (ts ++ [.node us]) (Bs ++ (B ++ [])) (fun b hb => by simpa using hb) (by
    have c4' := List.nodup_cons.mp c4
    refine List.nodup_cons.mpr ⟨fun y => ?_, List.nodup_append.mpr ⟨c4'.2, by simpa using h4, fun a ha b hb eab => ?_⟩⟩
    · rcases List.mem_append.mp y with y | y
      · exact c4'.1 y
      · exact qB (by simpa using y)
    · subst eab
      exact (h6 a (by simpa using hb)).2 (c5 a (List.mem_cons_of_mem _ ha))) (by
    refine (c3.mono (Same.refl _) fun a ha ob y => ?_).append (.cons rfl (h2.mono (hid_sub sub) fun a ha ob y => ?_) .nil)
    · rw [upd_ne fun w : a = q' => (List.nodup_cons.mp c4).1 (w ▸ ha)]; exact y
    · rw [upd_ne fun w : a = q' => qB (w ▸ ha)]; exact y)
  refine ⟨.ref q', g1, Or.inl ⟨rfl, _, Or.inl (Or.inl c1)⟩, v, h1, q', vs, v, rfl, rfl, c1, by rw [c3.length]; exact hz, er.nx _ _ A2 _ r2 q⟩
end
end FW

set_option Elab.async false
set_option linter.all false
set_option maxRecDepth 100000
set_option maxHeartbeats 4000000
namespace FW
open PySem PySem.Spec PyProof.Rows L2
@[simp] theorem ne_put_get : ((Str.ofString "put") = Str.ofString "get") = False := eq_false (by decide)
@[simp] theorem nb_put_get : ((Str.ofString "put") == Str.ofString "get") = false := by decide
@[simp] theorem ne_put_fence : ((Str.ofString "put") = Str.ofString "fence") = False := eq_false (by decide)
@[simp] theorem nb_put_fence : ((Str.ofString "put") == Str.ofString "fence") = false := by decide
@[simp] theorem ne_put_step : ((Str.ofString "put") = Str.ofString "step") = False := eq_false (by decide)
@[simp] theorem nb_put_step : ((Str.ofString "put") == Str.ofString "step") = false := by decide
@[simp] theorem ne_put_send : ((Str.ofString "put") = Str.ofString "send") = False := eq_false (by decide)
@[simp] theorem nb_put_send : ((Str.ofString "put") == Str.ofString "send") = false := by decide
@[simp] theorem ne_get_put : ((Str.ofString "get") = Str.ofString "put") = False := eq_false (by decide)
@[simp] theorem nb_get_put : ((Str.ofString "get") == Str.ofString "put") = false := by decide
@[simp] theorem ne_get_fence : ((Str.ofString "get") = Str.ofString "fence") = False := eq_false (by decide)
@[simp] theorem nb_get_fence : ((Str.ofString "get") == Str.ofString "fence") = false := by decide
@[simp] theorem ne_get_step : ((Str.ofString "get") = Str.ofString "step") = False := eq_false (by decide)
@[simp] theorem nb_get_step : ((Str.ofString "get") == Str.ofString "step") = false := by decide
@[simp] theorem ne_get_send : ((Str.ofString "get") = Str.ofString "send") = False := eq_false (by decide)
@[simp] theorem nb_get_send : ((Str.ofString "get") == Str.ofString "send") = false := by decide
@[simp] theorem ne_fence_put : ((Str.ofString "fence") = Str.ofString "put") = False := eq_false (by decide)
@[simp] theorem nb_fence_put : ((Str.ofString "fence") == Str.ofString "put") = false := by decide
@[simp] theorem ne_fence_get : ((Str.ofString "fence") = Str.ofString "get") = False := eq_false (by decide)
@[simp] theorem nb_fence_get : ((Str.ofString "fence") == Str.ofString "get") = false := by decide
@[simp] theorem ne_fence_step : ((Str.ofString "fence") = Str.ofString "step") = False := eq_false (by decide)
@[simp] theorem nb_fence_step : ((Str.ofString "fence") == Str.ofString "step") = false := by decide
@[simp] theorem ne_fence_send : ((Str.ofString "fence") = Str.ofString "send") = False := eq_false (by decide)
@[simp] theorem nb_fence_send : ((Str.ofString "fence") == Str.ofString "send") = false := by decide
@[simp] theorem ne_step_put : ((Str.ofString "step") = Str.ofString "put") = False := eq_false (by decide)
@[simp] theorem nb_step_put : ((Str.ofString "step") == Str.ofString "put") = false := by decide
@[simp] theorem ne_step_get : ((Str.ofString "step") = Str.ofString "get") = False := eq_false (by decide)
@[simp] theorem nb_step_get : ((Str.ofString "step") == Str.ofString "get") = false := by decide
@[simp] theorem ne_step_fence : ((Str.ofString "step") = Str.ofString "fence") = False := eq_false (by decide)
@[simp] theorem nb_step_fence : ((Str.ofString "step") == Str.ofString "fence") = false := by decide
@[simp] theorem ne_step_send : ((Str.ofString "step") = Str.ofString "send") = False := eq_false (by decide)
@[simp] theorem nb_step_send : ((Str.ofString "step") == Str.ofString "send") = false := by decide
@[simp] theorem ne_send_put : ((Str.ofString "send") = Str.ofString "put") = False := eq_false (by decide)
@[simp] theorem nb_send_put : ((Str.ofString "send") == Str.ofString "put") = false := by decide
@[simp] theorem ne_send_get : ((Str.ofString "send") = Str.ofString "get") = False := eq_false (by decide)
@[simp] theorem nb_send_get : ((Str.ofString "send") == Str.ofString "get") = false := by decide
@[simp] theorem ne_send_fence : ((Str.ofString "send") = Str.ofString "fence") = False := eq_false (by decide)
@[simp] theorem nb_send_fence : ((Str.ofString "send") == Str.ofString "fence") = false := by decide
@[simp] theorem ne_send_step : ((Str.ofString "send") = Str.ofString "step") = False := eq_false (by decide)
@[simp] theorem nb_send_step : ((Str.ofString "send") == Str.ofString "step") = false := by decide
/-! ### what a web is, over any data -/
def isWhole : PyData → Bool
  | .int _ => true
  | _ => false
def isBoxD : PyData → Bool
  | .int i => decide (0 ≤ i ∧ i < 4)
  | _ => false
theorem isWhole_iff {d : PyData} : isWhole d = true ↔ ∃ i, d = .int i := by
  cases d <;> simp [isWhole]
def isNumD : PyData → Bool
  | .int i => decide (i.natAbs < 10 ^ 30)
  | _ => false
def isStepD : PyData → Bool
  | .tuple [.str s, a, b] => decide (s = Str.ofString "put") && isBoxD a && isNumD b
  | .tuple [.str s, a] => decide (s = Str.ofString "get") && isBoxD a
  | .tuple [.str s] => decide (s = Str.ofString "fence")
  | _ => false
/-- a put or a get -/
def isDeedD : PyData → Bool
  | .tuple (.str s :: _) => !decide (s = Str.ofString "fence")
  | _ => true
def isRowD : PyData → Bool
  | .list steps => steps.all isStepD
  | _ => false
def stepsD : PyData → List PyData
  | .list steps => steps
  | _ => []
def deedsD (rows : List PyData) : Nat := ((rows.flatMap stepsD).filter isDeedD).length
def okWeb : PyData → Bool
  | .list rows => decide (1 ≤ rows.length ∧ rows.length ≤ 3) && rows.all isRowD && decide (deedsD rows ≤ 8)
  | _ => false
/-- a loop, by what holds of the items gone through -/
theorem forInv_of {ds : List PyData} {g : TGD} {tb : TDS} {D : DEnds} {Γ : Ev} (P : List PyData → Ev → Prop) (h0 : P [] Γ)
    (hs : ∀ pre d post Γ', ds = pre ++ d :: post → P pre Γ' → g d Γ' fun Γ2 => tb { D with nx := P (pre ++ [d]), ct := P (pre ++ [d]), bk := D.nx } Γ2) (hd : ∀ Γ', P ds Γ' → D.nx Γ') : forInv ds g tb D Γ := by
  refine ⟨fun n => P (ds.take n), by simpa using h0, fun n d Γ' e p => ?_, fun Γ' p => hd Γ' (by simpa using p)⟩
  have hn : n < ds.length := (List.getElem?_eq_some_iff.mp e).1
  have e1 : ds.take (n + 1) = ds.take n ++ [d] := by rw [List.take_add_one, e]; rfl
  have e2 : ds = ds.take n ++ d :: ds.drop (n + 1) := by
    have z := List.take_append_drop n ds
    rw [List.drop_eq_getElem_cons hn, (List.getElem?_eq_some_iff.mp e).2] at z
    exact z.symm
  have q := hs _ d _ Γ' e2 p
  rw [← e1] at q
  exact q
theorem deeds_snoc (a : List PyData) (r : PyData) : deedsD (a ++ [r]) = deedsD a + ((stepsD r).filter isDeedD).length := by
  simp [deedsD]
/-! ### what the small defs say -/
def S_is_whole : SD := fun rs Q _ => ∃ d, rs = [.leaf d] ∧ Q (.leaf (.bool (isWhole d)))
def S_is_box : SD := fun rs Q _ => ∃ d, rs = [.leaf d] ∧ Q (.leaf (.bool (isBoxD d)))
def S_is_step : SD := fun rs Q _ => ∃ d, rs = [.leaf d] ∧ Q (.leaf (.bool (isStepD d)))

theorem forInv_range {lo : Int} {n : Nat} {g : TGD} {tb : TDS} {D : DEnds} {Γ : Ev} (P : Nat → Ev → Prop) (h0 : P 0 Γ)
    (hs : ∀ k Γ', k < n → P k Γ' → g (.int (lo + (k : Nat))) Γ' fun Γ2 => tb { D with nx := P (k + 1), ct := P (k + 1), bk := D.nx } Γ2) (hd : ∀ Γ', P n Γ' → D.nx Γ') : forInv (rangeD lo n) g tb D Γ := by
  refine ⟨P, h0, fun k d Γ' e p => ?_, fun Γ' p => hd Γ' (by rw [rangeD_length] at p; exact p)⟩
  have hk : k < n := by
    have := (List.getElem?_eq_some_iff.mp e).1
    rwa [rangeD_length] at this
  rw [rangeD_get hk] at e
  cases e
  exact hs k Γ' hk p
/-! ### webs -/
inductive Step where
  | put (b : Nat) (n : Int)
  | get (b : Nat)
  | fence
  deriving DecidableEq
abbrev Web := List (List Step)
def Step.enc : Step → PyData
  | .put b n => .tuple [.str "put", .int b, .int n]
  | .get b => .tuple [.str "get", .int b]
  | .fence => .tuple [.str "fence"]
def encRow (r : List Step) : PyData := .list (r.map Step.enc)
def encWeb (w : Web) : PyData := .list (w.map encRow)
def encPlace (p : Nat × Nat) : PyData := .tuple [.int p.1, .int p.2]
/-- rows that are no longer than some line -/
def smallW (w : Web) : Prop := w.length ≤ 3 ∧ ∀ r ∈ w, r.length ≤ 1000
def rowPlaces (w : Web) (h : Nat) : List (Nat × Nat) := (List.range ((w.getD h []).length - 1)).map fun k => (h, k + 1)
def placesW (w : Web) : List (Nat × Nat) := (List.range w.length).flatMap (rowPlaces w)
theorem sizeLine_big {n : Nat} (h : n ≤ 100000) : n < sizeLine := by rw [sizeLine_eq]; omega
theorem places_len {w : Web} (s : smallW w) : ∀ n, ((List.range n).flatMap (rowPlaces w)).length ≤ n * 1000
  | 0 => by simp
  | n + 1 => by
    have ih := places_len s n
    rw [List.range_succ, List.flatMap_append, List.length_append]
    have : ([n].flatMap (rowPlaces w)).length ≤ 1000 := by
      simp only [List.flatMap_cons, List.flatMap_nil, List.append_nil, rowPlaces, List.length_map, List.length_range]
      cases h : w[n]? with
      | none => simp [List.getD, h]
      | some r =>
        have := s.2 r (List.mem_of_getElem? h)
        simp [List.getD, h]; omega
    omega
def S_places (C : Value) : SD := fun rs Q E => ∃ d, rs = [.leaf d] ∧ ((okWeb d = false ∧ E C) ∨ ∃ w, d = encWeb w ∧ okWeb d = true ∧ smallW w ∧ Q (.node ((placesW w).map fun p => .leaf (encPlace p))))
/-- a fence ahead of each step whose place is told -/
def insF (p : Nat → Bool) : Nat → List Step → List Step
  | _, [] => []
  | i, s :: r => (if p i = true then [.fence] else []) ++ s :: insF p (i + 1) r
theorem insF_append (p : Nat → Bool) : ∀ (a b : List Step) (i : Nat), insF p i (a ++ b) = insF p i a ++ insF p (i + a.length) b
  | [], b, i => rfl
  | s :: a, b, i => by
    simp only [List.cons_append, insF, insF_append p a b (i + 1), List.append_assoc, List.length_cons]
    rw [show i + 1 + a.length = i + (a.length + 1) by omega]
theorem insF_len (p : Nat → Bool) : ∀ (a : List Step) (i : Nat), (insF p i a).length ≤ 2 * a.length
  | [], i => Nat.le_refl _
  | s :: a, i => by
    have := insF_len p a (i + 1)
    simp only [insF, List.length_append, List.length_cons]
    split <;> simp <;> omega
def fencedW (p : Nat → Nat → Bool) (w : Web) : Web := w.mapIdx fun h r => insF (p h) 0 r
def inD (ds : List PyData) (h at' : Nat) : Bool := anyEqv ds (.tuple [.int h, .int at'])
def nodeW (w : Web) : OT := .node (w.map fun r => .node (r.map fun s => .leaf s.enc))
def S_with_fences : SD := fun rs Q _ => ∃ w ds, rs = [.leaf (encWeb w), .leaf (.list ds)] ∧ smallW w ∧ okd (.list ds) = true ∧ Q (nodeW (fencedW (inD ds) w))
@[simp] theorem okd_pair {a b : Int} : okd (.tuple [.int a, .int b]) = true := by
  simp [okd, nodct, nodcts, SeqAt.shaped, PyData.canLay0, PyData.canLayAll0, PyData.depth, PyData.depthAll]
@[simp] theorem eqOk_tup {a b : List PyData} : eqOk (.tuple a) (.tuple b) = (okd (.tuple a) && okd (.tuple b)) := rfl
theorem ers_leaf (l : List PyData) : OT.ers (l.map .leaf) = l := by
  induction l with
  | nil => rfl
  | cons a l ih => simp [OT.ers, ih]
@[simp] theorem ers_leaf' {α : Type} (f : α → PyData) (l : List α) : OT.ers (l.map fun x => .leaf (f x)) = l.map f := by
  induction l with
  | nil => rfl
  | cons a l ih => simp [OT.ers, ih]
theorem ers_row (w : Web) : OT.ers (w.map fun r => .node (r.map fun s => .leaf s.enc)) = w.map encRow := by
  induction w with
  | nil => rfl
  | cons a l ih => simp [OT.ers, ih, encRow]
@[simp] theorem nodeW_er (w : Web) : (nodeW w).er = encWeb w := by
  simp [nodeW, encWeb, ers_row]
@[simp] theorem line1 : 1 ≤ sizeLine := by rw [sizeLine_eq]; omega
@[simp] theorem line2 : 2 ≤ sizeLine := by rw [sizeLine_eq]; omega
@[simp] theorem line3 : 3 ≤ sizeLine := by rw [sizeLine_eq]; omega
@[simp] theorem line4 : 4 ≤ sizeLine := by rw [sizeLine_eq]; omega
@[simp] theorem line5 : 5 ≤ sizeLine := by rw [sizeLine_eq]; omega
@[simp] theorem line6 : 6 ≤ sizeLine := by rw [sizeLine_eq]; omega
@[simp] theorem line7 : 7 ≤ sizeLine := by rw [sizeLine_eq]; omega
@[simp] theorem line8 : 8 ≤ sizeLine := by rw [sizeLine_eq]; omega
@[simp] theorem line9 : 9 ≤ sizeLine := by rw [sizeLine_eq]; omega
@[simp] theorem line10 : 10 ≤ sizeLine := by rw [sizeLine_eq]; omega
@[simp] theorem line11 : 11 ≤ sizeLine := by rw [sizeLine_eq]; omega
@[simp] theorem line12 : 12 ≤ sizeLine := by rw [sizeLine_eq]; omega
@[simp] theorem line13 : 13 ≤ sizeLine := by rw [sizeLine_eq]; omega
@[simp] theorem line14 : 14 ≤ sizeLine := by rw [sizeLine_eq]; omega
@[simp] theorem line15 : 15 ≤ sizeLine := by rw [sizeLine_eq]; omega
@[simp] theorem line16 : 16 ≤ sizeLine := by rw [sizeLine_eq]; omega
@[simp] theorem line17 : 17 ≤ sizeLine := by rw [sizeLine_eq]; omega
@[simp] theorem line18 : 18 ≤ sizeLine := by rw [sizeLine_eq]; omega
@[simp] theorem line19 : 19 ≤ sizeLine := by rw [sizeLine_eq]; omega
end FW

set_option Elab.async false
set_option linter.all false
set_option maxRecDepth 100000
set_option maxHeartbeats 4000000
namespace FW
open PySem PySem.Spec PyProof.Rows L2
/-! ### data that may be compared: plain shapes -/
-- scalars and tuples of scalars and lists of these, by depth
mutual
def pl : Nat → PyData → Bool
  | 0, .tuple _ => false
  | 0, .list _ => false
  | n + 1, .tuple ds => pls n ds
  | n + 1, .list ds => pls n ds
  | _, .dict _ => false
  | _, .str s => PyData.strOk s
  | _, _ => true
def pls : Nat → List PyData → Bool
  | _, [] => true
  | n, d :: ds => pl n d && pls n ds
end
theorem pls_iff {n : Nat} : ∀ {ds : List PyData}, pls n ds = true ↔ ∀ d ∈ ds, pl n d = true
  | [] => by simp [pls]
  | d :: ds => by simp [pls, pls_iff (ds := ds)]
mutual
theorem pl_ok : ∀ {n : Nat} {d : PyData}, pl n d = true → nodct d = true ∧ d.canLay0 = true ∧ d.depth ≤ n + 1
  | n, .none, _ => by cases n <;> simp [nodct, PyData.canLay0, PyData.depth]
  | n, .bool _, _ => by cases n <;> simp [nodct, PyData.canLay0, PyData.depth]
  | n, .int _, _ => by cases n <;> simp [nodct, PyData.canLay0, PyData.depth]
  | n, .str s, h => by
    have h' : PyData.strOk s = true := by cases n <;> simpa [pl] using h
    simp [nodct, PyData.canLay0, PyData.depth, h']
  | 0, .tuple ds, h => by simp [pl] at h
  | 0, .list ds, h => by simp [pl] at h
  | n + 1, .tuple ds, h => by
    have ih := pls_ok (n := n) (ds := ds) (by simpa [pl] using h)
    refine ⟨by simpa [nodct] using ih.1, by simpa [PyData.canLay0] using ih.2.1, by have := ih.2.2; simp [PyData.depth]; omega⟩
  | n + 1, .list ds, h => by
    have ih := pls_ok (n := n) (ds := ds) (by simpa [pl] using h)
    refine ⟨by simpa [nodct] using ih.1, by simpa [PyData.canLay0] using ih.2.1, by have := ih.2.2; simp [PyData.depth]; omega⟩
  | n, .dict _, h => by cases n <;> simp [pl] at h
theorem pls_ok : ∀ {n : Nat} {ds : List PyData}, pls n ds = true → nodcts ds = true ∧ PyData.canLayAll0 ds = true ∧ PyData.depthAll ds ≤ n + 1
  | n, [], _ => by simp [nodcts, PyData.canLayAll0, PyData.depthAll]
  | n, d :: ds, h => by
    have h' : pl n d = true ∧ pls n ds = true := by simpa [pls] using h
    have a := pl_ok h'.1
    have b := pls_ok h'.2
    refine ⟨by simp [nodcts, a.1, b.1], by simp [PyData.canLayAll0, a.2.1, b.2.1], by have := a.2.2; have := b.2.2; simp [PyData.depthAll]; omega⟩
end
theorem okd_pl {n : Nat} {d : PyData} (h : pl n d = true) (hn : n ≤ 60 := by decide) : okd d = true := by
  have a := pl_ok h
  have : d.depth ≤ 64 := by have := a.2.2; omega
  simp [okd, SeqAt.shaped, a.1, a.2.1, this]
theorem sOk_put : PyData.strOk (Str.ofString "put") = true := by decide +kernel
theorem sOk_get : PyData.strOk (Str.ofString "get") = true := by decide +kernel
theorem sOk_fence : PyData.strOk (Str.ofString "fence") = true := by decide +kernel
theorem pl_enc {s : Step} : pl 1 s.enc = true := by cases s <;> simp [Step.enc, pl, pls, sOk_put, sOk_get, sOk_fence]
theorem pl_place {p : Nat × Nat} : pl 1 (encPlace p) = true := rfl
theorem pl_places {l : List (Nat × Nat)} : pl 2 (.list (l.map encPlace)) = true := by
  simp only [pl, pls_iff, List.mem_map]
  rintro _ ⟨p, _, rfl⟩; rfl
theorem pl_row {r : List Step} : pl 2 (encRow r) = true := by
  simp only [encRow, pl, pls_iff, List.mem_map]
  rintro _ ⟨p, _, rfl⟩; exact pl_enc
theorem pl_web {w : Web} : pl 3 (encWeb w) = true := by
  simp only [encWeb, pl, pls_iff, List.mem_map]
  rintro _ ⟨p, _, rfl⟩; exact pl_row
@[simp] theorem okd_places {l : List (Nat × Nat)} : okd (.list (l.map encPlace)) = true := okd_pl pl_places
@[simp] theorem okd_web {w : Web} : okd (encWeb w) = true := okd_pl pl_web
@[simp] theorem okd_row {w : List Step} : okd (encRow w) = true := okd_pl pl_row
@[simp] theorem okd_step {w : Step} : okd w.enc = true := okd_pl pl_enc
@[simp] theorem okd_nil : okd (.list []) = true := okd_pl (n := 1) rfl
@[simp] theorem fmod_pos (a b : Int) (h : 0 ≤ b) : a.fmod b = a % b := Int.fmod_eq_emod_of_nonneg a h
@[simp] theorem fdiv_pos (a b : Int) (h : 0 ≤ b) : a.fdiv b = a / b := Int.fdiv_eq_ediv_of_nonneg a h
@[simp] theorem eqv_int (i j : Int) : PyData.eqv (.int i) (.int j) = decide (i = j) := by simp [PyData.eqv]; rfl
@[simp] theorem eqv_str (i j : Str) : PyData.eqv (.str i) (.str j) = decide (i = j) := by simp [PyData.eqv]; rfl
/-! ### places -/
def goodP (w : Web) : PyData → Bool
  | .tuple [.int a, .int b] => decide (0 ≤ a ∧ 0 ≤ b ∧ (a.toNat, b.toNat) ∈ placesW w)
  | _ => false
theorem goodP_enc {w : Web} {p : Nat × Nat} : goodP w (encPlace p) = true ↔ p ∈ placesW w := by
  simp [goodP, encPlace]
theorem goodP_of {w : Web} {d : PyData} (h : goodP w d = true) : ∃ p, p ∈ placesW w ∧ d = encPlace p := by
  unfold goodP at h
  split at h
  · rename_i a b
    have h := of_decide_eq_true h
    refine ⟨_, h.2.2, ?_⟩
    simp [encPlace, Int.toNat_of_nonneg h.1, Int.toNat_of_nonneg h.2.1]
  · cases h
theorem in_places {l : List (Nat × Nat)} {a b : Int} : anyEqv (l.map encPlace) (.tuple [.int a, .int b]) = decide (0 ≤ a ∧ 0 ≤ b ∧ (a.toNat, b.toNat) ∈ l) := by
  unfold anyEqv
  rw [Bool.eq_iff_iff]
  simp only [List.any_eq_true, List.mem_map, decide_eq_true_eq, encPlace]
  constructor
  · rintro ⟨_, ⟨p, hp, rfl⟩, e⟩
    have e' : (p.1 : Int) = a ∧ (p.2 : Int) = b := by simpa [PyData.eqv, PyData.eqvAll] using e
    obtain ⟨rfl, rfl⟩ := e'
    exact ⟨by omega, by omega, by simpa using hp⟩
  · rintro ⟨ha, hb, h⟩
    exact ⟨_, ⟨_, h, rfl⟩, by simp [PyData.eqv, PyData.eqvAll, Int.toNat_of_nonneg ha, Int.toNat_of_nonneg hb]⟩
def S_fenced (CB CN : Value) : SD := fun rs Q E => ∃ d s, rs = [.leaf d, .leaf s] ∧ ((okWeb d = false ∧ E CB) ∨ ∃ w ds, d = encWeb w ∧ s = .list ds ∧ okWeb d = true ∧ smallW w ∧
  if ds.all (goodP w) = true then Q (nodeW (fencedW (inD ds) w)) else E CN)
/-! ### the script -/
def cellAt (ns : List Int) (k : Int) : Int := ns.getD k.toNat 0
def S_cell_at : SD := fun rs Q _ => ∃ ns k, rs = [.scr ns, .leaf (.int k)] ∧ 0 ≤ k ∧ Q (.leaf (.int (cellAt ns k)))

@[simp] theorem S_cell_eq {ns : List Int} {k : Int} {Q : OT → Prop} {E : Value → Prop} : S_cell_at [.scr ns, .leaf (.int k)] Q E = (0 ≤ k ∧ Q (.leaf (.int (cellAt ns k)))) :=
  propext ⟨fun ⟨_, _, e, h⟩ => by cases e; exact h, fun h => ⟨_, _, rfl, h⟩⟩
/-! ### comprehensions -/
theorem compInv_map {ds : List PyData} {i : Nat} {te : TD} {Γ : Ev} {Q : OT → Prop} (f : PyData → OT) (hf : free1 i Γ) (hl : ds.length ≤ sizeLine) (hs : ∀ d, d ∈ ds → (f d).isScr = false)
    (h : ∀ d, d ∈ ds → ∀ Q' : OT → Prop, Q' (f d) → te (Γ.set i (some (.leaf d))) Q' fun _ => False) (q : Q (.node (ds.map f))) : compInv ds i tYesD te Γ Q := by
  refine ⟨hf, fun n acc => acc = (ds.take n).map f, by simp, fun n d acc e ea => ?_, fun acc ea => by rw [ea, List.take_length]; exact q⟩
  have hn : n < ds.length := (List.getElem?_eq_some_iff.mp e).1
  have hm : d ∈ ds := List.mem_of_getElem? e
  simp only [tYesD, if_true]
  refine h d hm _ ⟨hs d hm, ?_, ?_⟩
  · rw [ea, List.length_map, List.length_take]; omega
  · rw [ea, List.take_add_one, e]; simp
theorem rangeD_const {lo : Int} {n : Nat} {c : OT} : (rangeD lo n).map (fun _ => c) = List.replicate n c := by
  rw [List.map_const']; rw [rangeD_length]
theorem rangeD_map {lo : Int} {n : Nat} {α : Type} (f : PyData → α) : (rangeD lo n).map f = (List.range n).map fun k => f (.int (lo + (k : Nat))) := by
  simp [rangeD, List.map_map, Function.comp_def]
theorem rangeD_mem {lo : Int} {n : Nat} {d : PyData} (h : d ∈ rangeD lo n) : ∃ k, k < n ∧ d = .int (lo + (k : Nat)) := by
  simp [rangeD] at h
  obtain ⟨k, hk, e⟩ := h
  exact ⟨k, hk, e.symm⟩
/-! ### webs of a script -/
def growW (f : Nat → Step) (at' : Nat → Nat → Nat) (n : Nat) (w : Web) : Web := (List.range n).foldl (fun w k => w.modify (at' w.length k) fun r => r ++ [f k]) w
theorem growW_succ {f : Nat → Step} {p : Nat → Nat → Nat} {n : Nat} {w : Web} : growW f p (n + 1) w = (growW f p n w).modify (p (growW f p n w).length n) fun r => r ++ [f n] := by
  simp [growW, List.range_succ]
theorem growW_len {f : Nat → Step} {p : Nat → Nat → Nat} {w : Web} : ∀ n : Nat, (growW f p n w).length = w.length
  | 0 => rfl
  | n + 1 => by rw [growW_succ, List.length_modify, growW_len n]
/-- how many steps -/
def sizeW (w : Web) : Nat := (w.map List.length).sum
theorem size_modify {w : Web} {j : Nat} {s : Step} (h : j < w.length) : sizeW (w.modify j fun r => r ++ [s]) = sizeW w + 1 := by
  induction w generalizing j with
  | nil => simp at h
  | cons r w ih =>
    cases j with
    | zero => simp [sizeW]; omega
    | succ j =>
      have := ih (j := j) (by simpa using h)
      simp [sizeW] at this ⊢
      omega
theorem growW_size {f : Nat → Step} {p : Nat → Nat → Nat} {w : Web} (hp : ∀ k, p w.length k < w.length) : ∀ n : Nat, sizeW (growW f p n w) = sizeW w + n
  | 0 => rfl
  | n + 1 => by
    rw [growW_succ, size_modify, growW_size hp n]; rfl
    rw [growW_len]; exact hp n
theorem nodeW_put {w : Web} {j : Nat} {s : Step} (h : j < w.length) : (nodeW w).put [j] (.node ((w[j].map fun s => .leaf s.enc) ++ [.leaf s.enc])) = nodeW (w.modify j fun r => r ++ [s]) := by
  simp only [nodeW, OT.put, OT.node.injEq]
  apply List.ext_getElem?
  intro m
  simp only [List.getElem?_map, List.getElem?_modify]
  by_cases e : j = m
  · subst e
    simp [List.getElem?_eq_getElem h]
  · simp [e]
theorem nodeW_at {w : Web} {j : Nat} (h : j < w.length) : (nodeW w).at [j] = some (.node (w[j].map fun s => .leaf s.enc)) := by
  simp [nodeW, List.getElem?_eq_getElem h]
/-- numbers of a good web -/
def goodS : Step → Prop
  | .put b n => b < 4 ∧ n.natAbs < 10 ^ 30
  | .get b => b < 4
  | .fence => True
def goodW (w : Web) : Prop := 1 ≤ w.length ∧ w.length ≤ 3 ∧ ∀ r ∈ w, ∀ s ∈ r, goodS s
def deedS : Step → Bool
  | .fence => false
  | _ => true
def deedsW (w : Web) : Nat := (w.flatten.filter deedS).length
theorem isStep_enc {s : Step} (h : goodS s) : isStepD s.enc = true := by
  cases s with
  | put b n => simp [goodS] at h; simp [Step.enc, isStepD, isBoxD, isNumD, h]; omega
  | get b => simp [goodS] at h; simp [Step.enc, isStepD, isBoxD]; omega
  | fence => simp [Step.enc, isStepD]
@[simp] theorem deed_enc {s : Step} : isDeedD s.enc = deedS s := by cases s <;> simp [Step.enc, isDeedD, deedS]
theorem deedsD_enc (w : Web) : deedsD (w.map encRow) = deedsW w := by
  unfold deedsD deedsW
  induction w with
  | nil => rfl
  | cons r w ih =>
    simp only [List.map_cons, List.flatMap_cons, List.flatten_cons, List.filter_append, List.length_append] at ih ⊢
    rw [ih]
    congr 1
    simp [encRow, stepsD, List.filter_map, Function.comp_def]
theorem deeds_size (w : Web) : deedsW w ≤ sizeW w := by
  unfold deedsW sizeW
  refine Nat.le_trans (List.length_filter_le _ _) ?_
  simp [List.length_flatten]
theorem okWeb_enc {w : Web} (g : goodW w) (h : deedsW w ≤ 8) : okWeb (encWeb w) = true := by
  have hr : (w.map encRow).all isRowD = true := by
    simp only [List.all_map, List.all_eq_true]
    intro r hr
    simp only [Function.comp, encRow, isRowD, List.all_map, List.all_eq_true]
    intro s hs
    exact isStep_enc (g.2.2 r hr s hs)
  simp only [encWeb, okWeb, Bool.and_eq_true, decide_eq_true_eq, List.length_map]
  exact ⟨⟨⟨g.1, g.2.1⟩, hr⟩, by rw [deedsD_enc]; exact h⟩
theorem row_size {w : Web} {r : List Step} (h : r ∈ w) : r.length ≤ sizeW w := by
  unfold sizeW
  induction w with
  | nil => simp at h
  | cons a w ih =>
    rcases List.mem_cons.mp h with e | h
    · subst e; simp
    · have := ih h; simp; omega
theorem small_of {w : Web} (g : w.length ≤ 3) (h : sizeW w ≤ 1000) : smallW w := ⟨g, fun r hr => Nat.le_trans (row_size hr) h⟩
theorem growW_good {f : Nat → Step} {p : Nat → Nat → Nat} {w : Web} (g : goodW w) (h : ∀ k, goodS (f k)) : ∀ n : Nat, goodW (growW f p n w)
  | 0 => g
  | n + 1 => by
    have ih := growW_good (p := p) g h n
    refine ⟨by rw [growW_len]; exact g.1, by rw [growW_len]; exact g.2.1, fun r hr s hs => ?_⟩
    rw [growW_succ] at hr
    obtain ⟨m, hm, e⟩ := List.getElem_of_mem hr
    rw [List.getElem_modify] at e
    rw [List.length_modify] at hm
    split at e
    · subst e
      rcases List.mem_append.mp hs with z | z
      · exact ih.2.2 _ (List.getElem_mem _) s z
      · have : s = f n := by simpa using z
        rw [this]; exact h n
    · subst e; exact ih.2.2 _ (List.getElem_mem _) s hs

@[simp high] theorem nodeW_vw {w : Web} : vw (nodeW w) = .leaf (encWeb w) := by
  show OT.leaf (nodeW w).er = _
  rw [nodeW_er]
@[simp high] theorem nodeW_isNode {w : Web} : (nodeW w).isNode = true := rfl
@[simp high] theorem nodeW_isScr {w : Web} : (nodeW w).isScr = false := rfl
theorem ixN_of {n : Nat} {k : Int} (h0 : 0 ≤ k) (h : k < n) : ixN n k = some k.toNat := by
  unfold ixN; rw [if_pos h0, if_pos h]
theorem nodeW_mk {w : Web} : nodeW w = .node (w.map fun r => .node (r.map fun s => .leaf s.enc)) := rfl
/-- an append into a row of a web that grows -/
theorem lst_grow {i : Nat} {Γ : Ev} {w : Web} {k : Int} {Q : Nat → OT → List OT → Prop} (e : Γ[i]? = some (some (nodeW w))) (h0 : 0 ≤ k) (h : k < w.length)
    (q : ∀ hj : k.toNat < w.length, Q k.toNat (nodeW w) (w[k.toNat].map fun s => .leaf s.enc)) : lstAt i [] Γ fun _ ts => ∃ j, ixN ts.length k = some j ∧ lstAt i [j] Γ (Q j) := by
  have hj : k.toNat < w.length := by omega
  refine ⟨_, w.map fun r => .node (r.map fun s => .leaf s.enc), e, rfl, k.toNat, ixN_of h0 (by simpa using h), _, _, e, nodeW_at hj, q hj⟩
theorem grow_all {P : Step → Prop} {f : Nat → Step} {p : Nat → Nat → Nat} {w : Web} {n : Nat} : sizeW (List.replicate n ([] : List Step)) = 0 := by
  induction n with
  | zero => rfl
  | succ n ih => simpa [List.replicate_succ, sizeW] using ih
theorem size_empty {n : Nat} : sizeW (List.replicate n ([] : List Step)) = 0 := grow_all (P := fun _ => True) (f := fun _ => .fence) (p := fun _ _ => 0) (w := [])
theorem log_small {k : Nat} (h : k < 2 ^ 64) : Nat.log2 k < 64 := by
  by_cases e : k = 0
  · subst e; decide
  · exact (Nat.log2_lt e).mpr h

mutual
theorem eqv_refl : ∀ {d : PyData}, nodct d = true → PyData.eqv d d = true
  | .none, _ => by simp [PyData.eqv]
  | .bool _, _ => by simp [PyData.eqv]
  | .int _, _ => by simp
  | .str _, _ => by simp
  | .tuple ds, h => by simp [PyData.eqv]; exact eqvAll_refl (by simpa [nodct] using h)
  | .list ds, h => by simp [PyData.eqv]; exact eqvAll_refl (by simpa [nodct] using h)
  | .dict _, h => by simp [nodct] at h
theorem eqvAll_refl : ∀ {ds : List PyData}, nodcts ds = true → PyData.eqvAll ds ds = true
  | [], _ => by simp [PyData.eqvAll]
  | d :: ds, h => by
    have h' : nodct d = true ∧ nodcts ds = true := by simpa [nodcts] using h
    simp [PyData.eqvAll, eqv_refl h'.1, eqvAll_refl h'.2]
end
theorem okd_refl {d : PyData} (h : okd d = true) : PyData.eqv d d = true := eqv_refl (Bool.and_eq_true_iff.mp h).1
@[simp] theorem eqv_web {w : Web} : PyData.eqv (encWeb w) (encWeb w) = true := okd_refl okd_web
@[simp] theorem eqv_places {l : List (Nat × Nat)} : PyData.eqv (.list (l.map encPlace)) (.list (l.map encPlace)) = true := okd_refl okd_places
theorem mem_places {w : Web} {p : Nat × Nat} : p ∈ placesW w ↔ p.1 < w.length ∧ 1 ≤ p.2 ∧ p.2 < (w.getD p.1 []).length := by
  obtain ⟨h, k⟩ := p
  simp only [placesW, rowPlaces, List.mem_flatMap, List.mem_range, List.mem_map, Prod.mk.injEq]
  constructor
  · rintro ⟨a, ha, b, hb, rfl, rfl⟩
    exact ⟨ha, by omega, by omega⟩
  · rintro ⟨h1, h2, h3⟩
    exact ⟨h, h1, k - 1, by omega, rfl, by omega⟩
@[simp] theorem eqOk_lst {a b : List PyData} : eqOk (.list a) (.list b) = (okd (.list a) && okd (.list b)) := rfl
@[simp] theorem eqOk_web {w v : Web} : eqOk (encWeb w) (encWeb v) = true := by
  show (okd (encWeb w) && okd (encWeb v)) = true
  rw [okd_web, okd_web]; rfl
theorem places_le {w : Web} (s : smallW w) : (placesW w).length ≤ 3000 := by
  have := places_len s w.length
  have := s.1
  unfold placesW
  omega
@[simp] theorem er_enc_row (w : Web) : OT.ers (w.map fun r => .leaf (encRow r)) = w.map encRow := ers_leaf' encRow w

@[simp] theorem ers_append (a b : List OT) : OT.ers (a ++ b) = OT.ers a ++ OT.ers b := by simp [ers_map]
@[simp] theorem ers_comp {α : Type} (f : α → PyData) (l : List α) : OT.ers (l.map (OT.leaf ∘ f)) = l.map f := ers_leaf' f l
theorem ers_id (l : List PyData) : OT.ers (l.map OT.leaf) = l := ers_leaf l
theorem ers_len (l : List OT) : (OT.ers l).length = l.length := by simp [ers_map]
theorem atI_at {α : Type} {xs : List α} {k : Int} (h : 0 ≤ k) : atI xs k = xs[k.toNat]? := by
  unfold atI ixN
  rw [if_pos h]
  by_cases h2 : k < xs.length
  · rw [if_pos h2]; rfl
  · rw [if_neg h2]
    exact (List.getElem?_eq_none (by omega)).symm
end FW

set_option Elab.async false
set_option linter.all false
set_option maxRecDepth 100000
set_option maxHeartbeats 4000000
namespace FW
open PySem PySem.Spec PyProof.Rows L2
/-! ### try .. except C as e -/
section
variable {X : Cx} {W : WX} {fx : List Nat} {body suite : List Stmt} {b₀ : Stmt} {tb : TDS} {np pos pos' p q2 : Pos} {x n : Str} {c : Value} {i : Nat}
@[simp] def suiteE (i : Nat) (D : DEnds) : DEnds := { nx := fun Γ => free1 i Γ ∧ D.nx (Γ.set i none), rt := D.rt, bk := fun Γ => free1 i Γ ∧ D.bk (Γ.set i none), ct := fun Γ => free1 i Γ ∧ D.ct (Γ.set i none), ex := fun _ _ => False, rf := D.rf }
def caught (K : PySem.W.Frag) (c : Value) (i : Nat) (ts : Addr → Addr → TDS) (D : DEnds) (cls : Value) (Γ : Ev) : Prop :=
  ∃ b, PySem.W.exmOne K cls c = some b ∧ (b = true → i < Γ.length ∧ ∃ Dc, cls = .ref Dc ∧ ExcC K Dc ∧ ∀ a, ts a Dc (suiteE i D) (Γ.set i (some (.exn a)))) ∧ (b = false → D.ex cls Γ)
@[simp] def tTryAs (K : PySem.W.Frag) (c : Value) (i : Nat) (tb : TDS) (ts : Addr → Addr → TDS) : TDS := fun D Γ => tb { D with ex := caught K c i ts D } Γ
theorem ds_tryAs {ts : Addr → Addr → TDS} (hs : X.stack = X.env :: X.outer) (hf : X.env.frame = some X.env.locals) (hN : X.N.Nodup) (hi : X.N[i]? = some n) (hln : X.env.kindOf n = some .local) (hc : Names X x c) (tk : Takes X W)
    (hb : ∀ (W : WX) (pn : List (Addr × Obj)) (xe : Value → Shared → Prop), Takes (X.tr pn xe) W → PassesOwn (model X.prog X.w) X.A X.env xe → DSs (X.tr pn xe) W fx body tb)
    (hsu : ∀ (a : Addr) (oe : Obj) (Dc : Addr) (pn : List (Addr × Obj)), ExcC X.K Dc → Zc (.ref Dc) none oe → (∃ vs, oe.data = .fields vs) → DSs (X.suite a ((a, oe) :: pn)) W0 fx (b₀ :: suite) (ts a Dc)) (hfx : i ∉ fx := by decide) :
    DS X W fx (.Try body [.ExceptHandler (some (.Name x np)) (some n) (b₀ :: suite) pos'] [] [] pos) (tTryAs X.K c i tb ts) := by
  refine PS.imp (ps_try_as (tb := fun W' => liftS X.K W' fx tb) (ts := fun a cls d D σ H => ∃ Dc, cls = .ref Dc ∧ d = none ∧ ExcC X.K Dc ∧ liftS X.K W0 fx (ts a Dc) D σ H) hs hf hN hi hln hc tk hb fun a oe cls d pn hz hfl => ?_) fun D σ H h => ?_
  · refine ⟨fun pins s σ H D I ⟨Dc, e1, e2, C, q⟩ => ?_⟩
    subst e1 e2
    exact (hsu a oe Dc pn C hz hfl).run pins s σ H D I q
  · obtain ⟨φ, A, Γ, Dd, rel, q, er⟩ := h
    refine ⟨φ, A, Γ, _, rel, q, ⟨er.nx, er.rt, er.bk, er.ct, fun cls σ1 H1 A1 Γ1 r1 ⟨b, eb, qt, qf⟩ => ⟨b, eb, fun hb a ha => ?_, fun hb => er.ex cls σ1 H1 A1 Γ1 r1 (qf hb)⟩, er.rf⟩⟩
    obtain ⟨hl, Dc, ec, C, q2⟩ := qt hb
    obtain ⟨A2, r2, _⟩ := r1.set (Same.refl _) (t := .exn a) (v := .ref a) ⟨[], List.nodup_nil, fun _ h => by simp at h, .exn⟩ hl hfx
    refine ⟨Dc, ec, rfl, C, φ, A2, _, _, r2, q2 a, ⟨fun σ' H' A' Γ' r' ⟨fr, q'⟩ => er.nx _ _ A' _ (r'.wipe fr hfx) q', er.rt, fun σ' H' A' Γ' r' ⟨fr, q'⟩ => er.bk _ _ A' _ (r'.wipe fr hfx) q', fun σ' H' A' Γ' r' ⟨fr, q'⟩ => er.ct _ _ A' _ (r'.wipe fr hfx) q', fun _ _ _ _ _ _ z => z.elim, er.rf⟩⟩
/-- isinstance(e, C), e the exception that the suite holds -/
@[simp] def tIsE (K : PySem.W.Frag) (a D : Addr) (cv : Value) (i : Nat) : TD := fun Γ Q _ => Γ[i]? = some (some (.exn a)) ∧ ∃ b, PySem.W.kitOne K (.ref D) cv = some b ∧ Q (.leaf (.bool b))
variable {a D : Addr} {oe : Obj} {pn : List (Addr × Obj)}
theorem de_isE {C : Addr} {xe xc : Str} (i : Nat) (ec : ExcC X.K D) (hz : Zc (.ref D) none oe) (hf : ∃ vs, oe.data = .fields vs) (hg : Gl X "isinstance") (m : X.mg "isinstance" = none) (hgC : Gl X xc) (hC : X.mg xc = some (.ref C)) (hN : X.N[i]? = some xe := by rfl)
    (hv : Vis X.env.scope xe := by first | exact Or.inl rfl | exact Or.inr (Or.inl rfl) | exact Or.inr (Or.inr rfl)) (hd : (xe == ("__debug__" : Str)) = false := by decide)
    (hcd : (xe == ("__classdict__" : Str)) = false := by decide) (hdc : (xc == ("__debug__" : Str)) = false := by decide)
    (hs : starEach [.Name xe pos', .Name xc q2] X.env = (false, eval (.Name xe pos') X.env) :: starEach [.Name xc q2] X.env := by rfl) (hs2 : starEach [.Name xc q2] X.env = (false, eval (.Name xc q2) X.env) :: starEach [] X.env := by rfl)
    (hpl : (backTo pos (starEach [.Name xc q2] X.env)).any (·.1) = false := by rfl) :
    DE (X.suite a ((a, oe) :: pn)) W fx (.Call (.Name "isinstance" p) [.Name xe pos', .Name xc q2] [] pos) (tIsE X.K a D (.ref C) i) := by
  refine PE.imp (pe_callB (call_isE (pn := pn) ec hz hf) hg m bb_isinstance (pa_cons (pe_var (i := i) hN hv hd hcd) (pa_cons (pe_glob (v := .ref C) hgC hC rfl hdc) pa_nil hs2) hs) (he := hs) (hpl := hpl)) fun σ H Q ⟨φ, A, Γ, Qd, Ed, rel, ⟨e1, b, eb, q⟩, k, ke⟩ => ?_
  obtain ⟨v, B, e2, o, _⟩ := rel.env.get e1
  cases o with
  | exn => exact ⟨.ref a, e2, .ref C, .ref C, b, rfl, fun u r => r, eb, k _ _ H (Same.refl _) (.leaf (.bl _)) q⟩
theorem de_isEB {T : String} {xe xc : Str} (i : Nat) (ec : ExcC X.K D) (hz : Zc (.ref D) none oe) (hf : ∃ vs, oe.data = .fields vs) (hg : Gl X "isinstance") (m : X.mg "isinstance" = none) (hgC : Gl X xc) (mC : X.mg xc = none) (bC : bootBuiltins xc = some (.type T)) (hn : xc ≠ "__name__") (hN : X.N[i]? = some xe := by rfl)
    (hv : Vis X.env.scope xe := by first | exact Or.inl rfl | exact Or.inr (Or.inl rfl) | exact Or.inr (Or.inr rfl)) (hd : (xe == ("__debug__" : Str)) = false := by decide)
    (hcd : (xe == ("__classdict__" : Str)) = false := by decide) (hdc : (xc == ("__debug__" : Str)) = false := by decide)
    (hs : starEach [.Name xe pos', .Name xc q2] X.env = (false, eval (.Name xe pos') X.env) :: starEach [.Name xc q2] X.env := by rfl) (hs2 : starEach [.Name xc q2] X.env = (false, eval (.Name xc q2) X.env) :: starEach [] X.env := by rfl)
    (hpl : (backTo pos (starEach [.Name xc q2] X.env)).any (·.1) = false := by rfl) :
    DE (X.suite a ((a, oe) :: pn)) W fx (.Call (.Name "isinstance" p) [.Name xe pos', .Name xc q2] [] pos) (tIsE X.K a D (.type T) i) := by
  refine PE.imp (pe_callB (call_isE (pn := pn) ec hz hf) hg m bb_isinstance (pa_cons (pe_var (i := i) hN hv hd hcd) (pa_cons (pe_bltn (v := .ty T) hgC mC bC rfl hn hdc) pa_nil hs2) hs) (he := hs) (hpl := hpl)) fun σ H Q ⟨φ, A, Γ, Qd, Ed, rel, ⟨e1, b, eb, q⟩, k, ke⟩ => ?_
  obtain ⟨v, B, e2, o, _⟩ := rel.env.get e1
  cases o with
  | exn => exact ⟨.ref a, e2, .ty T, .type T, b, rfl, fun u r => r, eb, k _ _ H (Same.refl _) (.leaf (.bl _)) q⟩
end
theorem bb_ValueError : bootBuiltins "ValueError" = some (.type "ValueError") := by decide +kernel
/-! ### a loop over an owned list whose items go out, one by one, to the loop's name -/
section
variable {X : Cx} {W : WX} {fx : List Nat} {body : List Stmt} {tb : TDS} {pos p p2 : Pos} {x n : Str} {i j : Nat}
def tForMv (j i : Nat) (tb : TDS) : TDS := fun D Γ => ∃ ts, Γ[j]? = some (some (.node ts)) ∧ ∃ Iv : Nat → Ev → Prop, Iv 0 (Γ.set j none) ∧
  (∀ n t Γ', ts[n]? = some t → Iv n Γ' → i < Γ'.length ∧ tb { D with nx := Iv (n + 1), ct := Iv (n + 1), bk := D.nx } (Γ'.set i (some t))) ∧ ∀ Γ', Iv ts.length Γ' → D.nx Γ'
theorem ds_forMv (po : PassesOwn (model X.prog X.w) X.A X.env X.xe) (hc : X.calm = true) (hp : PG X (.Name n p2) (gName i)) (hb : DSs X W fx body tb) (hN : X.N[j]? = some x := by rfl) (hv : Vis X.env.scope x := by first | exact Or.inl rfl | exact Or.inr (Or.inl rfl) | exact Or.inr (Or.inr rfl)) (hd : (x == ("__debug__" : Str)) = false := by decide)
    (hcd : (x == ("__classdict__" : Str)) = false := by decide) (hf : i ∉ fx := by decide) (hs : ∀ z, foldedSetIterable (.Name x p) X.env z = pure z := by intro _; rfl) :
    DS X W fx (.For (.Name n p2) (.Name x p) body [] pos) (tForMv j i tb) := PS.imp (ps_for po hc (pi_list (pe_var hN hv hd hcd)) hp hb hs) fun D σ H ⟨φ, A, Γ, Dd, rel, ⟨ts, e1, Iv, i0, turn, fin⟩, er⟩ => by
  obtain ⟨v, B, A0, h1, h2, h3, h4, h5, h6, h7⟩ := rel.env.out rel.nd e1
  have r0 : Rel X.K fx φ A0 σ H (Γ.set j none) := rel.sub h3 h5 h7
  cases h2 with
  | @node pl vs _ As hpl ow =>
  have lv := ow.length
  have sub0 : ∀ a, a ∈ (pl :: As) ++ (A0 ++ φ.Z) → a ∈ A ++ φ.Z := fun a ha => by
    rcases List.mem_append.mp ha with y | y
    · exact List.mem_append_left _ (h6 a y).1
    · rcases List.mem_append.mp y with y | y
      · exact List.mem_append_left _ (h7 a y)
      · exact List.mem_append_right _ y
  refine ⟨.ref pl, h1, pl, rfl, ⟨vs, .inl (.inl hpl)⟩, fun n m σ' H' => m = ts.length - n ∧ n ≤ ts.length ∧ ∃ A' Γ' Rs, Rel X.K fx φ A' σ' H' Γ' ∧ EnvR X.K (hid ((pl :: Rs) ++ (A' ++ φ.Z)) H') H' σ' Γ' A' ∧ Iv n Γ' ∧ H' pl = some (.lst vs) ∧
    Owns X.K (hid ((pl :: Rs) ++ (A' ++ φ.Z)) H') H' (vs.drop n) (ts.drop n) Rs ∧ (pl :: Rs).Nodup ∧ ∀ a, a ∈ pl :: Rs → a ∉ A' ++ φ.Z ∧ (a ∈ φ.A0 ∨ φ.H0 a = none), ⟨ts.length, by simp, Nat.zero_le _, A0, _, As, r0, h3.mono (hid_sub sub0) fun a _ o q => q, i0, hpl, ow.mono (hid_sub sub0) fun a _ o q => q, h4, fun a ha => ⟨fun z => ?_, rel.own a (h6 a ha).1⟩⟩, ?_⟩
  · rcases List.mem_append.mp z with z | z
    · exact (h6 a ha).2 z
    · exact rel.az a (h6 a ha).1 z
  rintro n m σ' H' ⟨rfl, hn, A', Γ', Rs, r1, ev, iv, hpl', ow', nd', dj⟩
  by_cases hlt : n < ts.length
  · have hlv : n < vs.length := by rw [lv]; exact hlt
    have et : ts[n]? = some ts[n] := List.getElem?_eq_getElem hlt
    rw [List.drop_eq_getElem_cons hlt, List.drop_eq_getElem_cons hlv] at ow'
    generalize ht : ts[n] = t at *
    obtain ⟨hiL, qb⟩ := turn n t Γ' et iv
    refine .inr ⟨⟨vs, vs[n], .inl (.inl hpl'), List.getElem?_eq_getElem hlv⟩, fun σ3 H3 => n + 1 ≤ ts.length ∧ ∃ A' Γ' Rs, Rel X.K fx φ A' σ3 H3 Γ' ∧ EnvR X.K (hid ((pl :: Rs) ++ (A' ++ φ.Z)) H3) H3 σ3 Γ' A' ∧ Iv (n + 1) Γ' ∧ H3 pl = some (.lst vs) ∧
      Owns X.K (hid ((pl :: Rs) ++ (A' ++ φ.Z)) H3) H3 (vs.drop (n + 1)) (ts.drop (n + 1)) Rs ∧ (pl :: Rs).Nodup ∧ ∀ a, a ∈ pl :: Rs → a ∉ A' ++ φ.Z ∧ (a ∈ φ.A0 ∨ φ.H0 a = none), fun σ3 H3 h3 => ⟨ts.length - (n + 1), by omega, rfl, h3⟩, fun x H2 y => ?_⟩
    obtain ⟨e2, y⟩ := y
    have e2 := e2.symm
    subst e2
    have ex := y vs (.inl (.inl hpl'))
    rw [List.getElem?_eq_getElem hlv] at ex
    cases ex
    cases ow' with
    | @cons _ _ _ _ C R ns hC hR =>
    have ndR := List.nodup_cons.mp nd'
    have ndA := List.nodup_append.mp ndR.2
    have djC : ∀ a, a ∈ C → a ∉ A' := fun a ha z => (dj a (List.mem_cons_of_mem _ (List.mem_append_left _ ha))).1 (List.mem_append_left _ z)
    obtain ⟨A2, k1, k2, k3⟩ := ev.set (by rw [ev.length]; exact hiL) hC r1.nd ndA.1 djC
    have subA : ∀ a, a ∈ A2 ++ ((pl :: R) ++ φ.Z) → a ∈ (pl :: (C ++ R)) ++ (A' ++ φ.Z) := fun a ha => by
      simp only [List.cons_append, List.mem_cons, List.mem_append] at ha ⊢
      rcases ha with z | z | z | z
      · rcases k3 a z with z | z
        · exact .inr (.inl (.inl z))
        · exact .inr (.inr (.inl z))
      · exact .inl z
      · exact .inr (.inl (.inr z))
      · exact .inr (.inr (.inr z))
    have nA2 : ∀ a, a ∈ pl :: R → a ∉ A2 := fun a ha z => by
      rcases k3 a z with z | z
      · rcases List.mem_cons.mp ha with y | y
        · exact ndR.1 (y ▸ List.mem_append_left _ z)
        · exact ndA.2.2 a z a y rfl
      · refine (dj a ?_).1 (List.mem_append_left _ z)
        rcases List.mem_cons.mp ha with y | y
        · exact y ▸ List.mem_cons_self
        · exact List.mem_cons_of_mem _ (List.mem_append_right _ y)
    have azA2 : ∀ a, a ∈ A2 → a ∉ φ.Z := fun a ha z => by
      rcases k3 a ha with y | y
      · exact (dj a (List.mem_cons_of_mem _ (List.mem_append_left _ y))).1 (List.mem_append_right _ z)
      · exact r1.az a y z
    have ownA2 : ∀ a, a ∈ A2 → a ∈ φ.A0 ∨ φ.H0 a = none := fun a ha => by
      rcases k3 a ha with y | y
      · exact (dj a (List.mem_cons_of_mem _ (List.mem_append_left _ y))).2
      · exact r1.own a y
    have fixA2 : ∀ k, k ∈ fx → (σ'.set i (some vs[n]))[k]? = φ.s0[k]? := fun k hk => by
      rw [List.getElem?_set_ne (fun e : i = k => hf (e.symm ▸ hk))]; exact r1.fix k hk
    have r2 : Rel X.K fx φ A2 (σ'.set i (some vs[n])) H' (Γ'.set i (some t)) := by
      refine ⟨k1.mono (hid_sub fun a ha => subA a ?_) fun a _ o q => q, k2, azA2, r1.keep, ownA2, r1.zs, r1.a0, fixA2⟩
      rcases List.mem_append.mp ha with z | z
      · exact List.mem_append_left _ z
      · exact List.mem_append_right _ (List.mem_append_right _ z)
    have lstR : ∀ a, a ∈ pl :: R → ∃ xs : LxO, H' a = some xs.ho := fun a ha => by
      rcases List.mem_cons.mp ha with y | y
      · exact ⟨.lst vs, y ▸ hpl'⟩
      · exact hR.there a y
    have b2 : Rel X.K fx ⟨(pl :: R) ++ φ.Z, H', A2, φ.s0⟩ A2 (σ'.set i (some vs[n])) H' (Γ'.set i (some t)) := by
      refine ⟨k1.mono (hid_sub subA) fun a _ o q => q, k2, fun a ha hz => ?_, fun b o q _ => q, fun a h => .inl h, fun a ha => ?_, fun a h => r2.dom a (List.mem_append_left _ h), fixA2⟩
      · rcases List.mem_append.mp hz with z | z
        · exact nA2 a z ha
        · exact azA2 a ha z
      · rcases List.mem_append.mp ha with z | z
        · exact ⟨nA2 a z, lstR a z⟩
        · exact ⟨fun y => azA2 a y z, r2.dom a (List.mem_append_right _ z)⟩
    have cmn : ∀ {A3 : List Addr}, ∀ a, a ∈ (pl :: R) ++ (A3 ++ φ.Z) → a ∈ A3 ++ ((pl :: R) ++ φ.Z) := fun a ha => by
      simp only [List.mem_append] at ha ⊢
      rcases ha with z | z | z
      · exact .inr (.inl z)
      · exact .inl z
      · exact .inr (.inr z)
    have next : ∀ σ3 H3 A3 Γ3, Rel X.K fx ⟨(pl :: R) ++ φ.Z, H', A2, φ.s0⟩ A3 σ3 H3 Γ3 → Iv (n + 1) Γ3 → n + 1 ≤ ts.length ∧ ∃ A' Γ' Rs, Rel X.K fx φ A' σ3 H3 Γ' ∧ EnvR X.K (hid ((pl :: Rs) ++ (A' ++ φ.Z)) H3) H3 σ3 Γ' A' ∧ Iv (n + 1) Γ' ∧ H3 pl = some (.lst vs) ∧
        Owns X.K (hid ((pl :: Rs) ++ (A' ++ φ.Z)) H3) H3 (vs.drop (n + 1)) (ts.drop (n + 1)) Rs ∧ (pl :: Rs).Nodup ∧ ∀ a, a ∈ pl :: Rs → a ∉ A' ++ φ.Z ∧ (a ∈ φ.A0 ∨ φ.H0 a = none) := fun σ3 H3 A3 Γ3 r3 q3 => by
      refine ⟨hlt, A3, Γ3, R, r2.unbase r3, r3.env.mono (hid_sub cmn) fun a _ o q => q, q3, r3.keep pl _ hpl' (nA2 pl List.mem_cons_self), hR.mono (((hid_sub subA).trans r3.stays).trans (hid_sub cmn)) fun a ha o q => r3.keep a o q (nA2 a (List.mem_cons_of_mem _ ha)), List.nodup_cons.mpr ⟨fun z => ndR.1 (List.mem_append_right _ z), ndA.2.1⟩, fun a ha => ⟨fun z => ?_, (dj a ?_).2⟩⟩
      · rcases List.mem_append.mp z with z | z
        · exact r3.az a z (List.mem_append_left _ ha)
        · refine (dj a ?_).1 (List.mem_append_right _ z)
          rcases List.mem_cons.mp ha with y | y
          · exact y ▸ List.mem_cons_self
          · exact List.mem_cons_of_mem _ (List.mem_append_right _ y)
      · rcases List.mem_cons.mp ha with y | y
        · exact y ▸ List.mem_cons_self
        · exact List.mem_cons_of_mem _ (List.mem_append_right _ y)
    refine ⟨_, A2, _, _, b2, qb, ⟨next, fun σ3 H3 A3 Γ3 v r As r3 n' f o q3 => ?_, fun σ3 H3 A3 Γ3 r3 q3 => er.nx σ3 H3 A3 Γ3 (r2.unbase r3) q3, next, fun c σ3 H3 A3 Γ3 r3 q3 => er.ex c σ3 H3 A3 Γ3 (r2.unbase r3) q3, fun σ3 H3 A3 Γ3 v r3 z q3 => er.rf σ3 H3 A3 Γ3 v (r2.unbase r3) z q3⟩⟩
    refine er.rt σ3 H3 A3 Γ3 v r As (r2.unbase r3) n' (fun a ha => ⟨fun z => (f a ha).1 ?_, ?_⟩) (o.mono (hid_sub fun a ha => ?_) fun a _ o q => q) q3
    · rcases List.mem_append.mp z with z | z
      · exact List.mem_append_left _ z
      · exact List.mem_append_right _ (List.mem_append_right _ z)
    · rcases (f a ha).2 with z | z
      · exact .inl (r2.fresh z)
      · exact (ownA2 a z).elim .inr .inl
    · simp only [List.mem_append] at ha ⊢
      rcases ha with z | z | z
      · exact .inl z
      · exact .inr (.inl z)
      · exact .inr (.inr (.inr z))
  · have e : n = ts.length := by omega
    subst e
    exact .inl ⟨⟨vs, .inl (.inl hpl'), Nat.le_of_eq lv⟩, er.nx σ' H' A' Γ' r1 (fin Γ' iv)⟩
end

@[simp] theorem vw_vw {t : OT} : vw (vw t) = vw t := by cases t <;> rfl
@[simp] theorem isNode_vw {t : OT} : (vw t).isNode = false := by cases t <;> rfl
@[simp] theorem isScr_vw {t : OT} : (vw t).isScr = t.isScr := by cases t <;> rfl
@[simp] theorem er_vw {t : OT} : (vw t).er = t.er := by cases t <;> rfl
def copyD (d : PyData) : OT := .node ((stepsD d).map .leaf)
@[simp] theorem copy_web {w : Web} : OT.ers ((w.map encRow).map copyD) = w.map encRow := by
  rw [ers_map, List.map_map, List.map_map]
  apply List.map_congr_left
  intro r _
  simp [copyD, encRow, stepsD, ers_map, Function.comp_def]
@[simp] theorem cxK {Y : CXT} {P : Program} {w : World} {K : PySem.W.Frag} {mg : Str → Option Value} {base : Heap} {N : List Str} {q : Str} {sc : Scope} {f : Addr} {cdv : Value} {A : Around} {outer : List Env} {s : Shared} {H : Hp} {E : XK} :
    (cxOf Y P w K mg base N q sc f cdv A outer s H E).K = K := rfl
theorem cell_mod (x : Int) {n : Int} (h : 0 < n) : 0 ≤ x % n ∧ x % n < n := ⟨Int.emod_nonneg _ (by omega), Int.emod_lt_of_pos _ h⟩

@[simp] theorem copy_web' {w : Web} : OT.ers (w.map (copyD ∘ encRow)) = w.map encRow := by
  have h := copy_web (w := w)
  rwa [List.map_map] at h
theorem list_enc {w : Web} : PyData.list (w.map encRow) = encWeb w := rfl

@[simp] theorem eqv_nil {l : List PyData} : PyData.eqv (.list l) (.list []) = l.isEmpty := by cases l <;> simp [PyData.eqv, PyData.eqvAll]
@[simp] theorem fmod_succ (a : Int) (n : Nat) : a.fmod ((n : Int) + 1) = a % ((n : Int) + 1) := fmod_pos a _ (by omega)
@[simp] theorem succ_ne0 (n : Nat) : ((n : Int) + 1 = 0) = False := eq_false (by omega)
theorem cutL_len {α : Type} (l : List α) (a b : Option Int) : (cutL l a b).length ≤ l.length := by
  unfold cutL
  rw [List.length_take, List.length_drop]
  omega
@[simp] theorem isList_web {w : Web} : isListD (encWeb w) = true := rfl
theorem fencedW_row {p : Nat → Nat → Bool} {w : Web} (s : smallW w) {r : List Step} (h : r ∈ fencedW p w) : r.length ≤ 2000 := by
  obtain ⟨n, hn, e⟩ := List.getElem_of_mem h
  have hn' : n < w.length := by simpa [fencedW] using hn
  have e2 : (fencedW p w)[n] = insF (p n) 0 w[n] := by simp [fencedW]
  rw [e2] at e
  subst e
  have := insF_len (p n) w[n] 0
  have := s.2 _ (List.getElem_mem hn')
  omega
end FW

set_option Elab.async false
set_option linter.all false
set_option maxRecDepth 100000
set_option maxHeartbeats 4000000
namespace FW
open PySem PySem.Spec PyProof.Rows L2
/-! ### the end: the law's promise at the head -/
section
variable {K : PySem.W.Frag}
theorem kit_own {D C : Addr} {b : Bool} (h : PySem.W.subIn K (.ref D) (.ref C) = some b) (hs : PySem.W.subIn K (.ref C) (.ref C) = some true) (hi : PySem.W.isClsIn K C = true) (ht : PySem.W.typeIn K (.ref C) = some (.type "type")) : PySem.W.kitOne K (.ref D) (.ref C) = some b := by
  unfold PySem.W.kitOne
  split
  · rename_i e
    have e2 : Value.ref D = Value.ref C := by simpa using e
    cases e2
    rw [hs] at h
    exact h
  · unfold PySem.W.kitCls
    have h2' : (PySem.W.clsIn K C).isSome = true := hi
    have e2 : ((PySem.W.clsIn K C).isSome && PySem.W.typeIn K (.ref C) == some (.type "type")) = true := by rw [h2', ht] <;> rfl
    simp only [e2, if_true]
    exact h
theorem exm_own {D C : Addr} {b : Bool} (h : PySem.W.subIn K (.ref D) (.ref C) = some b) (hb : PySem.W.subIn K (.ref C) (.type "BaseException") = some true) (hi : PySem.W.isClsIn K C = true) (ht : PySem.W.typeIn K (.ref C) = some (.type "type")) : PySem.W.exmOne K (.ref D) (.ref C) = some b := by
  have e1 : (PySem.W.subIn K (.ref C) (.type "BaseException") == some true) = true := by rw [hb] <;> rfl
  have e2 : ((PySem.W.clsIn K C).isSome && PySem.W.typeIn K (.ref C) == some (.type "type")) = true := by
    have h2' : (PySem.W.clsIn K C).isSome = true := hi
    rw [h2', ht] <;> rfl
  show (if (PySem.W.subIn K (.ref C) (.type "BaseException") == some true) = true then (if ((PySem.W.clsIn K C).isSome && PySem.W.typeIn K (.ref C) == some (.type "type")) = true then PySem.W.subIn K (.ref D) (.ref C) else none) else none) = some b
  rw [if_pos e1, if_pos e2]
  exact h
theorem kit_VE {D : Addr} {b : Bool} (h : PySem.W.subIn K (.ref D) (.type "ValueError") = some b) : PySem.W.kitOne K (.ref D) (.type "ValueError") = some b := by
  have e : (Value.ref D == Value.type "ValueError") = false := by
    cases z : (Value.ref D == Value.type "ValueError") with
    | false => rfl
    | true =>
      have : Value.ref D = Value.type "ValueError" := by simpa using z
      cases this
  have m : PySem.W.kitMeta "ValueError" = true := by decide +kernel
  unfold PySem.W.kitOne
  rw [e]
  unfold PySem.W.kitCls
  simp only [m, if_true]
  exact h
/-- a law that answers True to every script, told as a promise -/
theorem sp_true {S : SD} {n : Nat} (hS : ∀ ns : List Int, ns.length ≤ n → (∀ z ∈ ns, Builtin.Int.intBits z ≤ 1048576) → S [.scr ns] (fun r => r = .leaf (.bool true)) fun _ => False) (H : Hp) (a : Addr) (ns : List Int) (h1 : ns.length ≤ n) (hb : ∀ z ∈ ns, Builtin.Int.intBits z ≤ 1048576) (hO : Only H) (h : SqL K H a (ns.map V.int)) :
    spP K S [.ref a] H (fun v _ => v = .bl true) fun _ _ _ => False := by
  refine ⟨[], [.scr ns], _, _, fun a h => by simp at h, .cons (.scr (by rw [hid_nil]; exact h)) .nil, hS ns h1 hb, fun y v H' s r e => ?_, fun c H' s z => z⟩
  subst e
  exact (r.cv fun a h => by simp at h).bl rfl
end
theorem cx_no {P : Program} {w : World} {H : Hp} {s : Shared} {e : Value} {s' : Shared} (h : L2.CX P w [] H s (fun _ _ _ => False) e s') : False := by
  obtain ⟨a, B, H', cls, d, _, _, _, _, _, _, _, z⟩ := h
  exact z
end FW

set_option Elab.async false
set_option linter.all false
set_option maxRecDepth 100000
set_option maxHeartbeats 4000000
namespace FW
open PySem PySem.Spec PyProof.Rows L2
/-! ### states -/
structure Sta where
  done : List Nat
  lines : List (List (Nat × Int))
  box : List Int
  got : List (List Int)
  deriving DecidableEq
def natsD (l : List Nat) : PyData := .tuple (l.map fun n => .int (n : Nat))
def intsD (l : List Int) : PyData := .tuple (l.map .int)
def pairD (p : Nat × Int) : PyData := .tuple [.int (p.1 : Nat), .int p.2]
def lineD (l : List (Nat × Int)) : PyData := .tuple (l.map pairD)
def linesD (l : List (List (Nat × Int))) : PyData := .tuple (l.map lineD)
def gotD (l : List (List Int)) : PyData := .tuple (l.map intsD)
def encSt (s : Sta) : PyData := .tuple [natsD s.done, linesD s.lines, intsD s.box, gotD s.got]
def st0 (w : Web) : Sta := ⟨w.map fun _ => 0, w.map fun _ => [], [0, 0, 0, 0], w.map fun _ => []⟩
/-- a state that fits a web -/
structure Fit (w : Web) (s : Sta) : Prop where
  d : s.done.length = w.length
  l : s.lines.length = w.length
  b : s.box.length = 4
  g : s.got.length = w.length
  le : ∀ h, s.done.getD h 0 ≤ (w.getD h []).length
  ll : ∀ h, (s.lines.getD h []).length ≤ s.done.getD h 0
  gl : ∀ h, (s.got.getD h []).length ≤ s.done.getD h 0
  lb : ∀ h, ∀ p ∈ s.lines.getD h [], p.1 < 4
/-- the move of a hand; true: send -/
def canS (w : Web) (s : Sta) (h : Nat) (k : Bool) : Bool :=
  if k then decide (s.lines.getD h [] ≠ []) else decide (s.done.getD h 0 ≠ (w.getD h []).length) && (decide ((w.getD h [])[s.done.getD h 0]? ≠ some .fence) || decide (s.lines.getD h [] = []))
def kindS (k : Bool) : Str := if k then "send" else "step"
def moveD (m : Nat × Bool) : PyData := .tuple [.int (m.1 : Nat), .str (kindS m.2)]
def canD (w : Web) (s : Sta) : PyData → Bool
  | .tuple [.int h, .str x] => decide (0 ≤ h ∧ h < w.length) && ((decide (x = "send") && canS w s h.toNat true) || (decide (x = "step") && canS w s h.toNat false))
  | _ => false
def seenS (s : Sta) (h b : Nat) : Int := (s.lines.getD h []).foldl (fun f p => if p.1 = b then p.2 else f) (s.box.getD b 0)
def stepS (w : Web) (s : Sta) (h : Nat) : Sta :=
  let done := s.done.set h (s.done.getD h 0 + 1)
  match (w.getD h [])[s.done.getD h 0]? with
  | some (.put b n) => { s with done := done, lines := s.lines.set h (s.lines.getD h [] ++ [(b, n)]) }
  | some (.get b) => { s with done := done, got := s.got.set h (s.got.getD h [] ++ [seenS s h b]) }
  | _ => { s with done := done }
def sendS (s : Sta) (h : Nat) : Sta := match s.lines.getD h [] with
  | p :: r => { s with lines := s.lines.set h r, box := s.box.set p.1 p.2 }
  | [] => s
def moveS (w : Web) (s : Sta) (m : Nat × Bool) : Sta := if m.2 then sendS s m.1 else stepS w s m.1
theorem fit0 {w : Web} : Fit w (st0 w) := by
  refine ⟨by simp [st0], by simp [st0], rfl, by simp [st0], fun h => ?_, fun h => ?_, fun h => ?_, fun h p hp => ?_⟩
  · simp only [st0, List.getD_eq_getElem?_getD, List.getElem?_map]; cases w[h]? <;> simp
  · simp only [st0, List.getD_eq_getElem?_getD, List.getElem?_map]; cases w[h]? <;> simp
  · simp only [st0, List.getD_eq_getElem?_getD, List.getElem?_map]; cases w[h]? <;> simp
  · simp only [st0, List.getD_eq_getElem?_getD, List.getElem?_map] at hp
    cases e : w[h]? <;> simp [e] at hp
theorem getD_set {α : Type} {l : List α} {h k : Nat} {x d : α} (hh : h < l.length) : (l.set h x).getD k d = if h = k then x else l.getD k d := by
  simp only [List.getD_eq_getElem?_getD, List.getElem?_set]
  split
  · rename_i e; subst e; simp [hh]
  · rfl
theorem Fit.step {w : Web} {s : Sta} (f : Fit w s) (gw : ∀ r ∈ w, ∀ st ∈ r, goodS st) {h : Nat} (hh : h < w.length) (hd : s.done.getD h 0 ≠ (w.getD h []).length) : Fit w (stepS w s h) := by
  have hd1 : h < s.done.length := by rw [f.d]; exact hh
  have hl1 : h < s.lines.length := by rw [f.l]; exact hh
  have hg1 : h < s.got.length := by rw [f.g]; exact hh
  have lt : s.done.getD h 0 < (w.getD h []).length := by have := f.le h; omega
  have base : ∀ k, (s.done.set h (s.done.getD h 0 + 1)).getD k 0 = if h = k then s.done.getD h 0 + 1 else s.done.getD k 0 := fun k => getD_set hd1
  have le : ∀ k, (s.done.set h (s.done.getD h 0 + 1)).getD k 0 ≤ (w.getD k []).length := fun k => by
    rw [base]; split
    · rename_i e; subst e; omega
    · exact f.le k
  have up : ∀ k, s.done.getD k 0 ≤ (s.done.set h (s.done.getD h 0 + 1)).getD k 0 := fun k => by
    rw [base]; split
    · rename_i e; subst e; omega
    · exact Nat.le_refl _
  unfold stepS
  split
  · rename_i b n e
    refine ⟨by simp [f.d], by simp [f.l], f.b, f.g, le, fun k => ?_, fun k => Nat.le_trans (f.gl k) (up k), fun k p hp => ?_⟩
    · show ((s.lines.set h _).getD k []).length ≤ _
      rw [getD_set hl1]
      split
      · rename_i e2; subst e2
        have := f.ll h
        rw [List.length_append, base, if_pos rfl]
        simp only [List.length_cons, List.length_nil]; omega
      · exact Nat.le_trans (f.ll k) (up k)
    · have hp : p ∈ (s.lines.set h (s.lines.getD h [] ++ [(b, n)])).getD k [] := hp
      rw [getD_set hl1] at hp
      split at hp
      · rcases List.mem_append.mp hp with z | z
        · exact f.lb h p z
        · have e3 : p = (b, n) := by simpa using z
          subst e3
          have hr : w.getD h [] ∈ w := by
            rw [List.getD_eq_getElem?_getD, List.getElem?_eq_getElem hh]
            exact List.getElem_mem hh
          exact (gw _ hr _ (List.mem_of_getElem? e)).1
      · exact f.lb k p hp
  · rename_i b e
    refine ⟨by simp [f.d], f.l, f.b, by simp [f.g], le, fun k => Nat.le_trans (f.ll k) (up k), fun k => ?_, f.lb⟩
    show ((s.got.set h _).getD k []).length ≤ _
    rw [getD_set hg1]
    split
    · rename_i e2; subst e2
      have := f.gl h
      rw [List.length_append, base, if_pos rfl]
      simp only [List.length_cons, List.length_nil]; omega
    · exact Nat.le_trans (f.gl k) (up k)
  · exact ⟨by simp [f.d], f.l, f.b, f.g, le, fun k => Nat.le_trans (f.ll k) (up k), fun k => Nat.le_trans (f.gl k) (up k), f.lb⟩
theorem Fit.send {w : Web} {s : Sta} (f : Fit w s) {h : Nat} (hh : h < w.length) : Fit w (sendS s h) := by
  have hl1 : h < s.lines.length := by rw [f.l]; exact hh
  unfold sendS
  split
  · rename_i p r e
    refine ⟨f.d, by simp [f.l], by simp [f.b], f.g, f.le, fun k => ?_, f.gl, fun k q hq => ?_⟩
    · show ((s.lines.set h r).getD k []).length ≤ _
      rw [getD_set hl1]
      split
      · rename_i e2; subst e2
        have := f.ll h
        rw [e] at this
        simp at this ⊢; omega
      · exact f.ll k
    · have hq : q ∈ (s.lines.set h r).getD k [] := hq
      rw [getD_set hl1] at hq
      split at hq
      · exact f.lb h q (by rw [e]; exact List.mem_cons_of_mem _ hq)
      · exact f.lb k q hq
  · exact f
theorem canS_step {w : Web} {s : Sta} {h : Nat} (c : canS w s h false = true) : s.done.getD h 0 ≠ (w.getD h []).length := by
  simp [canS] at c
  simpa using c.1
theorem Fit.move {w : Web} {s : Sta} (f : Fit w s) (gw : ∀ r ∈ w, ∀ st ∈ r, goodS st) {m : Nat × Bool} (hh : m.1 < w.length) (c : canS w s m.1 m.2 = true) : Fit w (moveS w s m) := by
  obtain ⟨h, k⟩ := m
  cases k with
  | true => exact f.send hh
  | false => exact f.step gw hh (canS_step c)
/-! ### what the defs over states say -/
def S_first_of : SD := fun rs Q _ => ∃ w, rs = [.leaf (encWeb w)] ∧ smallW w ∧ Q (.leaf (encSt (st0 w)))
def S_begun (C : Value) : SD := fun rs Q E => ∃ d, rs = [.leaf d] ∧ ((okWeb d = false ∧ E C) ∨ ∃ w, d = encWeb w ∧ okWeb d = true ∧ smallW w ∧ Q (.leaf (encSt (st0 w))))
def S_with_one : SD := fun rs Q _ => ∃ l k x, rs = [.leaf (.tuple l), .leaf (.int (k : Nat)), .leaf x] ∧ k < l.length ∧ l.length ≤ 10000 ∧ Q (.leaf (.tuple (l.set k x)))
/-- what may be asked of can -/
def askM : PyData → Bool
  | .tuple [.int _, x] => eqOk x (.str "send") && eqOk x (.str "step")
  | _ => true
def S_can : SD := fun rs Q _ => ∃ w s m, rs = [.leaf (encWeb w), .leaf (encSt s), .leaf m] ∧ smallW w ∧ Fit w s ∧ askM m = true ∧ Q (.leaf (.bool (canD w s m)))
def S_seen_by : SD := fun rs Q _ => ∃ w s h b, rs = [.leaf (encSt s), .leaf (.int (h : Nat)), .leaf (.int (b : Nat))] ∧ smallW w ∧ Fit w s ∧ h < w.length ∧ b < 4 ∧ Q (.leaf (.int (seenS s h b)))
def S_stepped : SD := fun rs Q _ => ∃ w s h, rs = [.leaf (encWeb w), .leaf (encSt s), .leaf (.int (h : Nat))] ∧ smallW w ∧ (∀ r ∈ w, ∀ st ∈ r, goodS st) ∧ Fit w s ∧ h < w.length ∧ s.done.getD h 0 ≠ (w.getD h []).length ∧ Q (.leaf (encSt (stepS w s h)))
def S_sent : SD := fun rs Q _ => ∃ w s h, rs = [.leaf (encSt s), .leaf (.int (h : Nat))] ∧ smallW w ∧ Fit w s ∧ h < w.length ∧ s.lines.getD h [] ≠ [] ∧ Q (.leaf (encSt (sendS s h)))
def S_moved (C : Value) : SD := fun rs Q E => ∃ w s m, rs = [.leaf (encWeb w), .leaf (encSt s), .leaf m] ∧ smallW w ∧ (∀ r ∈ w, ∀ st ∈ r, goodS st) ∧ Fit w s ∧ askM m = true ∧
  ((canD w s m = false ∧ E C) ∨ ∃ a, m = moveD a ∧ a.1 < w.length ∧ canS w s a.1 a.2 = true ∧ Q (.leaf (encSt (moveS w s a))))
@[simp] theorem ne_stepS_send : ((Str.ofString "step") = (Str.ofString "send")) = False := eq_false (by decide)
theorem canD_move {w : Web} {s : Sta} {a : Nat × Bool} (h : a.1 < w.length) : canD w s (moveD a) = canS w s a.1 a.2 := by
  obtain ⟨n, k⟩ := a
  have h' : n < w.length := h
  cases k <;> simp [moveD, canD, kindS, h']
theorem askM_move {a : Nat × Bool} : askM (moveD a) = true := by
  obtain ⟨n, k⟩ := a
  cases k <;> simp [moveD, askM, kindS]
theorem small_row {w : Web} (s : smallW w) (h : Nat) : (w.getD h []).length ≤ 1000 := by
  rw [List.getD_eq_getElem?_getD]
  cases e : w[h]? with
  | none => simp
  | some r => exact s.2 r (List.mem_of_getElem? e)
theorem get_D {α : Type} {l : List α} {h : Nat} {d : α} (hh : h < l.length) : l[h]? = some (l.getD h d) := by
  simp [hh]

/-! ### reading states -/
@[simp] theorem ix_st0 {s : Sta} : ixD (encSt s) (.int 0) = some (natsD s.done) := by simp only [encSt]; rfl
@[simp] theorem ix_st1 {s : Sta} : ixD (encSt s) (.int 1) = some (linesD s.lines) := by simp [encSt]
@[simp] theorem ix_st2 {s : Sta} : ixD (encSt s) (.int 2) = some (intsD s.box) := by simp [encSt]
@[simp] theorem ix_st3 {s : Sta} : ixD (encSt s) (.int 3) = some (gotD s.got) := by simp [encSt]
@[simp] theorem ix_nats {l : List Nat} {h : Nat} : ixD (natsD l) (.int h) = (l[h]?).map fun n => .int (n : Nat) := by simp [natsD]
@[simp] theorem ix_ints {l : List Int} {h : Nat} : ixD (intsD l) (.int h) = (l[h]?).map .int := by simp [intsD]
@[simp] theorem ix_lines {l : List (List (Nat × Int))} {h : Nat} : ixD (linesD l) (.int h) = (l[h]?).map lineD := by simp [linesD]
@[simp] theorem ix_line {l : List (Nat × Int)} {h : Nat} : ixD (lineD l) (.int h) = (l[h]?).map pairD := by simp [lineD]
@[simp] theorem ix_line0 {l : List (Nat × Int)} : ixD (lineD l) (.int 0) = (l[0]?).map pairD := by simp [lineD]
@[simp] theorem ix_got {l : List (List Int)} {h : Nat} : ixD (gotD l) (.int h) = (l[h]?).map intsD := by simp [gotD]
@[simp] theorem ix_pair0 {p : Nat × Int} : ixD (pairD p) (.int 0) = some (.int (p.1 : Nat)) := by simp [pairD]
@[simp] theorem ix_pair1 {p : Nat × Int} : ixD (pairD p) (.int 1) = some (.int p.2) := by simp [pairD]
@[simp] theorem ix_web {w : Web} {h : Nat} : ixD (encWeb w) (.int h) = (w[h]?).map encRow := by simp [encWeb]
@[simp] theorem ix_row {r : List Step} {h : Nat} : ixD (encRow r) (.int h) = (r[h]?).map Step.enc := by simp [encRow]
@[simp] theorem len_web {w : Web} : lenD (encWeb w) = some w.length := by simp [encWeb]
@[simp] theorem len_row {r : List Step} : lenD (encRow r) = some r.length := by simp [encRow]
def nameS : Step → Str
  | .put _ _ => "put"
  | .get _ => "get"
  | .fence => "fence"
@[simp] theorem ix_step0 {s : Step} : ixD s.enc (.int 0) = some (.str (nameS s)) := by cases s <;> simp [Step.enc, nameS]
@[simp] theorem nameS_fence {s : Step} : (nameS s = Str.ofString "fence") = (s = .fence) := by
  cases s <;> simp [nameS]
theorem pl_ints {l : List Int} : pl 1 (intsD l) = true := by
  simp only [intsD, pl, pls_iff, List.mem_map]
  rintro _ ⟨p, _, rfl⟩; rfl
theorem pl_nats {l : List Nat} : pl 1 (natsD l) = true := by
  simp only [natsD, pl, pls_iff, List.mem_map]
  rintro _ ⟨p, _, rfl⟩; rfl
theorem pl_line {l : List (Nat × Int)} : pl 2 (lineD l) = true := by
  simp only [lineD, pl, pls_iff, List.mem_map]
  rintro _ ⟨p, _, rfl⟩; rfl
theorem pl_lines {l : List (List (Nat × Int))} : pl 3 (linesD l) = true := by
  simp only [linesD, pl, pls_iff, List.mem_map]
  rintro _ ⟨p, _, rfl⟩; exact pl_line
theorem pl_got {l : List (List Int)} : pl 2 (gotD l) = true := by
  simp only [gotD, pl, pls_iff, List.mem_map]
  rintro _ ⟨p, _, rfl⟩; exact pl_ints
mutual
theorem pl_up : ∀ {n m : Nat} {d : PyData}, pl n d = true → n ≤ m → pl m d = true
  | n, m, .none, h, _ => by cases m <;> rfl
  | n, m, .bool _, h, _ => by cases m <;> rfl
  | n, m, .int _, h, _ => by cases m <;> rfl
  | n, m, .str s, h, _ => by
    have h' : PyData.strOk s = true := by cases n <;> simpa [pl] using h
    cases m <;> simpa [pl] using h'
  | 0, _, .tuple ds, h, _ => by simp [pl] at h
  | 0, _, .list ds, h, _ => by simp [pl] at h
  | n + 1, 0, .tuple ds, h, hm => by omega
  | n + 1, 0, .list ds, h, hm => by omega
  | n + 1, m + 1, .tuple ds, h, hm => by
    have := pls_up (n := n) (m := m) (ds := ds) (by simpa [pl] using h) (by omega)
    simpa [pl] using this
  | n + 1, m + 1, .list ds, h, hm => by
    have := pls_up (n := n) (m := m) (ds := ds) (by simpa [pl] using h) (by omega)
    simpa [pl] using this
  | n, _, .dict _, h, _ => by cases n <;> simp [pl] at h
theorem pls_up : ∀ {n m : Nat} {ds : List PyData}, pls n ds = true → n ≤ m → pls m ds = true
  | n, m, [], _, _ => by simp [pls]
  | n, m, d :: ds, h, hm => by
    have h' : pl n d = true ∧ pls n ds = true := by simpa [pls] using h
    simp [pls, pl_up h'.1 hm, pls_up h'.2 hm]
end
theorem pl_st {s : Sta} : pl 4 (encSt s) = true := by
  simp [encSt, pl, pls, pl_up pl_nats (show 1 ≤ 3 by decide), pl_lines, pl_up pl_ints (show 1 ≤ 3 by decide), pl_up pl_got (show 2 ≤ 3 by decide)]
@[simp] theorem okd_st {s : Sta} : okd (encSt s) = true := okd_pl pl_st
@[simp] theorem okd_line {l : List (Nat × Int)} : okd (lineD l) = true := okd_pl pl_line
@[simp] theorem okd_t0 : okd (.tuple []) = true := okd_pl (n := 1) rfl
@[simp] theorem eqOk_line {l : List (Nat × Int)} : eqOk (lineD l) (.tuple []) = true := by
  show (okd (lineD l) && okd (.tuple [])) = true
  simp
@[simp] theorem eqv_line {l : List (Nat × Int)} : PyData.eqv (lineD l) (.tuple []) = decide (l = []) := by
  cases l <;> simp [lineD, PyData.eqv, PyData.eqvAll]
theorem cut_lo {α : Type} {l : List α} {k : Nat} (h : k ≤ l.length) : cutL l none (some (k : Int)) = l.take k := by
  have e : HT.sIx l.length l.length (some (k : Int)) = k := by
    show (if (k : Int) < 0 then ((k : Int) + l.length).toNat else min (k : Int).toNat l.length) = k
    rw [if_neg (by omega)]; simp; omega
  have e0 : HT.sIx l.length 0 none = 0 := rfl
  unfold cutL
  rw [e, e0]; simp
theorem cut_hi {α : Type} {l : List α} {k : Nat} (h : k ≤ l.length) : cutL l (some (k : Int)) none = l.drop k := by
  have e : HT.sIx l.length 0 (some (k : Int)) = k := by
    show (if (k : Int) < 0 then ((k : Int) + l.length).toNat else min (k : Int).toNat l.length) = k
    rw [if_neg (by omega)]; simp; omega
  have e0 : HT.sIx l.length l.length none = l.length := rfl
  unfold cutL
  rw [e, e0]
  exact List.take_of_length_le (by simp)
theorem set_cut {α : Type} {l : List α} {k : Nat} {x : α} (h : k < l.length) : l.take k ++ x :: l.drop (k + 1) = l.set k x := by
  rw [List.set_eq_take_append_cons_drop, if_pos h]

theorem canD_out {w : Web} {s : Sta} {i : Int} {b : PyData} (h : ¬ (0 ≤ i ∧ i < w.length)) : canD w s (.tuple [.int i, b]) = false := by
  cases b <;> simp only [canD]
  simp only [h, decide_false, Bool.false_and]

@[simp] theorem nat_inj (a b : Nat) : ((a : Int) = (b : Int)) = (a = b) := propext ⟨fun h => by omega, fun h => by rw [h]⟩
theorem pairD_inj {a b : List (Nat × Int)} (h : a.map pairD = b.map pairD) : a = b := by
  have inj : ∀ a b : Nat × Int, pairD a = pairD b → a = b := fun a b h => by
    obtain ⟨a1, a2⟩ := a; obtain ⟨b1, b2⟩ := b
    simpa [pairD] using h
  exact (List.map_inj_right inj).mp h

theorem with_one_map {α : Type} (f : α → PyData) {l : List α} {h : Nat} {x : α} {Q : OT → Prop} {E : Value → Prop} : S_with_one [.leaf (.tuple (l.map f)), .leaf (.int (h : Nat)), .leaf (f x)] Q E = (h < l.length ∧ l.length ≤ 10000 ∧ Q (.leaf (.tuple ((l.set h x).map f)))) := by
  refine propext ⟨fun ⟨l', k, x', e, h1, h2, q⟩ => ?_, fun ⟨h1, h2, q⟩ => ⟨_, h, _, rfl, by simpa using h1, by simpa using h2, by rw [List.map_set] at q; exact q⟩⟩
  simp at e
  obtain ⟨e1, e2, e3⟩ := e
  subst e1 e2 e3
  exact ⟨by simpa using h1, by simpa using h2, by rw [List.map_set]; exact q⟩
@[simp] theorem with_one_nats {l : List Nat} {h n : Nat} {Q : OT → Prop} {E : Value → Prop} : S_with_one [.leaf (natsD l), .leaf (.int (h : Nat)), .leaf (.int ((n : Nat) + 1))] Q E = (h < l.length ∧ l.length ≤ 10000 ∧ Q (.leaf (natsD (l.set h (n + 1))))) :=
  with_one_map (fun n : Nat => PyData.int (n : Nat)) (x := n + 1)
@[simp] theorem with_one_ints {l : List Int} {h : Nat} {n : Int} {Q : OT → Prop} {E : Value → Prop} : S_with_one [.leaf (intsD l), .leaf (.int (h : Nat)), .leaf (.int n)] Q E = (h < l.length ∧ l.length ≤ 10000 ∧ Q (.leaf (intsD (l.set h n)))) := with_one_map .int
@[simp] theorem with_one_lines {l : List (List (Nat × Int))} {h : Nat} {n : List (Nat × Int)} {Q : OT → Prop} {E : Value → Prop} : S_with_one [.leaf (linesD l), .leaf (.int (h : Nat)), .leaf (lineD n)] Q E = (h < l.length ∧ l.length ≤ 10000 ∧ Q (.leaf (linesD (l.set h n)))) := with_one_map lineD
@[simp] theorem with_one_got {l : List (List Int)} {h : Nat} {n : List Int} {Q : OT → Prop} {E : Value → Prop} : S_with_one [.leaf (gotD l), .leaf (.int (h : Nat)), .leaf (intsD n)] Q E = (h < l.length ∧ l.length ≤ 10000 ∧ Q (.leaf (gotD (l.set h n)))) := with_one_map intsD
@[simp] theorem add_line {l : List (Nat × Int)} {b : Nat} {n : Int} : addD (lineD l) (.tuple [.tuple [.int (b : Nat), .int n]]) = if l.length + 1 ≤ sizeLine then some (.leaf (lineD (l ++ [(b, n)]))) else none := by
  simp [lineD, pairD]
@[simp] theorem add_ints {l : List Int} {n : Int} : addD (intsD l) (.tuple [.int n]) = if l.length + 1 ≤ sizeLine then some (.leaf (intsD (l ++ [n]))) else none := by
  simp [intsD]
@[simp] theorem sl_line {p : Nat × Int} {l : List (Nat × Int)} : slD (lineD (p :: l)) (some 1) none = some (.leaf (lineD l)) := by
  have := cut_hi (l := (p :: l).map pairD) (k := 1) (by simp)
  simp only [lineD, slD_tup]
  rw [show (1 : Int) = ((1 : Nat) : Int) from rfl, this]
  rfl
@[simp] theorem mk_st {a : List Nat} {b : List (List (Nat × Int))} {c : List Int} {d : List (List Int)} : PyData.tuple [natsD a, linesD b, intsD c, gotD d] = encSt ⟨a, b, c, d⟩ := rfl
@[simp] theorem ix_move0 {h : Nat} {k : Bool} : ixD (moveD (h, k)) (.int 0) = some (.int (h : Nat)) := by simp [moveD]
@[simp] theorem ix_move1 {h : Nat} {k : Bool} : ixD (moveD (h, k)) (.int 1) = some (.str (kindS k)) := by simp [moveD]
end FW

set_option Elab.async false
set_option linter.all false
set_option maxRecDepth 100000
set_option maxHeartbeats 4000000
namespace FW
open PySem PySem.Spec PyProof.Rows L2
/-! ### items of owned lists: pop, store -/
section
variable {K : PySem.W.Frag} {fx : List Nat} {φ : FrF} {A Z : List Addr} {σ : L2.St} {H H' : Hp} {Γ : Ev} {t : OT} {i : Nat}
/-- what is seen beside the owned places stays seen when an owned list is changed -/
theorem hid_change {A A' : List Addr} {q : Addr} {o : HO} (hq : q ∈ A) (h : ∀ a, a ∈ A' → a ∈ A) : Same (hid (A ++ Z) H) (hid (A' ++ Z) (upd H q o)) := fun b ob e => by
  obtain ⟨n, e⟩ := hid_some e
  rw [hid_out fun z => ?_]
  · rw [upd_ne fun z : b = q => n (z ▸ List.mem_append_left _ hq)]; exact e
  · rcases List.mem_append.mp z with z | z
    · exact n (List.mem_append_left _ (h b z))
    · exact n (List.mem_append_right _ z)
theorem Rel.pop0 {js : List Nat} {root : V} {q : Addr} {d : PyData} {ts : List OT} (r : Rel K fx φ A σ H Γ) (e : Γ[i]? = some (some t)) (h : t.at js = some (.node (.leaf d :: ts))) (hr : σ[i]? = some (some root)) (hq : Reach H root js (.ref q)) :
    ∃ (v : V) (vs : List V) (A' : List Addr), H q = some (.lst (v :: vs)) ∧ Rel K fx φ A' σ (upd H q (.lst vs)) (Γ.set i (some (t.put js (.node ts)))) ∧ DD K (hid (A' ++ φ.Z) (upd H q (.lst vs))) v d := by
  obtain ⟨vs, Bs, g1, g2, g3, g4, g5, g6⟩ := r.change (Ns := []) r.env (fun _ h => by simp at h) e h hr hq
  cases g3 with
  | @cons v vs _ _ B0 B ns o1 o2 =>
    cases o1 with
    | leaf dd =>
      have nd := List.nodup_cons.mp g4
      obtain ⟨A', r', sb⟩ := g6 vs ts B (fun b hb => .inl (by simpa using hb)) g4 (o2.mono (Same.refl _) fun a ha ob z => by
        rw [upd_ne fun y : a = q => nd.1 (y ▸ ha)]; exact z)
      exact ⟨v, vs, A', g1, r', dd.mono (hid_change g2 fun a ha => (sb a ha).elim id fun z => by simp at z)⟩
theorem Owns.setLeaf {Hs : Hp} {v : V} {d : PyData} : ∀ {vs : List V} {ts : List OT} {C : List Addr} {j : Nat}, Owns K Hs H vs ts C → C.Nodup → j < ts.length → DD K Hs v d → ∃ C', Owns K Hs H (vs.set j v) (ts.set j (.leaf d)) C' ∧ C'.Nodup ∧ ∀ a, a ∈ C' → a ∈ C
  | _, _, _, _, .nil, _, hj, _ => by simp at hj
  | _, _, _, 0, .cons (B := B) ns o1 o2, n, _, dv => ⟨[] ++ B, .cons rfl (.leaf dv) o2, by simpa using (List.nodup_append.mp n).2.1, fun a ha => List.mem_append_right _ (by simpa using ha)⟩
  | _, _, _, j + 1, .cons (A := A0) ns o1 o2, n, hj, dv => by
    have n' := List.nodup_append.mp n
    obtain ⟨C', c1, c2, c3⟩ := Owns.setLeaf (j := j) o2 n'.2.1 (Nat.lt_of_succ_lt_succ hj) dv
    exact ⟨A0 ++ C', .cons ns o1 c1, List.nodup_append.mpr ⟨n'.1, c2, fun a ha b hb eab => n'.2.2 a ha b (c3 b hb) eab⟩, fun a ha => (List.mem_append.mp ha).elim (fun z => List.mem_append_left _ z) fun z => List.mem_append_right _ (c3 a z)⟩
theorem Rel.setAt {js : List Nat} {root : V} {q : Addr} {d : PyData} {ts : List OT} {j : Nat} {v : V} (r : Rel K fx φ A σ H Γ) (e : Γ[i]? = some (some t)) (h : t.at js = some (.node ts)) (hr : σ[i]? = some (some root)) (hq : Reach H root js (.ref q)) (hj : j < ts.length)
    (dv : DD K (hid (A ++ φ.Z) H) v d) : ∃ (vs : List V) (A' : List Addr), H q = some (.lst vs) ∧ vs.length = ts.length ∧ Rel K fx φ A' σ (upd H q (.lst (vs.set j v))) (Γ.set i (some (t.put js (.node (ts.set j (.leaf d)))))) := by
  obtain ⟨vs, Bs, g1, g2, g3, g4, g5, g6⟩ := r.change (Ns := []) r.env (fun _ h => by simp at h) e h hr hq
  have nd := List.nodup_cons.mp g4
  obtain ⟨C', c1, c2, c3⟩ := g3.setLeaf nd.2 hj (show DD K (hid ([] ++ (A ++ φ.Z)) H) v d from dv)
  obtain ⟨A', r', sb⟩ := g6 (vs.set j v) (ts.set j (.leaf d)) C' (fun b hb => .inl (c3 b hb)) (List.nodup_cons.mpr ⟨fun z => nd.1 (c3 q z), c2⟩) (c1.mono (Same.refl _) fun a ha ob z => by
    rw [upd_ne fun y : a = q => nd.1 (y ▸ c3 a ha)]; exact z)
  exact ⟨vs, A', g1, g3.length, r'⟩
end
section
variable {X : Cx} {W : WX} {fx : List Nat} {e a b : Expr} {t u : TD} {tr : TDR} {pos p apos cpos ipos : Pos} {i k : Nat} {jj : Nat}
/-- name = xs.pop(0) -/
@[simp] def tPopSet0 (i k : Nat) (tr : TDR) : TDS := fun D Γ => tr Γ (fun js => lstAt i js Γ fun tree ts => ∃ d r, ts = .leaf d :: r ∧ k < Γ.length ∧ D.nx ((Γ.set i (some (tree.put js (.node r)))).set k (some (.leaf d)))) fun c => D.ex c Γ
theorem ds_popSet0 {x : Str} {pos' zpos : Pos} {jz : Nat} {spos : Pos} (hN : X.N.Nodup) (hi : X.N[k]? = some x) (hx : Loc X.env.scope x) (ha : DR X W fx i a tr)
    (hbase : attributeBase a "pop" X.env (eval a X.env) = eval a X.env := by rfl)
    (hs : swapsWith (.Call (.Attribute a "pop" apos) [.Constant (.int 0) jz zpos] [] cpos) (some (.Name x pos')) spos.line X.env = pure false := by rfl) (hf : X.fn x = true ∨ X.env.scope.names.lookup x = some .local := by first | exact .inl rfl | exact .inr rfl | assumption)
    (hfew : ((backTo cpos (starEach [.Constant (.int 0) jz zpos] X.env)).all (fun x => !x.1) && (backToKw cpos (keywordEach [] X.env)).all (fun x => x.1.isSome)
      && decide (([Expr.Constant (.int 0) jz zpos]).length + ([] : List Keyword).length + (if ([] : List Keyword).isEmpty then 0 else 1) < 30)) = true := by rfl)
    (hline : (apos.endLine == cpos.line) = true := by rfl) (hst : starEach [.Constant (.int 0) jz zpos] X.env = (false, eval (.Constant (.int 0) jz zpos) X.env) :: starEach [] X.env := by rfl) (hplain : (backTo cpos (starEach [] X.env)).any (·.1) = false := by rfl)
    (hfx : k ∉ fx := by decide) :
    DS X W fx (.Assign [.Name x pos'] (.Call (.Attribute a "pop" apos) [.Constant (.int 0) jz zpos] [] cpos) spos) (tPopSet0 i k tr) :=
  PS.imp (ps_set hN hi hx (pe_bm PySem.F.plainAttrs_list PySem.F.slot_list_pop PySem.F.type_list_pop mt_popAt ha (pa_cons pe_int pa_nil hst) hbase hfew hline hst hplain) hs hf) fun D σ H ⟨φ, A, Γ, Dd, rel, q, er⟩ => by
  refine ⟨φ, A, Γ, _, _, rel, q, fun js v H1 s1 ⟨root, hr, re⟩ ⟨tree, ts, e1, e2, d, r, ets, hk, q1⟩ => ?_, fun c H' s' q' => er.ex c σ H' A Γ (rel.mono s') q'⟩
  subst ets
  have rel1 := rel.mono s1
  obtain ⟨q', rfl⟩ := rel1.reach e1 e2 hr re
  obtain ⟨v, vs, A', g1, r2, dd⟩ := rel1.pop0 e1 e2 hr re
  refine ⟨Or.inl ⟨rfl, _, Or.inl (Or.inl g1)⟩, q', _, 0, 0, v, rfl, rfl, g1, by decide, by decide, by simp [seqIndex?], rfl, ?_⟩
  obtain ⟨A3, r3, _⟩ := r2.set (Same.refl _) (Res.leaf dd) (by rw [List.length_set]; exact hk) hfx
  exact er.nx _ _ A3 _ r3 q1
/-- xs.pop(0) -/
@[simp] def tPop0 (i : Nat) (tr : TDR) : TDS := fun D Γ => tr Γ (fun js => lstAt i js Γ fun tree ts => ∃ d r, ts = .leaf d :: r ∧ D.nx (Γ.set i (some (tree.put js (.node r))))) fun c => D.ex c Γ
theorem ds_pop0 {zpos : Pos} {jz : Nat} {spos : Pos} (ha : DR X W fx i a tr)
    (hbase : attributeBase a "pop" X.env (eval a X.env) = eval a X.env := by rfl)
    (hs : swapsWith (.Call (.Attribute a "pop" apos) [.Constant (.int 0) jz zpos] [] cpos) none spos.line X.env = pure false := by rfl)
    (hfew : ((backTo cpos (starEach [.Constant (.int 0) jz zpos] X.env)).all (fun x => !x.1) && (backToKw cpos (keywordEach [] X.env)).all (fun x => x.1.isSome)
      && decide (([Expr.Constant (.int 0) jz zpos]).length + ([] : List Keyword).length + (if ([] : List Keyword).isEmpty then 0 else 1) < 30)) = true := by rfl)
    (hline : (apos.endLine == cpos.line) = true := by rfl) (hst : starEach [.Constant (.int 0) jz zpos] X.env = (false, eval (.Constant (.int 0) jz zpos) X.env) :: starEach [] X.env := by rfl) (hplain : (backTo cpos (starEach [] X.env)).any (·.1) = false := by rfl) :
    DS X W fx (.Expr (.Call (.Attribute a "pop" apos) [.Constant (.int 0) jz zpos] [] cpos) spos) (tPop0 i tr) :=
  PS.imp (ps_expr (pe_bm PySem.F.plainAttrs_list PySem.F.slot_list_pop PySem.F.type_list_pop mt_popAt ha (pa_cons pe_int pa_nil hst) hbase hfew hline hst hplain) hs) fun D σ H ⟨φ, A, Γ, Dd, rel, q, er⟩ => by
  refine ⟨φ, A, Γ, _, _, rel, q, fun js v H1 s1 ⟨root, hr, re⟩ ⟨tree, ts, e1, e2, d, r, ets, q1⟩ => ?_, fun c H' s' q' => er.ex c σ H' A Γ (rel.mono s') q'⟩
  subst ets
  have rel1 := rel.mono s1
  obtain ⟨q', rfl⟩ := rel1.reach e1 e2 hr re
  obtain ⟨v, vs, A', g1, r2, dd⟩ := rel1.pop0 e1 e2 hr re
  refine ⟨Or.inl ⟨rfl, _, Or.inl (Or.inl g1)⟩, q', _, 0, 0, v, rfl, rfl, g1, by decide, by decide, by simp [seqIndex?], rfl, ?_⟩
  exact er.nx _ _ A' _ r2 q1
/-- xs[e] = e' -/
@[simp] def tSetI (i : Nat) (tr : TDR) (ti t : TD) : TDS := fun D Γ => t Γ (fun r => r.isScr = false ∧ tr Γ (fun js => ti Γ (fun x => ∃ k, x.er = .int k ∧ lstAt i js Γ fun tree ts => ∃ j, ixN ts.length k = some j ∧ D.nx (Γ.set i (some (tree.put js (.node (ts.set j (.leaf r.er))))))) fun c => D.ex c Γ) fun c => D.ex c Γ) fun c => D.ex c Γ
theorem ds_setI {v : Expr} {ti : TD} {spos : Pos} (ha : DR X W fx i a tr) (hb : DE X W fx b ti) (hv : DE X W fx v t)
    (hg : ∀ w, assign (.Subscript a b ipos) X.env w = (do
      let ov ← holding [w] (eval a X.env)
      let iv ← holding [w, ov] (eval b X.env)
      standAt ipos
      holding [w, ov, iv] (setItem ov iv w)
      release [w, ov, iv] []) := by intro _; rfl)
    (hs : swapsWithSole [.Subscript a b ipos] v spos.line X.env = pure false := by rfl) (hw : swappedStores [.Subscript a b ipos] v X.env = pure none := by rfl)
    (h1 : (assignEach [.Subscript a b ipos] X.env).map (·.2) = [assign (.Subscript a b ipos) X.env] := by rfl) :
    DS X W fx (.Assign [.Subscript a b ipos] v spos) (tSetI i tr ti t) := PS.imp (ps_asg hv (pg_sub ha hb set_list hg) hs hw h1) fun D σ H ⟨φ, A, Γ, Dd, rel, q, er⟩ => by
  refine ⟨φ, A, Γ, _, _, rel, q, fun r v H1 s1 r1 ⟨ns, q1⟩ => ?_, fun c H' s' q' => er.ex c σ H' A Γ (rel.mono s') q'⟩
  have rel1 := rel.mono s1
  have dv := (r1.cv rel.dom).dd ns
  refine ⟨φ, A, Γ, _, _, rel1, q1, fun js v2 H2 s2 ⟨root, hr, re⟩ q2 => ?_, fun c H' s' q' => er.ex c σ H' A Γ (rel1.mono s') q'⟩
  have rel2 := rel1.mono s2
  refine ⟨φ, A, Γ, _, _, rel2, q2, fun x w H3 s3 r3 ⟨k, ek, tree, ts, e1, e2, j, ej, q3⟩ => ?_, fun c H' s' q' => er.ex c σ H' A Γ (rel2.mono s') q'⟩
  have rel3 := rel2.mono s3
  have re3 := re.mono s3
  obtain ⟨q', rfl⟩ := rel3.reach e1 e2 hr re3
  have ew := (r3.cv rel2.dom).int ek
  subst ew
  have hj := (ixN_seq ej).2.1
  obtain ⟨vs, A', g1, lv, r4⟩ := rel3.setAt e1 e2 hr re3 hj (dv.mono (hid_mono (s2.trans s3)))
  exact ⟨q', vs, k, j, rfl, rfl, g1, by rw [lv]; exact ej, er.nx _ _ A' _ r4 q3⟩
end
/-! ### a def that changes its second argument's own tree -/
abbrev SM := OT → OT → OT → OT → (OT → Prop) → Prop
def spM (K : PySem.W.Frag) (S : SM) : Sp := fun vs H Q _ => ∃ Z A v0 v1 v2 v3 r0 t r2 r3 Pd, vs = [v0, v1, v2, v3] ∧ Dom A Z H ∧ A.Nodup ∧ (∀ a, a ∈ A → a ∉ Z) ∧ CV K (hid (A ++ Z) H) v0 r0 ∧ Own K (hid (A ++ Z) H) H v1 t A ∧ CV K (hid (A ++ Z) H) v2 r2 ∧ CV K (hid (A ++ Z) H) v3 r3 ∧ S (vw r0) t (vw r2) (vw r3) Pd ∧
  ∀ t' H' A', Pd t' → (∀ a o, H a = some o → a ∉ A → H' a = some o) → Own K (hid (A' ++ Z) H') H' v1 t' A' → A'.Nodup → (∀ a, a ∈ A' → a ∉ Z ∧ (a ∈ A ∨ H a = none)) → (∀ a, a ∈ A → ∃ xs : LxO, H' a = some xs.ho) → Q .non H'
section
variable {P : Program} {w : World} {K : PySem.W.Frag} {mg : Str → Option Value} {base : Heap}
@[simp] def endM (Pd : OT → Prop) : DEnds := { nx := fun Γ => ∃ t, Γ[1]? = some (some t) ∧ Pd t, rt := fun r Γ => r = .leaf .none ∧ ∃ t, Γ[1]? = some (some t) ∧ Pd t, bk := fun _ => False, ct := fun _ => False, ex := fun _ _ => False }
theorem fnM {x qual : Str} {st : Stmt} {f : Addr} {fd : FuncData} {N ps : List Str} {k : Nat} {S : SM} (F : Fun K x qual st f fd) (Sc : FnScope N ps (defScope st)) (hp : ps.length = 4)
    (hbody : ∀ (cdv : Value) (A : Around) (outer : List Env) (s : Shared) (H : Hp) (E : XK), Room k (A.deeper (envOfC qual (defScope st) s.heap.objs.size f cdv)) →
      Takes (cxOf (L2.CX P w) P w K mg base N qual (defScope st) f cdv A outer s H E) (wE E) → PassesOwn (model P w) (A.deeper (envOfC qual (defScope st) s.heap.objs.size f cdv)) (envOfC qual (defScope st) s.heap.objs.size f cdv) (cxOf (L2.CX P w) P w K mg base N qual (defScope st) f cdv A outer s H E).xe →
      ∃ t : TDS, PSs (cxOf (L2.CX P w) P w K mg base N qual (defScope st) f cdv A outer s H E) (defBody st) (liftS K (wE E) [1] t) ∧ ∀ r0 r1 r2 r3 Pd, S r0 r1 r2 r3 Pd → t (endM Pd) ([some r0, some r1, some r2, some r3] ++ List.replicate (N.length - 4) none)) : FnOk P w K mg base (L2.CX P w) (k + 1) f fd ps (spM K S) := by
  refine F.okX Sc (fun vs H Q E ⟨Z, A, v0, v1, v2, v3, r0, t, r2, r3, Pd, e, _⟩ => by rw [e, hp]; rfl) fun cdv A outer s H vs Q E hr ⟨Z, A1, v0, v1, v2, v3, r0, t, r2, r3, Pd, e, dm, nd, az, c0, o1, c2, c3, sd, kq⟩ => ?_
  subst e
  obtain ⟨tt, h, q⟩ := hbody cdv A outer s H E hr (takes_of rfl rfl rfl rfl) (passes_of rfl)
  have env : EnvR K (hid (A1 ++ Z) H) H (L2.start N [v0, v1, v2, v3]) ([some (vw r0), some t, some (vw r2), some (vw r3)] ++ List.replicate (N.length - 4) none) A1 := by
    have e := EnvR.cons (A := []) c0.own (EnvR.cons o1 (EnvR.cons (A := []) c2.own (EnvR.cons (A := []) (B := []) c3.own (envR_none (K := K) (Z := A1 ++ Z) (H := H) (N.length - 4)))))
    rw [List.nil_append, List.nil_append, List.nil_append, List.append_nil] at e
    exact e
  have rel : Rel K [1] ⟨Z, H, A1, L2.start N [v0, v1, v2, v3]⟩ A1 (L2.start N [v0, v1, v2, v3]) H ([some (vw r0), some t, some (vw r2), some (vw r3)] ++ List.replicate (N.length - 4) none) :=
    ⟨env, nd, az, fun b o e _ => e, fun a h => .inl h, fun a h => ⟨fun z => az a z h, dm a (List.mem_append_right _ h)⟩, fun a h => o1.there a h, fun i _ => rfl⟩
  have fin : ∀ σ H' A' Γ, Rel K [1] ⟨Z, H, A1, L2.start N [v0, v1, v2, v3]⟩ A' σ H' Γ → (∃ t, Γ[1]? = some (some t) ∧ Pd t) → Q .non H' := fun σ H' A' Γ r ⟨t', e1, p⟩ => by
    obtain ⟨v, B, R, h1, h2, h3, h4, h5, h6⟩ := r.env.split r.nd e1
    have e := r.fix 1 (by simp)
    rw [h1] at e
    have e' : v = v1 := by
      have z : (L2.start N [v0, v1, v2, v3])[1]? = some (some v1) := rfl
      rw [z] at e
      cases e; rfl
    subst e'
    refine kq t' H' B p (fun a o q n => r.keep a o q n) (h2.mono (hid_sub fun a ha => ?_) fun a _ o q => q) h3 (fun a ha => ⟨r.az a (h4 a ha).1, r.own a (h4 a ha).1⟩) r.a0
    rcases List.mem_append.mp ha with z | z
    · exact List.mem_append_left _ (h4 a z).1
    · exact List.mem_append_right _ z
  refine ⟨_, h, _, A1, _, _, rel, q _ _ _ _ Pd sd, ⟨fin, fun σ H' A' Γ v r As rl n f o ⟨er, z⟩ => ?_, fun _ _ _ _ _ z => z.elim, fun _ _ _ _ _ z => z.elim, fun _ _ _ _ _ _ z => z.elim, fun _ _ _ _ _ _ _ z => z.elim⟩⟩
  subst er
  cases o with
  | leaf d =>
    cases d
    exact fin σ H' A' Γ rl z
end
section
variable {X : Cx} {W : WX} {fx : List Nat} {e0 e2 e3 : Expr} {t0 t2 t3 : TD} {pos p p1 spos : Pos} {k i : Nat} {f : Addr} {fd : FuncData} {ps : List Str} {S : SM} {x xo : Str}
@[simp] def tCallM (S : SM) (i : Nat) (t0 t2 t3 : TD) : TDS := fun D Γ => (∃ t, Γ[i]? = some (some t)) ∧ t0 Γ (fun r0 => t2 Γ (fun r2 => t3 Γ (fun r3 => ∃ t, Γ[i]? = some (some t) ∧ S (vw r0) t (vw r2) (vw r3) fun t' => D.nx (Γ.set i (some t'))) fun c => D.ex c Γ) fun c => D.ex c Γ) fun c => D.ex c Γ
theorem ds_callM (F : FnOk X.prog X.w X.K X.mg X.base (L2.CX X.prog X.w) k f fd ps (spM X.K S)) (tk : Takes X W) (hr : Room k X.A) (hg : Gl X x) (hm : X.mg x = some (.ref f)) (hk : PySem.W.keepIn X.K (.ref f) = true) (hb : Binds X.K fd ps [])
    (h0 : DE X W fx e0 t0) (h2 : DE X W fx e2 t2) (h3 : DE X W fx e3 t3) (hN : X.N[i]? = some xo := by rfl) (hv : Vis X.env.scope xo := by first | exact Or.inl rfl | exact Or.inr (Or.inl rfl) | exact Or.inr (Or.inr rfl)) (hd : (xo == ("__debug__" : Str)) = false := by decide)
    (hcd : (xo == ("__classdict__" : Str)) = false := by decide) (hdb : (x == ("__debug__" : Str)) = false := by decide)
    (s0 : starEach [e0, .Name xo p1, e2, e3] X.env = (false, eval e0 X.env) :: starEach [.Name xo p1, e2, e3] X.env := by rfl) (s1 : starEach [.Name xo p1, e2, e3] X.env = (false, eval (.Name xo p1) X.env) :: starEach [e2, e3] X.env := by rfl)
    (s2 : starEach [e2, e3] X.env = (false, eval e2 X.env) :: starEach [e3] X.env := by rfl) (s3 : starEach [e3] X.env = (false, eval e3 X.env) :: starEach [] X.env := by rfl)
    (hpl : (backTo pos (starEach [.Name xo p1, e2, e3] X.env)).any (·.1) = false := by rfl) (hs : swapsWith (.Call (.Name x p) [e0, .Name xo p1, e2, e3] [] pos) none spos.line X.env = pure false := by rfl) :
    DS X W fx (.Expr (.Call (.Name x p) [e0, .Name xo p1, e2, e3] [] pos) spos) (tCallM S i t0 t2 t3) :=
  PS.imp (ps_expr (pe_callS F hr hg hm hk hb (fun σ => passAt tk σ) (pa_cons h0 (pa_cons (pe_var hN hv hd hcd) (pa_cons h2 (pa_cons h3 pa_nil s3) s2) s1) s0) hdb s0 hpl) hs) fun D σ H ⟨φ, A, Γ, Dd, rel, ⟨⟨t1, ei⟩, q⟩, er⟩ => by
  obtain ⟨v1, _, hv1, _⟩ := rel.env.get ei
  refine ⟨φ, A, Γ, _, _, rel, q, fun r0 v0 H0 u0 w0 q0 => ?_, fun c H' s' q' => er.ex c σ H' A Γ (rel.mono s') q'⟩
  have rel0 := rel.mono u0
  refine ⟨v1, hv1, φ, A, Γ, _, _, rel0, q0, fun r2 v2 H2 u2 w2 q2 => ?_, fun c H' s' q' => er.ex c σ H' A Γ (rel0.mono s') q'⟩
  have rel2 := rel0.mono u2
  refine ⟨φ, A, Γ, _, _, rel2, q2, fun r3 v3 H3 u3 w3 ⟨t, e1, sd⟩ => ?_, fun c H' s' q' => er.ex c σ H' A Γ (rel2.mono s') q'⟩
  have rel3 := rel2.mono u3
  obtain ⟨v, B, R, g1, g2, g3, g4, g5, g6⟩ := rel3.env.split rel3.nd e1
  rw [hv1] at g1
  cases g1
  have sub : ∀ a, a ∈ B ++ (R ++ φ.Z) → a ∈ A ++ φ.Z := fun a ha => by
    rcases List.mem_append.mp ha with z | z
    · exact List.mem_append_left _ (g4 a z).1
    · rcases List.mem_append.mp z with z | z
      · exact List.mem_append_left _ (g5 a z)
      · exact List.mem_append_right _ z
  refine ⟨R ++ φ.Z, B, v0, v1, v2, v3, r0, t, r2, r3, _, rfl, fun a ha => rel3.dom a (sub a ha), g3, fun a ha z => ?_, ((w0.cv rel.dom).mono (hid_mono (u2.trans u3))).mono (hid_sub sub), g2.mono (hid_sub sub) fun a _ o z => z, ((w2.cv rel0.dom).mono (hid_mono u3)).mono (hid_sub sub), (w3.cv rel2.dom).mono (hid_sub sub), sd, fun t' H' B' pd kp o nb cd la => ?_⟩
  · rcases List.mem_append.mp z with z | z
    · exact (g4 a ha).2 z
    · exact rel3.az a (g4 a ha).1 z
  · have sm : Same (hid (A ++ φ.Z) H3) (hid (B' ++ (R ++ φ.Z)) H') := fun b ob e => by
      obtain ⟨n, e⟩ := hid_some e
      rw [hid_out fun z => ?_]
      · exact kp b ob e fun z => n (List.mem_append_left _ (g4 b z).1)
      · rcases List.mem_append.mp z with z | z
        · rcases (cd b z).2 with y | y
          · exact n (List.mem_append_left _ (g4 b y).1)
          · rw [e] at y; cases y
        · exact n (sub b (List.mem_append_right _ z))
    obtain ⟨A', d1, d2, d3⟩ := g6 (hid (B' ++ (R ++ φ.Z)) H') H' t' B' sm (fun a ha o q => kp a o q fun z => (g4 a z).2 ha) o nb fun b hb z => (cd b hb).1 (List.mem_append_left _ z)
    refine er.nx σ H' A' _ ⟨d1.mono (hid_sub fun a ha => ?_) fun a _ o q => q, d2, fun a ha z => ?_, fun b ob e n => kp b ob (rel3.keep b ob e n) fun z => ?_, fun a ha => ?_, rel3.zs, fun a ha => ?_, rel3.fix⟩ pd
    · rcases List.mem_append.mp ha with z | z
      · rcases d3 a z with y | y
        · exact List.mem_append_left _ y
        · exact List.mem_append_right _ (List.mem_append_left _ y)
      · exact List.mem_append_right _ (List.mem_append_right _ z)
    · rcases d3 a ha with y | y
      · exact (cd a y).1 (List.mem_append_right _ z)
      · exact rel3.az a (g5 a y) z
    · rcases rel3.own b (g4 b z).1 with y | y
      · exact n y
      · rw [e] at y; cases y
    · rcases d3 a ha with y | y
      · rcases (cd a y).2 with x | x
        · exact rel3.own a (g4 a x).1
        · exact .inr (rel3.fresh x)
      · exact rel3.own a (g5 a y)
    · by_cases hB : a ∈ B
      · exact la a hB
      · obtain ⟨xs, z⟩ := rel3.a0 a ha
        exact ⟨xs, kp a _ z hB⟩
end
end FW

set_option Elab.async false
set_option linter.all false
set_option maxRecDepth 100000
set_option maxHeartbeats 4000000
namespace FW
open PySem PySem.Spec PyProof.Rows L2
/-! ### numbers of a script -/
def bigM : Nat := 1048576
def bigN : Nat := 1048600
theorem bigMN : 2 ^ bigM + 1000000 ≤ 2 ^ bigN := by
  have h : 2 ^ bigN = 2 ^ bigM * 2 ^ 24 := by
    rw [← Nat.pow_add]
    congr 1
  have h1 : 1 ≤ 2 ^ bigM := Nat.one_le_two_pow
  rw [h]
  generalize 2 ^ bigM = m at h1
  omega
def cellOk (c : Int) : Prop := c.natAbs < 2 ^ bigM
def numOk (c : Int) : Prop := c.natAbs < 2 ^ bigN
theorem log_lt {n k : Nat} (h : n < 2 ^ k) (hk : 0 < k) : Nat.log2 n < k := by
  by_cases e : n = 0
  · subst e; simpa using hk
  · exact (Nat.log2_lt e).mpr h
theorem cell_ok {ns : List Int} (h : ∀ z ∈ ns, Builtin.Int.intBits z ≤ 1048576) (k : Int) : cellOk (cellAt ns k) := by
  have p : 0 < 2 ^ bigM := Nat.two_pow_pos _
  unfold cellOk cellAt
  rw [List.getD_eq_getElem?_getD]
  cases e : ns[k.toNat]? with
  | none => simpa using p
  | some z =>
    have hb := h z (List.mem_of_getElem? e)
    unfold Builtin.Int.intBits at hb
    by_cases z0 : z = 0
    · subst z0; simpa using p
    · have zb : (z == 0) = false := by simpa using z0
      rw [zb] at hb
      have hn : z.natAbs ≠ 0 := by omega
      have : z.natAbs.log2 < bigM := by
        unfold bigM
        have hb' : z.natAbs.log2 + 1 ≤ 1048576 := by simpa using hb
        omega
      simpa using (Nat.log2_lt hn).mp this
/-- the law's number of a cell -/
def numBy (m z k d : Int) (c : Int) : Int := if c % m = z then (c / m * 48271 ^ 7 + 5) % (2 * 10 ^ 30 - 1) - (10 ^ 30 - 1) else c / m % k - d
theorem numBy_small {m z k d c : Int} (hk : 0 < k) (hd : 0 ≤ d) (h : k < 1000) (h' : d < 1000) : (numBy m z k d c).natAbs < 10 ^ 30 := by
  unfold numBy
  split
  · have h1 := Int.emod_nonneg (c / m * 48271 ^ 7 + 5) (show (2 * 10 ^ 30 - 1 : Int) ≠ 0 by decide)
    have h2 := Int.emod_lt_of_pos (c / m * 48271 ^ 7 + 5) (show (0 : Int) < 2 * 10 ^ 30 - 1 by decide)
    generalize (c / m * 48271 ^ 7 + 5) % (2 * 10 ^ 30 - 1) = x at h1 h2
    omega
  · have h1 := Int.emod_nonneg (c / m) (show k ≠ 0 by omega)
    have h2 := Int.emod_lt_of_pos (c / m) hk
    generalize c / m % k = x at h1 h2
    omega
theorem log_pow7 : Nat.log2 (Int.natAbs (48271 ^ 7)) < 128 := by
  refine log_lt ?_ (by decide)
  decide
theorem log_num {c : Int} (h : numOk c) : Nat.log2 c.natAbs < bigN := log_lt h (by decide)
/-! ### the law's own state, a tree of lists -/
def numsT (l : List Nat) : OT := .node (l.map fun n => .leaf (.int (n : Nat)))
def intsT (l : List Int) : OT := .node (l.map fun n => .leaf (.int n))
def pairsT (l : List (Nat × Int)) : OT := .node (l.map fun p => .leaf (pairD p))
def ownT (s : Sta) : OT := .node [numsT s.done, .node (s.lines.map pairsT), intsT s.box, .node (s.got.map intsT)]
def ownD (s : Sta) : PyData := .list [.list (s.done.map fun n => .int (n : Nat)), .list (s.lines.map fun l => .list (l.map pairD)), .list (s.box.map .int), .list (s.got.map fun l => .list (l.map .int))]
theorem ownT_er {s : Sta} : (ownT s).er = ownD s := by
  have e1 : ∀ l : List (List (Nat × Int)), OT.ers (l.map pairsT) = l.map fun l => .list (l.map pairD) := fun l => by
    rw [ers_map, List.map_map]; apply List.map_congr_left; intro a _; simp [pairsT]
  have e2 : ∀ l : List (List Int), OT.ers (l.map intsT) = l.map fun l => .list (l.map .int) := fun l => by
    rw [ers_map, List.map_map]; apply List.map_congr_left; intro a _; simp [intsT]
  simp [ownT, ownD, numsT, intsT, e1, e2]
@[simp high] theorem ownT_vw {s : Sta} : vw (ownT s) = .leaf (ownD s) := by
  show OT.leaf (ownT s).er = _
  rw [ownT_er]
@[simp high] theorem ownT_isScr {s : Sta} : (ownT s).isScr = false := rfl
/-- what the law's last number of a box is -/
theorem seen_last (b : Nat) : ∀ (l : List (Nat × Int)) (d : Int), l.foldl (fun f p => if p.1 = b then p.2 else f) d = (((l.filter fun p => p.1 = b).map (·.2)).getLast?).getD d
  | [], d => rfl
  | p :: l, d => by
    rw [List.foldl_cons, seen_last b l]
    by_cases h : p.1 = b
    · simp only [h, if_true, List.filter_cons, decide_true, List.map_cons]
      cases e : (l.filter fun p => p.1 = b).map (·.2) with
      | nil => simp
      | cons a r =>
        rw [List.getLast?_cons_cons]
        rw [List.getLast?_eq_some_getLast (List.cons_ne_nil a r)]
        rfl
    · simp [h]
/-! ### what the law's own defs say -/
def S_own_begun : SD := fun rs Q _ => ∃ w, rs = [.leaf (encWeb w)] ∧ smallW w ∧ Q (ownT (st0 w))
def S_own_can : SD := fun rs Q _ => ∃ w s h k, rs = [.leaf (encWeb w), .leaf (ownD s), .leaf (.int (h : Nat)), .leaf (.str (kindS k))] ∧ smallW w ∧ Fit w s ∧ h < w.length ∧ Q (.leaf (.bool (canS w s h k)))
def S_own_do : SM := fun r0 t r2 r3 Pd => ∃ w s h k, r0 = .leaf (encWeb w) ∧ t = ownT s ∧ r2 = .leaf (.int (h : Nat)) ∧ r3 = .leaf (.str (kindS k)) ∧ smallW w ∧ (∀ r ∈ w, ∀ st ∈ r, goodS st) ∧ Fit w s ∧ h < w.length ∧ canS w s h k = true ∧ Pd (ownT (moveS w s (h, k)))
def S_own_state : SD := fun rs Q _ => ∃ w s, rs = [.leaf (ownD s)] ∧ smallW w ∧ Fit w s ∧ Q (.leaf (encSt s))
def S_is_state : SD := fun rs Q _ => ∃ s, rs = [.leaf (encSt s), .leaf (encSt s)] ∧ s.done.length + s.box.length ≤ sizeLine ∧ (∀ l ∈ s.got, l.length ≤ sizeLine) ∧ Q (.leaf (.bool true))

/-! ### a stored comprehension over owned slots -/
theorem lift_view {K : PySem.W.Frag} {W : WX} {fx : List Nat} {t : TD} {σ : L2.St} {H : Hp} {Q : VK} : lift K W fx (tV t) σ H Q → lift K W fx t σ H Q := fun ⟨φ, A, Γ, Qd, Ed, rel, q, k, ke⟩ =>
  ⟨_, [], vws Γ, _, Ed, rel.view, q, fun r v H' s res ⟨fl, qd⟩ => k r v H' s (res.unview rel.dom s fl) qd, ke⟩
section
variable {X : Cx} {W : WX} {fx : List Nat} {e a b elt tg : Expr} {ifs : List Expr} {t u te : TD} {tt : TDT} {pos p spos py : Pos} {i k y : Nat} {scope : Scope} {x yn : Str}
variable (hc : X.calm = true) (hN : X.N.Nodup) (ok : BlkOk X.N X.env.scope scope [(x, i)])
  (hg : ∀ (s : Shared) (H : Hp) (C : Addr) (cl : List (Str × Addr)) (fp : List Addr), PG (X.blk s H scope (compEnvC scope cl C X.env) fp) tg (gName i))
  (ht : ∀ (s : Shared) (H : Hp) (C : Addr) (cl : List (Str × Addr)) (fp : List Addr), PTs (X.blk s H scope (compEnvC scope cl C X.env) fp) ifs (liftT X.K W0 fx tt))
  (hel : ∀ (s : Shared) (H : Hp) (C : Addr) (cl : List (Str × Addr)) (fp : List Addr), PE (X.blk s H scope (compEnvC scope cl C X.env) fp) elt (lift X.K W0 fx te))
include hc hN ok hg ht hel
theorem ds_lcLFV (hy : X.N[y]? = some yn) (hyl : X.env.scope.names.lookup yn = some .local) (hsw : swapsWith (.ListComp elt [⟨tg, e, ifs, 0⟩] scope pos) (some (.Name yn py)) spos.line X.env = pure true) (he : DE X W fx e t) (hf : i ∉ fx := by decide) (hfy : y ∉ fx := by decide) (hs : ∀ x, foldedSetIterable e X.env x = pure x := by intro _; rfl) :
    DS X W fx (.Assign [.Name yn py] (.ListComp elt [⟨tg, e, ifs, 0⟩] scope pos) spos) (tSetF y (tV (tLcD srcL i tt te t))) :=
  PS.imp (ps_setLc hc hN hy hyl hsw (pi_list he) ok hg ht hel hs) fun D σ H h => lcL_imp hf (lift_view (setF_imp hfy h))
end
/-- a comprehension with a test -/
theorem compInv_filter {ds : List PyData} {i : Nat} {tt : TDT} {te : TD} {Γ : Ev} {Q : OT → Prop} (p : PyData → Bool) (f : PyData → OT) (hf : free1 i Γ) (hl : ds.length ≤ sizeLine) (hs : ∀ d, d ∈ ds → (f d).isScr = false)
    (ht : ∀ d, d ∈ ds → ∀ Q' : Bool → Prop, Q' (p d) → tt (Γ.set i (some (.leaf d))) Q' fun _ => False)
    (h : ∀ d, d ∈ ds → p d = true → ∀ Q' : OT → Prop, Q' (f d) → te (Γ.set i (some (.leaf d))) Q' fun _ => False) (q : Q (.node ((ds.filter p).map f))) : compInv ds i tt te Γ Q := by
  refine ⟨hf, fun n acc => acc = ((ds.take n).filter p).map f, by simp, fun n d acc e ea => ?_, fun acc ea => by rw [ea, List.take_length]; exact q⟩
  have hn : n < ds.length := (List.getElem?_eq_some_iff.mp e).1
  have hm : d ∈ ds := List.mem_of_getElem? e
  have e1 : ds.take (n + 1) = ds.take n ++ [d] := by rw [List.take_add_one, e]; rfl
  refine ht d hm _ ?_
  by_cases hp : p d = true
  · rw [if_pos hp]
    refine h d hm hp _ ⟨hs d hm, ?_, ?_⟩
    · rw [ea, List.length_map]
      have := List.length_filter_le p (ds.take n)
      rw [List.length_take] at this
      omega
    · rw [ea]; show _ = ((ds.take (n + 1)).filter p).map f
      rw [e1]; simp [hp]
  · rw [if_neg hp, ea]
    show _ = ((ds.take (n + 1)).filter p).map f
    rw [e1]; simp [hp]

@[simp high] theorem isTup_st {s : Sta} : isTupD (encSt s) = true := rfl
@[simp high] theorem eqOk_st {s t : Sta} : eqOk (encSt s) (encSt t) = true := by
  show (okd (encSt s) && okd (encSt t)) = true
  simp
@[simp high] theorem eqv_st {s : Sta} : PyData.eqv (encSt s) (encSt s) = true := okd_refl okd_st
@[simp high] theorem srcL_web {w : Web} : srcL (.leaf (encWeb w)) = some (w.map encRow) := rfl
@[simp high] theorem srcT_ints {l : List Int} : srcT (.leaf (intsD l)) = some (l.map .int) := rfl
@[simp high] theorem srcT_got {l : List (List Int)} : srcT (.leaf (gotD l)) = some (l.map intsD) := rfl
theorem nums_eq (l : List Nat) : (natsD l) = .tuple (l.map fun n => .int (n : Nat)) := rfl

@[simp high] theorem isList_own {s : Sta} : isListD (ownD s) = true := rfl
/-! ### paths in the law's own state -/
def own4 (s : Sta) : List OT := [numsT s.done, .node (s.lines.map pairsT), intsT s.box, .node (s.got.map intsT)]
@[simp] theorem own4_len {s : Sta} : (own4 s).length = 4 := rfl
@[simp high] theorem own_nil {s : Sta} : (ownT s).at [] = some (.node (own4 s)) := rfl
@[simp high] theorem own_at0 {s : Sta} : (ownT s).at [0] = some (.node (s.done.map fun n => .leaf (.int (n : Nat)))) := rfl
@[simp high] theorem own_at1 {s : Sta} : (ownT s).at [1] = some (.node (s.lines.map pairsT)) := rfl
@[simp high] theorem own_at2 {s : Sta} : (ownT s).at [2] = some (.node (s.box.map fun n => .leaf (.int n))) := rfl
@[simp high] theorem own_at3 {s : Sta} : (ownT s).at [3] = some (.node (s.got.map intsT)) := rfl
@[simp high] theorem own_at1h {s : Sta} {h : Nat} : (ownT s).at [1, h] = (s.lines[h]?).map pairsT := by
  show ((s.lines.map pairsT)[h]?).bind (fun t => t.at []) = _
  rw [List.getElem?_map]
  cases s.lines[h]? <;> rfl
@[simp high] theorem own_at3h {s : Sta} {h : Nat} : (ownT s).at [3, h] = (s.got[h]?).map intsT := by
  show ((s.got.map intsT)[h]?).bind (fun t => t.at []) = _
  rw [List.getElem?_map]
  cases s.got[h]? <;> rfl
@[simp] theorem pairsT_node {l : List (Nat × Int)} {ts : List OT} : (pairsT l = OT.node ts) = ((l.map fun p => OT.leaf (pairD p)) = ts) := by simp [pairsT]
@[simp] theorem intsT_node {l : List Int} {ts : List OT} : (intsT l = OT.node ts) = ((l.map fun p => OT.leaf (.int p)) = ts) := by simp [intsT]
@[simp] theorem ix40 : ixN 4 0 = some 0 := rfl
@[simp] theorem ix41 : ixN 4 1 = some 1 := rfl
@[simp] theorem ix42 : ixN 4 2 = some 2 := rfl
@[simp] theorem ix43 : ixN 4 3 = some 3 := rfl
theorem mod_map {α β : Type} (f : α → β) (l : List α) (h : Nat) (x : α) : (l.map f).modify h (fun _ => f x) = (l.set h x).map f := by
  apply List.ext_getElem?
  intro m
  simp only [List.getElem?_map, List.getElem?_modify, List.getElem?_set]
  by_cases e : h = m
  · subst e
    by_cases hl : h < l.length
    · simp [hl]
    · simp [hl, List.getElem?_eq_none (Nat.le_of_not_lt hl)]
  · simp [e]
@[simp high] theorem own_put1 {s : Sta} {h : Nat} {l : List (Nat × Int)} : (ownT s).put [1, h] (.node (l.map fun p => .leaf (pairD p))) = ownT { s with lines := s.lines.set h l } := by
  show OT.node [numsT s.done, .node ((s.lines.map pairsT).modify h fun t => pairsT l), intsT s.box, .node (s.got.map intsT)] = _
  rw [mod_map]; rfl
@[simp high] theorem own_put1a {s : Sta} {h b : Nat} {n : Int} {l : List (Nat × Int)} : (ownT s).put [1, h] (.node ((l.map fun p => .leaf (pairD p)) ++ [.leaf (.tuple [.int (b : Nat), .int n])])) = ownT { s with lines := s.lines.set h (l ++ [(b, n)]) } := by
  rw [← own_put1]
  simp [pairD]
@[simp high] theorem own_put3a {s : Sta} {h : Nat} {n : Int} {l : List Int} : (ownT s).put [3, h] (.node ((l.map fun p => .leaf (.int p)) ++ [.leaf (.int n)])) = ownT { s with got := s.got.set h (l ++ [n]) } := by
  have e : (.node ((l.map fun p => .leaf (.int p)) ++ [.leaf (.int n)])) = intsT (l ++ [n]) := by simp [intsT]
  rw [e]
  show OT.node [numsT s.done, .node (s.lines.map pairsT), intsT s.box, .node ((s.got.map intsT).modify h fun t => intsT (l ++ [n]))] = _
  rw [mod_map]; rfl
@[simp high] theorem own_put2 {s : Sta} {j : Nat} {n : Int} : (ownT s).put [2] (.node ((s.box.map fun p => .leaf (.int p)).set j (.leaf (.int n)))) = ownT { s with box := s.box.set j n } := by
  show OT.node [numsT s.done, .node (s.lines.map pairsT), .node ((s.box.map fun p => .leaf (.int p)).set j (.leaf (.int n))), .node (s.got.map intsT)] = _
  simp [ownT, intsT, List.map_set]
@[simp high] theorem own_put0 {s : Sta} {j n : Nat} : (ownT s).put [0] (.node ((s.done.map fun p => .leaf (.int (p : Nat))).set j (.leaf (.int ((n : Int) + 1))))) = ownT { s with done := s.done.set j (n + 1) } := by
  show OT.node [.node ((s.done.map fun p => .leaf (.int (p : Nat))).set j (.leaf (.int ((n : Int) + 1)))), .node (s.lines.map pairsT), intsT s.box, .node (s.got.map intsT)] = _
  simp [ownT, numsT, List.map_set]
theorem ixN_n {n h : Nat} (hh : h < n) : ixN n (h : Int) = some h := by
  rw [ixN_of (by omega) (by omega)]; rfl
/-! reading the law's own state -/
@[simp] theorem ix_own0 {s : Sta} : ixD (ownD s) (.int 0) = some (.list (s.done.map fun n => .int (n : Nat))) := by simp [ownD]
@[simp] theorem ix_own1 {s : Sta} : ixD (ownD s) (.int 1) = some (.list (s.lines.map fun l => .list (l.map pairD))) := by simp [ownD]
@[simp] theorem ix_own2 {s : Sta} : ixD (ownD s) (.int 2) = some (.list (s.box.map .int)) := by simp [ownD]
@[simp] theorem ix_own3 {s : Sta} : ixD (ownD s) (.int 3) = some (.list (s.got.map fun l => .list (l.map .int))) := by simp [ownD]

@[simp high] theorem ownT_node {s : Sta} {ts : List OT} : (ownT s = OT.node ts) = (own4 s = ts) := propext ⟨fun h => by cases h; rfl, fun h => by cases h; rfl⟩
@[simp high] theorem own_er {s : Sta} : (ownT s).er = ownD s := ownT_er

def boxP (b : Nat) : PyData → Bool
  | .tuple [.int a, _] => decide (a = (b : Int))
  | _ => false
def sndD : PyData → OT
  | .tuple [_, x] => .leaf x
  | _ => .leaf .none
theorem mine_eq (b : Nat) (l : List (Nat × Int)) : ((l.map pairD).filter (boxP b)).map sndD = ((l.filter fun p => p.1 = b).map (·.2)).map fun n => .leaf (.int n) := by
  induction l with
  | nil => rfl
  | cons p l ih =>
    have e : boxP b (pairD p) = decide (p.1 = b) := by simp [boxP, pairD]
    simp only [List.map_cons, List.filter_cons, e]
    by_cases h : p.1 = b
    · simp only [h, decide_true, if_true, List.map_cons]
      rw [ih]; rfl
    · simp only [h, decide_false, Bool.false_eq_true, if_false]
      exact ih
theorem oflats_ints (l : List Int) : oflats (l.map fun n => .leaf (.int n)) = true := by
  induction l with
  | nil => rfl
  | cons a l ih => simp [oflats, oflat, flat, ih]
theorem atI_last {α : Type} {xs : List α} {x : α} : atI (xs ++ [x]) (-1) = some x := by
  unfold atI ixN
  rw [if_neg (by decide), if_pos (by simp; omega)]
  have e : (-1 + ((xs ++ [x]).length : Int)).toNat = xs.length := by simp; omega
  rw [e]
  simp
theorem okd_ints {l : List Int} : okd (.list (l.map .int)) = true := okd_pl (n := 1) (by
  simp only [pl, pls_iff, List.mem_map]
  rintro _ ⟨p, _, rfl⟩; rfl)

@[simp] theorem neq_nil {l : List PyData} : PyData.eqv (.list []) (.list l) = l.isEmpty := by cases l <;> simp [PyData.eqv, PyData.eqvAll]
/-- what is no move, whatever the state -/
def noMove (w : Web) (d : PyData) : Prop := askM d = true ∧ ∀ s, canD w s d = false
def S_odd_move : SD := fun rs Q _ => ∃ w c, rs = [.leaf (encWeb w), .leaf (.int c)] ∧ smallW w ∧ 1 ≤ w.length ∧ ∀ d, noMove w d → flat d = true ∨ d = .list [.int 0, .str "step"] → Q (.leaf d)
theorem noMove_hand {w : Web} {a : Int} {x : Str} (h : ¬ (0 ≤ a ∧ a < w.length)) : noMove w (.tuple [.int a, .str x]) := ⟨by simp [askM], fun s => canD_out h⟩
theorem noMove_word {w : Web} {a : Int} {x : Str} (h1 : x ≠ Str.ofString "send") (h2 : x ≠ Str.ofString "step") : noMove w (.tuple [.int a, .str x]) := ⟨by simp [askM], fun s => by simp [canD, h1, h2]⟩

/-! ### is False -/
section
variable {X : Cx} {W : WX} {fx : List Nat} {a b : Expr} {t u : TD} {pos : Pos}
@[simp] def fIsB (x y : OT) (Q : OT → Prop) : Prop := ∃ a b, x.er = .bool a ∧ y.er = .bool b ∧ Q (.leaf (.bool (decide (a = b))))
theorem de_isB (ha : DE X W fx a t) (hb : DE X W fx b u) : DE X W fx (.Compare a [.Is] [b] pos) (tB fIsB t u) := de_bin (pe_cmpR op_is_bl ha hb (nomark _)) fun A Z H1 x y v u Q Qd dm c c' ⟨a, b, e1, e2, q⟩ k =>
  ⟨a, b, c.bl e1, c'.bl e2, k.leaf (.bl _) q⟩
end
theorem noMove_other {w : Web} {d : PyData} (h1 : askM d = true) (h2 : ∀ s, canD w s d = false) : noMove w d := ⟨h1, h2⟩
@[simp] theorem eqOk_non {x : Str} : eqOk .none (.str x) = true := rfl
theorem log2_2 : Nat.log2 2 < 64 := log_small (by decide)
theorem log2_30 : Nat.log2 1000000000000000000000000000000 < 128 := log_lt (by decide) (by decide)
theorem log2_p7 : Nat.log2 610666465330867800319356957143791 < 128 := log_lt (by decide) (by decide)

@[simp] theorem eqOk_bool {a b : Bool} : eqOk (.bool a) (.bool b) = true := by
  show (okd (.bool a) && okd (.bool b)) = true
  rw [okd_pl (n := 0) (d := .bool a) rfl, okd_pl (n := 0) (d := .bool b) rfl]; rfl
@[simp] theorem eqv_bool {a : Bool} : PyData.eqv (.bool a) (.bool a) = true := by simp [PyData.eqv]
theorem oflats_leaf : ∀ {l : List PyData}, (∀ d ∈ l, flat d = true) → oflats (l.map .leaf) = true
  | [], _ => rfl
  | d :: l, h => by
    simp [oflats, oflat, h d List.mem_cons_self, oflats_leaf fun x hx => h x (List.mem_cons_of_mem _ hx)]
/-! ### the moves that can be done -/
abbrev kinds2 : List PyData := [.str (Str.ofString "step"), .str (Str.ofString "send")]
def movesD (w : Web) (s : Sta) (j : Nat) : List PyData := (kinds2.filter fun d => canD w s (.tuple [.int (j : Nat), d])).map fun d => .tuple [.int (j : Nat), d]
def allMoves (w : Web) (s : Sta) (n : Nat) : List PyData := (List.range n).flatMap (movesD w s)
theorem movesD_len {w : Web} {s : Sta} {j : Nat} : (movesD w s j).length ≤ 2 := by
  unfold movesD
  rw [List.length_map]
  exact List.length_filter_le _ _
theorem allMoves_succ {w : Web} {s : Sta} {n : Nat} : allMoves w s (n + 1) = allMoves w s n ++ movesD w s n := by
  simp [allMoves, List.range_succ]
theorem allMoves_len {w : Web} {s : Sta} : ∀ n : Nat, (allMoves w s n).length ≤ 2 * n
  | 0 => by simp [allMoves]
  | n + 1 => by
    rw [allMoves_succ, List.length_append]
    have := allMoves_len (w := w) (s := s) n
    have := movesD_len (w := w) (s := s) (j := n)
    omega
theorem movesD_mem {w : Web} {s : Sta} {j : Nat} (hj : j < w.length) {d : PyData} (h : d ∈ movesD w s j) : ∃ b, d = moveD (j, b) ∧ canS w s j b = true := by
  obtain ⟨x, hx, rfl⟩ := List.mem_map.mp h
  have h2 := List.mem_filter.mp hx
  have h3 : x = .str (Str.ofString "step") ∨ x = .str (Str.ofString "send") := by simpa using h2.1
  rcases h3 with e | e
  · subst e
    exact ⟨false, rfl, by rw [← canD_move (a := (j, false)) hj]; exact h2.2⟩
  · subst e
    exact ⟨true, rfl, by rw [← canD_move (a := (j, true)) hj]; exact h2.2⟩
theorem allMoves_mem {w : Web} {s : Sta} {n : Nat} (hn : n ≤ w.length) {d : PyData} (h : d ∈ allMoves w s n) : ∃ a : Nat × Bool, d = moveD a ∧ a.1 < w.length ∧ canS w s a.1 a.2 = true := by
  obtain ⟨j, hj, hd⟩ := List.mem_flatMap.mp h
  have hj' : j < n := List.mem_range.mp hj
  obtain ⟨b, e, c⟩ := movesD_mem (by omega) hd
  exact ⟨(j, b), e, by show j < w.length; omega, c⟩
theorem flat_move {a : Nat × Bool} : flat (moveD a) = true := by
  obtain ⟨n, k⟩ := a
  cases k <;> simp [moveD, flat, flats]
theorem sOk_step : PyData.strOk (Str.ofString "step") = true := by decide +kernel
theorem sOk_send : PyData.strOk (Str.ofString "send") = true := by decide +kernel
theorem pl_move {a : Nat × Bool} : pl 1 (moveD a) = true := by
  obtain ⟨n, k⟩ := a
  cases k <;> simp [moveD, kindS, pl, pls, sOk_step, sOk_send]
theorem okd_moves {l : List PyData} (h : ∀ d ∈ l, ∃ a, d = moveD a) : okd (.list l) = true := okd_pl (n := 2) (by
  simp only [pl, pls_iff]
  intro d hd
  obtain ⟨a, rfl⟩ := h d hd
  exact pl_move)
end FW

set_option Elab.async false
set_option linter.all false
set_option maxRecDepth 100000
set_option maxHeartbeats 4000000
namespace FW
open PySem PySem.Spec PyProof.Rows L2
/-! ### try .. except C (no name) -/
section
variable {X : Cx} {W : WX} {fx : List Nat} {body suite : List Stmt} {b₀ : Stmt} {tb : TDS} {np pos pos' p q2 : Pos} {x n : Str} {c : Value} {i : Nat}
def caught0 (K : PySem.W.Frag) (c : Value) (ts : TDS) (D : DEnds) (cls : Value) (Γ : Ev) : Prop :=
  ∃ b, PySem.W.exmOne K cls c = some b ∧ (b = true → ts { D with ex := fun _ _ => False } Γ) ∧ (b = false → D.ex cls Γ)
@[simp] def tTry0 (K : PySem.W.Frag) (c : Value) (tb : TDS) (ts : TDS) : TDS := fun D Γ => tb { D with ex := caught0 K c ts D } Γ
theorem ds_tryOnly {ts : TDS} (hs : X.stack = X.env :: X.outer) (hf : X.env.frame = some X.env.locals) (hc : Names X x c) (tk : Takes X W)
    (hb : ∀ (W : WX) (pn : List (Addr × Obj)) (xe : Value → Shared → Prop), Takes (X.tr pn xe) W → PassesOwn (model X.prog X.w) X.A X.env xe → DSs (X.tr pn xe) W fx body tb)
    (hsu : ∀ (a : Addr) (oe : Obj) (cls : Value) (d : Option Addr) (pn : List (Addr × Obj)), Zc cls d oe → (∃ vs, oe.data = .fields vs) → DSs (X.suite a ((a, oe) :: pn)) W0 fx (b₀ :: suite) ts) :
    DS X W fx (.Try body [.ExceptHandler (some (.Name x np)) none (b₀ :: suite) pos'] [] [] pos) (tTry0 X.K c tb ts) := by
  refine PS.imp (ps_try_only (tb := fun W' => liftS X.K W' fx tb) (ts := fun a cls d D σ H => liftS X.K W0 fx ts D σ H) hs hf hc tk hb hsu) fun D σ H h => ?_
  obtain ⟨φ, A, Γ, Dd, rel, q, er⟩ := h
  refine ⟨φ, A, Γ, _, rel, q, ⟨er.nx, er.rt, er.bk, er.ct, fun cls σ1 H1 A1 Γ1 r1 ⟨b, eb, qt, qf⟩ => ⟨b, eb, fun hb a ha => ?_, fun hb => er.ex cls σ1 H1 A1 Γ1 r1 (qf hb)⟩, er.rf⟩⟩
  exact ⟨φ, A1, Γ1, _, r1, qt hb, ⟨er.nx, er.rt, er.bk, er.ct, fun _ _ _ _ _ _ z => z.elim, er.rf⟩⟩
end
/-! ### a text, once or not at all -/
section
variable {X : Cx} {W : WX} {fx : List Nat} {a b : Expr} {t u : TD} {pos : Pos}
def rStr01 : R2 := fun x y H Q => ∃ z, x = .str z ∧ ((y = .int 0 ∧ Q (.str Str.empty) H) ∨ (y = .int 1 ∧ Q (.str z) H))
theorem op_str01 : OpR X (binaryOp .Mult) rStr01 := by
  intro pins s σ H x y v u Q I rx ry h
  obtain ⟨z, rfl, ⟨rfl, q⟩ | ⟨rfl, q⟩⟩ := h
  · obtain ⟨t, rfl⟩ := rx
    obtain ⟨t', rfl⟩ := ry
    exact P.mul_str_none (by decide) (by decide) ⟨.str Str.empty, H, I.tok _, ⟨_, rfl⟩, q⟩
  · obtain ⟨t, rfl⟩ := rx
    obtain ⟨t', rfl⟩ := ry
    refine P.mul_str (by decide) (fun _ h => by simp at h) (fun _ h => by simp at h) ?_
    rw [if_neg (by decide), if_pos (by simp)]
    exact ⟨.str z, H, I, ⟨_, rfl⟩, q⟩
@[simp] def fStr01 (x y : OT) (Q : OT → Prop) : Prop := ∃ z, x.er = .str z ∧ ((y.er = .int 0 ∧ Q (.leaf (.str Str.empty))) ∨ (y.er = .int 1 ∧ Q (.leaf (.str z))))
theorem de_mulS (ha : DE X W fx a t) (hb : DE X W fx b u) : DE X W fx (.BinOp a .Mult b pos) (tB fStr01 t u) := de_bin (pe_op op_str01 ha hb) fun A Z H1 x y v u Q Qd dm c c' ⟨z, e1, h⟩ k =>
  ⟨z, c.str e1, h.imp (fun ⟨e2, q⟩ => ⟨c'.int e2, k.leaf (.str _) q⟩) fun ⟨e2, q⟩ => ⟨c'.int e2, k.leaf (.str _) q⟩⟩
end
/-! ### ends -/
def overS (w : Web) (s : Sta) : Bool := (List.range w.length).all fun h => decide (s.done.getD h 0 = (w.getD h []).length) && decide (s.lines.getD h [] = [])
def endD (s : Sta) : PyData := .tuple [intsD s.box, gotD s.got]
def decM : PyData → Nat × Bool
  | .tuple [.int h, .str x] => (h.toNat, decide (x = Str.ofString "send"))
  | _ => (0, false)
theorem canD_dec {w : Web} {s : Sta} {d : PyData} (h : canD w s d = true) : d = moveD (decM d) ∧ (decM d).1 < w.length ∧ canS w s (decM d).1 (decM d).2 = true := by
  unfold canD at h
  split at h
  · rename_i i x
    simp only [Bool.and_eq_true, decide_eq_true_eq, Bool.or_eq_true] at h
    obtain ⟨⟨h0, h1⟩, h2⟩ := h
    obtain ⟨n, rfl⟩ := Int.eq_ofNat_of_zero_le h0
    have hn : n < w.length := by omega
    rcases h2 with ⟨e, c⟩ | ⟨e, c⟩
    · subst e
      exact ⟨rfl, by simpa [decM] using hn, by simpa [decM] using c⟩
    · subst e
      exact ⟨rfl, by simpa [decM] using hn, by simpa [decM] using c⟩
  · cases h
/-- a run by moves; none: a move that cannot be done -/
def runD (w : Web) : Sta → List PyData → Option Sta
  | s, [] => some s
  | s, m :: ms => if canD w s m = true then runD w (moveS w s (decM m)) ms else none
theorem decM_move {a : Nat × Bool} : decM (moveD a) = a := by
  obtain ⟨n, k⟩ := a
  cases k <;> simp [decM, moveD, kindS]
def S_is_over : SD := fun rs Q _ => ∃ w s, rs = [.leaf (encWeb w), .leaf (encSt s)] ∧ smallW w ∧ Fit w s ∧ Q (.leaf (.bool (overS w s)))
def S_end_of (C : Value) : SD := fun rs Q E => ∃ w s, rs = [.leaf (encWeb w), .leaf (encSt s)] ∧ smallW w ∧ Fit w s ∧ if overS w s = true then Q (.leaf (endD s)) else E C
def S_woven (CB CM CO : Value) : SD := fun rs Q E => ∃ d m, rs = [.leaf d, .leaf m] ∧ ((okWeb d = false ∧ E CB) ∨ ∃ w ms, d = encWeb w ∧ m = .list ms ∧ okWeb d = true ∧ smallW w ∧ (∀ r ∈ w, ∀ st ∈ r, goodS st) ∧ (∀ x ∈ ms, askM x = true) ∧
  match runD w (st0 w) ms with
  | none => E CM
  | some s => if overS w s = true then Q (.leaf (endD s)) else E CO)
theorem runD_append {w : Web} : ∀ (ms ns : List PyData) (s : Sta), runD w s (ms ++ ns) = (runD w s ms).bind fun s' => runD w s' ns
  | [], ns, s => rfl
  | m :: ms, ns, s => by
    simp only [List.cons_append, runD]
    split
    · exact runD_append ms ns _
    · rfl
theorem runD_fit {w : Web} (gs : ∀ r ∈ w, ∀ st ∈ r, goodS st) : ∀ {ms : List PyData} {s s' : Sta}, Fit w s → runD w s ms = some s' → Fit w s'
  | [], s, s', f, h => by cases h; exact f
  | m :: ms, s, s', f, h => by
    simp only [runD] at h
    split at h
    · rename_i c
      obtain ⟨_, h1, h2⟩ := canD_dec c
      exact runD_fit gs (f.move gs h1 h2) h
    · cases h

def S_own_moves : SD := fun rs Q _ => ∃ w s, rs = [.leaf (encWeb w), .leaf (ownD s)] ∧ smallW w ∧ Fit w s ∧ Q (.node ((allMoves w s w.length).map .leaf))
/-- where no move can be done, all is over -/
theorem over_iff {w : Web} {s : Sta} (f : Fit w s) : allMoves w s w.length = [] ↔ overS w s = true := by
  have key : ∀ h, h < w.length → (movesD w s h = [] ↔ (s.done.getD h 0 = (w.getD h []).length ∧ s.lines.getD h [] = [])) := fun h hh => by
    have a1 := canD_move (s := s) (a := (h, false)) hh
    have a2 := canD_move (s := s) (a := (h, true)) hh
    simp only [moveD, kindS] at a1 a2
    have a1' : canD w s (.tuple [.int (h : Nat), .str (Str.ofString "step")]) = canS w s h false := a1
    have a2' : canD w s (.tuple [.int (h : Nat), .str (Str.ofString "send")]) = canS w s h true := a2
    have e : movesD w s h = [] ↔ (canS w s h false = false ∧ canS w s h true = false) := by
      unfold movesD kinds2
      rw [List.map_eq_nil_iff, List.filter_eq_nil_iff]
      simp [a1', a2']
    rw [e]
    have le := f.le h
    unfold canS
    simp only [if_true, Bool.false_eq_true, if_false]
    constructor
    · rintro ⟨h1, h2⟩
      have hl : s.lines.getD h [] = [] := by simpa using h2
      rw [hl] at h1
      have : s.done.getD h 0 = (w.getD h []).length := by
        by_cases z : s.done.getD h 0 = (w.getD h []).length
        · exact z
        · simp only [ne_eq, z, not_false_eq_true, decide_true, Bool.true_and, Bool.or_true] at h1
          cases h1
      exact ⟨this, hl⟩
    · rintro ⟨h1, h2⟩
      rw [h1, h2]
      simp
  constructor
  · intro h
    refine List.all_eq_true.mpr fun k hk => ?_
    have hk' := List.mem_range.mp hk
    have z : movesD w s k = [] := by
      have := List.flatMap_eq_nil_iff.mp h k hk
      exact this
    have y := (key k hk').mp z
    simp only [y.1, y.2, decide_true, Bool.and_self]
  · intro h
    refine List.flatMap_eq_nil_iff.mpr fun k hk => ?_
    refine (key k (List.mem_range.mp hk)).mpr ?_
    have z := List.all_eq_true.mp h k hk
    simpa using z

theorem okd_end {s : Sta} : okd (endD s) = true := okd_pl (n := 4) (by
  simp [endD, pl, pls, pl_up pl_ints (show 1 ≤ 3 by decide), pl_up pl_got (show 2 ≤ 3 by decide)])
end FW
namespace FW
open PySem PySem.Spec PyProof.Rows L2
/-! ### xs[i] = a new list, which xs owns from then on -/
section
variable {K : PySem.W.Frag} {H : Hp}
theorem Owns.setOwn {Hs : Hp} {v : V} {r : OT} {D : List Addr} : ∀ {vs : List V} {ts : List OT} {C : List Addr} {j : Nat}, Owns K Hs H vs ts C → C.Nodup → j < ts.length → r.isScr = false → Own K Hs H v r D → D.Nodup → (∀ a, a ∈ D → a ∉ C) →
    ∃ C', Owns K Hs H (vs.set j v) (ts.set j r) C' ∧ C'.Nodup ∧ ∀ a, a ∈ C' → a ∈ D ∨ a ∈ C
  | _, _, _, _, .nil, _, hj, _, _, _, _ => by simp at hj
  | _, _, _, 0, .cons (A := A0) (B := B) ns o1 o2, n, _, nr, o, nd, dj => ⟨D ++ B, .cons nr o o2, List.nodup_append.mpr ⟨nd, (List.nodup_append.mp n).2.1, fun a ha b hb e => dj a ha (e ▸ List.mem_append_right _ hb)⟩, fun a ha => (List.mem_append.mp ha).imp id fun z => List.mem_append_right _ z⟩
  | _, _, _, j + 1, .cons (A := A0) (B := B) ns o1 o2, n, hj, nr, o, nd, dj => by
    have n' := List.nodup_append.mp n
    obtain ⟨C', c1, c2, c3⟩ := Owns.setOwn (j := j) o2 n'.2.1 (Nat.lt_of_succ_lt_succ hj) nr o nd fun a ha z => dj a ha (List.mem_append_right _ z)
    refine ⟨A0 ++ C', .cons ns o1 c1, List.nodup_append.mpr ⟨n'.1, c2, fun a ha b hb e => ?_⟩, fun a ha => ?_⟩
    · subst e
      rcases c3 a hb with z | z
      · exact dj a z (List.mem_append_left _ ha)
      · exact n'.2.2 a ha a z rfl
    · rcases List.mem_append.mp ha with z | z
      · exact .inr (List.mem_append_left _ z)
      · exact (c3 a z).imp id fun y => List.mem_append_right _ y
end
section
variable {X : Cx} {W : WX} {fx : List Nat} {e a b : Expr} {t u : TD} {tr : TDR} {pos p apos cpos ipos : Pos} {i k : Nat}
@[simp] def tSetIO (i : Nat) (tr : TDR) (ti t : TD) : TDS := fun D Γ => t Γ (fun r => r.isScr = false ∧ tr Γ (fun js => ti Γ (fun x => ∃ k, x.er = .int k ∧ lstAt i js Γ fun tree ts => ∃ j, ixN ts.length k = some j ∧ D.nx (Γ.set i (some (tree.put js (.node (ts.set j r)))))) fun c => D.ex c Γ) fun c => D.ex c Γ) fun c => D.ex c Γ
theorem ds_setIO {v : Expr} {ti : TD} {spos : Pos} (ha : DR X W fx i a tr) (hb : DE X W fx b ti) (hv : DE X W fx v t)
    (hg : ∀ w, assign (.Subscript a b ipos) X.env w = (do
      let ov ← holding [w] (eval a X.env)
      let iv ← holding [w, ov] (eval b X.env)
      standAt ipos
      holding [w, ov, iv] (setItem ov iv w)
      release [w, ov, iv] []) := by intro _; rfl)
    (hs : swapsWithSole [.Subscript a b ipos] v spos.line X.env = pure false := by rfl) (hw : swappedStores [.Subscript a b ipos] v X.env = pure none := by rfl)
    (h1 : (assignEach [.Subscript a b ipos] X.env).map (·.2) = [assign (.Subscript a b ipos) X.env] := by rfl) :
    DS X W fx (.Assign [.Subscript a b ipos] v spos) (tSetIO i tr ti t) := PS.imp (ps_asg hv (pg_sub ha hb set_list hg) hs hw h1) fun D σ H ⟨φ, A, Γ, Dd, rel, q, er⟩ => by
  refine ⟨φ, A, Γ, _, _, rel, q, fun r v H1 s1 ⟨As, n, f, o⟩ ⟨ns, q1⟩ => ?_, fun c H' s' q' => er.ex c σ H' A Γ (rel.mono s') q'⟩
  have rel1 := rel.mono s1
  refine ⟨φ, A, Γ, _, _, rel1, q1, fun js v2 H2 s2 ⟨root, hr, re⟩ q2 => ?_, fun c H' s' q' => er.ex c σ H' A Γ (rel1.mono s') q'⟩
  have rel2 := rel1.mono s2
  refine ⟨φ, A, Γ, _, _, rel2, q2, fun x w H3 s3 r3 ⟨k, ek, tree, ts, e1, e2, j, ej, q3⟩ => ?_, fun c H' s' q' => er.ex c σ H' A Γ (rel2.mono s') q'⟩
  have rel3 := rel2.mono s3
  have re3 := re.mono s3
  have s23 := s2.trans s3
  have sa := s1.trans s23
  obtain ⟨q', rfl⟩ := rel3.reach e1 e2 hr re3
  have ew := (r3.cv rel2.dom).int ek
  subst ew
  have hj := (ixN_seq ej).2.1
  have nd : ∀ a, a ∈ As → a ∉ A ++ φ.Z := fun a ha z => by
    obtain ⟨xs, w⟩ := rel.dom a z
    rw [f a ha] at w; cases w
  obtain ⟨vs, Bs, c1, c2, c3, c4, c5, c6⟩ := rel3.change (Ns := As) (rel.env.mono (hid_new sa fun a ha => (List.mem_append.mp ha).elim (fun z => .inr (f a z)) .inl) fun a _ o z => sa a o z) (fun a ha => ⟨.inr (rel.fresh (f a ha)), nd a ha⟩) e1 e2 hr re3
  have qs : q' ∉ As := fun z => nd q' z (List.mem_append_left _ c2)
  have nd4 := List.nodup_cons.mp c4
  obtain ⟨C', d1, d2, d3⟩ := c3.setOwn nd4.2 hj ns (o.same (hid_mono s23) s23) n fun a ha z => nd a ha (List.mem_append_left _ (c5 a (List.mem_cons_of_mem _ z)))
  have nq : q' ∉ C' := fun z => (d3 q' z).elim qs nd4.1
  obtain ⟨A', r', _⟩ := c6 (vs.set j v) (ts.set j r) C' (fun b hb => (d3 b hb).symm) (List.nodup_cons.mpr ⟨nq, d2⟩) (d1.mono (Same.refl _) fun a ha ob z => by
    rw [upd_ne fun y : a = q' => nq (y ▸ ha)]; exact z)
  exact ⟨q', vs, k, j, rfl, rfl, c1, by rw [c3.length]; exact ej, er.nx _ _ A' _ r' q3⟩
end
end FW

namespace FW
open PySem PySem.Spec PyProof.Rows L2
/-! ### what is left to do -/
def leftS (w : Web) (s : Sta) (h : Nat) : Nat := 2 * ((w.getD h []).length - s.done.getD h 0) + (s.lines.getD h []).length
def mu (w : Web) (s : Sta) : Nat := ((List.range w.length).map (leftS w s)).sum
theorem sum_lt {f g : Nat → Nat} : ∀ {n h : Nat}, h < n → (∀ k, k < n → f k ≤ g k) → f h < g h → ((List.range n).map f).sum < ((List.range n).map g).sum
  | 0, _, hh, _, _ => by omega
  | n + 1, h, hh, le, lt => by
    have sle : ((List.range n).map f).sum ≤ ((List.range n).map g).sum := by
      clear lt hh
      have le' : ∀ k, k < n → f k ≤ g k := fun k hk => le k (by omega)
      clear le
      induction n with
      | zero => simp
      | succ n ih =>
        have := ih fun k hk => le' k (by omega)
        have := le' n (by omega)
        simp [List.range_succ]; omega
    have ln := le n (by omega)
    simp only [List.range_succ, List.map_append, List.sum_append, List.map_cons, List.map_nil, List.sum_cons, List.sum_nil]
    by_cases e : h = n
    · subst e; omega
    · have := sum_lt (f := f) (g := g) (n := n) (h := h) (by omega) (fun k hk => le k (by omega)) lt
      omega
theorem mu_move {w : Web} {s : Sta} (f : Fit w s) {h : Nat} {k : Bool} (hh : h < w.length) (c : canS w s h k = true) : mu w (moveS w s (h, k)) < mu w s := by
  have hd1 : h < s.done.length := by rw [f.d]; exact hh
  have hl1 : h < s.lines.length := by rw [f.l]; exact hh
  have le := f.le h
  refine sum_lt hh (fun j hj => ?_) ?_
  · by_cases e : j = h
    · subst e
      cases k with
      | true =>
        unfold leftS moveS sendS
        simp only [if_true]
        split
        · rename_i p r el
          simp only [getD_set hl1, if_true, el, List.length_cons]
          omega
        · exact Nat.le_refl _
      | false =>
        have nd := canS_step c
        unfold leftS moveS stepS
        simp only [Bool.false_eq_true, if_false]
        split <;> simp only [getD_set hd1, getD_set hl1, if_true, List.length_append, List.length_singleton] <;> omega
    · have e' : ¬ h = j := fun z => e z.symm
      cases k with
      | true =>
        unfold leftS moveS sendS
        simp only [if_true]
        split
        · simp only [getD_set hl1, e', if_false]; exact Nat.le_refl _
        · exact Nat.le_refl _
      | false =>
        unfold leftS moveS stepS
        simp only [Bool.false_eq_true, if_false]
        split <;> simp only [getD_set hd1, getD_set hl1, e', if_false] <;> exact Nat.le_refl _
  · cases k with
    | true =>
      unfold leftS moveS sendS
      simp only [if_true]
      cases el : s.lines.getD h [] with
      | nil => simp [canS] at c; simp at el; exact absurd el c
      | cons p r =>
        simp only [getD_set hl1, if_true, List.length_cons]
        omega
    | false =>
      have nd := canS_step c
      unfold leftS moveS stepS
      simp only [Bool.false_eq_true, if_false]
      split <;> simp only [getD_set hd1, getD_set hl1, if_true, List.length_append, List.length_singleton] <;> omega
theorem over_no {w : Web} {s : Sta} (o : overS w s = true) {h : Nat} {k : Bool} (hh : h < w.length) : canS w s h k = false := by
  have z := List.all_eq_true.mp o h (List.mem_range.mpr hh)
  simp only [Bool.and_eq_true, decide_eq_true_eq] at z
  unfold canS
  rw [z.1, z.2]
  cases k <;> simp
theorem over_noD {w : Web} {s : Sta} (o : overS w s = true) {d : PyData} : canD w s d = false := by
  cases e : canD w s d with
  | false => rfl
  | true =>
    obtain ⟨_, h1, h2⟩ := canD_dec e
    rw [over_no o h1] at h2; cases h2
theorem mu0 {w : Web} : mu w (st0 w) = 2 * sizeW w := by
  have e : ∀ n, n ≤ w.length → ((List.range n).map (leftS w (st0 w))).sum = 2 * sizeW (w.take n) := fun n hn => by
    induction n with
    | zero => simp [sizeW]
    | succ n ih =>
      have hw : w[n]? = some w[n] := List.getElem?_eq_getElem (by omega)
      rw [List.range_succ, List.map_append, List.sum_append, ih (by omega), List.take_add_one, hw]
      have e1 : sizeW (w.take n ++ (some w[n]).toList) = sizeW (w.take n) + w[n].length := by simp only [sizeW, List.map_append, List.sum_append]; simp
      rw [e1]
      simp [leftS, st0, hw]
      omega
  have z := e w.length (Nat.le_refl _)
  rw [List.take_length] at z
  exact z
theorem rowsT_set {w : Web} {j : Nat} {r : List Step} : OT.node ((w.map fun r => .node (r.map fun s => .leaf s.enc)).set j (.node (r.map fun s => .leaf s.enc))) = nodeW (w.set j r) := by
  simp [nodeW, List.map_set]
theorem size_set {w : Web} {j : Nat} {r : List Step} (h : j < w.length) : sizeW (w.set j r) + (w.getD j []).length = sizeW w + r.length := by
  induction w generalizing j with
  | nil => simp at h
  | cons a w ih =>
    cases j with
    | zero => simp [sizeW]; omega
    | succ j =>
      have := ih (j := j) (by simpa using h)
      simp [sizeW] at this ⊢
      omega

theorem flat_moves {w : Web} {s : Sta} {n : Nat} (h : n ≤ w.length) : oflats ((allMoves w s n).map .leaf) = true := oflats_leaf fun d hd => by
  obtain ⟨a, rfl, _⟩ := allMoves_mem h hd
  exact flat_move

abbrev odds (w : Web) : List PyData := [PyData.tuple [PyData.int (w.length : Nat), PyData.str (Str.ofString "step")],
        PyData.tuple [PyData.int (-1), PyData.str (Str.ofString "send")],
        PyData.tuple [PyData.int 0, PyData.str (Str.ofString "stop")], PyData.tuple [PyData.int 0],
        PyData.tuple [PyData.int 0, PyData.str (Str.ofString "step"), PyData.int 1],
        PyData.list [PyData.int 0, PyData.str (Str.ofString "step")], PyData.none, PyData.int 5,
        PyData.tuple [PyData.bool false, PyData.str (Str.ofString "step")],
        PyData.tuple [PyData.str (Str.ofString "0"), PyData.str (Str.ofString "step")],
        PyData.tuple [PyData.int (-1), PyData.str (Str.ofString "step")],
        PyData.tuple [PyData.int (w.length : Nat), PyData.str (Str.ofString "send")],
        PyData.tuple [PyData.int 0, PyData.none], PyData.tuple [PyData.int 0, PyData.str (Str.ofString "")],
        PyData.tuple [PyData.int 0, PyData.str (Str.ofString "s")],
        PyData.tuple [PyData.int 0, PyData.str (Str.ofString "step ")],
        PyData.tuple [PyData.bool true, PyData.str (Str.ofString "send")],
        PyData.tuple [PyData.int 0, PyData.int 0]]
theorem odds_no {w : Web} : ∀ d ∈ odds w, noMove w d ∧ (flat d = true ∨ d = .list [.int 0, .str "step"]) := by
  intro d hd
  simp only [List.mem_cons, List.not_mem_nil, or_false] at hd
  rcases hd with h | h | h | h | h | h | h | h | h | h | h | h | h | h | h | h | h | h <;> subst h <;> refine ⟨?_, by simp [flat, flats]⟩
  · exact noMove_hand (by omega)
  · exact noMove_hand (by omega)
  · exact noMove_word (by decide) (by decide)
  · exact ⟨rfl, fun s => rfl⟩
  · exact ⟨rfl, fun s => rfl⟩
  · exact ⟨rfl, fun s => rfl⟩
  · exact ⟨rfl, fun s => rfl⟩
  · exact ⟨rfl, fun s => rfl⟩
  · exact ⟨rfl, fun s => rfl⟩
  · exact ⟨rfl, fun s => rfl⟩
  · exact noMove_hand (by omega)
  · exact noMove_hand (by omega)
  · exact ⟨by simp [askM], fun s => rfl⟩
  · exact noMove_word (by decide) (by decide)
  · exact noMove_word (by decide) (by decide)
  · exact noMove_word (by decide) (by decide)
  · exact ⟨rfl, fun s => rfl⟩
  · exact ⟨by simp [askM], fun s => rfl⟩

theorem any_moves {w : Web} {s : Sta} {k : Nat} {b : Bool} (hk : k < w.length) (h : anyEqv (allMoves w s w.length) (moveD (k, b)) = false) : canS w s k b = false := by
  cases c : canS w s k b with
  | false => rfl
  | true =>
    have hm : moveD (k, b) ∈ allMoves w s w.length := by
      refine List.mem_flatMap.mpr ⟨k, List.mem_range.mpr hk, List.mem_map.mpr ⟨.str (kindS b), List.mem_filter.mpr ⟨?_, ?_⟩, rfl⟩⟩
      · cases b <;> simp [kindS]
      · have := canD_move (s := s) (a := (k, b)) hk
        simp only [moveD] at this
        rw [this]; exact c
    have e : anyEqv (allMoves w s w.length) (moveD (k, b)) = true := List.any_eq_true.mpr ⟨_, hm, okd_refl (okd_pl pl_move)⟩
    rw [e] at h; cases h
end FW

set_option Elab.async false
set_option linter.all false
set_option maxRecDepth 100000
set_option maxHeartbeats 4000000
namespace FW
open PySem PySem.Spec PyProof.Rows L2
/-! ### prompt weavings -/
def putAt (w : Web) (s : Sta) (a : Nat × Bool) : Bool := !a.2 && match (w.getD a.1 [])[s.done.getD a.1 0]? with
  | some (.put _ _) => true
  | _ => false
def S_is_put : SD := fun rs Q _ => ∃ w s a, rs = [.leaf (encWeb w), .leaf (encSt s), .leaf (moveD a)] ∧ smallW w ∧ Fit w s ∧ a.1 < w.length ∧ canS w s a.1 a.2 = true ∧ Q (.leaf (.bool (putAt w s a)))
/-- is every put's send told at once -/
def promptD (w : Web) : Sta → Option PyData → List PyData → Bool
  | _, _, [] => true
  | s, due, m :: ms => (match due with
      | none => true
      | some d => PyData.eqv m d) && promptD w (moveS w s (decM m)) (if putAt w s (decM m) = true then some (moveD ((decM m).1, true)) else none) ms

/-! ### the law's own state of two lists -/
def pstep (p : Nat × Int) : PyData := (Step.put p.1 p.2).enc
def stepsT (l : List (Nat × Int)) : OT := .node (l.map fun p => .leaf (pstep p))
def own2T (s : Sta) : OT := .node [numsT s.done, .node (s.lines.map stepsT)]
def own2D (s : Sta) : PyData := .list [.list (s.done.map fun n => .int (n : Nat)), .list (s.lines.map fun l => .list (l.map pstep))]
theorem own2T_er {s : Sta} : (own2T s).er = own2D s := by
  have e1 : ∀ l : List (List (Nat × Int)), OT.ers (l.map stepsT) = l.map fun l => .list (l.map pstep) := fun l => by
    rw [ers_map, List.map_map]; apply List.map_congr_left; intro a _; simp [stepsT]
  simp [own2T, own2D, numsT, e1]
@[simp high] theorem own2T_vw {s : Sta} : vw (own2T s) = .leaf (own2D s) := by
  show OT.leaf (own2T s).er = _
  rw [own2T_er]
@[simp high] theorem own2T_isScr {s : Sta} : (own2T s).isScr = false := rfl
@[simp high] theorem own2_er {s : Sta} : (own2T s).er = own2D s := own2T_er
@[simp] theorem ix_own20 {s : Sta} : ixD (own2D s) (.int 0) = some (.list (s.done.map fun n => .int (n : Nat))) := by simp [own2D]
@[simp] theorem ix_own21 {s : Sta} : ixD (own2D s) (.int 1) = some (.list (s.lines.map fun l => .list (l.map pstep))) := by simp [own2D]
def S_own2_begun : SD := fun rs Q _ => ∃ w, rs = [.leaf (encWeb w)] ∧ smallW w ∧ Q (own2T (st0 w))
def S_own2_can : SD := fun rs Q _ => ∃ w s h k, rs = [.leaf (encWeb w), .leaf (own2D s), .leaf (.int (h : Nat)), .leaf (.str (kindS k))] ∧ smallW w ∧ Fit w s ∧ h < w.length ∧ Q (.leaf (.bool (canS w s h k)))
def S_own2_do : SM := fun r0 t r2 r3 Pd => ∃ w s h k, r0 = .leaf (encWeb w) ∧ t = own2T s ∧ r2 = .leaf (.int (h : Nat)) ∧ r3 = .leaf (.str (kindS k)) ∧ smallW w ∧ (∀ r ∈ w, ∀ st ∈ r, goodS st) ∧ Fit w s ∧ h < w.length ∧ canS w s h k = true ∧ Pd (own2T (moveS w s (h, k)))
def S_own2_moves : SD := fun rs Q _ => ∃ w s, rs = [.leaf (encWeb w), .leaf (own2D s)] ∧ smallW w ∧ Fit w s ∧ Q (.node ((allMoves w s w.length).map .leaf))

def own22 (s : Sta) : List OT := [numsT s.done, .node (s.lines.map stepsT)]
@[simp] theorem own22_len {s : Sta} : (own22 s).length = 2 := rfl
@[simp high] theorem own2T_node {s : Sta} {ts : List OT} : (own2T s = OT.node ts) = (own22 s = ts) := propext ⟨fun h => by cases h; rfl, fun h => by cases h; rfl⟩
@[simp high] theorem own2_nil {s : Sta} : (own2T s).at [] = some (.node (own22 s)) := rfl
@[simp high] theorem own2_at0 {s : Sta} : (own2T s).at [0] = some (.node (s.done.map fun n => .leaf (.int (n : Nat)))) := rfl
@[simp high] theorem own2_at1 {s : Sta} : (own2T s).at [1] = some (.node (s.lines.map stepsT)) := rfl
@[simp high] theorem own2_at1h {s : Sta} {h : Nat} : (own2T s).at [1, h] = (s.lines[h]?).map stepsT := by
  show ((s.lines.map stepsT)[h]?).bind (fun t => t.at []) = _
  rw [List.getElem?_map]
  cases s.lines[h]? <;> rfl
@[simp] theorem stepsT_node {l : List (Nat × Int)} {ts : List OT} : (stepsT l = OT.node ts) = ((l.map fun p => OT.leaf (pstep p)) = ts) := by simp [stepsT]
@[simp] theorem ix20 : ixN 2 0 = some 0 := rfl
@[simp] theorem ix21 : ixN 2 1 = some 1 := rfl
@[simp high] theorem own2_put1 {s : Sta} {h : Nat} {l : List (Nat × Int)} : (own2T s).put [1, h] (.node (l.map fun p => .leaf (pstep p))) = own2T { s with lines := s.lines.set h l } := by
  show OT.node [numsT s.done, .node ((s.lines.map stepsT).modify h fun t => stepsT l)] = _
  rw [mod_map]; rfl
@[simp high] theorem own2_put1a {s : Sta} {h b : Nat} {n : Int} {l : List (Nat × Int)} : (own2T s).put [1, h] (.node ((l.map fun p => .leaf (pstep p)) ++ [.leaf (Step.put b n).enc])) = own2T { s with lines := s.lines.set h (l ++ [(b, n)]) } := by
  rw [← own2_put1]
  simp [pstep]
@[simp high] theorem own2_put0 {s : Sta} {j n : Nat} : (own2T s).put [0] (.node ((s.done.map fun p => .leaf (.int (p : Nat))).set j (.leaf (.int ((n : Int) + 1))))) = own2T { s with done := s.done.set j (n + 1) } := by
  show OT.node [.node ((s.done.map fun p => .leaf (.int (p : Nat))).set j (.leaf (.int ((n : Int) + 1)))), .node (s.lines.map stepsT)] = _
  simp [own2T, numsT, List.map_set]
/-- box and got play no part in it -/
theorem own2_same {s t : Sta} (h1 : s.done = t.done) (h2 : s.lines = t.lines) : own2T s = own2T t := by simp [own2T, h1, h2]

/-- is_prompt of a web and a list of moves (or of things that are none) -/
def isPrompt (w : Web) (ms : List PyData) : Bool := match runD w (st0 w) ms with
  | some s => overS w s && promptD w (st0 w) none ms
  | none => false
def S_is_prompt (CB : Value) : SD := fun rs Q E => ∃ d m, rs = [.leaf d, .leaf m] ∧ ((okWeb d = false ∧ E CB) ∨ ∃ w ms, d = encWeb w ∧ m = .list ms ∧ okWeb d = true ∧ smallW w ∧ (∀ r ∈ w, ∀ st ∈ r, goodS st) ∧ (∀ x ∈ ms, askM x = true) ∧ Q (.leaf (.bool (isPrompt w ms))))
/-- a list of moves of a web's hands -/
def mvs (w : Web) (ms : List PyData) : Prop := ∀ x ∈ ms, ∃ a : Nat × Bool, x = moveD a ∧ a.1 < w.length
theorem mvs_app {w : Web} {a b : List PyData} (h : mvs w a) (h2 : mvs w b) : mvs w (a ++ b) := fun x hx => (List.mem_append.mp hx).elim (h x) (h2 x)
theorem mvs_take {w : Web} {a : List PyData} (h : mvs w a) (n : Nat) : mvs w (a.take n) := fun x hx => h x (List.mem_of_mem_take hx)
theorem mvs_drop {w : Web} {a : List PyData} (h : mvs w a) (n : Nat) : mvs w (a.drop n) := fun x hx => h x (List.mem_of_mem_drop hx)
theorem mvs_one {w : Web} {h : Nat} {k : Bool} (hh : h < w.length) : mvs w [moveD (h, k)] := fun x hx => ⟨(h, k), List.mem_singleton.mp hx, hh⟩
theorem mvs_ok {w : Web} {ms : List PyData} (h : mvs w ms) : okd (.list ms) = true := okd_moves fun d hd => by
  obtain ⟨a, e, _⟩ := h d hd; exact ⟨a, e⟩
theorem mvs_ask {w : Web} {ms : List PyData} (h : mvs w ms) : ∀ x ∈ ms, askM x = true := fun x hx => by
  obtain ⟨a, rfl, _⟩ := h x hx; exact askM_move
theorem cut_hiA {α : Type} {l : List α} (k : Nat) : cutL l (some (k : Int)) none = l.drop k := by
  by_cases h : k ≤ l.length
  · exact cut_hi h
  · have e : HT.sIx l.length 0 (some (k : Int)) = l.length := by
      show (if (k : Int) < 0 then ((k : Int) + l.length).toNat else min (k : Int).toNat l.length) = l.length
      rw [if_neg (by omega)]; simp; omega
    unfold cutL
    rw [e, List.drop_of_length_le (Nat.le_refl _), List.drop_of_length_le (by omega)]
    simp
theorem last_run {w : Web} {s : Sta} {ms : List PyData} (gs : ∀ r ∈ w, ∀ st ∈ r, goodS st) (h : runD w (st0 w) ms = some s) (mv : mvs w ms) (hn : ¬ ms = []) :
    ∃ ms' b s', ms = ms' ++ [moveD b] ∧ b.1 < w.length ∧ Fit w s' ∧ canS w s' b.1 b.2 = true ∧ s = moveS w s' b := by
  obtain ⟨ms', x, e⟩ : ∃ ms' x, ms = ms' ++ [x] := ⟨ms.dropLast, ms.getLast hn, (List.dropLast_concat_getLast hn).symm⟩
  obtain ⟨b, rfl, hb⟩ := mv x (by rw [e]; simp)
  rw [e, runD_append] at h
  cases r : runD w (st0 w) ms' with
  | none => rw [r] at h; cases h
  | some s' =>
    rw [r] at h
    have f := runD_fit gs fit0 r
    simp only [Option.bind_some, runD] at h
    split at h
    · rename_i c
      rw [canD_move hb] at c
      rw [decM_move] at h
      cases h
      exact ⟨ms', b, s', e, hb, f, c, rfl⟩
    · cases h
theorem after_step {w : Web} {s : Sta} (f : Fit w s) {h : Nat} (hh : h < w.length) (c : canS w s h false = true) :
    (stepS w s h).done[h]? = some (s.done.getD h 0 + 1) ∧ s.done.getD h 0 < (w.getD h []).length ∧ (∀ b n, (w.getD h [])[s.done.getD h 0]? = some (.put b n) → canS w (stepS w s h) h true = true) := by
  have nd := canS_step c
  have le := f.le h
  have hd1 : h < s.done.length := by rw [f.d]; exact hh
  have hl1 : h < s.lines.length := by rw [f.l]; exact hh
  refine ⟨?_, by omega, fun b n e => ?_⟩
  · unfold stepS
    split <;> simp [hd1]
  · unfold canS stepS
    simp only [if_true]
    rw [e]
    simp only [getD_set hl1, if_true]
    simp
end FW

set_option Elab.async false
set_option linter.all false
set_option maxRecDepth 100000
set_option maxHeartbeats 4000000
namespace FW
open PySem PySem.Spec PyProof.Rows L2
/-! ### what is never reached; a dict that is only handed on -/
section
variable {X : Cx} {W : WX} {fx : List Nat} {e a : Expr} {es : List Expr} {t : TD} {pos p : Pos}
@[simp] def tNo : TD := fun _ _ _ => False
theorem de_any : DE X W fx e tNo := ⟨fun pins s σ H Q I ⟨φ, A, Γ, Qd, Ed, rel, q, k, ke⟩ => q.elim⟩
@[simp] def tDct (t : TD) : TD := fun Γ Q E => t Γ (fun _ => Q (.leaf (.dict []))) E
theorem de_dct1 {i : Int} {j : Nat} (ha : DE X W fx a t) : DE X W fx (.Dict [some (.Constant (.int i) j p)] [a] pos) (tDct t) := by
  refine PE.imp (pe_disp (pps_cons pe_int ha pps_nil) rfl rfl (by simp) (by simp)) fun σ H Q ⟨φ, A, Γ, Qd, Ed, rel, q, k, ke⟩ => ?_
  intro p hp
  have s1 : Same H (upd H p (.dK [])) := same_upd hp
  refine ⟨φ, A, Γ, _, Ed, rel.mono s1, q, fun r v H2 s2 r2 q2 => ?_, fun c H' s' q' => ke c H' (s1.trans s') q'⟩
  have np : p ∉ A ++ φ.Z := rel.dom.free hp
  refine ⟨s2 _ _ upd_same, [(.inl i, v)], rfl, by simp, k (.leaf (.dict [])) (.ref p) _ (fun b x e => ?_) (.leaf (.dct (kvs := mergeK [] [(.inl i, v)]) ?_)) q2⟩
  · rw [upd_ne (ne_of_none e hp)]
    exact s2 _ _ (s1 _ _ e)
  · rw [hid_upd np]
end
def S_no : SD := fun _ _ _ => False
theorem fnNo {P : Program} {w : World} {K : PySem.W.Frag} {mg : Str → Option Value} {base : Heap} {k : Nat} {f : Addr} {fd : FuncData} {ps : List Str} : FnOk P w K mg base (L2.CX P w) k f fd ps (spP K S_no) :=
  ⟨fun vs H Q E ⟨_, _, _, _, _, _, h, _⟩ => h.elim, fun A outer s H args us vs Q E _ _ _ _ ⟨_, _, _, _, _, _, h, _⟩ => h.elim⟩
/-- whatever is refused by need_web -/
def S_bad1 (CB : Value) : SD := fun rs Q E => ∃ d, rs = [.leaf d] ∧ okWeb d = false ∧ E CB
def S_bad2 (CB : Value) : SD := fun rs Q E => ∃ d m, rs = [.leaf d, m] ∧ okWeb d = false ∧ E CB
end FW

set_option Elab.async false
set_option linter.all false
set_option maxRecDepth 100000
set_option maxHeartbeats 4000000
namespace FW
open PySem PySem.Spec PyProof.Rows L2
/-! ### keys in the heap -/
section
variable {P : Program} {w : World} {K : PySem.W.Frag} {H : Hp} {h : Heap}
mutual
theorem nested_of (ok : HOk P w H h) (KX : K.In h) : ∀ (k : NestedKey) (v : V) (u : Value), DD K H v k.data → RelV v u → NestedIs h k u
  | .none, _, _, d, r => by
    cases d
    cases r
    exact .none
  | .num i, _, _, d, r => by
    cases d
    obtain ⟨t, rfl⟩ := r
    exact .int i t
  | .text x, _, _, d, r => by
    cases d
    obtain ⟨t, rfl⟩ := r
    exact .text x t
  | .tup ks, _, _, d, r => by
    cases d with
    | tup hs hd =>
      cases r
      obtain ⟨its, o, n, rv, ho, hc, hdt⟩ := sqT_at ok KX hs
      exact .tup ho hc hdt (by simpa using nested_all ok KX ks _ its hd rv)
theorem nested_all (ok : HOk P w H h) (KX : K.In h) : ∀ (ks : List NestedKey) (vs : List V) (us : List Value), DDs K H vs (NestedKey.datas ks) → Vals vs us → NestedAll h ks us
  | [], _, _, d, r => by
    cases d
    cases r
    exact .nil
  | k :: ks, _, _, d, r => by
    cases d with
    | cons h1 h2 =>
      cases r with
      | cons r1 r2 => exact .cons (nested_of ok KX k _ _ h1 r1) (nested_all ok KX ks _ _ h2 r2)
end
/-- what is asked of a dict's entries -/
def NKeys (K : PySem.W.Frag) (H : Hp) (xs : List (NestedKey × Addr × Value)) : Prop := ∀ x ∈ xs, x.1.depth ≤ 8 ∧ DD K H (.ref x.2.1) x.1.data
theorem Paired.lefts {α β : Type} {R : α → β → Prop} {G : α → Prop} (g : ∀ a b, R a b → G a) : ∀ {l : List α} {m : List β}, Paired R l m → ∀ x ∈ l, G x
  | _, _, .nil => fun x hx => by cases hx
  | _, _, .cons r t => fun x hx => by
    rcases List.mem_cons.mp hx with e | hx
    · rw [e]; exact g _ _ r
    · exact Paired.lefts g t x hx
theorem DKV.keys {xs : List (NestedKey × Addr × Value)} {kvs : List (NestedKey × PyData)} (r : DKV K H xs kvs) : NKeys K H xs := Paired.lefts (fun _ _ h => ⟨h.2.1, h.2.2.1⟩) r
theorem dct_at (ok : HOk P w H h) (KX : K.In h) {p : Addr} {xs : List (NestedKey × Addr × Value)} (e : H p = some (.ext (rawDct w p xs))) (r : NKeys K H xs) : h.DictOfH (nestedKind P w) p xs := by
  obtain ⟨⟨o, es, ep, h1, h2, h3, h4, h5⟩, _⟩ := ok p _ e
  exact ⟨o, es, ep, h1, h2, h3, h4, fun x hx => ⟨nested_of ok KX _ _ _ (r x hx).2 rfl, (r x hx).1⟩, h5⟩
theorem raw_ok {p : Addr} {xs : List (NestedKey × Addr × Value)} (d : h.DictOfH (nestedKind P w) p xs) : ObjOk P w H h p (.ext (rawDct w p xs)) := by
  obtain ⟨o, es, ep, h1, h2, h3, h4, _, h5⟩ := d
  refine ⟨⟨o, es, ep, h1, h2, h3, h4, h5⟩, ⟨o, h1⟩, ?_⟩
  rintro h1 h2 ⟨o, es, ep, a1, a2, a3, a4, a5⟩ k
  exact ⟨o, es, ep, k _ a1, a2, a3, a4, a5⟩
end
section
variable {X : Cx} {pins : List (Addr × Obj)} {σ : L2.St} {H : Hp} {s : Shared} {p b : Addr} {xs : List (NestedKey × Addr × Value)} {k : NestedKey} {A : Around} {E : Value → Shared → Prop}
theorem nkey (I : Inv X pins σ H s) (dk : DD X.K H (.ref b) k.data) (h8 : k.depth ≤ 8) : (nestedKind X.prog X.w).is s.heap k b := ⟨nested_of I.hok I.kIn _ _ _ dk rfl, h8⟩
theorem dct_in (I : Inv X pins σ H s) (e : H p = some (.ext (rawDct X.w p xs))) (r : NKeys X.K H xs) : s.heap.DictKeyed (nestedKind X.prog X.w) p (pairsH xs) := ⟨xs, dct_at I.hok I.kIn e r, rfl⟩
/-- {} -/
theorem pe_dct0 {pos : Pos} : PE X (.Dict [] [] pos) (fun _ H Q => ∀ p, H p = none → (p == sysModules) = false → Q (.ref p) (upd H p (.ext (rawDct X.w p [])))) := ⟨fun pins s σ H Q I h =>
  wpAny_Dict_empty ⟨.ref s.heap.objs.size, _, I.laid (a := s.heap.objs.size) (o := .ext (rawDct X.w s.heap.objs.size [])) (t' := s.toks) (fun _ _ q => Heap.get?_push_of_some _ q) (Nat.le_refl _) (raw_ok (P := X.prog) (Heap.DictOfH.new s.heap)), rfl,
    h _ (I.hok.fresh (Nat.le_refl _)) (beq_eq_false_iff_ne.mpr (Ne.symm (Nat.ne_of_lt I.big)))⟩⟩
def rNotInN (X : Cx) : R2 := fun x y H Q => ∃ (b p : Addr) (xs : List (NestedKey × Addr × Value)) (k : NestedKey), x = .ref b ∧ y = .ref p ∧ (p == sysModules) = false ∧ H p = some (.ext (rawDct X.w p xs)) ∧ NKeys X.K H xs ∧ DD X.K H (.ref b) k.data ∧ k.depth ≤ 8 ∧ Q (.bl (!(atKey xs k).isSome)) H
theorem op_notInN (hu : X.A.units + 64 < cLine) : OpR X (compareOp .NotIn) (rNotInN X) := by
  intro pins s σ H x y v u Q I rx ry ⟨b, p, xs, k, ex, ey, np, e, nk, dk, h8, q⟩
  subst ex ey
  obtain rfl : v = Value.ref b := rx
  obtain rfl : u = Value.ref p := ry
  refine notIn_keyed (knd := nestedKind X.prog X.w) (by show X.A.units + 1 + 8 < cLine; omega) (nkey I dk h8) np (dct_in I e nk) ?_
  rw [valueAt_pairsH, Option.isSome_map]
  exact ⟨.bl (!(atKey xs k).isSome), H, I.tok _, rfl, q⟩
/-- d[y] = v -/
def sPutN (X : Cx) (td ty tv : TE) : TS := fun D σ H => tv σ H fun v H1 => td σ H1 fun x H2 => ty σ H2 fun y H3 => ∃ (b p : Addr) (xs : List (NestedKey × Addr × Value)) (k : NestedKey), x = .ref p ∧ y = .ref b ∧ (p == sysModules) = false ∧ H3 p = some (.ext (rawDct X.w p xs)) ∧
  NKeys X.K H3 xs ∧ DD X.K H3 (.ref b) k.data ∧ k.depth ≤ 8 ∧ xs.length ≤ sizeLine ∧ ∀ u, RelV v u → D.nx σ (upd H3 p (.ext (rawDct X.w p (storedH xs k b u))))
theorem ps_putN {o i value : Expr} {pos pos' : Pos} {td ty tv : TE} (hu : X.A.units + 64 < cLine) (ho : PE X o td) (hi : PE X i ty) (hv : PE X value tv) (hs : swapsWith value (some (.Subscript o i pos')) pos.line X.env = pure false) :
    PS X (.Assign [.Subscript o i pos'] value pos) (sPutN X td ty tv) := by
  refine ⟨fun pins s σ H D I h => ?_⟩
  refine wpAny_Assign_Subscript (thn (hv.run pins s σ H _ I h) fun r s1 ⟨v, H1, I1, rv, q1⟩ => thn (ho.run pins s1 σ H1 _ I1 q1) fun u s2 ⟨x, H2, I2, rx, q2⟩ => thn (hi.run pins s2 σ H2 _ I2 q2) fun iv s3 ⟨y, H3, I3, ry, b, p, xs, k, ex, ey, np, e, nk, dk, h8, hz, q3⟩ => ?_) hs
  subst ex ey
  obtain rfl : u = Value.ref p := rx
  obtain rfl : iv = Value.ref b := ry
  refine wpAny_setItem_heap (knd := nestedKind X.prog X.w) (hsz := hz) (by show X.A.units + 1 + 8 < cLine; omega) (nkey I3 dk h8) (dct_at I3.hok I3.kIn e nk) fun h' dd' hs' => ?_
  have he : ∃ q, h'.get? p = some q := let ⟨q, _, _, hq, _⟩ := dd'; ⟨q, hq⟩
  exact ⟨σ, _, d_write I3 (by rw [e]; exact True.intro) hs' he (raw_ok (P := X.prog) dd'), q3 _ rv⟩
/-- d[y] -/
def tGetN (X : Cx) (td ty : TE) : TE := fun σ H Q => td σ H fun x H1 => ty σ H1 fun y H2 => ∃ (b p : Addr) (xs : List (NestedKey × Addr × Value)) (k : NestedKey) (a : Addr × Value) (v : V), x = .ref p ∧ y = .ref b ∧ H2 p = some (.ext (rawDct X.w p xs)) ∧
  NKeys X.K H2 xs ∧ DD X.K H2 (.ref b) k.data ∧ k.depth ≤ 8 ∧ atKey xs k = some a ∧ RelV v a.2 ∧ Q v H2
theorem pe_getN {o i : Expr} {pos : Pos} {td ty : TE} (hu : X.A.units + 64 < cLine) (ho : PE X o td) (hi : PE X i ty) (hs : NoSl i) : PE X (.Subscript o i pos) (tGetN X td ty) := by
  refine ⟨fun pins s σ H Q I h => ?_⟩
  refine subD_of PySem.F.slot_dict_getitem.lookup hs (thn (ho.run pins s σ H _ I h) fun u s1 ⟨x, H1, I1, rx, q1⟩ => thn (hi.run pins s1 σ H1 _ I1 q1) fun iv s2 ⟨y, H2, I2, ry, b, p, xs, k, a, v, ex, ey, e, nk, dk, h8, ea, rv, q2⟩ => ?_)
  subst ex ey
  obtain rfl : u = Value.ref p := rx
  obtain rfl : iv = Value.ref b := ry
  have dd := dct_at I2.hok I2.kIn e nk
  exact ⟨dd.typeIs, wpAny_getItem_heap (knd := nestedKind X.prog X.w) (by show X.A.units + 1 + 8 < cLine; omega) (nkey I2 dk h8) dd ea ⟨v, H2, I2.tok _, rv, q2⟩⟩
/-- list(d) -/
theorem call_listN (hc : X.calm = true) : CallR X (.type "list") (fun vs H Q => ∃ (d : Addr) (xs : List (NestedKey × Addr × Value)), vs = [V.ref d] ∧ (d == sysModules) = false ∧ xs.length ≤ sizeLine ∧ H d = some (.ext (rawDct X.w d xs)) ∧ ∀ p, H p = none → Q (.ref p) (upd H p (.lst (xs.map fun x => V.ref x.2.1)))) := by
  intro pins s σ H vs us Q I r h
  obtain ⟨d, ks, rfl, hs, hl, e, q⟩ := h
  obtain ⟨u, rfl, rx⟩ := r.one
  cases rx
  obtain ⟨⟨o, es, ep, ho, hx, hdt, he, hn⟩, _⟩ := I.hok d _ e
  have l1 : es.size = ks.length := by rw [← Array.length_toList, he, List.length_map]
  refine PySem.W.kdl_call (kdl_raw hs hx hdt) (I.ok.hd hc) ho (by omega) fun h' tk acc' c' kp e it => ?_
  have ea : acc'.toList = ks.map fun x => Value.ref x.2.1 := by
    have hl : acc'.toList.length = ks.length := by rw [Array.length_toList, it.1]; exact l1
    apply List.ext_getElem?
    intro j
    rw [List.getElem?_map]
    cases hj : acc'.toList[j]? with
    | none =>
      have h1 := List.getElem?_eq_none_iff.mp hj
      rw [List.getElem?_eq_none (by omega)]
      all_goals rfl
    | some v =>
      obtain ⟨en, hen, hv⟩ := it.2 j v (by rw [← Array.getElem?_toList]; exact hj)
      have qe : es[j]? = (ks[j]?).map (fun x => (⟨x.1.hash X.w, .ref x.2.1, x.2.2⟩ : DictEntry)) := by rw [← Array.getElem?_toList, he, List.getElem?_map]
      rw [hen] at qe
      cases hb : ks[j]? with
      | none =>
        rw [hb] at qe
        exact nomatch (show some en = none from qe)
      | some b =>
        rw [hb] at qe
        have e2 := Option.some.inj qe
        rw [hv, e2]
        all_goals rfl
  have eb : acc'.toList = (ks.map fun x => x.2.1).map Value.ref := by rw [ea, List.map_map]; all_goals rfl
  have rv : Vals ((ks.map fun x => x.2.1).map V.ref) acc'.toList := by rw [eb]; exact vals_refs _
  have em : (ks.map fun x => x.2.1).map V.ref = ks.map fun x => V.ref x.2.1 := by rw [List.map_map]; rfl
  rw [em] at rv
  have hz : (ks.map fun x => V.ref x.2.1).length ≤ sizeLine := by rw [List.length_map]; omega
  refine ⟨.ref s.heap.objs.size, _, I.laid (t' := tk) (o := .lst (ks.map fun x => V.ref x.2.1)) kp (Nat.le_refl _) ?_, rfl, q _ (I.hok.fresh (Nat.le_refl _))⟩
  exact ⟨hz, acc'.toList, c', rv, by rw [Array.toArray_toList]; exact e⟩
/-- {k: v} -/
def tDisp1 (X : Cx) (tk tv : TE) : TE := fun σ H Q => ∀ p, H p = none → (p == sysModules) = false → tk σ (upd H p (.ext (rawDct X.w p []))) fun x H1 => tv σ H1 fun y H2 => ∃ (b : Addr) (k : NestedKey), x = .ref b ∧ H2 p = some (.ext (rawDct X.w p [])) ∧
  DD X.K H2 (.ref b) k.data ∧ k.depth ≤ 8 ∧ ∀ u, RelV y u → Q (.ref p) (upd H2 p (.ext (rawDct X.w p [(k, b, u)])))
theorem pe_disp1 {ke ve : Expr} {pos : Pos} {tk tv : TE} (hu : X.A.units + 64 < cLine) (hk : PE X ke tk) (hv : PE X ve tv) : PE X (.Dict [some ke] [ve] pos) (tDisp1 X tk tv) := by
  refine ⟨fun pins s σ H Q I q => ?_⟩
  have hn := I.hok.fresh (Nat.le_refl s.heap.objs.size)
  have np : (s.heap.objs.size == sysModules) = false := beq_eq_false_iff_ne.mpr (Ne.symm (Nat.ne_of_lt I.big))
  have I1 := I.laid (a := s.heap.objs.size) (o := .ext (rawDct X.w s.heap.objs.size [])) (h' := s.heap.push { cls := .type "dict", data := .dict #[] }) (t' := s.toks) (fun _ _ q => Heap.get?_push_of_some _ q) (Nat.le_refl _) (raw_ok (P := X.prog) (Heap.DictOfH.new s.heap))
  rw [arm_eval_Dict, zip_pairTrees [some ke] [ve] X.env pos rfl rfl, dictDisplay_pairs _ (by simp [pairTrees]) (by simp [pairTrees])]
  refine wpAny_bind (wpAny_standAt (wpAny_bind (wpAny_subDictH (knd := nestedKind X.prog X.w) (Q := fun d s' => wpAny (model X.prog X.w) X.A (pure (Value.ref d)) (EP X pins σ Q) X.xe s') (by show X.A.units + 8 < cLine; omega) (by simp [pairTrees]) ?_)))
  refine pairTrees_cons_walk (thn (hk.run pins _ σ _ _ I1 (q _ hn np)) fun u s1 ⟨x, H1, I1, rx, q1⟩ => thn (hv.run pins s1 σ H1 _ I1 q1) fun w2 s2 ⟨y, H2, I2, ry, b, k, ex, e, dk, h8, q2⟩ => pairTrees_nil_walk ?_)
  subst ex
  obtain rfl : u = Value.ref b := rx
  have nk : NKeys X.K H2 [] := fun x hx => by cases hx
  refine ⟨[(k, b, w2)], ⟨rfl, rfl, nkey I2 dk h8, trivial⟩, dct_at I2.hok I2.kIn e nk, fun h' tk' dd' hs => wpAny_pure ?_⟩
  have he : ∃ q, h'.get? s.heap.objs.size = some q := let ⟨q, _, _, hq, _⟩ := dd'; ⟨q, hq⟩
  exact ⟨.ref s.heap.objs.size, _, d_write I2 (by rw [e]; exact True.intro) hs he (raw_ok (P := X.prog) dd'), rfl, q2 _ ry⟩
end
end FW

set_option Elab.async false
set_option linter.all false
set_option maxRecDepth 100000
set_option maxHeartbeats 4000000
namespace FW
open PySem PySem.Spec PyProof.Rows L2
/-! ### dicts over data -/
def valD (kvs : List (NestedKey × PyData)) (k : NestedKey) : Option PyData := (kvs.find? fun q => decide (q.1 = k)).map (·.2)
def storedD (kvs : List (NestedKey × PyData)) (k : NestedKey) (d : PyData) : List (NestedKey × PyData) :=
  if (valD kvs k).isSome = true then kvs.map (fun q => if q.1 = k then (q.1, d) else q) else kvs ++ [(k, d)]
section
variable {K : PySem.W.Frag} {H : Hp} {xs : List (NestedKey × Addr × Value)} {kvs : List (NestedKey × PyData)} {k : NestedKey}
theorem DKV.at (r : DKV K H xs kvs) : ((atKey xs k).isSome = (valD kvs k).isSome) ∧ ∀ d, valD kvs k = some d → ∃ a v, atKey xs k = some a ∧ RelV v a.2 ∧ DD K H v d := by
  unfold DKV at r
  induction r with
  | nil => exact ⟨rfl, fun d e => by cases e⟩
  | @cons x q xs kvs h t ih =>
    obtain ⟨e1, _, _, v, rv, dv⟩ := h
    by_cases e : q.1 = k
    · have e' : x.1 = k := e1.trans e
      have a1 : atKey (x :: xs) k = some x.2 := by simp [atKey, e']
      have a2 : valD (q :: kvs) k = some q.2 := by simp [valD, e]
      refine ⟨by rw [a1, a2]; rfl, fun d ed => ?_⟩
      rw [a2] at ed; cases ed
      exact ⟨x.2, v, a1, rv, dv⟩
    · have e' : ¬ x.1 = k := fun z => e (e1.symm.trans z)
      have a1 : atKey (x :: xs) k = atKey xs k := by simp [atKey, e']
      have a2 : valD (q :: kvs) k = valD kvs k := by simp [valD, e]
      rw [a1, a2]
      exact ih
theorem DKV.length (r : DKV K H xs kvs) : xs.length = kvs.length := Paired.length r
theorem DKV.map_put {b : Addr} {u : Value} {v : V} {d : PyData} (r : DKV K H xs kvs) (rv : RelV v u) (dv : DD K H v d) : DKV K H (xs.map (PySem.putAt k u)) (kvs.map fun q => if q.1 = k then (q.1, d) else q) := by
  unfold DKV at r ⊢
  induction r with
  | nil => exact .nil
  | @cons x q xs kvs h t ih =>
    refine .cons ?_ ih
    obtain ⟨e1, h8, dk, v', rv', dv'⟩ := h
    by_cases e : q.1 = k
    · have e' : x.1 = k := e1.trans e
      simp only [PySem.putAt, e, e', if_true]
      exact ⟨trivial, by rw [← e']; exact h8, by rw [← e']; exact dk, v, rv, dv⟩
    · have e' : ¬ x.1 = k := fun z => e (e1.symm.trans z)
      simp only [PySem.putAt, e, e', if_false]
      exact ⟨e1, h8, dk, v', rv', dv'⟩
theorem Paired.snoc {α β : Type} {R : α → β → Prop} {a : α} {b : β} (h : R a b) : ∀ {l : List α} {m : List β}, Paired R l m → Paired R (l ++ [a]) (m ++ [b])
  | _, _, .nil => .cons h .nil
  | _, _, .cons r t => .cons r (Paired.snoc h t)
theorem DKV.put {b : Addr} {u : Value} {v : V} {d : PyData} (r : DKV K H xs kvs) (dk : DD K H (.ref b) k.data) (h8 : k.depth ≤ 8) (rv : RelV v u) (dv : DD K H v d) : DKV K H (storedH xs k b u) (storedD kvs k d) := by
  have e := (r.at (k := k)).1
  unfold storedH storedD
  rw [e]
  by_cases h : (valD kvs k).isSome = true
  · rw [if_pos h, if_pos h]
    exact r.map_put (b := b) rv dv
  · rw [if_neg h, if_neg h]
    exact Paired.snoc ⟨rfl, h8, dk, v, rv, dv⟩ r
theorem storedH_len {b : Addr} {u : Value} (h : xs.length < sizeLine) : (storedH xs k b u).length ≤ sizeLine := by
  unfold storedH
  split
  · rw [List.length_map]; omega
  · rw [List.length_append, List.length_singleton]; omega
end
/-! ### the rules -/
section
variable {K : PySem.W.Frag} {fx : List Nat} {φ : FrF} {A : List Addr} {σ : L2.St} {H : Hp} {Γ : Ev} {w : World} {i : Nat} {kvs : List (NestedKey × PyData)}
/-- a dict that stands in a slot -/
theorem Rel.dct (r : Rel K fx φ A σ H Γ) (e : Γ[i]? = some (some (.dct w kvs))) : ∃ p xs, σ[i]? = some (some (.ref p)) ∧ (p == sysModules) = false ∧ xs.length ≤ sizeLine ∧ H p = some (.ext (rawDct w p xs)) ∧ DKV K (hid (A ++ φ.Z) H) xs kvs ∧ p ∈ A := by
  obtain ⟨v, B, h1, o, h3⟩ := r.env.get e
  cases o with
  | dct np z h d => exact ⟨_, _, h1, np, z, h, d, h3 _ (by simp)⟩
/-- it is changed -/
theorem Rel.putD {p : Addr} {xs' : List (NestedKey × Addr × Value)} {kvs' : List (NestedKey × PyData)} (r : Rel K fx φ A σ H Γ) (e : Γ[i]? = some (some (.dct w kvs))) (h1 : σ[i]? = some (some (.ref p))) (np : (p == sysModules) = false) (z : xs'.length ≤ sizeLine)
    (d : DKV K (hid (A ++ φ.Z) H) xs' kvs') : ∃ A', Rel K fx φ A' σ (upd H p (.ext (rawDct w p xs'))) (Γ.set i (some (.dct w kvs'))) := by
  obtain ⟨v2, B2, R2, g1, o, nB, gB, gR, put⟩ := r.env.split r.nd e
  rw [h1] at g1; cases g1
  cases o with
  | dct np2 z2 h2 d2 =>
    have pA : p ∈ A := (gB p (by simp)).1
    have pR : p ∉ R2 := (gB p (by simp)).2
    have hs : hid (A ++ φ.Z) (upd H p (.ext (rawDct w p xs'))) = hid (A ++ φ.Z) H := by
      funext b
      by_cases hb : b ∈ A ++ φ.Z
      · rw [hid_in hb, hid_in hb]
      · rw [hid_out hb, hid_out hb, upd_ne]
        intro z
        exact hb (List.mem_append_left _ (z ▸ pA))
    have other : ∀ a, a ≠ p → ∀ o, H a = some o → upd H p (.ext (rawDct w p xs')) a = some o := fun a n o z => by rw [upd_ne n]; exact z
    obtain ⟨A', c1, c2, c3⟩ := put (hid (A ++ φ.Z) H) (upd H p (.ext (rawDct w p xs'))) (.dct w kvs') [p] (Same.refl _) (fun a ha => other a fun z => pR (z ▸ ha)) (.dct np z upd_same d) (by simp) (fun b hb => by
      have : b = p := by simpa using hb
      rw [this]; exact pR)
    have sub : ∀ a, a ∈ A' → a ∈ A := fun a ha => by
      rcases c3 a ha with z | z
      · have : a = p := by simpa using z
        rw [this]; exact pA
      · exact gR a z
    refine ⟨A', ?_, c2, fun a ha => r.az a (sub a ha), fun b ob e1 nb => other b (fun z => ?_) ob (r.keep b ob e1 nb), fun a ha => r.own a (sub a ha), r.zs, fun a ha => ?_, r.fix⟩
    · rw [← hs] at c1
      refine c1.mono (hid_sub fun a ha => ?_) fun a _ o z => z
      rcases List.mem_append.mp ha with z | z
      · exact List.mem_append_left _ (sub a z)
      · exact List.mem_append_right _ z
    · subst z
      rcases r.own b pA with y | y
      · exact nb y
      · rw [e1] at y; cases y
    · obtain ⟨xs, z⟩ := r.a0 a ha
      by_cases ea : a = p
      · subst ea; exact ⟨.ext _, upd_same⟩
      · exact ⟨xs, other a ea _ z⟩
end
theorem NKeys.mono {K : PySem.W.Frag} {H H' : Hp} (e : Same H H') {xs : List (NestedKey × Addr × Value)} (h : NKeys K H xs) : NKeys K H' xs := fun x hx => ⟨(h x hx).1, (h x hx).2.mono e⟩
section
variable {X : Cx} {W : WX} {fx : List Nat} {e a b : Expr} {t u : TD} {pos p pos' : Pos} {i n : Nat} {x : Str}
/-- {} -/
@[simp] def tDct0 (w : World) : TD := fun _ Q _ => Q (.dct w [])
theorem de_dct0 : DE X W fx (.Dict [] [] pos) (tDct0 X.w) := PE.imp pe_dct0 fun σ H Q ⟨φ, A, Γ, Qd, Ed, rel, q, k, ke⟩ => fun p hp np =>
  k (.dct X.w []) (.ref p) _ (same_upd hp) ⟨[p], by simp, fun a ha => by
    have : a = p := by simpa using ha
    rw [this]; exact hp, .dct (xs := []) np (Nat.zero_le _) upd_same .nil⟩ q
theorem ref_of_tup {K : PySem.W.Frag} {H : Hp} {v : V} {ks : List NestedKey} (d : DD K H v (NestedKey.tup ks).data) : ∃ b, v = .ref b := by
  cases d with
  | tup _ _ => exact ⟨_, rfl⟩
/-- {k: v} -/
@[simp] def tDctN (w : World) (t u : TD) : TD := fun Γ Q E => t Γ (fun x => u Γ (fun y => x.isScr = false ∧ y.isScr = false ∧ ∃ ks, x.er = (NestedKey.tup ks).data ∧ (NestedKey.tup ks).depth ≤ 8 ∧ Q (.dct w [(.tup ks, y.er)])) E) E
theorem de_dctN (hr : Room n X.A) (ha : DE X W fx a t) (hb : DE X W fx b u) : DE X W fx (.Dict [some a] [b] pos) (tDctN X.w t u) := by
  refine PE.imp (pe_disp1 hr.units ha hb) fun σ H Q ⟨φ, A, Γ, Qd, Ed, rel, q, k, ke⟩ => fun p hp np => ?_
  have s1 : Same H (upd H p (.ext (rawDct X.w p []))) := same_upd hp
  have rel1 := rel.rebase s1 [p] fun a ha => by
    have : a = p := by simpa using ha
    rw [this]; exact ⟨hp, .ext _, upd_same⟩
  refine ⟨_, A, Γ, _, Ed, rel1, q, fun x v H1 s2 r1 q1 => ?_, fun c H' s' q' => ke c H' (s1.trans s') q'⟩
  refine ⟨_, A, Γ, _, Ed, rel1.mono s2, q1, fun y uv H2 s3 r2 ⟨nx, ny, ks, ex, h8, q2⟩ => ?_, fun c H' s' q' => ke c H' ((s1.trans s2).trans s') q'⟩
  have dx : DD X.K (hid (A ++ ([p] ++ φ.Z)) H1) v x.er := (r1.cv rel1.dom).dd nx
  have dy : DD X.K (hid (A ++ ([p] ++ φ.Z)) H2) uv y.er := (r2.cv (rel1.mono s2).dom).dd ny
  rw [ex] at dx
  obtain ⟨b, rfl⟩ := ref_of_tup dx
  have e2 : H2 p = some (.ext (rawDct X.w p [])) := s3 _ _ (s2 _ _ upd_same)
  refine ⟨b, _, rfl, e2, (dx.mono (hid_mono s3)).mono hid_same, h8, fun u' ru => k (.dct X.w [(.tup ks, y.er)]) (.ref p) _ (fun c o z => ?_) ⟨[p], by simp, fun a ha => by
    have : a = p := by simpa using ha
    rw [this]; exact hp, .dct (xs := [(.tup ks, b, u')]) np ?_ upd_same ?_⟩ q2⟩
  · rw [upd_ne (ne_of_none z hp)]
    exact s3 _ _ (s2 _ _ (s1 _ _ z))
  · show 1 ≤ sizeLine
    rw [sizeLine_eq]; omega
  · have up : Same (hid (A ++ ([p] ++ φ.Z)) H2) (hid ([p] ++ (A ++ φ.Z)) (upd H2 p (.ext (rawDct X.w p [(.tup ks, b, u')])))) := fun c o z => by
      obtain ⟨nc, z⟩ := hid_some z
      have n1 : c ∉ A := fun y => nc (List.mem_append_left _ y)
      have n2 : c ≠ p := fun y => nc (List.mem_append_right _ (List.mem_append_left _ (by simp [y])))
      have n3 : c ∉ φ.Z := fun y => nc (List.mem_append_right _ (List.mem_append_right _ y))
      rw [hid_out (by simp [n1, n2, n3]), upd_ne n2]
      exact z
    exact .cons ⟨rfl, h8, (dx.mono (hid_mono s3)).mono up, uv, ru, dy.mono up⟩ .nil
/-- k not in d -/
@[simp] def tNotInN (w : World) (i : Nat) (t : TD) : TDT := fun Γ Q E => t Γ (fun x => x.isScr = false ∧ ∃ kvs ks, Γ[i]? = some (some (.dct w kvs)) ∧ x.er = (NestedKey.tup ks).data ∧ (NestedKey.tup ks).depth ≤ 8 ∧ Q (!(valD kvs (.tup ks)).isSome)) E
theorem dt_notInN (i : Nat) (hr : Room n X.A) (ha : DE X W fx a t) (hN : X.N[i]? = some x := by rfl) (hv : Vis X.env.scope x := by first | exact Or.inl rfl | exact Or.inr (Or.inl rfl) | exact Or.inr (Or.inr rfl)) (hd : (x == ("__debug__" : Str)) = false := by decide)
    (hcd : (x == ("__classdict__" : Str)) = false := by decide) (hm : behindInMarks .NotIn (.Name x p) = false := by rfl) : DT X W fx (.Compare a [.NotIn] [.Name x p] pos) (tNotInN X.w i t) := by
  refine PT.imp (pt_cmpR (op_notInN hr.units) ha (pe_var hN hv hd hcd) hm) fun σ H Q ⟨φ, A, Γ, Qd, Ed, rel, q, k, ke⟩ => ?_
  refine ⟨φ, A, Γ, _, Ed, rel, q, fun y v H1 s1 r1 ⟨ns, kvs, ks, e, ex, h8, q1⟩ => ?_, ke⟩
  have rel1 := rel.mono s1
  obtain ⟨p, xs, h1, np, z, hp, d, _⟩ := rel1.dct e
  have dx : DD X.K (hid (A ++ φ.Z) H1) v y.er := (r1.cv rel.dom).dd ns
  rw [ex] at dx
  obtain ⟨b, rfl⟩ := ref_of_tup dx
  refine ⟨.ref p, h1, b, p, xs, .tup ks, rfl, rfl, np, hp, (d.mono hid_same).keys, dx.mono hid_same, h8, _, rfl, k _ H1 s1 ?_⟩
  rw [(d.at (k := .tup ks)).1]
  exact q1
/-- d[k] = e -/
@[simp] def tPutN (w : World) (i : Nat) (t u : TD) : TDS := fun D Γ => ∃ kvs, Γ[i]? = some (some (.dct w kvs)) ∧ u Γ (fun y => y.isScr = false ∧ t Γ (fun x => x.isScr = false ∧ ∃ ks, x.er = (NestedKey.tup ks).data ∧ (NestedKey.tup ks).depth ≤ 8 ∧ kvs.length < sizeLine ∧ D.nx (Γ.set i (some (.dct w (storedD kvs (.tup ks) y.er))))) fun c => D.ex c Γ) fun c => D.ex c Γ
theorem ds_putN (i : Nat) (hr : Room n X.A) (ha : DE X W fx a t) (hb : DE X W fx b u) (hN : X.N[i]? = some x := by rfl) (hv : Vis X.env.scope x := by first | exact Or.inl rfl | exact Or.inr (Or.inl rfl) | exact Or.inr (Or.inr rfl)) (hd : (x == ("__debug__" : Str)) = false := by decide)
    (hcd : (x == ("__classdict__" : Str)) = false := by decide) (hs : swapsWith b (some (.Subscript (.Name x p) a pos')) pos.line X.env = pure false := by rfl) : DS X W fx (.Assign [.Subscript (.Name x p) a pos'] b pos) (tPutN X.w i t u) := by
  refine PS.imp (ps_putN hr.units (pe_var hN hv hd hcd) ha hb hs) fun D σ H ⟨φ, A, Γ, Dd, rel, ⟨kvs, e, q⟩, er⟩ => ?_
  refine ⟨φ, A, Γ, _, _, rel, q, fun y uv H1 s1 r1 ⟨ny, q1⟩ => ?_, fun c H' s' q' => er.ex c σ H' A Γ (rel.mono s') q'⟩
  have rel1 := rel.mono s1
  have dy : DD X.K (hid (A ++ φ.Z) H1) uv y.er := (r1.cv rel.dom).dd ny
  obtain ⟨p, xs, h1, np, z, hp, d, _⟩ := rel1.dct e
  refine ⟨.ref p, h1, φ, A, Γ, _, _, rel1, q1, fun x v H2 s2 r2 ⟨nx, ks, ex, h8, lz, q2⟩ => ?_, fun c H' s' q' => er.ex c σ H' A Γ (rel1.mono s') q'⟩
  have rel2 := rel1.mono s2
  have dx : DD X.K (hid (A ++ φ.Z) H2) v x.er := (r2.cv rel1.dom).dd nx
  rw [ex] at dx
  obtain ⟨b, rfl⟩ := ref_of_tup dx
  have d2 := d.mono (hid_mono (Z := A ++ φ.Z) s2)
  have lx : xs.length < sizeLine := by rw [d.length]; exact lz
  refine ⟨b, p, xs, .tup ks, rfl, rfl, np, s2 _ _ hp, (d2.mono hid_same).keys, dx.mono hid_same, h8, z, fun u' ru => ?_⟩
  obtain ⟨A', rel3⟩ := rel2.putD (xs' := storedH xs (.tup ks) b u') (kvs' := storedD kvs (.tup ks) y.er) e h1 np (storedH_len lx) (d2.put dx h8 ru (dy.mono (hid_mono s2)))
  exact er.nx _ _ A' _ rel3 q2
/-- d[k] -/
@[simp] def tGetD (w : World) (i : Nat) (t : TD) : TD := fun Γ Q E => ∃ kvs, Γ[i]? = some (some (.dct w kvs)) ∧ t Γ (fun x => x.isScr = false ∧ ∃ ks d, x.er = (NestedKey.tup ks).data ∧ (NestedKey.tup ks).depth ≤ 8 ∧ valD kvs (.tup ks) = some d ∧ Q (.leaf d)) E
theorem de_getN {w : World} (i : Nat) (hr : Room n X.A) (ha : DE X W fx a t) (hw : X.w = w := by rfl) (hN : X.N[i]? = some x := by rfl) (hv : Vis X.env.scope x := by first | exact Or.inl rfl | exact Or.inr (Or.inl rfl) | exact Or.inr (Or.inr rfl)) (hd : (x == ("__debug__" : Str)) = false := by decide)
    (hcd : (x == ("__classdict__" : Str)) = false := by decide) (hs : NoSl a := by exact fun _ _ => rfl) : DE X W fx (.Subscript (.Name x p) a pos) (tGetD w i t) := by
  subst hw
  refine PE.imp (pe_getN hr.units (pe_var hN hv hd hcd) ha hs) fun σ H Q ⟨φ, A, Γ, Qd, Ed, rel, ⟨kvs, e, q⟩, k, ke⟩ => ?_
  obtain ⟨p, xs, h1, np, z, hp, d, _⟩ := rel.dct e
  refine ⟨.ref p, h1, φ, A, Γ, _, Ed, rel, q, fun y v H1 s1 r1 ⟨ns, ks, dv, ex, h8, ev, q1⟩ => ?_, ke⟩
  have dx : DD X.K (hid (A ++ φ.Z) H1) v y.er := (r1.cv rel.dom).dd ns
  rw [ex] at dx
  obtain ⟨b, rfl⟩ := ref_of_tup dx
  have d1 := d.mono (hid_mono (Z := A ++ φ.Z) s1)
  obtain ⟨a0, v0, ea, rv, dd⟩ := (d1.at (k := .tup ks)).2 _ ev
  exact ⟨b, p, xs, .tup ks, a0, v0, rfl, rfl, s1 _ _ hp, (d1.mono hid_same).keys, dx.mono hid_same, h8, ea, rv, k _ _ H1 s1 (.leaf dd) q1⟩
/-- list(d) -/
@[simp] def tListD (w : World) (i : Nat) : TD := fun Γ Q _ => ∃ kvs, Γ[i]? = some (some (.dct w kvs)) ∧ Q (.node (kvs.map fun q => .leaf q.1.data))
theorem dkv_dds {K : PySem.W.Frag} {H : Hp} : ∀ {xs : List (NestedKey × Addr × Value)} {kvs : List (NestedKey × PyData)}, DKV K H xs kvs → DDs K H (xs.map fun x => V.ref x.2.1) (kvs.map fun q => q.1.data)
  | _, _, .nil => .nil
  | _, _, .cons h t => .cons (by have := h.2.2.1; rw [h.1] at this; exact this) (dkv_dds t)
theorem de_listN (i : Nat) (hc : X.calm = true) (hg : Gl X "list") (m : X.mg "list" = none) (hb : bootBuiltins "list" = some (.type "list")) {q2 : Pos} (hN : X.N[i]? = some x := by rfl) (hv : Vis X.env.scope x := by first | exact Or.inl rfl | exact Or.inr (Or.inl rfl) | exact Or.inr (Or.inr rfl)) (hd : (x == ("__debug__" : Str)) = false := by decide)
    (hcd : (x == ("__classdict__" : Str)) = false := by decide) (hs : starEach [.Name x q2] X.env = (false, eval (.Name x q2) X.env) :: starEach [] X.env := by rfl) : DE X W fx (.Call (.Name "list" p) [.Name x q2] [] pos) (tListD X.w i) := by
  refine PE.imp (pe_callTy (call_listN hc) hg m hb (pa_cons (pe_var hN hv hd hcd) pa_nil hs) (he := hs)) fun σ H Q ⟨φ, A, Γ, Qd, Ed, rel, ⟨kvs, e, q⟩, k, ke⟩ => ?_
  obtain ⟨p, xs, h1, np, z, hp, d, _⟩ := rel.dct e
  refine ⟨.ref p, h1, p, xs, rfl, np, z, hp, ?_⟩
  have ek : kvs.map (fun q => OT.leaf q.1.data) = (kvs.map fun q => q.1.data).map .leaf := by rw [List.map_map]; rfl
  rw [ek] at q
  exact Kt.lst rel.dom k (dkv_dds d) q
/-- a list as a test -/
@[simp] def tTruL (t : TD) : TDT := fun Γ Q E => t Γ (fun x => x.isScr = false ∧ ∃ ds, x.er = .list ds ∧ Q (!ds.isEmpty)) E
theorem dt_truL (ha : DE X W fx a t) (he : ∀ whole, isTrue a X.env whole = (do let v ← whole; standAt a.pos; holding [v] (truthy v)) := by intro _; rfl) : DT X W fx a (tTruL t) := by
  refine PT.imp (pt_truth ha he) fun σ H Q ⟨φ, A, Γ, Qd, Ed, rel, q, k, ke⟩ => ?_
  refine ⟨φ, A, Γ, _, Ed, rel, q, fun y v H1 s1 r1 ⟨ns, ds, ex, q1⟩ => ?_, ke⟩
  obtain ⟨b, xs, rfl, sq, dd⟩ := (r1.cv rel.dom).list ex
  refine ⟨!xs.isEmpty, .inl ⟨xs, hid_same.seq sq, rfl⟩, k _ H1 s1 ?_⟩
  have : xs.isEmpty = ds.isEmpty := by
    have l := dd.length
    cases xs <;> cases ds <;> simp_all
  rw [this]; exact q1
end
/-! ### xs.pop() -/
section
variable {K : PySem.W.Frag} {fx : List Nat} {φ : FrF} {A Z : List Addr} {σ : L2.St} {H H' Hs : Hp} {Γ : Ev} {t : OT} {i : Nat}
theorem Owns.unsnoc {d : PyData} : ∀ {vs : List V} {ts : List OT} {C : List Addr}, Owns K Hs H vs (ts ++ [.leaf d]) C → ∃ vs0 v, vs = vs0 ++ [v] ∧ Owns K Hs H vs0 ts C ∧ DD K Hs v d
  | _, [], _, o => by
    cases o with
    | cons n h r =>
      cases h with
      | leaf dd =>
        cases r
        exact ⟨[], _, rfl, .nil, dd⟩
  | _, t :: ts, _, o => by
    cases o with
    | cons n h r =>
      obtain ⟨vs0, v, e, o', dd⟩ := Owns.unsnoc (ts := ts) r
      subst e
      exact ⟨_ :: vs0, v, rfl, .cons n h o', dd⟩
theorem Rel.popL {js : List Nat} {root : V} {q : Addr} {d : PyData} {ts : List OT} (r : Rel K fx φ A σ H Γ) (e : Γ[i]? = some (some t)) (h : t.at js = some (.node (ts ++ [.leaf d]))) (hr : σ[i]? = some (some root)) (hq : Reach H root js (.ref q)) :
    ∃ (v : V) (vs : List V) (A' : List Addr), H q = some (.lst (vs ++ [v])) ∧ Rel K fx φ A' σ (upd H q (.lst vs)) (Γ.set i (some (t.put js (.node ts)))) ∧ DD K (hid (A' ++ φ.Z) (upd H q (.lst vs))) v d := by
  obtain ⟨vs, Bs, g1, g2, g3, g4, g5, g6⟩ := r.change (Ns := []) r.env (fun _ h => by simp at h) e h hr hq
  obtain ⟨vs0, v, ev, o2, dd⟩ := g3.unsnoc
  subst ev
  have nd := List.nodup_cons.mp g4
  obtain ⟨A', r', sb⟩ := g6 vs0 ts Bs (fun b hb => .inl hb) g4 (o2.mono (Same.refl _) fun a ha ob z => by
    rw [upd_ne fun y : a = q => nd.1 (y ▸ ha)]; exact z)
  exact ⟨v, vs0, A', g1, r', dd.mono (hid_change g2 fun a ha => (sb a ha).elim id fun z => by simp at z)⟩
end
section
variable {X : Cx} {W : WX} {fx : List Nat} {a : Expr} {tr : TDR} {pos' apos cpos spos : Pos} {i k : Nat}
@[simp] def tPopSet (i k : Nat) (tr : TDR) : TDS := fun D Γ => tr Γ (fun js => lstAt i js Γ fun tree ts => ∃ d r, ts = r ++ [.leaf d] ∧ k < Γ.length ∧ D.nx ((Γ.set i (some (tree.put js (.node r)))).set k (some (.leaf d)))) fun c => D.ex c Γ
theorem ds_popSet {x : Str} (hN : X.N.Nodup) (hi : X.N[k]? = some x) (hx : Loc X.env.scope x) (ha : DR X W fx i a tr)
    (hbase : attributeBase a "pop" X.env (eval a X.env) = eval a X.env := by rfl)
    (hs : swapsWith (.Call (.Attribute a "pop" apos) [] [] cpos) (some (.Name x pos')) spos.line X.env = pure false := by rfl) (hf : X.fn x = true ∨ X.env.scope.names.lookup x = some .local := by first | exact .inl rfl | exact .inr rfl | assumption)
    (hline : (apos.endLine == cpos.line) = true := by rfl) (hfx : k ∉ fx := by decide) :
    DS X W fx (.Assign [.Name x pos'] (.Call (.Attribute a "pop" apos) [] [] cpos) spos) (tPopSet i k tr) :=
  PS.imp (ps_set hN hi hx (pe_bm0 PySem.F.plainAttrs_list PySem.F.slot_list_pop PySem.F.type_list_pop mt_pop ha hbase hline) hs hf) fun D σ H ⟨φ, A, Γ, Dd, rel, q, er⟩ => by
  refine ⟨φ, A, Γ, _, _, rel, q, fun js v H1 s1 ⟨root, hr, re⟩ ⟨tree, ts, e1, e2, d, r, ets, hk, q1⟩ => ?_, fun c H' s' q' => er.ex c σ H' A Γ (rel.mono s') q'⟩
  subst ets
  have rel1 := rel.mono s1
  obtain ⟨q', rfl⟩ := rel1.reach e1 e2 hr re
  obtain ⟨v, vs, A', g1, r2, dd⟩ := rel1.popL e1 e2 hr re
  refine ⟨Or.inl ⟨rfl, _, Or.inl (Or.inl g1)⟩, q', _, v, rfl, rfl, g1, by simp, ?_⟩
  rw [List.dropLast_concat]
  obtain ⟨A3, r3, _⟩ := r2.set (Same.refl _) (Res.leaf dd) (by rw [List.length_set]; exact hk) hfx
  exact er.nx _ _ A3 _ r3 q1
end
end FW

set_option Elab.async false
set_option linter.all false
set_option maxRecDepth 100000
set_option maxHeartbeats 4000000
namespace FW
open PySem PySem.Spec PyProof.Rows L2
/-! ### sorted lists of data -/
def okSort (ds : List PyData) : Prop := nodcts ds = true ∧ PySem.W.AllAlike ds ∧ PySem.W.Sortable ds ∧ ds.length ≤ sizeLine ∧ ∀ d ∈ ds, d.depth ≤ 32
def sortD (ds : List PyData) : List PyData := ds.mergeSort (PySem.W.dataLe false fun d => d)
section
variable {X : Cx} {W : WX} {fx : List Nat} {pins : List (Addr × Obj)} {σ : L2.St} {H : Hp} {s : Shared}
theorem each_of (I : Inv X pins σ H s) : ∀ {xs : List V} {ds : List PyData} {its : List Value}, DDs X.K H xs ds → nodcts ds = true → Vals xs its →
    PySem.W.EachIs (fun (u : Value) (b : V × PyData) => RelV b.1 u ∧ DD X.K H b.1 b.2) its (xs.zip ds) ∧ PySem.W.EachIs (fun (u : Value) (b : V × PyData) => ∃ as, Reads s.heap u b.2 as) its (xs.zip ds) ∧ (xs.zip ds).map (·.2) = ds
  | _, _, _, .nil, _, .nil => ⟨.nil, .nil, rfl⟩
  | _, _, _, .cons d t, n, .cons r rs => by
    have n' := Bool.and_eq_true_iff.mp n
    obtain ⟨a, b, c⟩ := each_of I t n'.2 rs
    exact ⟨.cons ⟨r, d⟩ a, .cons (Dp.reads I _ _ _ (d.dp n'.1) r) b, by simp [c]⟩
theorem each_vals {K : PySem.W.Frag} : ∀ {out : List Value} {bs : List (V × PyData)}, PySem.W.EachIs (fun (u : Value) (b : V × PyData) => RelV b.1 u ∧ DD K H b.1 b.2) out bs → Vals (bs.map (·.1)) out ∧ DDs K H (bs.map (·.1)) (bs.map (·.2))
  | _, _, .nil => ⟨.nil, .nil⟩
  | _, _, .cons h t => ⟨.cons h.1 (each_vals t).1, .cons h.2 (each_vals t).2⟩
def sortV (xs : List V) (ds : List PyData) : List V := ((xs.zip ds).mergeSort (PySem.W.dataLe false fun b : V × PyData => b.2)).map (·.1)
theorem dds_zip {K : PySem.W.Frag} {Hs : Hp} : ∀ {xs : List V} {ds : List PyData}, DDs K Hs xs ds → (∀ b ∈ xs.zip ds, DD K Hs b.1 b.2) ∧ (xs.zip ds).map (·.2) = ds
  | _, _, .nil => ⟨fun b h => (by cases h), rfl⟩
  | _, _, .cons d t => by
    obtain ⟨a, c⟩ := dds_zip t
    refine ⟨fun b hb => ?_, by simp [c]⟩
    rcases List.mem_cons.mp hb with e | hb
    · rw [e]; exact d
    · exact a b hb
theorem dds_of {K : PySem.W.Frag} {Hs : Hp} : ∀ {bs : List (V × PyData)}, (∀ b ∈ bs, DD K Hs b.1 b.2) → DDs K Hs (bs.map (·.1)) (bs.map (·.2))
  | [], _ => .nil
  | b :: bs, h => .cons (h b List.mem_cons_self) (dds_of fun c hc => h c (List.mem_cons_of_mem _ hc))
theorem dds_sort {K : PySem.W.Frag} {Hs : Hp} {xs : List V} {ds : List PyData} (h : DDs K Hs xs ds) : DDs K Hs (sortV xs ds) (sortD ds) := by
  obtain ⟨a, em⟩ := dds_zip h
  have es : ((xs.zip ds).mergeSort (PySem.W.dataLe false fun b : V × PyData => b.2)).map (·.2) = sortD ds := by
    rw [PySem.W.sort_maps (r := PySem.W.dataLe false fun b : V × PyData => b.2) (s := PySem.W.dataLe false fun d : PyData => d) (fun b : V × PyData => b.2) (fun a _ b _ => rfl), em]; rfl
  rw [← es]
  exact dds_of fun b hb => a b ((List.mergeSort_perm _ _).mem_iff.mp hb)
theorem cr_sortedA (hu : X.A.units + 64 < cLine) : CallR X (.builtin "sorted") (fun vs H Q => ∃ (a : Addr) (xs : List V) (ds : List PyData), vs = [.ref a] ∧ SqL X.K H a xs ∧ DDs X.K H xs ds ∧ okSort ds ∧ ∀ p, H p = none → Q (.ref p) (upd H p (.lst (sortV xs ds)))) := by
  intro pins s σ H vs us Q I r h
  obtain ⟨a, xs, ds, rfl, hs, hd, ⟨o1, o2, o3, o4, o5⟩, q⟩ := h
  obtain ⟨its, rv, hl, hz⟩ := I.list hs
  obtain ⟨u, rfl, ru⟩ := r.one
  obtain rfl : u = Value.ref a := ru
  obtain ⟨e, er, em⟩ := each_of I hd o1 rv
  have lz : (xs.zip ds).length = ds.length := by rw [← congrArg List.length em, List.length_map]
  refine PySem.W.sorted_data (R := fun (u : Value) (b : V × PyData) => RelV b.1 u ∧ DD X.K H b.1 b.2) (enc := fun b : V × PyData => b.2) hl.isList e er (by rw [em]; exact o2) (by rw [em]; exact o3) (by rw [lz]; exact o4) (fun b hb => ?_) fun out hlen eo => ?_
  · have hm : b.2 ∈ ds := by rw [← em]; exact List.mem_map.mpr ⟨b, hb, rfl⟩
    have := o5 _ hm
    show X.A.units + 2 + b.2.depth < cLine
    omega
  · obtain ⟨v1, d1⟩ := each_vals eo
    obtain ⟨n, hn⟩ := sortedAll_at s.heap its out.toArray
    refine ⟨.ref (s.heap.objs.size + 1), _, I.laid (t' := s.toks) (fun b o e => sortedAll_old e) (Nat.le_succ _) (o := .lst (sortV xs ds)) ⟨?_, out, n, v1, hn⟩, rfl, q _ (I.hok.fresh (Nat.le_succ _))⟩
    rw [sortV, List.length_map, List.length_mergeSort, lz]; exact o4
variable {a : Expr} {t : TD} {pos p : Pos} {n : Nat}
@[simp] def fSort (x : OT) (Q : OT → Prop) : Prop := x.isScr = false ∧ ∃ ds, x.er = .list ds ∧ okSort ds ∧ Q (.node ((sortD ds).map .leaf))
theorem de_sorted (hr : Room n X.A) (hg : Gl X "sorted") (m : X.mg "sorted" = none) (hb : bootBuiltins "sorted" = some (.builtin "sorted")) (ha : DE X W fx a t) (hs : starEach [a] X.env = (false, eval a X.env) :: starEach [] X.env := by rfl) : DE X W fx (.Call (.Name "sorted" p) [a] [] pos) (tU fSort t) := by
  refine de_call1 (pe_callB (cr_sortedA hr.units) hg m hb (pa_cons ha pa_nil hs) (he := hs)) fun A Z H1 x v Q Qd dm c ⟨ns, ds, e, ok, q⟩ k => ?_
  obtain ⟨a, xs, rfl, h, t⟩ := c.list e
  exact ⟨a, xs, ds, rfl, hid_same.seq h, t.mono hid_same, ok, Kt.lst dm k (dds_sort t) q⟩
end
end FW

set_option Elab.async false
set_option linter.all false
set_option maxRecDepth 100000
set_option maxHeartbeats 4000000
namespace FW
open PySem PySem.Spec PyProof.Rows L2
/-! ### walks of strides -/
abbrev Mv := Nat × Bool
def run (w : Web) : Sta → List Mv → Option Sta
  | s, [] => some s
  | s, m :: ms => if m.1 < w.length ∧ canS w s m.1 m.2 = true then run w (moveS w s m) ms else none
theorem run_append {w : Web} : ∀ (ms ns : List Mv) (s : Sta), run w s (ms ++ ns) = (run w s ms).bind fun s' => run w s' ns
  | [], ns, s => rfl
  | m :: ms, ns, s => by
    simp only [List.cons_append, run]
    split
    · exact run_append ms ns _
    · rfl
theorem run_runD {w : Web} : ∀ (ms : List Mv) (s : Sta), runD w s (ms.map moveD) = run w s ms
  | [], s => rfl
  | m :: ms, s => by
    simp only [List.map_cons, runD, run, decM_move]
    by_cases h : m.1 < w.length
    · rw [canD_move h]
      by_cases c : canS w s m.1 m.2 = true
      · rw [if_pos c, if_pos ⟨h, c⟩]; exact run_runD ms _
      · rw [if_neg c, if_neg fun z => c z.2]
    · have : canD w s (moveD m) = false := by
        obtain ⟨n, k⟩ := m
        have h' : ¬ n < w.length := h
        cases k <;> simp [moveD, canD, h']
      rw [this, if_neg (by decide), if_neg (fun z => h z.1)]
theorem run_fit {w : Web} (gs : ∀ r ∈ w, ∀ st ∈ r, goodS st) {ms : List Mv} {s s' : Sta} (f : Fit w s) (h : run w s ms = some s') : Fit w s' := runD_fit gs f (by rw [run_runD]; exact h)
def strideK (w : Web) (s : Sta) (pr : Bool) (h : Nat) (k : Bool) : List (List Mv) :=
  if canS w s h k = true then (if (pr && putAt w s (h, k)) = true then [[(h, k), (h, true)]] else [[(h, k)]]) else []
def stridesTo (w : Web) (s : Sta) (pr : Bool) (n : Nat) : List (List Mv) := (List.range n).flatMap fun h => [false, true].flatMap (strideK w s pr h)
def stridesW (w : Web) (s : Sta) (pr : Bool) : List (List Mv) := stridesTo w s pr w.length
theorem stridesTo_succ {w : Web} {s : Sta} {pr : Bool} {n : Nat} : stridesTo w s pr (n + 1) = stridesTo w s pr n ++ [false, true].flatMap (strideK w s pr n) := by
  simp [stridesTo, List.range_succ]
theorem strideK_len {w : Web} {s : Sta} {pr : Bool} {h : Nat} {k : Bool} : (strideK w s pr h k).length ≤ 1 := by
  unfold strideK
  split
  · split <;> simp
  · simp
theorem stridesTo_len {w : Web} {s : Sta} {pr : Bool} : ∀ n, (stridesTo w s pr n).length ≤ 2 * n
  | 0 => by simp [stridesTo]
  | n + 1 => by
    have a := strideK_len (w := w) (s := s) (pr := pr) (h := n) (k := false)
    have b := strideK_len (w := w) (s := s) (pr := pr) (h := n) (k := true)
    have c := stridesTo_len (w := w) (s := s) (pr := pr) n
    rw [stridesTo_succ, List.length_append]
    simp only [List.flatMap_cons, List.flatMap_nil, List.length_append, List.length_nil]
    omega
theorem mem_strides {w : Web} {s : Sta} {pr : Bool} {st : List Mv} : st ∈ stridesW w s pr ↔ ∃ h k, h < w.length ∧ canS w s h k = true ∧ st = if (pr && putAt w s (h, k)) = true then [(h, k), (h, true)] else [(h, k)] := by
  unfold stridesW stridesTo
  rw [List.mem_flatMap]
  constructor
  · rintro ⟨h, hh, q⟩
    obtain ⟨k, _, q⟩ := List.mem_flatMap.mp q
    unfold strideK at q
    split at q
    · rename_i c
      refine ⟨h, k, List.mem_range.mp hh, c, ?_⟩
      split at q
      · rename_i z; rw [if_pos z]; exact List.mem_singleton.mp q
      · rename_i z; rw [if_neg z]; exact List.mem_singleton.mp q
    · cases q
  · rintro ⟨h, k, hh, c, e⟩
    refine ⟨h, List.mem_range.mpr hh, List.mem_flatMap.mpr ⟨k, by cases k <;> simp, ?_⟩⟩
    unfold strideK
    rw [if_pos c, e]
    split <;> exact List.mem_singleton.mpr rfl
theorem putAt_put {w : Web} {s : Sta} {h : Nat} {k : Bool} (p : putAt w s (h, k) = true) : k = false ∧ ∃ b n, (w.getD h [])[s.done.getD h 0]? = some (.put b n) := by
  unfold putAt at p
  simp only [Bool.and_eq_true, Bool.not_eq_true'] at p
  refine ⟨p.1, ?_⟩
  have q := p.2
  split at q
  · rename_i b n e; exact ⟨b, n, e⟩
  · cases q
/-- a stride can be done -/
theorem stride_run {w : Web} {s : Sta} {pr : Bool} {st : List Mv} (f : Fit w s) (hm : st ∈ stridesW w s pr) : ∃ s1, run w s st = some s1 := by
  obtain ⟨h, k, hh, c, e⟩ := mem_strides.mp hm
  clear hm
  split at e
  · rename_i z
    have p := (Bool.and_eq_true_iff.mp z).2
    obtain ⟨ek, b, n, eb⟩ := putAt_put p
    subst ek
    have a := (after_step f hh c).2.2 b n eb
    subst e
    refine ⟨moveS w (moveS w s (h, false)) (h, true), ?_⟩
    simp only [run]
    rw [if_pos ⟨hh, c⟩]
    have a' : canS w (moveS w s (h, false)) h true = true := a
    rw [if_pos ⟨hh, a'⟩]
  · subst e
    exact ⟨moveS w s (h, k), by simp only [run]; rw [if_pos ⟨hh, c⟩]⟩
inductive Walk (w : Web) (pr : Bool) : Sta → List Mv → Sta → Prop
  | nil {s : Sta} : Walk w pr s [] s
  | cons {s s1 s2 : Sta} {st ms : List Mv} : st ∈ stridesW w s pr → run w s st = some s1 → Walk w pr s1 ms s2 → Walk w pr s (st ++ ms) s2
theorem Walk.run {w : Web} {pr : Bool} {s s2 : Sta} {ms : List Mv} (h : Walk w pr s ms s2) : run w s ms = some s2 := by
  induction h with
  | nil => rfl
  | cons a b _ ih => rw [run_append, b]; exact ih
theorem Walk.snoc {w : Web} {pr : Bool} {s s1 s2 : Sta} {ms st : List Mv} (h : Walk w pr s ms s1) (a : st ∈ stridesW w s1 pr) (b : FW.run w s1 st = some s2) : Walk w pr s (ms ++ st) s2 := by
  induction h with
  | nil => simpa using Walk.cons a b .nil
  | cons a' b' _ ih => rw [List.append_assoc]; exact .cons a' b' (ih a b)
theorem Walk.trans {w : Web} {pr : Bool} {s s1 s2 : Sta} {ms ns : List Mv} (h : Walk w pr s ms s1) (g : Walk w pr s1 ns s2) : Walk w pr s (ms ++ ns) s2 := by
  induction h with
  | nil => exact g
  | cons a b _ ih => rw [List.append_assoc]; exact .cons a b (ih g)
theorem Walk.fit {w : Web} {pr : Bool} (gs : ∀ r ∈ w, ∀ st ∈ r, goodS st) {s s2 : Sta} {ms : List Mv} (h : Walk w pr s ms s2) (f : Fit w s) : Fit w s2 := run_fit gs f h.run
/-! ### ends -/
abbrev EndT := List Int × List (List Int)
def endOf (s : Sta) : EndT := (s.box, s.got)
def endE (e : EndT) : PyData := .tuple [intsD e.1, gotD e.2]
theorem endD_E {s : Sta} : endD s = endE (endOf s) := rfl
def stKey (s : Sta) : NestedKey := .tup [.tup (s.done.map fun n => .num (n : Nat)), .tup (s.lines.map fun l => .tup (l.map fun p => .tup [.num (p.1 : Nat), .num p.2])), .tup (s.box.map .num), .tup (s.got.map fun l => .tup (l.map .num))]
def enKey (e : EndT) : NestedKey := .tup [.tup (e.1.map .num), .tup (e.2.map fun l => .tup (l.map .num))]
theorem datas_map {α : Type} (f : α → NestedKey) : ∀ l : List α, NestedKey.datas (l.map f) = l.map fun a => (f a).data
  | [] => rfl
  | a :: l => by simp [NestedKey.datas, datas_map f l]
theorem stKey_data {s : Sta} : (stKey s).data = encSt s := by
  simp [stKey, NestedKey.data, NestedKey.datas, datas_map, encSt, natsD, linesD, intsD, gotD, lineD, pairD, Function.comp_def]
theorem enKey_data {e : EndT} : (enKey e).data = endE e := by
  simp [enKey, NestedKey.data, NestedKey.datas, datas_map, endE, intsD, gotD, Function.comp_def]
theorem num_inj : ∀ {a b : List Int}, a.map NestedKey.num = b.map NestedKey.num → a = b
  | [], [], _ => rfl
  | [], _ :: _, h => by cases h
  | _ :: _, [], h => by cases h
  | x :: a, y :: b, h => by
    simp only [List.map_cons, List.cons.injEq, NestedKey.num.injEq] at h
    rw [h.1, num_inj h.2]
theorem map_inj {α β : Type} {f : α → β} (hf : ∀ x y, f x = f y → x = y) : ∀ {a b : List α}, a.map f = b.map f → a = b
  | [], [], _ => rfl
  | [], _ :: _, h => by cases h
  | _ :: _, [], h => by cases h
  | x :: a, y :: b, h => by
    simp only [List.map_cons, List.cons.injEq] at h
    rw [hf _ _ h.1, map_inj hf h.2]
def pairK (p : Nat × Int) : NestedKey := .tup [.num (p.1 : Nat), .num p.2]
theorem pairK_inj (p q : Nat × Int) (h : pairK p = pairK q) : p = q := by
  simp only [pairK, NestedKey.tup.injEq, List.cons.injEq, NestedKey.num.injEq, and_true] at h
  exact Prod.ext (by have := h.1; omega) h.2
theorem stKey_inj {s t : Sta} (h : stKey s = stKey t) : s = t := by
  simp only [stKey, NestedKey.tup.injEq, List.cons.injEq, and_true] at h
  obtain ⟨h1, h2, h3, h4⟩ := h
  have e1 : s.done = t.done := map_inj (fun x y h => by
    have := NestedKey.num.inj h
    omega) h1
  have e2 : s.lines = t.lines := map_inj (f := fun l : List (Nat × Int) => NestedKey.tup (l.map pairK)) (fun x y h => map_inj (f := pairK) pairK_inj (NestedKey.tup.inj h)) h2
  have e3 : s.box = t.box := num_inj h3
  have e4 : s.got = t.got := map_inj (fun x y h => num_inj (by simpa using h)) h4
  cases s; cases t; simp_all
theorem enKey_inj {s t : EndT} (h : enKey s = enKey t) : s = t := by
  simp only [enKey, NestedKey.tup.injEq, List.cons.injEq, and_true] at h
  exact Prod.ext (num_inj h.1) (map_inj (fun x y h => num_inj (by simpa using h)) h.2)
theorem depth_le {α : Type} {f : α → NestedKey} {n : Nat} (h : ∀ a, (f a).depth ≤ n) : ∀ l : List α, NestedKey.depthAll (l.map f) ≤ n
  | [] => Nat.zero_le _
  | a :: l => by
    simp only [List.map_cons, NestedKey.depthAll]
    exact Nat.max_le.mpr ⟨h a, depth_le h l⟩
theorem stKey_depth {s : Sta} : (stKey s).depth ≤ 8 := by
  have a1 := depth_le (f := fun n : Nat => NestedKey.num (n : Nat)) (n := 0) (fun _ => Nat.le_refl _) s.done
  have a2 := depth_le (f := fun l : List (Nat × Int) => NestedKey.tup (l.map fun p => .tup [.num (p.1 : Nat), .num p.2])) (n := 2) (fun l => by
    have := depth_le (f := fun p : Nat × Int => NestedKey.tup [.num (p.1 : Nat), .num p.2]) (n := 1) (fun _ => by simp [NestedKey.depth, NestedKey.depthAll]) l
    simp only [NestedKey.depth]; omega) s.lines
  have a3 := depth_le (f := NestedKey.num) (n := 0) (fun _ => Nat.le_refl _) s.box
  have a4 := depth_le (f := fun l : List Int => NestedKey.tup (l.map .num)) (n := 1) (fun l => by
    have := depth_le (f := NestedKey.num) (n := 0) (fun _ => Nat.le_refl _) l
    simp only [NestedKey.depth]; omega) s.got
  simp only [stKey, NestedKey.depth, NestedKey.depthAll]
  omega
theorem enKey_depth {e : EndT} : (enKey e).depth ≤ 8 := by
  have a3 := depth_le (f := NestedKey.num) (n := 0) (fun _ => Nat.le_refl _) e.1
  have a4 := depth_le (f := fun l : List Int => NestedKey.tup (l.map .num)) (n := 1) (fun l => by
    have := depth_le (f := NestedKey.num) (n := 0) (fun _ => Nat.le_refl _) l
    simp only [NestedKey.depth]; omega) e.2
  simp only [enKey, NestedKey.depth, NestedKey.depthAll]
  omega
/-! ### the dicts of the search -/
def seenK (L : List Sta) : List (NestedKey × PyData) := L.map fun s => (stKey s, .bool true)
def foundK (F : List (EndT × List Mv)) : List (NestedKey × PyData) := F.map fun e => (enKey e.1, .list (e.2.map moveD))
theorem seen_val {L : List Sta} {s : Sta} : (valD (seenK L) (stKey s)).isSome = decide (s ∈ L) := by
  induction L with
  | nil => rfl
  | cons a L ih =>
    by_cases e : a = s
    · subst e; simp [valD, seenK]
    · have e' : ¬ stKey a = stKey s := fun z => e (stKey_inj z)
      have : valD (seenK (a :: L)) (stKey s) = valD (seenK L) (stKey s) := by simp [valD, seenK, e']
      rw [this, ih]
      have e2 : ¬ s = a := fun z => e z.symm
      simp [e2]
theorem seen_put {L : List Sta} {s : Sta} (h : s ∉ L) : storedD (seenK L) (stKey s) (.bool true) = seenK (L ++ [s]) := by
  unfold storedD
  rw [seen_val, if_neg (by simpa using h)]
  simp [seenK]
def putF (F : List (EndT × List Mv)) (e : EndT) (ms : List Mv) : List (EndT × List Mv) := if e ∈ F.map (·.1) then F.map fun q => if q.1 = e then (q.1, ms) else q else F ++ [(e, ms)]
theorem found_val {F : List (EndT × List Mv)} {e : EndT} : (valD (foundK F) (enKey e)).isSome = decide (e ∈ F.map (·.1)) := by
  induction F with
  | nil => rfl
  | cons a L ih =>
    by_cases h : a.1 = e
    · simp [valD, foundK, h]
    · have e' : ¬ enKey a.1 = enKey e := fun z => h (enKey_inj z)
      have : valD (foundK (a :: L)) (enKey e) = valD (foundK L) (enKey e) := by simp [valD, foundK, e']
      rw [this, ih]
      have e2 : ¬ e = a.1 := fun z => h z.symm
      simp [e2]
theorem found_put {F : List (EndT × List Mv)} {e : EndT} {ms : List Mv} : storedD (foundK F) (enKey e) (.list (ms.map moveD)) = foundK (putF F e ms) := by
  unfold storedD putF
  rw [found_val]
  by_cases h : e ∈ F.map (·.1)
  · rw [if_pos (by simpa using h), if_pos h]
    simp only [foundK, List.map_map]
    apply List.map_congr_left
    intro q _
    simp only [Function.comp]
    by_cases z : q.1 = e
    · have z' : enKey q.1 = enKey e := by rw [z]
      rw [if_pos z', if_pos z]
    · have z' : ¬ enKey q.1 = enKey e := fun y => z (enKey_inj y)
      rw [if_neg z', if_neg z]
  · rw [if_neg (by simpa using h), if_neg h]
    simp [foundK]
theorem putF_keys {F : List (EndT × List Mv)} {e : EndT} {ms : List Mv} : (putF F e ms).map (·.1) = if e ∈ F.map (·.1) then F.map (·.1) else F.map (·.1) ++ [e] := by
  unfold putF
  split
  · rw [List.map_map]
    apply List.map_congr_left
    intro q _
    simp only [Function.comp]
    split <;> rfl
  · simp
theorem putF_mem {F : List (EndT × List Mv)} {e : EndT} {ms : List Mv} {q : EndT × List Mv} (h : q ∈ putF F e ms) : q = (e, ms) ∨ q ∈ F := by
  unfold putF at h
  split at h
  · obtain ⟨p, hp, rfl⟩ := List.mem_map.mp h
    split
    · rename_i z; exact .inl (by rw [← z])
    · exact .inr hp
  · rcases List.mem_append.mp h with h | h
    · exact .inr h
    · exact .inl (List.mem_singleton.mp h)
theorem found_at {F : List (EndT × List Mv)} (n : (F.map (·.1)).Nodup) {q : EndT × List Mv} (h : q ∈ F) : valD (foundK F) (enKey q.1) = some (.list (q.2.map moveD)) := by
  induction F with
  | nil => cases h
  | cons a F ih =>
    have n' := List.nodup_cons.mp n
    rcases List.mem_cons.mp h with e | h
    · subst e; simp [valD, foundK]
    · have ne : ¬ enKey a.1 = enKey q.1 := fun z => n'.1 (by
        show a.1 ∈ _
        rw [enKey_inj z]
        exact List.mem_map.mpr ⟨q, h, rfl⟩)
      have : valD (foundK (a :: F)) (enKey q.1) = valD (foundK F) (enKey q.1) := by simp [valD, foundK, ne]
      rw [this]; exact ih n'.2 h
end FW

set_option Elab.async false
set_option linter.all false
set_option maxRecDepth 100000
set_option maxHeartbeats 4000000
namespace FW
open PySem PySem.Spec PyProof.Rows L2
/-! ### what the search says -/
def strideD (st : List Mv) : OT := .node (st.map fun m => .leaf (moveD m))
def S_strides : SD := fun rs Q _ => ∃ w s pr, rs = [.leaf (encWeb w), .leaf (encSt s), .leaf (.bool pr)] ∧ smallW w ∧ Fit w s ∧ Q (.node ((stridesW w s pr).map strideD))
/-- few states come up -/
def Few (w : Web) (pr : Bool) : Prop := ∀ L : List Sta, L.Nodup → (∀ s ∈ L, ∃ ms, Walk w pr (st0 w) ms s) → L.length < sizeLine
def ltE (a b : EndT) : Bool := PySem.W.dataLt (endE a) (endE b)
/-- all ends with a walk each, rising -/
structure EndsOf (w : Web) (pr : Bool) (es : List (EndT × List Mv)) : Prop where
  rise : (es.map (·.1)).Pairwise fun a b => ltE a b = true
  sound : ∀ e ∈ es, ∃ s, Walk w pr (st0 w) e.2 s ∧ overS w s = true ∧ endOf s = e.1
  full : ∀ ms s, Walk w pr (st0 w) ms s → overS w s = true → endOf s ∈ es.map (·.1)
def esD (es : List (EndT × List Mv)) : List PyData := es.map fun e => .tuple [endE e.1, .list (e.2.map moveD)]
def S_ends_by (CB : Value) : SD := fun rs Q E => ∃ d pr, rs = [.leaf d, .leaf (.bool pr)] ∧ ((okWeb d = false ∧ E CB) ∨ ∃ w, d = encWeb w ∧ okWeb d = true ∧ smallW w ∧ (∀ r ∈ w, ∀ st ∈ r, goodS st) ∧ Few w pr ∧ ∀ es, EndsOf w pr es → Q (.node ((esD es).map .leaf)))
def S_ends (CB : Value) (pr : Bool) : SD := fun rs Q E => ∃ d, rs = [.leaf d] ∧ ((okWeb d = false ∧ E CB) ∨ ∃ w, d = encWeb w ∧ okWeb d = true ∧ smallW w ∧ (∀ r ∈ w, ∀ st ∈ r, goodS st) ∧ Few w pr ∧ ∀ es, EndsOf w pr es → Q (.node ((esD es).map .leaf)))
@[simp] theorem cxOf_w {CX : L2.CXT} {P : Program} {w : World} {K : PySem.W.Frag} {mg : Str → Option Value} {base : Heap} {N : List Str} {x : Str} {sc : Scope} {f : Addr} {cdv : Value} {A : Around} {outer : List Env} {s : Shared} {H : Hp} {E : XK} : (L2.cxOf CX P w K mg base N x sc f cdv A outer s H E).w = w := rfl
/-! ### the search -/
def Done (w : Web) (pr : Bool) (L : List Sta) (F : List (EndT × List Mv)) (s : Sta) : Prop := (overS w s = true → endOf s ∈ F.map (·.1)) ∧ ∀ st ∈ stridesW w s pr, ∃ s1, run w s st = some s1 ∧ s1 ∈ L
structure Srch (w : Web) (pr : Bool) (L : List Sta) (T : List (Sta × List Mv)) (F : List (EndT × List Mv)) : Prop where
  nd : L.Nodup
  st : st0 w ∈ L
  way : ∀ s ∈ L, ∃ ms, Walk w pr (st0 w) ms s
  todo : ∀ p ∈ T, p.1 ∈ L ∧ Walk w pr (st0 w) p.2 p.1
  len : F.length + T.length ≤ L.length
  fnd : (F.map (·.1)).Nodup
  fin : ∀ e ∈ F, ∃ s, Walk w pr (st0 w) e.2 s ∧ overS w s = true ∧ endOf s = e.1
def todoT (T : List (Sta × List Mv)) : List OT := T.map fun p => .leaf (.tuple [encSt p.1, .list (p.2.map moveD)])
theorem Done.mono {w : Web} {pr : Bool} {L L' : List Sta} {F F' : List (EndT × List Mv)} {s : Sta} (h : Done w pr L F s) (hL : ∀ a ∈ L, a ∈ L') (hF : ∀ e ∈ F.map (·.1), e ∈ F'.map (·.1)) : Done w pr L' F' s :=
  ⟨fun o => hF _ (h.1 o), fun st hs => by
    obtain ⟨s1, a, b⟩ := h.2 st hs
    exact ⟨s1, a, hL _ b⟩⟩
theorem putF_key_mono {F : List (EndT × List Mv)} {e : EndT} {ms : List Mv} : ∀ k ∈ F.map (·.1), k ∈ (putF F e ms).map (·.1) := fun k hk => by
  rw [putF_keys]
  split
  · exact hk
  · exact List.mem_append_left _ hk
theorem putF_key {F : List (EndT × List Mv)} {e : EndT} {ms : List Mv} : e ∈ (putF F e ms).map (·.1) := by
  rw [putF_keys]
  split
  · assumption
  · simp
theorem putF_nd {F : List (EndT × List Mv)} {e : EndT} {ms : List Mv} (n : (F.map (·.1)).Nodup) : ((putF F e ms).map (·.1)).Nodup := by
  rw [putF_keys]
  split
  · exact n
  · rename_i h
    exact List.nodup_append.mpr ⟨n, by simp, fun a ha b hb e => h (by
      have : b = _ := List.mem_singleton.mp hb
      rw [← this, ← e]; exact ha)⟩
theorem putF_len {F : List (EndT × List Mv)} {e : EndT} {ms : List Mv} : (putF F e ms).length ≤ F.length + 1 := by
  unfold putF
  split <;> simp
theorem Srch.start (w : Web) (pr : Bool) : Srch w pr [st0 w] [(st0 w, [])] [] := by
  refine ⟨by simp, by simp, fun s hs => ⟨[], ?_⟩, fun p hp => ?_, by simp, by simp, fun e he => by cases he⟩
  · rw [List.mem_singleton.mp hs]; exact .nil
  · rw [List.mem_singleton.mp hp]; exact ⟨by simp, .nil⟩
theorem Srch.pop {w : Web} {pr : Bool} {L : List Sta} {T : List (Sta × List Mv)} {F : List (EndT × List Mv)} {p : Sta × List Mv} (h : Srch w pr L (T ++ [p]) F) : Srch w pr L T F :=
  ⟨h.nd, h.st, h.way, fun q hq => h.todo q (List.mem_append_left _ hq), by have := h.len; simp at this; omega, h.fnd, h.fin⟩
theorem Srch.put {w : Web} {pr : Bool} {L : List Sta} {T : List (Sta × List Mv)} {F : List (EndT × List Mv)} {s : Sta} {ms : List Mv} (h : Srch w pr L T F) (hl : F.length + T.length + 1 ≤ L.length) (hw : Walk w pr (st0 w) ms s) (ho : overS w s = true) : Srch w pr L T (putF F (endOf s) ms) :=
  ⟨h.nd, h.st, h.way, h.todo, by have := putF_len (F := F) (e := endOf s) (ms := ms); omega, putF_nd h.fnd, fun e he => by
    rcases putF_mem he with z | z
    · subst z; exact ⟨s, hw, ho, rfl⟩
    · exact h.fin e z⟩
theorem Srch.push {w : Web} {pr : Bool} {L : List Sta} {T : List (Sta × List Mv)} {F : List (EndT × List Mv)} {s : Sta} {ms : List Mv} (h : Srch w pr L T F) (hn : s ∉ L) (hw : Walk w pr (st0 w) ms s) : Srch w pr (L ++ [s]) (T ++ [(s, ms)]) F := by
  refine ⟨List.nodup_append.mpr ⟨h.nd, by simp, fun a ha b hb e => hn (by
      have : b = s := List.mem_singleton.mp hb
      rw [← this, ← e]; exact ha)⟩, List.mem_append_left _ h.st, fun t ht => ?_, fun p hp => ?_, by have := h.len; simp; omega, h.fnd, h.fin⟩
  · rcases List.mem_append.mp ht with z | z
    · exact h.way t z
    · rw [List.mem_singleton.mp z]; exact ⟨ms, hw⟩
  · rcases List.mem_append.mp hp with z | z
    · exact ⟨List.mem_append_left _ (h.todo p z).1, (h.todo p z).2⟩
    · rw [List.mem_singleton.mp z]; exact ⟨by simp, hw⟩
/-- at the end all is told -/
theorem Srch.full {w : Web} {pr : Bool} {L : List Sta} {F : List (EndT × List Mv)} (h : Srch w pr L [] F) (cl : ∀ s ∈ L, Done w pr L F s) : ∀ ms s, Walk w pr (st0 w) ms s → s ∈ L := by
  have key : ∀ s0 ms s, Walk w pr s0 ms s → s0 ∈ L → s ∈ L := fun s0 ms s hw => by
    induction hw with
    | nil => exact id
    | cons a b _ ih =>
      intro h0
      obtain ⟨s1, c, d⟩ := (cl _ h0).2 _ a
      rw [b] at c; cases c
      exact ih d
  exact fun ms s hw => key _ ms s hw h.st
theorem mu_run {w : Web} (gs : ∀ r ∈ w, ∀ st ∈ r, goodS st) : ∀ {ms : List Mv} {s s' : Sta}, Fit w s → run w s ms = some s' → ms.length + mu w s' ≤ mu w s
  | [], s, s', f, h => by cases h; simp
  | m :: ms, s, s', f, h => by
    simp only [run] at h
    split at h
    · rename_i c
      have f1 := f.move gs c.1 c.2
      have z := mu_run gs f1 h
      have y := mu_move f c.1 c.2
      simp only [List.length_cons]
      have e : moveS w s (m.1, m.2) = moveS w s m := rfl
      rw [e] at y
      omega
    · cases h
theorem size_small {w : Web} (sm : smallW w) : sizeW w ≤ 3000 := by
  have key : ∀ l : List (List Step), (∀ r ∈ l, r.length ≤ 1000) → sizeW l ≤ l.length * 1000 := fun l => by
    induction l with
    | nil => intro _; simp [sizeW]
    | cons a l ih =>
      intro h
      have a1 := h a List.mem_cons_self
      have a2 := ih fun r hr => h r (List.mem_cons_of_mem _ hr)
      simp only [sizeW, List.map_cons, List.sum_cons, List.length_cons] at a2 ⊢
      omega
  have := key w sm.2
  have h3 := sm.1
  omega
theorem todoT_snoc {T : List (Sta × List Mv)} {p : Sta × List Mv} : todoT (T ++ [p]) = todoT T ++ [.leaf (.tuple [encSt p.1, .list (p.2.map moveD)])] := by simp [todoT]
@[simp] theorem todoT_len {T : List (Sta × List Mv)} : (todoT T).length = T.length := by simp [todoT]
@[simp] theorem seenK_len {L : List Sta} : (seenK L).length = L.length := by simp [seenK]
@[simp] theorem foundK_len {F : List (EndT × List Mv)} : (foundK F).length = F.length := by simp [foundK]
def stD (st : List Mv) : PyData := .list (st.map moveD)
/-- the body of the loop over the strides -/
abbrev bodyE (C : Value) (wd : World) : TDS :=
  tSq (tSetF 7 (tB fIx (tName 5) (tK (PyData.int 0))))
    (tSq (tFor srcL (tName 6) (gN 8) (tSetF 7 (tCallD (S_moved C) (tAc (tName 0) (tAc (tName 7) (tAc (tName 8) tA0))))))
      (tIf (tNotInN wd 3 (tName 7))
        (tSq (tPutN wd 3 (tName 7) (tK (PyData.bool true)))
          (tApp 2 (tR0 2) (tF fTup (tAc (tName 7) (tAc (tB (f2 addD) (tB fIx (tName 5) (tK (PyData.int 1))) (tName 6)) tA0)))))
        tNx))
abbrev envE (wd : World) (wb : Web) (pr : Bool) (L : List Sta) (T : List (Sta × List Mv)) (F : List (EndT × List Mv)) (x5 x6 x7 x8 : Option OT) : Ev :=
  [some (.leaf (encWeb wb)), some (.leaf (.bool pr)), some (.node (todoT T)), some (.dct wd (seenK L)), some (.dct wd (foundK F)), x5, x6, x7, x8, none]
theorem strideLoop {C : Value} {wd : World} {wb : Web} {pr : Bool} {L : List Sta} {T : List (Sta × List Mv)} {F : List (EndT × List Mv)} {s : Sta} {ms : List Mv} {D : DEnds} {x6 x7 x8 : Option OT}
    (sm : smallW wb) (gs : ∀ r ∈ wb, ∀ st ∈ r, goodS st) (few : Few wb pr) (sr : Srch wb pr L T F) (sL : s ∈ L) (sW : Walk wb pr (st0 wb) ms s) (ho : overS wb s = true → endOf s ∈ F.map (·.1))
    (cl : ∀ t ∈ L, t ∈ T.map (·.1) ∨ Done wb pr L F t ∨ t = s)
    (fin : ∀ L1 T1 x6 x7 x8 j, Srch wb pr L1 T1 F → L1.length = L.length + j → T1.length = T.length + j → (∀ t ∈ L1, t ∈ T1.map (·.1) ∨ Done wb pr L1 F t) → D.nx (envE wd wb pr L1 T1 F (some (.leaf (.tuple [encSt s, .list (ms.map moveD)]))) x6 x7 x8)) :
    forInv ((stridesW wb s pr).map stD) (gN 6) (bodyE C wd) D (envE wd wb pr L T F (some (.leaf (.tuple [encSt s, .list (ms.map moveD)]))) x6 x7 x8) := by
  have f : Fit wb s := sW.fit gs fit0
  refine forInv_of (fun pre Γ => ∃ L1 T1 x6 x7 x8 j, Srch wb pr L1 T1 F ∧ L1.length = L.length + j ∧ T1.length = T.length + j ∧ (∀ t ∈ L, t ∈ L1) ∧ (∀ t ∈ L1, t ∈ T1.map (·.1) ∨ Done wb pr L1 F t ∨ t = s) ∧ (∀ st ∈ (stridesW wb s pr).take pre.length, ∃ s1, run wb s st = some s1 ∧ s1 ∈ L1) ∧
    Γ = envE wd wb pr L1 T1 F (some (.leaf (.tuple [encSt s, .list (ms.map moveD)]))) x6 x7 x8) ⟨L, T, x6, x7, x8, 0, sr, rfl, rfl, fun _ h => h, cl, fun st h => by simp at h, rfl⟩ (fun pre p post Γ' e ⟨L1, T1, x6, x7, x8, j, sr1, l1, l2, sub, cl1, dn, eg⟩ => ?_) (fun Γ' ⟨L1, T1, x6, x7, x8, j, sr1, l1, l2, sub, cl1, dn, eg⟩ => ?_)
  · subst eg
    have hlt : pre.length < (stridesW wb s pr).length := by
      have := congrArg List.length e
      simp at this; omega
    obtain ⟨st, est, ep⟩ : ∃ st, (stridesW wb s pr)[pre.length]? = some st ∧ p = stD st := by
      have z : ((stridesW wb s pr).map stD)[pre.length]? = some p := by rw [e]; simp
      rw [List.getElem?_map] at z
      obtain ⟨st, a, b⟩ := Option.map_eq_some_iff.mp z
      exact ⟨st, a, b.symm⟩
    subst ep
    have hst : st ∈ stridesW wb s pr := List.mem_of_getElem? est
    obtain ⟨s1, hr⟩ := stride_run f hst
    have W1 : Walk wb pr (st0 wb) (ms ++ st) s1 := sW.snoc hst hr
    have lL : L1.length < sizeLine := few L1 sr1.nd sr1.way
    have lT : T1.length < sizeLine := by have := sr1.len; omega
    have f1 : Fit wb s1 := run_fit gs f hr
    have tk1 : (stridesW wb s pr).take (pre.length + 1) = (stridesW wb s pr).take pre.length ++ [st] := by rw [List.take_add_one, est]; rfl
    have lms : (ms ++ st).length ≤ 6000 := by
      have := mu_run gs fit0 W1.run
      rw [mu0] at this
      have sz : sizeW wb ≤ 3000 := size_small sm
      omega
    simp only [tSq, tSetF, gN]
    simp [envE]
    refine ⟨st.map moveD, rfl, ?_⟩
    refine forInv_of (fun pre2 Γ => ∃ s2 x8, Fit wb s2 ∧ run wb s (st.take pre2.length) = some s2 ∧ Γ = [some (.leaf (encWeb wb)), some (.leaf (.bool pr)), some (.node (todoT T1)), some (.dct wd (seenK L1)), some (.dct wd (foundK F)), some (.leaf (.tuple [encSt s, .list (ms.map moveD)])), some (.leaf (stD st)), some (.leaf (encSt s2)), x8, none]) ⟨s, x8, f, rfl, rfl⟩ (fun pre2 p post2 Γ' e2 ⟨s2, x8, f2, r2, eg⟩ => ?_) (fun Γ' ⟨s2, x8, f2, r2, eg⟩ => ?_)
    · subst eg
      obtain ⟨m, em, ep⟩ : ∃ m, st[pre2.length]? = some m ∧ p = moveD m := by
        have z : (st.map moveD)[pre2.length]? = some p := by rw [e2]; simp
        rw [List.getElem?_map] at z
        obtain ⟨st, a, b⟩ := Option.map_eq_some_iff.mp z
        exact ⟨st, a, b.symm⟩
      subst ep
      have tk2 : st.take (pre2.length + 1) = st.take pre2.length ++ [m] := by rw [List.take_add_one, em]; rfl
      have hm : m.1 < wb.length ∧ canS wb s2 m.1 m.2 = true := by
        have z := List.take_append_drop (pre2.length + 1) st
        rw [tk2, List.append_assoc] at z
        rw [← z, run_append, r2] at hr
        simp only [Option.bind_some, List.singleton_append, run] at hr
        split at hr
        · assumption
        · cases hr
      simp
      refine ⟨wb, s2, moveD m, rfl, sm, gs, f2, askM_move, .inr ⟨m, rfl, hm.1, hm.2, ?_⟩⟩
      refine ⟨moveS wb s2 m, f2.move gs hm.1 hm.2, ?_, rfl⟩
      rw [tk2, run_append, r2]
      simp only [Option.bind_some, run]
      rw [if_pos hm]
    · subst eg
      have es : s2 = s1 := by
        rw [List.length_map, List.take_length, hr] at r2
        cases r2; rfl
      subst es
      simp
      refine ⟨_, stKey_data.symm, stKey_depth, ?_⟩
      have ek : (NestedKey.tup [.tup (s2.done.map fun n => .num (n : Nat)), .tup (s2.lines.map fun l => .tup (l.map fun p => .tup [.num (p.1 : Nat), .num p.2])), .tup (s2.box.map .num), .tup (s2.got.map fun l => .tup (l.map .num))]) = stKey s2 := rfl
      simp only [ek]
      have sv := seen_val (L := L1) (s := s2)
      by_cases hin : s2 ∈ L1
      · have sv' : valD (seenK L1) (stKey s2) ≠ none := by
          intro z; rw [z] at sv; simp [hin] at sv
        rw [if_neg sv']
        refine ⟨L1, T1, sr1, _, _, _, j, l1, l2, sub, fun t ht => by simpa using cl1 t ht, fun st' h' => ?_, rfl, rfl, rfl, rfl, rfl⟩
        rw [tk1] at h'
        rcases List.mem_append.mp h' with z | z
        · exact dn st' z
        · rw [List.mem_singleton.mp z]; exact ⟨s2, hr, hin⟩
      · have sv' : valD (seenK L1) (stKey s2) = none := by
          cases z : valD (seenK L1) (stKey s2) with
          | none => rfl
          | some d => rw [z] at sv; simp [hin] at sv
        rw [if_pos sv']
        refine ⟨_, stKey_data.symm, stKey_depth, lL, ?_⟩
        have sp : storedD (seenK L1) (stKey s2) (.bool true) = seenK (L1 ++ [s2]) := seen_put hin
        simp only [ek, sp]
        refine ⟨_, _, rfl, rfl, by simpa using lT, ?_⟩
        simp [stD]
        have lz : ms.length + st.length ≤ sizeLine := by
          have := sizeLine_big (n := 6000) (by omega)
          rw [List.length_append] at lms
          omega
        refine ⟨lz, L1 ++ [s2], T1 ++ [(s2, ms ++ st)], sr1.push hin W1, _, _, _, j + 1, by simp; omega, by simp; omega, fun t ht => List.mem_append_left _ (sub t ht), fun t ht => ?_, fun st' h' => ?_, by simp [todoT_snoc], rfl, rfl, rfl, rfl⟩
        · rcases List.mem_append.mp ht with z | z
          · rcases cl1 t z with a | a | a
            · refine .inl ?_
              obtain ⟨p, hp, e⟩ := List.mem_map.mp a
              exact ⟨p.2, List.mem_append_left _ (by rw [← e]; exact hp)⟩
            · exact .inr (.inl (a.mono (fun b hb => List.mem_append_left _ hb) fun _ h => h))
            · exact .inr (.inr a)
          · exact .inl ⟨ms ++ st, by rw [List.mem_singleton.mp z]; simp⟩
        · rw [tk1] at h'
          rcases List.mem_append.mp h' with z | z
          · obtain ⟨t, a, b⟩ := dn st' z
            exact ⟨t, a, List.mem_append_left _ b⟩
          · rw [List.mem_singleton.mp z]; exact ⟨s2, hr, by simp⟩
  · subst eg
    rw [List.length_map, List.take_length] at dn
    refine fin L1 T1 x6 x7 x8 j sr1 l1 l2 fun t ht => ?_
    rcases cl1 t ht with a | a | a
    · exact .inl a
    · exact .inr a
    · subst a; exact .inr ⟨ho, dn⟩
end FW

set_option Elab.async false
set_option linter.all false
set_option maxRecDepth 100000
set_option maxHeartbeats 4000000
namespace FW
open PySem PySem.Spec PyProof.Rows L2
/-! ### the order of ends -/
theorem eqv_ints : ∀ {l m : List Int}, PyData.eqvAll (l.map .int) (m.map .int) = true → l = m
  | [], [], _ => rfl
  | [], _ :: _, h => by cases h
  | _ :: _, [], h => by cases h
  | a :: l, b :: m, h => by
    simp only [List.map_cons, PyData.eqvAll, Bool.and_eq_true] at h
    have e : a = b := by simpa [PyData.eqv] using h.1
    rw [e, eqv_ints h.2]
theorem eqv_got : ∀ {l m : List (List Int)}, PyData.eqvAll (l.map intsD) (m.map intsD) = true → l = m
  | [], [], _ => rfl
  | [], _ :: _, h => by cases h
  | _ :: _, [], h => by cases h
  | a :: l, b :: m, h => by
    simp only [List.map_cons, PyData.eqvAll, Bool.and_eq_true] at h
    have e : a = b := eqv_ints (by have := h.1; simpa [intsD, PyData.eqv] using this)
    rw [e, eqv_got h.2]
theorem eqv_end {a b : EndT} (h : PyData.eqv (endE a) (endE b) = true) : a = b := by
  simp only [endE, PyData.eqv, PyData.eqvAll, Bool.and_eq_true, Bool.and_true] at h
  refine Prod.ext (eqv_ints ?_) (eqv_got ?_)
  · have := h.1; simpa [intsD, PyData.eqv] using this
  · have := h.2; simpa [gotD, PyData.eqv] using this
theorem alike_ints : ∀ l m : List Int, PySem.W.alikeAll (l.map .int) (m.map .int) = true
  | [], _ => by simp [PySem.W.alikeAll]
  | _ :: _, [] => by simp [PySem.W.alikeAll]
  | a :: l, b :: m => by
    simp only [List.map_cons, PySem.W.alikeAll, PySem.W.alike, Bool.true_and]
    exact alike_ints l m
theorem alike_got : ∀ l m : List (List Int), PySem.W.alikeAll (l.map intsD) (m.map intsD) = true
  | [], _ => by simp [PySem.W.alikeAll]
  | _ :: _, [] => by simp [PySem.W.alikeAll]
  | a :: l, b :: m => by
    simp only [List.map_cons, PySem.W.alikeAll, intsD, PySem.W.alike, alike_ints, Bool.true_and]
    exact alike_got l m
theorem alike_end (a b : EndT) : PySem.W.alike (endE a) (endE b) = true := by
  simp only [endE, PySem.W.alike, PySem.W.alikeAll, intsD, gotD, alike_ints, alike_got, Bool.and_self]
theorem ltE_irrefl (a : EndT) : ltE a a = false := PyProof.Rows.lex_irrefl _
theorem ltE_trans {a b c : EndT} (h1 : ltE a b = true) (h2 : ltE b c = true) : ltE a c = true := PyProof.Rows.lex_trans _ _ _ h1 h2
theorem ltE_tri {a b : EndT} (h1 : ltE a b = false) (h2 : ltE b a = false) : a = b := by
  have e := PyProof.Rows.lex_total (O := itemOrd) _ _ h1 h2
  have z := (PySem.W.toks_eqv _ _ (alike_end a b)).2
  cases q : PyData.eqv (endE a) (endE b) with
  | true => exact eqv_end q
  | false =>
    exfalso
    have y := z q [] [.inl 0]
    rw [e] at y
    have i := PyProof.Rows.lex_irrefl (O := itemOrd) (PySem.W.keyToks (endE b))
    rw [i, PySem.W.lex_pre] at y
    cases y
theorem ltE_asym {a b : EndT} (h : ltE a b = true) : ltE b a = false := by
  cases q : ltE b a with
  | false => rfl
  | true =>
    have := ltE_trans h q
    rw [ltE_irrefl] at this; cases this
/-- two rising lists of the same ends are one -/
theorem rise_uniq : ∀ {l m : List EndT}, l.Pairwise (fun a b => ltE a b = true) → m.Pairwise (fun a b => ltE a b = true) → (∀ x, x ∈ l ↔ x ∈ m) → l = m
  | [], [], _, _, _ => rfl
  | [], b :: m, _, _, h => by have := (h b).mpr List.mem_cons_self; cases this
  | a :: l, [], _, _, h => by have := (h a).mp List.mem_cons_self; cases this
  | a :: l, b :: m, hl, hm, h => by
    obtain ⟨l1, l2⟩ := List.pairwise_cons.mp hl
    obtain ⟨m1, m2⟩ := List.pairwise_cons.mp hm
    have e : a = b := by
      rcases List.mem_cons.mp ((h a).mp List.mem_cons_self) with z | z
      · exact z
      · rcases List.mem_cons.mp ((h b).mpr List.mem_cons_self) with y | y
        · exact y.symm
        · have c := ltE_asym (m1 a z)
          rw [l1 b y] at c; cases c
    subst e
    refine congrArg (a :: ·) (rise_uniq l2 m2 fun x => ⟨fun hx => ?_, fun hx => ?_⟩)
    · rcases List.mem_cons.mp ((h x).mp (List.mem_cons_of_mem _ hx)) with z | z
      · subst z
        have := l1 x hx
        rw [ltE_irrefl] at this; cases this
      · exact z
    · rcases List.mem_cons.mp ((h x).mpr (List.mem_cons_of_mem _ hx)) with z | z
      · subst z
        have := m1 x hx
        rw [ltE_irrefl] at this; cases this
      · exact z
def sortF (F : List (EndT × List Mv)) : List (EndT × List Mv) := F.mergeSort (PySem.W.dataLe false fun e => endE e.1)
theorem sortF_data (F : List (EndT × List Mv)) : (sortF F).map (fun e => endE e.1) = sortD (F.map fun e => endE e.1) := by
  unfold sortF sortD
  exact PySem.W.sort_maps (r := PySem.W.dataLe false fun e : EndT × List Mv => endE e.1) (s := PySem.W.dataLe false fun d : PyData => d) (fun e : EndT × List Mv => endE e.1) (fun a _ b _ => rfl)
theorem sortF_mem {F : List (EndT × List Mv)} {e : EndT × List Mv} : e ∈ sortF F ↔ e ∈ F := (List.mergeSort_perm _ _).mem_iff
theorem sortF_rise {F : List (EndT × List Mv)} (n : (F.map (·.1)).Nodup) : ((sortF F).map (·.1)).Pairwise fun a b => ltE a b = true := by
  have p := PySem.W.sort_pairwise (PySem.W.sortLe_total (listOrd itemOrd) false fun e : EndT × List Mv => PySem.W.keyToks (endE e.1)) F
  have n2 : ((sortF F).map (·.1)).Nodup := ((List.mergeSort_perm F _).map (·.1)).nodup_iff.mpr n
  rw [List.pairwise_map]
  have n3 : (sortF F).Pairwise fun a b => a.1 ≠ b.1 := List.pairwise_map.mp n2
  refine (List.Pairwise.and p n3).imp fun {a b} h => ?_
  have h1 : ltE b.1 a.1 = false := by
    have t := h.1
    simp [PySem.W.sortLe] at t
    exact t
  cases q : ltE a.1 b.1 with
  | true => rfl
  | false => exact absurd (ltE_tri q h1) h.2
theorem okd_endE {e : EndT} : okd (endE e) = true := okd_end (s := ⟨[], [], e.1, e.2⟩)
theorem nodcts_ends : ∀ l : List EndT, nodcts (l.map endE) = true
  | [] => rfl
  | a :: l => by
    have h : nodct (endE a) = true := (Bool.and_eq_true_iff.mp (show (nodct (endE a) && SeqAt.shaped (endE a)) = true from okd_endE)).1
    simp only [List.map_cons, nodcts, h, nodcts_ends l, Bool.and_self]
theorem depth_all {α : Type} {f : α → PyData} {n : Nat} (h : ∀ a, (f a).depth ≤ n) : ∀ l : List α, PyData.depthAll (l.map f) ≤ n
  | [] => Nat.zero_le _
  | a :: l => by
    simp only [List.map_cons, PyData.depthAll]
    exact Nat.max_le.mpr ⟨h a, depth_all h l⟩
theorem depth_end {e : EndT} : (endE e).depth ≤ 32 := by
  have a3 := depth_all (f := PyData.int) (n := 0) (fun _ => Nat.le_refl _) e.1
  have a4 := depth_all (f := intsD) (n := 1) (fun l => by
    have := depth_all (f := PyData.int) (n := 0) (fun _ => Nat.le_refl _) l
    simp only [intsD, PyData.depth]; omega) e.2
  simp only [endE, intsD, gotD, PyData.depth, PyData.depthAll] at a3 a4 ⊢
  omega
theorem okSort_ends {l : List EndT} (h : l.length ≤ sizeLine) : okSort (l.map endE) := by
  refine ⟨?_, ?_, .inl fun d hd => ?_, by simpa using h, fun d hd => ?_⟩
  · exact nodcts_ends l
  · intro d hd d' hd'
    obtain ⟨a, _, rfl⟩ := List.mem_map.mp hd
    obtain ⟨b, _, rfl⟩ := List.mem_map.mp hd'
    exact alike_end a b
  · obtain ⟨a, _, rfl⟩ := List.mem_map.mp hd
    exact ⟨_, _, rfl⟩
  · obtain ⟨a, _, rfl⟩ := List.mem_map.mp hd
    exact depth_end
/-- a comprehension over the images of a list -/
theorem compInv_idx {α : Type} {l : List α} {ds : List PyData} {i : Nat} {te : TD} {Γ : Ev} {Q : OT → Prop} (g : α → PyData) (f : α → OT) (hf : free1 i Γ) (e : ds = l.map g) (hl : l.length ≤ sizeLine) (hs : ∀ a ∈ l, (f a).isScr = false)
    (h : ∀ a ∈ l, ∀ Q' : OT → Prop, Q' (f a) → te (Γ.set i (some (.leaf (g a)))) Q' fun _ => False) (q : Q (.node (l.map f))) : compInv ds i tYesD te Γ Q := by
  subst e
  refine ⟨hf, fun n acc => acc = (l.take n).map f, by simp, fun n d acc e ea => ?_, fun acc ea => ?_⟩
  · rw [List.getElem?_map] at e
    obtain ⟨a, e1, rfl⟩ := Option.map_eq_some_iff.mp e
    have hm : a ∈ l := List.mem_of_getElem? e1
    have hn : n < l.length := (List.getElem?_eq_some_iff.mp e1).1
    simp only [tYesD, if_true]
    refine h a hm _ ⟨hs a hm, ?_, ?_⟩
    · rw [ea, List.length_map, List.length_take]; omega
    · rw [ea, List.take_add_one, e1]; simp
  · rw [ea, List.length_map, List.take_length]; exact q
theorem Srch.ends {w : Web} {pr : Bool} {L : List Sta} {F : List (EndT × List Mv)} (h : Srch w pr L [] F) (cl : ∀ s ∈ L, Done w pr L F s) : EndsOf w pr (sortF F) := by
  refine ⟨sortF_rise h.fnd, fun e he => ?_, fun ms s hw o => ?_⟩
  · exact h.fin e (sortF_mem.mp he)
  · have z := (cl s (h.full cl ms s hw)).1 o
    obtain ⟨e, he, ee⟩ := List.mem_map.mp z
    exact List.mem_map.mpr ⟨e, sortF_mem.mpr he, ee⟩
def endsP (wd : World) (wb : Web) (pr : Bool) (m : Nat) (Γ : Ev) : Prop := ∃ L T F x5 x6 x7 x8, m = 2 * (sizeLine - L.length) + T.length ∧ Srch wb pr L T F ∧ (∀ s ∈ L, s ∈ T.map (·.1) ∨ Done wb pr L F s) ∧ Γ = envE wd wb pr L T F x5 x6 x7 x8
theorem ers_stride {l : List (List Mv)} : OT.ers (l.map strideD) = l.map stD := by
  rw [ers_map, List.map_map]
  apply List.map_congr_left
  intro a _
  simp [strideD, stD, ers_map, Function.comp_def]
theorem flats_map {α : Type} {f : α → PyData} (h : ∀ a, flat (f a) = true) : ∀ l : List α, flats (l.map f) = true
  | [] => rfl
  | a :: l => by simp only [List.map_cons, flats, h a, flats_map h l, Bool.and_self]
theorem flat_st {s : Sta} : flat (encSt s) = true := by
  have h1 := flats_map (f := fun n : Nat => PyData.int (n : Nat)) (fun _ => rfl) s.done
  have h2 := flats_map (f := lineD) (fun l => by
    have := flats_map (f := pairD) (fun _ => rfl) l
    simp only [lineD, flat]; exact this) s.lines
  have h3 := flats_map (f := PyData.int) (fun _ => rfl) s.box
  have h4 := flats_map (f := intsD) (fun l => by
    have := flats_map (f := PyData.int) (fun _ => rfl) l
    simp only [intsD, flat]; exact this) s.got
  simp only [encSt, natsD, linesD, intsD, gotD, flat, flats, Bool.and_true, Bool.and_eq_true] at h1 h2 h3 h4 ⊢
  exact ⟨h1, h2, h3, h4⟩
theorem strideLoop' {C : Value} {wd : World} {wb : Web} {pr : Bool} {L : List Sta} {T : List (Sta × List Mv)} {F : List (EndT × List Mv)} {s : Sta} {ms : List Mv} {D : DEnds} {x6 x7 x8 : Option OT} {kv : List (NestedKey × PyData)} (hk : kv = foundK F)
    (sm : smallW wb) (gs : ∀ r ∈ wb, ∀ st ∈ r, goodS st) (few : Few wb pr) (sr : Srch wb pr L T F) (sL : s ∈ L) (sW : Walk wb pr (st0 wb) ms s) (ho : overS wb s = true → endOf s ∈ F.map (·.1))
    (cl : ∀ t ∈ L, t ∈ T.map (·.1) ∨ Done wb pr L F t ∨ t = s)
    (fin : ∀ L1 T1 x6 x7 x8 j, Srch wb pr L1 T1 F → L1.length = L.length + j → T1.length = T.length + j → (∀ t ∈ L1, t ∈ T1.map (·.1) ∨ Done wb pr L1 F t) → D.nx (envE wd wb pr L1 T1 F (some (.leaf (.tuple [encSt s, .list (ms.map moveD)]))) x6 x7 x8)) :
    forInv ((stridesW wb s pr).map stD) (gN 6) (bodyE C wd) D [some (.leaf (encWeb wb)), some (.leaf (.bool pr)), some (.node (todoT T)), some (.dct wd (seenK L)), some (.dct wd kv), some (.leaf (.tuple [encSt s, .list (ms.map moveD)])), x6, x7, x8, none] := by
  subst hk
  exact strideLoop sm gs few sr sL sW ho cl fin
end FW

set_option Elab.async false
set_option linter.all false
set_option maxRecDepth 100000
set_option maxHeartbeats 4000000
namespace FW
open PySem PySem.Spec PyProof.Rows L2
/-! ### how many states there are -/
def putsOf : List Step → List (Nat × Int)
  | [] => []
  | .put b n :: r => (b, n) :: putsOf r
  | _ :: r => putsOf r
def getsOf : List Step → Nat
  | [] => 0
  | .get _ :: r => getsOf r + 1
  | _ :: r => getsOf r
theorem putsOf_append : ∀ a b : List Step, putsOf (a ++ b) = putsOf a ++ putsOf b
  | [], b => rfl
  | .put x n :: a, b => by simp [putsOf, putsOf_append a b]
  | .get x :: a, b => by simp [putsOf, putsOf_append a b]
  | .fence :: a, b => by simp [putsOf, putsOf_append a b]
theorem getsOf_append : ∀ a b : List Step, getsOf (a ++ b) = getsOf a + getsOf b
  | [], b => by simp [getsOf]
  | .put x n :: a, b => by simp [getsOf, getsOf_append a b]
  | .get x :: a, b => by simp [getsOf, getsOf_append a b]; omega
  | .fence :: a, b => by simp [getsOf, getsOf_append a b]
theorem deeds_row : ∀ r : List Step, (putsOf r).length + getsOf r = (r.filter deedS).length
  | [] => rfl
  | .put x n :: a => by
    have := deeds_row a
    rw [List.filter_cons_of_pos (by rfl)]
    simp only [putsOf, getsOf, List.length_cons]; omega
  | .get x :: a => by
    have := deeds_row a
    rw [List.filter_cons_of_pos (by rfl)]
    simp only [putsOf, getsOf, List.length_cons]; omega
  | .fence :: a => by
    have := deeds_row a
    rw [List.filter_cons_of_neg (by decide)]
    simp only [putsOf, getsOf]; omega
def putsW (w : Web) : List (Nat × Int) := putsOf w.flatten
def valsB (w : Web) (b : Nat) : List Int := 0 :: ((putsW w).filter fun p => decide (p.1 = b)).map (·.2)
def valsW (w : Web) : List Int := 0 :: (putsW w).map (·.2)
theorem putsOf_take {r : List Step} {n : Nat} {p : Nat × Int} (h : p ∈ putsOf (r.take n)) : p ∈ putsOf r := by
  have e := List.take_append_drop n r
  rw [← e, putsOf_append]
  exact List.mem_append_left _ h
theorem putsOf_row {w : Web} {h : Nat} {p : Nat × Int} (hp : p ∈ putsOf (w.getD h [])) : p ∈ putsW w := by
  unfold putsW
  induction w generalizing h with
  | nil => simp [putsOf] at hp
  | cons a w ih =>
    rw [List.flatten_cons, putsOf_append]
    cases h with
    | zero => exact List.mem_append_left _ (by simpa using hp)
    | succ h => exact List.mem_append_right _ (ih (h := h) (by simpa using hp))
structure Cnt (w : Web) (s : Sta) : Prop where
  ln : ∀ h, s.lines.getD h [] <:+ putsOf ((w.getD h []).take (s.done.getD h 0))
  bx : ∀ b, s.box.getD b 0 ∈ valsB w b
  gn : ∀ h, (s.got.getD h []).length = getsOf ((w.getD h []).take (s.done.getD h 0))
  gv : ∀ h, ∀ x ∈ s.got.getD h [], x ∈ valsW w
theorem valsB_sub {w : Web} {b : Nat} {x : Int} (h : x ∈ valsB w b) : x ∈ valsW w := by
  rcases List.mem_cons.mp h with e | h
  · rw [e]; exact List.mem_cons_self
  · obtain ⟨p, hp, e⟩ := List.mem_map.mp h
    exact List.mem_cons_of_mem _ (List.mem_map.mpr ⟨p, (List.mem_filter.mp hp).1, e⟩)
theorem vals_put {w : Web} {p : Nat × Int} (h : p ∈ putsW w) : p.2 ∈ valsB w p.1 ∧ p.2 ∈ valsW w :=
  ⟨List.mem_cons_of_mem _ (List.mem_map.mpr ⟨p, List.mem_filter.mpr ⟨h, by simp⟩, rfl⟩), List.mem_cons_of_mem _ (List.mem_map.mpr ⟨p, h, rfl⟩)⟩
theorem cnt0 {w : Web} : Cnt w (st0 w) := by
  have z : ∀ h, (st0 w).done.getD h 0 = 0 := fun h => by
    simp only [st0, List.getD_eq_getElem?_getD, List.getElem?_map]; cases w[h]? <;> rfl
  have l : ∀ h, (st0 w).lines.getD h [] = [] := fun h => by
    simp only [st0, List.getD_eq_getElem?_getD, List.getElem?_map]; cases w[h]? <;> rfl
  have g : ∀ h, (st0 w).got.getD h [] = [] := fun h => by
    simp only [st0, List.getD_eq_getElem?_getD, List.getElem?_map]; cases w[h]? <;> rfl
  refine ⟨fun h => by rw [l]; exact List.nil_suffix, fun b => ?_, fun h => by rw [g, z]; simp [getsOf], fun h x hx => by rw [g] at hx; cases hx⟩
  have : (st0 w).box.getD b 0 = 0 := by
    simp only [st0]
    match b with
    | 0 => rfl
    | 1 => rfl
    | 2 => rfl
    | 3 => rfl
    | b + 4 => rfl
  rw [this]; exact List.mem_cons_self
theorem seen_vals {w : Web} {b : Nat} : ∀ (l : List (Nat × Int)) (d : Int), (∀ p ∈ l, p ∈ putsW w) → d ∈ valsW w → l.foldl (fun f p => if p.1 = b then p.2 else f) d ∈ valsW w
  | [], d, _, h => h
  | p :: l, d, hl, h => by
    rw [List.foldl_cons]
    refine seen_vals l _ (fun q hq => hl q (List.mem_cons_of_mem _ hq)) ?_
    split
    · exact (vals_put (hl p List.mem_cons_self)).2
    · exact h
theorem Cnt.move {w : Web} {s : Sta} (c : Cnt w s) (f : Fit w s) {m : Mv} (hh : m.1 < w.length) (hc : canS w s m.1 m.2 = true) : Cnt w (moveS w s m) := by
  obtain ⟨h, k⟩ := m
  have hd1 : h < s.done.length := by rw [f.d]; exact hh
  have hl1 : h < s.lines.length := by rw [f.l]; exact hh
  have hg1 : h < s.got.length := by rw [f.g]; exact hh
  have lp : ∀ p ∈ s.lines.getD h [], p ∈ putsW w := fun p hp => putsOf_row (putsOf_take ((c.ln h).subset hp))
  cases k with
  | true =>
    show Cnt w (sendS s h)
    unfold sendS
    cases el : s.lines.getD h [] with
    | nil => exact c
    | cons p r =>
      simp only
      rw [el] at lp
      refine ⟨fun j => ?_, fun b => ?_, c.gn, c.gv⟩
      · show (s.lines.set h r).getD j [] <:+ _
        rw [getD_set hl1]
        split
        · rename_i e; subst e
          have z := c.ln h
          rw [el] at z
          exact List.IsSuffix.trans (List.suffix_cons p r) z
        · exact c.ln j
      · show (s.box.set p.1 p.2).getD b 0 ∈ _
        have hp4 : p.1 < s.box.length := by rw [f.b]; exact f.lb h p (by rw [el]; exact List.mem_cons_self)
        rw [getD_set hp4]
        split
        · rename_i e; rw [← e]; exact (vals_put (lp p List.mem_cons_self)).1
        · exact c.bx b
  | false =>
    show Cnt w (stepS w s h)
    have nd := canS_step hc
    have le := f.le h
    have lt : s.done.getD h 0 < (w.getD h []).length := by
      have : s.done.getD h 0 ≠ (w.getD h []).length := nd
      omega
    obtain ⟨st, est⟩ : ∃ st, (w.getD h [])[s.done.getD h 0]? = some st := ⟨_, List.getElem?_eq_getElem lt⟩
    have tk : (w.getD h []).take (s.done.getD h 0 + 1) = (w.getD h []).take (s.done.getD h 0) ++ [st] := by rw [List.take_add_one, est]; rfl
    have hD : ∀ j, (s.done.set h (s.done.getD h 0 + 1)).getD j 0 = if h = j then s.done.getD h 0 + 1 else s.done.getD j 0 := fun j => getD_set hd1
    unfold stepS
    rw [est]
    cases st with
    | put b n =>
      simp only
      refine ⟨fun j => ?_, c.bx, fun j => ?_, c.gv⟩
      · show (s.lines.set h (s.lines.getD h [] ++ [(b, n)])).getD j [] <:+ putsOf ((w.getD j []).take ((s.done.set h (s.done.getD h 0 + 1)).getD j 0))
        rw [getD_set hl1, hD]
        by_cases e : h = j
        · subst e
          rw [if_pos rfl, if_pos rfl, tk, putsOf_append]
          obtain ⟨t, ht⟩ := c.ln h
          exact ⟨t, by rw [← ht]; simp [putsOf]⟩
        · rw [if_neg e, if_neg e]; exact c.ln j
      · show (s.got.getD j []).length = getsOf ((w.getD j []).take ((s.done.set h (s.done.getD h 0 + 1)).getD j 0))
        rw [hD]
        by_cases e : h = j
        · subst e
          rw [if_pos rfl, tk, getsOf_append, c.gn]; simp [getsOf]
        · rw [if_neg e]; exact c.gn j
    | get b =>
      simp only
      refine ⟨fun j => ?_, c.bx, fun j => ?_, fun j => ?_⟩
      · show s.lines.getD j [] <:+ putsOf ((w.getD j []).take ((s.done.set h (s.done.getD h 0 + 1)).getD j 0))
        rw [hD]
        by_cases e : h = j
        · subst e
          rw [if_pos rfl, tk, putsOf_append]
          simpa [putsOf] using c.ln h
        · rw [if_neg e]; exact c.ln j
      · show ((s.got.set h (s.got.getD h [] ++ [seenS s h b])).getD j []).length = getsOf ((w.getD j []).take ((s.done.set h (s.done.getD h 0 + 1)).getD j 0))
        rw [getD_set hg1, hD]
        by_cases e : h = j
        · subst e
          rw [if_pos rfl, if_pos rfl, tk, getsOf_append, List.length_append, c.gn]; simp [getsOf]
        · rw [if_neg e, if_neg e]; exact c.gn j
      · show ∀ x ∈ (s.got.set h (s.got.getD h [] ++ [seenS s h b])).getD j [], x ∈ valsW w
        rw [getD_set hg1]
        by_cases e : h = j
        · rw [if_pos e]
          intro x hx
          rcases List.mem_append.mp hx with z | z
          · exact c.gv h x z
          · rw [List.mem_singleton.mp z]
            exact seen_vals _ _ lp (valsB_sub (c.bx b))
        · rw [if_neg e]; exact c.gv j
    | fence =>
      simp only
      refine ⟨fun j => ?_, c.bx, fun j => ?_, c.gv⟩
      · show s.lines.getD j [] <:+ putsOf ((w.getD j []).take ((s.done.set h (s.done.getD h 0 + 1)).getD j 0))
        rw [hD]
        by_cases e : h = j
        · subst e
          rw [if_pos rfl, tk, putsOf_append]
          simpa [putsOf] using c.ln h
        · rw [if_neg e]; exact c.ln j
      · show (s.got.getD j []).length = getsOf ((w.getD j []).take ((s.done.set h (s.done.getD h 0 + 1)).getD j 0))
        rw [hD]
        by_cases e : h = j
        · subst e
          rw [if_pos rfl, tk, getsOf_append, c.gn]; simp [getsOf]
        · rw [if_neg e]; exact c.gn j
theorem Cnt.run {w : Web} (gs : ∀ r ∈ w, ∀ st ∈ r, goodS st) : ∀ {ms : List Mv} {s s' : Sta}, Cnt w s → Fit w s → run w s ms = some s' → Cnt w s'
  | [], s, s', c, f, h => by cases h; exact c
  | m :: ms, s, s', c, f, h => by
    simp only [FW.run] at h
    split at h
    · rename_i z
      exact Cnt.run gs (c.move f z.1 z.2) (f.move gs z.1 z.2) h
    · cases h
/-! ### products -/
def choose {α : Type} : List (List α) → List (List α)
  | [] => [[]]
  | c :: cs => c.flatMap fun a => (choose cs).map (a :: ·)
def prodN : List Nat → Nat
  | [] => 1
  | a :: l => a * prodN l
theorem flatMap_len {α β : Type} {f : α → List β} {n : Nat} : ∀ {l : List α}, (∀ a ∈ l, (f a).length = n) → (l.flatMap f).length = l.length * n
  | [], _ => by simp
  | a :: l, h => by
    rw [List.flatMap_cons, List.length_append, h a List.mem_cons_self, flatMap_len fun b hb => h b (List.mem_cons_of_mem _ hb), List.length_cons, Nat.succ_mul]
    omega
theorem choose_len {α : Type} : ∀ cs : List (List α), (choose cs).length = prodN (cs.map List.length)
  | [] => rfl
  | c :: cs => by
    rw [choose, flatMap_len (n := (choose cs).length) fun a _ => by simp, choose_len cs]; rfl
theorem choose_mem {α : Type} : ∀ {cs : List (List α)} {l : List α}, l.length = cs.length → (∀ (i : Nat) c a, cs[i]? = some c → l[i]? = some a → a ∈ c) → l ∈ choose cs
  | [], [], _, _ => List.mem_singleton.mpr rfl
  | [], _ :: _, h, _ => by simp at h
  | _ :: _, [], h, _ => by simp at h
  | c :: cs, a :: l, h, m => by
    refine List.mem_flatMap.mpr ⟨a, m 0 c a rfl rfl, List.mem_map.mpr ⟨l, choose_mem (by simpa using h) fun i d b h1 h2 => m (i + 1) d b h1 h2, rfl⟩⟩
theorem nodup_len {α : Type} [DecidableEq α] : ∀ {l m : List α}, l.Nodup → (∀ a ∈ l, a ∈ m) → l.length ≤ m.length
  | [], _, _, _ => Nat.zero_le _
  | a :: l, m, n, h => by
    obtain ⟨n1, n2⟩ := List.nodup_cons.mp n
    have hm := h a List.mem_cons_self
    have z := nodup_len (m := m.erase a) n2 fun b hb => by
      have : b ≠ a := fun e => n1 (e ▸ hb)
      exact (List.mem_erase_of_ne this).mpr (h b (List.mem_cons_of_mem _ hb))
    rw [List.length_erase_of_mem hm] at z
    have := List.length_pos_of_mem hm
    simp only [List.length_cons]; omega
/-! ### codes of states -/
abbrev Code := List Nat × List Nat × List Int × List (List Int)
def padG (n : Nat) (l : List Int) : List Int := l ++ List.replicate (n - l.length) 0
def code (w : Web) (s : Sta) : Code := (s.done, s.lines.map List.length, s.box, (List.range w.length).map fun h => padG (getsOf (w.getD h [])) (s.got.getD h []))
def codes (w : Web) : List Code :=
  (choose (w.map fun r => List.range (r.length + 1))).flatMap fun a => (choose (w.map fun r => List.range ((putsOf r).length + 1))).flatMap fun b => (choose ((List.range 4).map (valsB w))).flatMap fun c =>
    (choose (w.map fun r => choose (List.replicate (getsOf r) (valsW w)))).map fun d => (a, b, c, d)
def boundW (w : Web) : Nat := prodN (w.map fun r => r.length + 1) * (prodN (w.map fun r => (putsOf r).length + 1) * (prodN ((List.range 4).map fun b => (valsB w b).length) * prodN (w.map fun r => prodN (List.replicate (getsOf r) (valsW w).length))))
theorem codes_len (w : Web) : (codes w).length = boundW w := by
  unfold codes boundW
  rw [flatMap_len (n := (choose (w.map fun r => List.range ((putsOf r).length + 1))).length * ((choose ((List.range 4).map (valsB w))).length * (choose (w.map fun r => choose (List.replicate (getsOf r) (valsW w)))).length)) fun a _ => ?_]
  · simp only [choose_len, List.map_map, Function.comp_def, List.length_range, List.map_replicate]
  · rw [flatMap_len (n := (choose ((List.range 4).map (valsB w))).length * (choose (w.map fun r => choose (List.replicate (getsOf r) (valsW w)))).length) fun b _ => ?_]
    rw [flatMap_len (n := (choose (w.map fun r => choose (List.replicate (getsOf r) (valsW w)))).length) fun c _ => by simp]
theorem getsOf_take (r : List Step) (n : Nat) : getsOf (r.take n) ≤ getsOf r := by
  have e := List.take_append_drop n r
  have := getsOf_append (r.take n) (r.drop n)
  rw [e] at this; omega
theorem putsOf_take_len (r : List Step) (n : Nat) : (putsOf (r.take n)).length ≤ (putsOf r).length := by
  have e := List.take_append_drop n r
  have := congrArg List.length (putsOf_append (r.take n) (r.drop n))
  rw [e, List.length_append] at this; omega
theorem code_mem {w : Web} {s : Sta} (f : Fit w s) (c : Cnt w s) : code w s ∈ codes w := by
  have gD : ∀ {α : Type} {l : List α} {i : Nat} {a d : α}, l[i]? = some a → l.getD i d = a := fun h => by simp [h]
  refine List.mem_flatMap.mpr ⟨s.done, choose_mem (by simp [f.d]) fun i cc a h1 h2 => ?_, List.mem_flatMap.mpr ⟨s.lines.map List.length, choose_mem (by simp [f.l]) fun i cc a h1 h2 => ?_, List.mem_flatMap.mpr ⟨s.box, choose_mem (by simp [f.b]) fun i cc a h1 h2 => ?_, List.mem_map.mpr ⟨_, choose_mem (by simp) fun i cc a h1 h2 => ?_, rfl⟩⟩⟩⟩
  · rw [List.getElem?_map] at h1
    obtain ⟨r, hr, rfl⟩ := Option.map_eq_some_iff.mp h1
    have := f.le i
    rw [gD h2, gD hr] at this
    exact List.mem_range.mpr (by omega)
  · rw [List.getElem?_map] at h1 h2
    obtain ⟨r, hr, rfl⟩ := Option.map_eq_some_iff.mp h1
    obtain ⟨l, hl, rfl⟩ := Option.map_eq_some_iff.mp h2
    have z := (c.ln i).length_le
    rw [gD hl, gD hr] at z
    have := putsOf_take_len r (s.done.getD i 0)
    exact List.mem_range.mpr (by omega)
  · rw [List.getElem?_map] at h1
    obtain ⟨b, hb, rfl⟩ := Option.map_eq_some_iff.mp h1
    have e : b = i := by
      rw [List.getElem?_range (by have := (List.getElem?_eq_some_iff.mp hb).1; simpa using this)] at hb
      exact (Option.some.inj hb).symm
    subst e
    have := c.bx b
    rw [gD h2] at this
    exact this
  · rw [List.getElem?_map] at h1 h2
    obtain ⟨r, hr, rfl⟩ := Option.map_eq_some_iff.mp h1
    obtain ⟨j, hj, rfl⟩ := Option.map_eq_some_iff.mp h2
    have e : j = i := by
      rw [List.getElem?_range (by have := (List.getElem?_eq_some_iff.mp hj).1; simpa using this)] at hj
      exact (Option.some.inj hj).symm
    subst e
    have gl := c.gn j
    have gt := getsOf_take (w.getD j []) (s.done.getD j 0)
    rw [gD hr] at gl gt ⊢
    have pl : (padG (getsOf r) (s.got.getD j [])).length = getsOf r := by
      rw [padG, List.length_append, List.length_replicate]; omega
    refine choose_mem (by rw [pl, List.length_replicate]) fun k cc x h3 h4 => ?_
    have ec : cc = valsW w := (List.mem_replicate.mp (List.mem_of_getElem? h3)).2
    rw [ec]
    rcases List.mem_append.mp (List.mem_of_getElem? h4) with z | z
    · exact c.gv j x z
    · rw [(List.mem_replicate.mp z).2]; exact List.mem_cons_self
theorem suffix_eq {α : Type} {a b l : List α} (ha : a <:+ l) (hb : b <:+ l) (e : a.length = b.length) : a = b := by
  obtain ⟨x, hx⟩ := ha
  obtain ⟨y, hy⟩ := hb
  exact (List.append_inj' (hx.trans hy.symm) e).2
theorem ext_getD {α : Type} {l m : List α} {d : α} (hl : l.length = m.length) (h : ∀ i, l.getD i d = m.getD i d) : l = m := by
  apply List.ext_getElem hl
  intro i h1 h2
  have := h i
  simpa [h1, h2] using this
theorem code_inj {w : Web} {s t : Sta} (fs : Fit w s) (ft : Fit w t) (cs : Cnt w s) (ct : Cnt w t) (e : code w s = code w t) : s = t := by
  simp only [code, Prod.mk.injEq] at e
  obtain ⟨e1, e2, e3, e4⟩ := e
  have hl : s.lines = t.lines := ext_getD (d := []) (by rw [fs.l, ft.l]) fun i => by
    have a := cs.ln i
    have b := ct.ln i
    rw [e1] at a
    refine suffix_eq a b ?_
    have z := congrArg (fun l => l.getD i 0) e2
    simp only [List.getD_eq_getElem?_getD, List.getElem?_map] at z ⊢
    cases q : s.lines[i]? <;> cases p : t.lines[i]? <;> simp_all
  have hg : s.got = t.got := ext_getD (d := []) (by rw [fs.g, ft.g]) fun i => by
    by_cases hi : i < w.length
    · have z := congrArg (fun l => l[i]?) e4
      simp only [List.getElem?_map, List.getElem?_range hi, Option.map_some, Option.some.injEq] at z
      have a := cs.gn i
      have b := ct.gn i
      rw [e1] at a
      have y : (s.got.getD i []).length = (t.got.getD i []).length := by rw [a, b]
      exact (List.append_inj z y).1
    · have a : s.got[i]? = none := List.getElem?_eq_none (by rw [fs.g]; omega)
      have b : t.got[i]? = none := List.getElem?_eq_none (by rw [ft.g]; omega)
      simp [a, b]
  cases s; cases t
  simp_all
theorem few_bound {w : Web} (gs : ∀ r ∈ w, ∀ st ∈ r, goodS st) (h : boundW w < sizeLine) (pr : Bool) : Few w pr := by
  intro L n hw
  refine Nat.lt_of_le_of_lt ?_ h
  rw [← codes_len, ← List.length_map (f := code w)]
  have key : ∀ s ∈ L, Fit w s ∧ Cnt w s := fun s hs => by
    obtain ⟨ms, W⟩ := hw s hs
    exact ⟨W.fit gs fit0, Cnt.run gs cnt0 fit0 W.run⟩
  refine nodup_len ?_ fun a ha => ?_
  · rw [List.nodup_iff_pairwise_ne, List.pairwise_map]
    refine (List.Pairwise.imp_of_mem ?_ (List.nodup_iff_pairwise_ne.mp n))
    intro a b ha hb ne e
    exact ne (code_inj (key a ha).1 (key b hb).1 (key a ha).2 (key b hb).2 e)
  · obtain ⟨s, hs, rfl⟩ := List.mem_map.mp ha
    exact code_mem (key s hs).1 (key s hs).2
/-! ### the bound in plain numbers -/
theorem prodN_pow {α : Type} {f : α → Nat} {n : Nat} : ∀ {l : List α}, (∀ a ∈ l, f a ≤ n) → prodN (l.map f) ≤ n ^ l.length
  | [], _ => by simp [prodN]
  | a :: l, h => by
    rw [List.map_cons, prodN, List.length_cons, Nat.pow_succ, Nat.mul_comm]
    exact Nat.mul_le_mul (prodN_pow fun b hb => h b (List.mem_cons_of_mem _ hb)) (h a List.mem_cons_self)
theorem prodN_two : ∀ l : List Nat, prodN (l.map (· + 1)) ≤ 2 ^ l.sum
  | [] => by simp [prodN]
  | a :: l => by
    rw [List.map_cons, prodN, List.sum_cons, Nat.pow_add]
    exact Nat.mul_le_mul (Nat.lt_two_pow_self) (prodN_two l)
theorem prodN_rep (k n : Nat) : prodN (List.replicate k n) = n ^ k := by
  induction k with
  | zero => rfl
  | succ k ih => rw [List.replicate_succ, prodN, ih, Nat.pow_succ, Nat.mul_comm]
theorem prodN_pows {α : Type} {f : α → Nat} {n : Nat} : ∀ l : List α, prodN (l.map fun a => n ^ f a) = n ^ (l.map f).sum
  | [] => by simp [prodN]
  | a :: l => by rw [List.map_cons, prodN, prodN_pows l, List.map_cons, List.sum_cons, Nat.pow_add]
def putsN (w : Web) : Nat := (w.map fun r => (putsOf r).length).sum
def getsN (w : Web) : Nat := (w.map getsOf).sum
theorem putsW_len : ∀ w : Web, (putsW w).length = putsN w
  | [] => rfl
  | r :: w => by
    have := putsW_len w
    unfold putsW putsN at this ⊢
    rw [List.flatten_cons, putsOf_append, List.length_append, this]; rfl
theorem deeds_split : ∀ w : Web, putsN w + getsN w = deedsW w
  | [] => rfl
  | r :: w => by
    have a := deeds_split w
    have b := deeds_row r
    have c : deedsW (r :: w) = (r.filter deedS).length + deedsW w := by simp only [deedsW, List.flatten_cons, List.filter_append, List.length_append]
    unfold putsN getsN at a ⊢
    simp only [List.map_cons, List.sum_cons]
    omega
theorem boxes_sum (l : List (Nat × Int)) : (((List.range 4).map fun b => (l.filter fun p => decide (p.1 = b)).length)).sum ≤ l.length := by
  have e : (List.range 4) = [0, 1, 2, 3] := rfl
  rw [e]
  induction l with
  | nil => exact Nat.le_refl 0
  | cons p l ih =>
    have h : ∀ b, ((p :: l).filter fun p => decide (p.1 = b)).length = (if p.1 = b then 1 else 0) + (l.filter fun p => decide (p.1 = b)).length := fun b => by
      rw [List.filter_cons]
      by_cases z : p.1 = b
      · simp [z]; omega
      · simp [z]
    simp only [List.map_cons, List.map_nil, List.sum_cons, List.sum_nil, h, List.length_cons] at ih ⊢
    have z : (if p.1 = 0 then 1 else 0) + (if p.1 = 1 then 1 else 0) + (if p.1 = 2 then 1 else 0) + (if p.1 = 3 then 1 else 0) ≤ 1 := by
      split <;> split <;> split <;> split <;> omega
    omega
theorem boundW_le {w : Web} {R : Nat} (hR : prodN (w.map fun r => r.length + 1) ≤ R) : boundW w ≤ R * (2 ^ putsN w * (2 ^ putsN w * (putsN w + 1) ^ getsN w)) := by
  unfold boundW
  refine Nat.mul_le_mul hR (Nat.mul_le_mul ?_ (Nat.mul_le_mul ?_ ?_))
  · have := prodN_two (w.map fun r => (putsOf r).length)
    rw [List.map_map] at this
    exact this
  · have h1 := prodN_two ((List.range 4).map fun b => ((putsW w).filter fun p => decide (p.1 = b)).length)
    rw [List.map_map] at h1
    have e : ((List.range 4).map fun b => (valsB w b).length) = (List.range 4).map ((· + 1) ∘ fun b => ((putsW w).filter fun p => decide (p.1 = b)).length) := by
      apply List.map_congr_left
      intro b _
      simp [valsB]
    rw [e]
    refine Nat.le_trans h1 (Nat.pow_le_pow_right (by decide) ?_)
    rw [← putsW_len]
    exact boxes_sum _
  · have e : (valsW w).length = putsN w + 1 := by simp [valsW, putsW_len]
    simp only [prodN_rep, e]
    rw [prodN_pows]
    exact Nat.le_refl _
def deedB (D p : Nat) : Nat := 2 ^ p * (2 ^ p * (p + 1) ^ (D - p))
/-- few states: by the product of the rows' lengths and the number of deeds -/
theorem few_of {w : Web} {R D M : Nat} (gs : ∀ r ∈ w, ∀ st ∈ r, goodS st) (hR : prodN (w.map fun r => r.length + 1) ≤ R) (hD : deedsW w ≤ D) (hM : ∀ p, p < D + 1 → deedB D p ≤ M) (h : R * M < 16777216) (pr : Bool) : Few w pr := by
  refine few_bound gs (Nat.lt_of_le_of_lt (boundW_le hR) (Nat.lt_of_le_of_lt (Nat.mul_le_mul_left R ?_) (by rw [sizeLine_eq]; exact h))) pr
  have s := deeds_split w
  refine Nat.le_trans ?_ (hM (putsN w) (by omega))
  exact Nat.mul_le_mul (Nat.le_refl _) (Nat.mul_le_mul (Nat.le_refl _) (Nat.pow_le_pow_right (by omega) (by omega)))
theorem rows_le {w : Web} {N : Nat} (h : sizeW w ≤ N) : prodN (w.map fun r => r.length + 1) ≤ (N + 1) ^ w.length := prodN_pow fun r hr => by
  have := row_size hr
  omega
theorem deed5 : ∀ p, p < 5 + 1 → deedB 5 p ≤ 1280 := by decide
theorem deed6 : ∀ p, p < 6 + 1 → deedB 6 p ≤ 6400 := by decide
theorem deed8 : ∀ p, p < 8 + 1 → deedB 8 p ≤ 221184 := by decide
end FW

set_option Elab.async false
set_option linter.all false
set_option maxRecDepth 100000
set_option maxHeartbeats 4000000
namespace FW
open PySem PySem.Spec PyProof.Rows L2
/-! ### what the laws ask of the ends -/
theorem pl_endE {e : EndT} : pl 3 (endE e) = true := by
  simp [endE, pl, pls, pl_up pl_ints (show 1 ≤ 2 by decide), pl_up pl_got (show 2 ≤ 2 by decide)]
theorem pl_moves {ms : List Mv} : pl 2 (.list (ms.map moveD)) = true := by
  simp only [pl, pls_iff, List.mem_map]
  rintro _ ⟨p, _, rfl⟩; exact pl_move
theorem okd_mvs {ms : List Mv} : okd (.list (ms.map moveD)) = true := okd_pl pl_moves
theorem pl_esp {e : EndT × List Mv} : pl 4 (.tuple [endE e.1, .list (e.2.map moveD)]) = true := by
  have h := pl_up (pl_moves (ms := e.2)) (show 2 ≤ 3 by decide)
  simp only [pl] at h
  simp [pl, pls, pl_endE, h]
theorem okd_es {es : List (EndT × List Mv)} : okd (.list (esD es)) = true := okd_pl (n := 5) (by
  simp only [pl, pls_iff, esD, List.mem_map]
  rintro _ ⟨p, _, rfl⟩; exact pl_esp)
theorem okd_ends {es : List EndT} : okd (.list (es.map endE)) = true := okd_pl (n := 4) (by
  simp only [pl, pls_iff, List.mem_map]
  rintro _ ⟨p, _, rfl⟩; exact pl_endE)
@[simp] theorem eqOk_end {a b : EndT} : eqOk (endE a) (endE b) = true := by
  show (okd (endE a) && okd (endE b)) = true
  rw [okd_endE, okd_endE]; rfl
theorem eqv_endE {a b : EndT} : PyData.eqv (endE a) (endE b) = decide (a = b) := by
  by_cases e : a = b
  · subst e; simp [okd_refl okd_endE]
  · cases q : PyData.eqv (endE a) (endE b) with
    | true => exact absurd (eqv_end q) e
    | false => simp [e]
/-! ### prompt walks -/
def noLines (s : Sta) : Prop := ∀ l ∈ s.lines, l = []
instance (s : Sta) : Decidable (noLines s) := by unfold noLines; infer_instance
theorem noLines_get {s : Sta} (h : noLines s) (i : Nat) : s.lines.getD i [] = [] := by
  rw [List.getD_eq_getElem?_getD]
  cases e : s.lines[i]? with
  | none => rfl
  | some l => exact h l (List.mem_of_getElem? e)
theorem noLines0 {w : Web} : noLines (st0 w) := fun l hl => by
  obtain ⟨_, _, rfl⟩ := List.mem_map.mp (show l ∈ w.map fun _ => ([] : List (Nat × Int)) from hl)
  rfl
theorem noLines_of {s : Sta} {n : Nat} (hl : s.lines.length = n) (h : ∀ i, i < n → s.lines.getD i [] = []) : noLines s := fun l hm => by
  obtain ⟨i, hi, e⟩ := List.getElem_of_mem hm
  have := h i (by omega)
  rw [List.getD_eq_getElem?_getD, List.getElem?_eq_getElem hi, Option.getD_some, e] at this
  exact this
theorem over_lines {w : Web} {s : Sta} (f : Fit w s) (o : overS w s = true) : noLines s := noLines_of f.l fun i hi => by
  have z := List.all_eq_true.mp o i (List.mem_range.mpr hi)
  simp only [Bool.and_eq_true, decide_eq_true_eq] at z
  exact z.2
theorem over_done {w : Web} {s : Sta} (f : Fit w s) (o : overS w s = true) : s.done = w.map List.length := by
  apply List.ext_getElem (by simp [f.d])
  intro i h1 h2
  have hi : i < w.length := by simpa using h2
  have z := List.all_eq_true.mp o i (List.mem_range.mpr hi)
  simp only [Bool.and_eq_true, decide_eq_true_eq] at z
  have := z.1
  simpa [h1, hi] using this
theorem over_of {w : Web} {s : Sta} (f : Fit w s) (h1 : noLines s) (h2 : s.done = w.map List.length) : overS w s = true := by
  refine List.all_eq_true.mpr fun i hi => ?_
  have hi' := List.mem_range.mp hi
  simp only [Bool.and_eq_true, decide_eq_true_eq]
  refine ⟨?_, noLines_get h1 i⟩
  rw [h2]
  simp [hi']
/-- a stride of a prompt walk, from where no line is left -/
theorem stride_lines {w : Web} {s s1 : Sta} {st : List Mv} (f : Fit w s) (n : noLines s) (h : st ∈ stridesW w s true) (r : run w s st = some s1) : noLines s1 ∧ ∀ pre m post, st = pre ++ m :: post → ∃ s', run w s pre = some s' ∧ (noLines s' ∨ m.2 = true) := by
  obtain ⟨h', k, hh, c, e⟩ := mem_strides.mp h
  have hl1 : h' < s.lines.length := by rw [f.l]; exact hh
  have ln := noLines_get n h'
  have hk : k = false := by
    cases k with
    | false => rfl
    | true => simp [canS, ln] at c; have z := noLines_get n h'; simp [List.getD_eq_getElem?_getD] at z; exact absurd z c
  subst hk
  split at e
  · rename_i z
    have p := (Bool.and_eq_true_iff.mp z).2
    obtain ⟨_, b, v, eb⟩ := putAt_put p
    subst e
    have a := (after_step f hh c).2.2 b v eb
    have a' : canS w (moveS w s (h', false)) h' true = true := a
    simp only [run] at r
    rw [if_pos ⟨hh, c⟩, if_pos ⟨hh, a'⟩] at r
    cases r
    refine ⟨?_, fun pre m post e => ?_⟩
    · have e1 : (stepS w s h').lines = s.lines.set h' [(b, v)] := by
        unfold stepS
        rw [eb]
        simp only [ln, List.nil_append]
      show noLines (sendS (stepS w s h') h')
      unfold sendS
      have e2 : (stepS w s h').lines.getD h' [] = [(b, v)] := by rw [e1, getD_set hl1, if_pos rfl]
      rw [e2]
      refine noLines_of (n := s.lines.length) (by simp [e1]) fun i hi => ?_
      show ((stepS w s h').lines.set h' []).getD i [] = []
      rw [e1, List.set_set, getD_set hl1]
      split
      · rfl
      · exact noLines_get n i
    · match pre, e with
      | [], e => exact ⟨s, rfl, .inl n⟩
      | [x], e =>
        simp only [List.cons_append, List.nil_append, List.cons.injEq] at e
        obtain ⟨rfl, rfl, _⟩ := e
        exact ⟨_, by simp only [run]; rw [if_pos ⟨hh, c⟩], .inr rfl⟩
      | x :: y :: l, e => simp at e
  · rename_i z
    subst e
    simp only [run] at r
    rw [if_pos ⟨hh, c⟩] at r
    cases r
    refine ⟨?_, fun pre m post e => ?_⟩
    · have np : putAt w s (h', false) = false := by simpa using z
      have e1 : (stepS w s h').lines = s.lines := by
        unfold stepS
        split
        · rename_i b v eb
          simp [putAt, List.getD_eq_getElem?_getD] at np
          simp [List.getD_eq_getElem?_getD] at eb
          rw [eb] at np; cases np
        · rfl
        · rfl
      show noLines (stepS w s h')
      intro l hl
      rw [e1] at hl
      exact n l hl
    · match pre, e with
      | [], e => exact ⟨s, rfl, .inl n⟩
      | x :: l, e => simp at e
theorem Walk.prompt {w : Web} (gs : ∀ r ∈ w, ∀ st ∈ r, goodS st) {s s2 : Sta} {ms : List Mv} (h : Walk w true s ms s2) : Fit w s → noLines s → noLines s2 ∧ ∀ pre m post, ms = pre ++ m :: post → ∃ s', FW.run w s pre = some s' ∧ (noLines s' ∨ m.2 = true) := by
  induction h with
  | nil => exact fun f n => ⟨n, fun pre m post e => by cases pre <;> cases e⟩
  | @cons s s1 s2 st ms a b g ih =>
    intro f n
    obtain ⟨n1, k1⟩ := stride_lines f n a b
    obtain ⟨n2, k2⟩ := ih (run_fit gs f b) n1
    refine ⟨n2, fun pre m post e => ?_⟩
    rcases List.append_eq_append_iff.mp e with ⟨l, e1, e2⟩ | ⟨l, e1, e2⟩
    · obtain ⟨s', r, z⟩ := k2 l m post e2
      exact ⟨s', by rw [e1, run_append, b]; exact r, z⟩
    · cases l with
      | nil =>
        rw [List.append_nil] at e1
        obtain ⟨s', r, z⟩ := k2 [] m post (by simpa using e2.symm)
        exact ⟨s', by rw [← e1, b]; exact r, z⟩
      | cons y l =>
        simp only [List.cons_append, List.cons.injEq] at e2
        obtain ⟨rfl, e2⟩ := e2
        exact k1 pre m l e1
/-- there is an end -/
theorem some_end {w : Web} (gs : ∀ r ∈ w, ∀ st ∈ r, goodS st) (pr : Bool) : ∀ (n : Nat) (s : Sta), mu w s ≤ n → Fit w s → ∃ ms t, Walk w pr s ms t ∧ overS w t = true := by
  intro n
  induction n with
  | zero =>
    intro s h f
    by_cases o : overS w s = true
    · exact ⟨[], s, .nil, o⟩
    · exfalso
      have ne : allMoves w s w.length ≠ [] := fun z => o ((over_iff f).mp z)
      obtain ⟨d, hd⟩ := List.exists_mem_of_ne_nil _ ne
      obtain ⟨a, _, h1, h2⟩ := allMoves_mem (Nat.le_refl _) hd
      have := mu_move f h1 h2
      omega
  | succ n ih =>
    intro s h f
    by_cases o : overS w s = true
    · exact ⟨[], s, .nil, o⟩
    · have ne : allMoves w s w.length ≠ [] := fun z => o ((over_iff f).mp z)
      obtain ⟨d, hd⟩ := List.exists_mem_of_ne_nil _ ne
      obtain ⟨a, _, h1, h2⟩ := allMoves_mem (Nat.le_refl _) hd
      have hs : (if (pr && putAt w s (a.1, a.2)) = true then [(a.1, a.2), (a.1, true)] else [(a.1, a.2)]) ∈ stridesW w s pr := mem_strides.mpr ⟨a.1, a.2, h1, h2, rfl⟩
      obtain ⟨s1, r⟩ := stride_run f hs
      have l := mu_run gs f r
      have lp : 1 ≤ (if (pr && putAt w s (a.1, a.2)) = true then [(a.1, a.2), (a.1, true)] else [(a.1, a.2)]).length := by split <;> simp
      obtain ⟨ms, t, W, ot⟩ := ih s1 (by omega) (run_fit gs f r)
      exact ⟨_, t, .cons hs r W, ot⟩
theorem ends_some {w : Web} (gs : ∀ r ∈ w, ∀ st ∈ r, goodS st) {pr : Bool} {es : List (EndT × List Mv)} (e : EndsOf w pr es) : es ≠ [] := fun z => by
  obtain ⟨ms, s, W, o⟩ := some_end gs pr _ (st0 w) (Nat.le_refl _) fit0
  have := e.full ms s W o
  rw [z] at this; cases this
@[simp] theorem ix_end0 {e : EndT} : ixD (endE e) (.int 0) = some (intsD e.1) := rfl
@[simp] theorem ix_end1 {e : EndT} : ixD (endE e) (.int 1) = some (gotD e.2) := rfl
theorem eqv_lines {s : Sta} {n : Nat} (hl : s.lines.length = n) : PyData.eqv (.list (s.lines.map fun l => .list (l.map pairD))) (.list (List.replicate n (.list []))) = decide (noLines s) := by
  have key : ∀ l : List (List (Nat × Int)), PyData.eqvAll (l.map fun l => .list (l.map pairD)) (List.replicate l.length (.list [])) = decide (∀ x ∈ l, x = []) := fun l => by
    induction l with
    | nil => rfl
    | cons a l ih =>
      simp only [List.map_cons, List.length_cons, List.replicate_succ, PyData.eqvAll, ih]
      cases a with
      | nil => simp [PyData.eqv, PyData.eqvAll]
      | cons x y => simp [PyData.eqv, PyData.eqvAll]
  have := key s.lines
  rw [hl] at this
  simp only [PyData.eqv]
  rw [this]
  rfl
theorem okd_lines {s : Sta} : okd (.list (s.lines.map fun l => .list (l.map pairD))) = true := okd_pl (n := 3) (by
  simp only [pl, pls_iff, List.mem_map]
  rintro _ ⟨l, _, rfl⟩
  simp only [pl, pls_iff, List.mem_map]
  rintro _ ⟨p, _, rfl⟩; rfl)
theorem okd_reps {n : Nat} : okd (.list (List.replicate n (.list []))) = true := okd_pl (n := 2) (by
  simp only [pl, pls_iff]
  intro d hd
  rw [(List.mem_replicate.mp hd).2]; rfl)
theorem okd_nums {l : List Nat} : okd (.list (l.map fun n => .int (n : Nat))) = true := okd_pl (n := 1) (by
  simp only [pl, pls_iff, List.mem_map]
  rintro _ ⟨p, _, rfl⟩; rfl)
theorem ers_reps {α : Type} {l : List α} : OT.ers (l.map fun _ => OT.node []) = List.replicate l.length (.list []) := by
  rw [ers_map, List.map_map]
  induction l with
  | nil => rfl
  | cons a l ih => rw [List.map_cons, ih]; rfl
theorem flat_end {e : EndT} : flat (endE e) = true := by
  have h3 := flats_map (f := PyData.int) (fun _ => rfl) e.1
  have h4 := flats_map (f := intsD) (fun l => by
    have := flats_map (f := PyData.int) (fun _ => rfl) l
    simp only [intsD, flat]; exact this) e.2
  simp only [endE, intsD, gotD, flat, flats, Bool.and_true, Bool.and_eq_true] at h3 h4 ⊢
  exact ⟨h3, h4⟩
end FW

set_option Elab.async false
set_option linter.all false
set_option maxRecDepth 100000
set_option maxHeartbeats 4000000
namespace FW
open PySem PySem.Spec PyProof.Rows L2
/-! ### webs with some fences fewer -/
inductive Sub : List Step → List Step → Prop
  | nil : Sub [] []
  | keep {s : Step} {a b : List Step} : Sub a b → Sub (s :: a) (s :: b)
  | del {a b : List Step} : Sub a b → Sub a (.fence :: b)
theorem Sub.refl : ∀ a : List Step, Sub a a
  | [] => .nil
  | _ :: a => .keep (Sub.refl a)
theorem Sub.nil_left : ∀ {b : List Step}, Sub [] b → ∀ s ∈ b, s = .fence
  | _, .nil => fun s hs => by cases hs
  | _, .del h => fun s hs => by
    rcases List.mem_cons.mp hs with e | hs
    · exact e
    · exact h.nil_left s hs
theorem Sub.nil_right {a : List Step} (h : Sub a []) : a = [] := by cases h; rfl
theorem Sub.find {s : Step} {a : List Step} : ∀ {b : List Step}, Sub (s :: a) b → ∃ n c, b = List.replicate n .fence ++ s :: c ∧ Sub a c
  | _, .keep h => ⟨0, _, rfl, h⟩
  | _, .del h => by
    obtain ⟨n, c, e, h'⟩ := h.find
    exact ⟨n + 1, c, by rw [e]; rfl, h'⟩
theorem Sub.ins {p q : Nat → Bool} (h : ∀ i, p i = true → q i = true) : ∀ (r : List Step) (i : Nat), Sub (insF p i r) (insF q i r)
  | [], i => .nil
  | s :: r, i => by
    have ih := Sub.ins h r (i + 1)
    simp only [insF]
    by_cases hp : p i = true
    · rw [if_pos hp, if_pos (h i hp)]
      exact .keep (.keep ih)
    · rw [if_neg hp]
      split
      · exact .del (.keep ih)
      · exact .keep ih
theorem insF_none : ∀ (r : List Step) (i : Nat), insF (fun _ => false) i r = r
  | [], _ => rfl
  | s :: r, i => by simp [insF, insF_none r (i + 1)]
/-- row by row -/
structure SubW (v w : Web) : Prop where
  len : v.length = w.length
  sub : ∀ h, Sub (v.getD h []) (w.getD h [])
theorem getD_mapIdx {w : Web} {f : Nat → List Step → List Step} (hf : ∀ h, f h [] = []) (h : Nat) : (w.mapIdx f).getD h [] = f h (w.getD h []) := by
  simp only [List.getD_eq_getElem?_getD, List.getElem?_mapIdx]
  cases w[h]? with
  | none => simp [hf]
  | some r => rfl
theorem SubW.fenced {p q : Nat → Nat → Bool} {w : Web} (h : ∀ i j, p i j = true → q i j = true) : SubW (fencedW p w) (fencedW q w) := by
  refine ⟨by simp [fencedW], fun i => ?_⟩
  unfold fencedW
  rw [getD_mapIdx (fun _ => rfl), getD_mapIdx (fun _ => rfl)]
  exact Sub.ins (h i) _ _
theorem fencedW_none {w : Web} : fencedW (fun _ _ => false) w = w := by
  unfold fencedW
  apply List.ext_getElem (by simp)
  intro i h1 h2
  simp [insF_none]
theorem SubW.fence {q : Nat → Nat → Bool} {w : Web} : SubW w (fencedW q w) := by
  have := SubW.fenced (p := fun _ _ => false) (q := q) (w := w) fun _ _ h => by cases h
  rwa [fencedW_none] at this
/-! ### what a move does -/
def dn (s : Sta) (h : Nat) : Nat := s.done.getD h 0
theorem step_at {w : Web} {s : Sta} (f : Fit w s) {h : Nat} (hh : h < w.length) (c : canS w s h false = true) : ∃ st, (w.getD h [])[dn s h]? = some st ∧ (w.getD h []).drop (dn s h) = st :: (w.getD h []).drop (dn s h + 1) ∧ (st = .fence → s.lines.getD h [] = []) := by
  have nd := canS_step c
  have le := f.le h
  have lt : dn s h < (w.getD h []).length := by
    have : dn s h ≠ (w.getD h []).length := nd
    have : dn s h ≤ (w.getD h []).length := le
    omega
  refine ⟨_, List.getElem?_eq_getElem lt, List.drop_eq_getElem_cons lt, fun e => ?_⟩
  have z : (w.getD h [])[s.done.getD h 0]? = some .fence := by
    show (w.getD h [])[dn s h]? = _
    rw [List.getElem?_eq_getElem lt, e]
  unfold canS at c
  rw [z] at c
  simp at c
  simpa using c.2
theorem can_step {w : Web} {s : Sta} {h : Nat} {st : Step} (e : (w.getD h [])[dn s h]? = some st) (hf : st = .fence → s.lines.getD h [] = []) : canS w s h false = true := by
  have lt := (List.getElem?_eq_some_iff.mp e).1
  have e' : (w.getD h [])[s.done.getD h 0]? = some st := e
  have ne : s.done.getD h 0 ≠ (w.getD h []).length := by
    have : dn s h < (w.getD h []).length := lt
    show dn s h ≠ _
    omega
  unfold canS
  rw [e']
  by_cases z : st = .fence
  · simp only [Bool.false_eq_true, if_false, z, hf z, ne, decide_true, Bool.true_and, ne_eq, not_true_eq_false, decide_false, Bool.false_or, not_false_eq_true]
  · simp [z, ne]; simpa using ne
theorem drop_at {r : List Step} {n : Nat} {s : Step} {a : List Step} (h : r.drop n = s :: a) : r[n]? = some s ∧ r.drop (n + 1) = a := by
  constructor
  · have z := congrArg (fun l => l[0]?) h
    simpa using z
  · have z := congrArg (fun l => l.drop 1) h
    simpa [List.drop_drop] using z
theorem dn_set {w : Web} {s : Sta} (f : Fit w s) {h : Nat} (hh : h < w.length) (n j : Nat) : (s.done.set h n).getD j 0 = if h = j then n else dn s j := getD_set (by rw [f.d]; exact hh)
/-- two states of two webs whose rows to come are one, but for fences -/
structure Sim (v w : Web) (s t : Sta) : Prop where
  ln : s.lines = t.lines
  bx : s.box = t.box
  gt : s.got = t.got
  rm : ∀ h, Sub ((v.getD h []).drop (dn s h)) ((w.getD h []).drop (dn t h))
theorem sim0 {v w : Web} (h : SubW v w) : Sim v w (st0 v) (st0 w) := by
  have z : ∀ (u : Web) j, dn (st0 u) j = 0 := fun u j => by
    simp only [dn, st0, List.getD_eq_getElem?_getD, List.getElem?_map]; cases u[j]? <;> rfl
  refine ⟨?_, rfl, ?_, fun j => by rw [z, z, List.drop_zero, List.drop_zero]; exact h.sub j⟩
  · simp [st0, List.map_const', h.len]
  · simp [st0, List.map_const', h.len]
theorem Sim.over {v w : Web} {s t : Sta} (m : Sim v w s t) (hl : v.length = w.length) (fs : Fit v s) (ft : Fit w t) (o : overS w t = true) : overS v s = true := by
  refine over_of fs (fun l hl' => over_lines ft o l (by rw [← m.ln]; exact hl')) ?_
  apply List.ext_getElem (by simp [fs.d])
  intro i h1 h2
  have hi : i < v.length := by simpa using h2
  have d := over_done ft o
  have e : dn t i = (w.getD i []).length := by
    have hi' : i < w.length := by omega
    simp only [dn, d]
    simp [hi']
  have z := m.rm i
  rw [e, List.drop_length] at z
  have z2 := List.drop_eq_nil_iff.mp z.nil_right
  have le := fs.le i
  have : dn s i = (v.getD i []).length := by
    have : dn s i ≤ (v.getD i []).length := le
    omega
  simpa [dn, h1, hi] using this
theorem Sim.fenceR {v w : Web} {s t : Sta} (m : Sim v w s t) (ft : Fit w t) {h : Nat} (hh : h < w.length) {a : List Step} (e : (w.getD h []).drop (dn t h) = .fence :: a) (z : Sub ((v.getD h []).drop (dn s h)) a) : Sim v w s (stepS w t h) := by
  obtain ⟨e1, e2⟩ := drop_at e
  have e1' : (w.getD h [])[t.done.getD h 0]? = some .fence := e1
  unfold stepS
  rw [e1']
  refine ⟨m.ln, m.bx, m.gt, fun j => ?_⟩
  show Sub _ ((w.getD j []).drop ((t.done.set h (t.done.getD h 0 + 1)).getD j 0))
  rw [dn_set ft hh]
  by_cases hj : h = j
  · subst hj
    rw [if_pos rfl]
    show Sub _ ((w.getD h []).drop (dn t h + 1))
    rw [e2]; exact z
  · rw [if_neg hj]; exact m.rm j
theorem Sim.stepB {v w : Web} {s t : Sta} (m : Sim v w s t) (fs : Fit v s) (ft : Fit w t) {h : Nat} (hv : h < v.length) (hh : h < w.length) {st : Step} {a b : List Step} (e : (w.getD h []).drop (dn t h) = st :: b) (e' : (v.getD h []).drop (dn s h) = st :: a) (z : Sub a b) : Sim v w (stepS v s h) (stepS w t h) := by
  obtain ⟨e1, e2⟩ := drop_at e
  obtain ⟨e3, e4⟩ := drop_at e'
  have e1' : (w.getD h [])[t.done.getD h 0]? = some st := e1
  have e3' : (v.getD h [])[s.done.getD h 0]? = some st := e3
  have rm : ∀ j, Sub ((v.getD j []).drop ((s.done.set h (s.done.getD h 0 + 1)).getD j 0)) ((w.getD j []).drop ((t.done.set h (t.done.getD h 0 + 1)).getD j 0)) := fun j => by
    rw [dn_set ft hh, dn_set fs hv]
    by_cases hj : h = j
    · subst hj
      rw [if_pos rfl, if_pos rfl]
      show Sub ((v.getD h []).drop (dn s h + 1)) ((w.getD h []).drop (dn t h + 1))
      rw [e2, e4]; exact z
    · rw [if_neg hj, if_neg hj]; exact m.rm j
  unfold stepS
  rw [e1', e3']
  cases st with
  | put b' n' => exact ⟨by simp only [m.ln], m.bx, m.gt, rm⟩
  | get b' => exact ⟨m.ln, m.bx, by simp only [m.gt, seenS, m.ln, m.bx], rm⟩
  | fence => exact ⟨m.ln, m.bx, m.gt, rm⟩
theorem Sim.send {v w : Web} {s t : Sta} (m : Sim v w s t) (h : Nat) : Sim v w (sendS s h) (sendS t h) := by
  unfold sendS
  rw [m.ln]
  cases t.lines.getD h [] with
  | nil => exact m
  | cons p r => exact ⟨rfl, by simp only [m.bx], m.gt, m.rm⟩
theorem putAt_iff {w : Web} {s : Sta} {h : Nat} : putAt w s (h, false) = true ↔ ∃ b n, (w.getD h [])[dn s h]? = some (.put b n) := by
  unfold putAt dn
  simp only [Bool.not_false, Bool.true_and]
  constructor
  · intro z
    split at z
    · rename_i b n e; exact ⟨b, n, e⟩
    · cases z
  · rintro ⟨b, n, e⟩
    rw [e]
/-- a stride of the web with more fences, in the one with fewer -/
theorem Sim.stride {v w : Web} {pr : Bool} {s t t' : Sta} {st : List Mv} (hl : v.length = w.length) (m : Sim v w s t) (fs : Fit v s) (ft : Fit w t) (hs : st ∈ stridesW w t pr) (r : run w t st = some t') : ∃ ms s', Walk v pr s ms s' ∧ Sim v w s' t' := by
  obtain ⟨h, k, hh, c, e⟩ := mem_strides.mp hs
  have hv : h < v.length := by omega
  cases k with
  | true =>
    have np : (pr && putAt w t (h, true)) = false := by simp [putAt]
    rw [np] at e
    have e : st = [(h, true)] := e
    subst e
    simp only [run] at r
    rw [if_pos ⟨hh, c⟩] at r
    cases r
    have c' : canS v s h true = true := by
      have := c
      simp only [canS, if_true] at this ⊢
      rw [m.ln]; exact this
    refine ⟨[(h, true)] ++ [], sendS s h, .cons (mem_strides.mpr ⟨h, true, hv, c', by simp [putAt]⟩) (by simp only [run]; rw [if_pos ⟨hv, c'⟩]; rfl) .nil, m.send h⟩
  | false =>
    obtain ⟨x, e1, e2, e3⟩ := step_at ft hh c
    have z := m.rm h
    rw [e2] at z
    have single : ∀ t1, run w t [(h, false)] = some t1 → t1 = stepS w t h := fun t1 q => by
      simp only [run] at q
      rw [if_pos ⟨hh, c⟩] at q
      exact (Option.some.inj q).symm
    generalize hX : (v.getD h []).drop (dn s h) = X at z
    cases z with
    | @keep _ a _ z =>
      obtain ⟨e4, _⟩ := drop_at hX
      have c' : canS v s h false = true := can_step e4 (fun q => by rw [m.ln]; exact e3 q)
      have m1 := m.stepB fs ft hv hh e2 hX z
      have pe : putAt v s (h, false) = putAt w t (h, false) := by
        rw [Bool.eq_iff_iff, putAt_iff, putAt_iff, e4, e1]
      have hst : st ∈ stridesW v s pr := mem_strides.mpr ⟨h, false, hv, c', by rw [pe]; exact e⟩
      split at e
      · rename_i q
        have p := (Bool.and_eq_true_iff.mp q).2
        obtain ⟨b, n, eb⟩ := putAt_iff.mp p
        subst e
        have a1 : canS w (stepS w t h) h true = true := (after_step ft hh c).2.2 b n eb
        have a2 : canS v (stepS v s h) h true = true := by
          have := a1
          simp only [canS, if_true] at this ⊢
          rw [m1.ln]; exact this
        simp only [run] at r
        rw [if_pos ⟨hh, c⟩] at r
        have a1' : canS w (moveS w t (h, false)) h true = true := a1
        rw [if_pos ⟨hh, a1'⟩] at r
        cases r
        refine ⟨[(h, false), (h, true)] ++ [], sendS (stepS v s h) h, .cons hst ?_ .nil, m1.send h⟩
        simp only [run]
        have a2' : canS v (moveS v s (h, false)) h true = true := a2
        rw [if_pos ⟨hv, c'⟩, if_pos ⟨hv, a2'⟩]
        rfl
      · subst e
        rw [single t' r]
        refine ⟨[(h, false)] ++ [], stepS v s h, .cons hst ?_ .nil, m1⟩
        simp only [run]
        rw [if_pos ⟨hv, c'⟩]
        rfl
    | del z =>
      have np : putAt w t (h, false) = false := by
        cases q : putAt w t (h, false) with
        | false => rfl
        | true =>
          obtain ⟨b, n, eb⟩ := putAt_iff.mp q
          rw [e1] at eb; cases eb
      have : st = [(h, false)] := by
        rw [np, Bool.and_false] at e
        exact e
      subst this
      rw [single t' r]
      exact ⟨[], s, .nil, m.fenceR ft hh e2 (by rw [hX]; exact z)⟩
theorem Sim.walk {v w : Web} {pr : Bool} (gv : ∀ r ∈ v, ∀ st ∈ r, goodS st) (gw : ∀ r ∈ w, ∀ st ∈ r, goodS st) (hl : v.length = w.length) {t t' : Sta} {ms : List Mv} (W : Walk w pr t ms t') : ∀ {s : Sta}, Sim v w s t → Fit v s → Fit w t → ∃ ms' s', Walk v pr s ms' s' ∧ Sim v w s' t' := by
  induction W with
  | nil => exact fun m _ _ => ⟨[], _, .nil, m⟩
  | cons a b _ ih =>
    intro s m fs ft
    obtain ⟨ms1, s1, W1, m1⟩ := m.stride hl fs ft a b
    obtain ⟨ms2, s2, W2, m2⟩ := ih m1 (W1.fit gv fs) (run_fit gw ft b)
    exact ⟨_, s2, W1.trans W2, m2⟩
/-- an end of the web -/
def isEnd (w : Web) (pr : Bool) (e : EndT) : Prop := ∃ ms s, Walk w pr (st0 w) ms s ∧ overS w s = true ∧ endOf s = e
theorem end_sub {v w : Web} {pr : Bool} {e : EndT} (gv : ∀ r ∈ v, ∀ st ∈ r, goodS st) (gw : ∀ r ∈ w, ∀ st ∈ r, goodS st) (h : SubW v w) (he : isEnd w pr e) : isEnd v pr e := by
  obtain ⟨ms, t, W, o, rfl⟩ := he
  obtain ⟨ms', s, W', m⟩ := Sim.walk gv gw h.len W (sim0 h) fit0 fit0
  refine ⟨ms', s, W', m.over h.len (W'.fit gv fit0) (W.fit gw fit0) o, ?_⟩
  simp only [endOf, m.bx, m.gt]
/-! ### prompt ends stay, whatever fences there are -/
theorem noLines_eq {s t : Sta} (n : noLines t) (e : s.lines = t.lines) : noLines s := fun l hl => n l (by rw [← e]; exact hl)
/-- some fences are stepped over, where no line is left -/
theorem fenceWalk {w : Web} (gw : ∀ r ∈ w, ∀ st ∈ r, goodS st) {h : Nat} (hh : h < w.length) : ∀ (n : Nat) (t : Sta) (z : List Step), Fit w t → noLines t → (w.getD h []).drop (dn t h) = List.replicate n .fence ++ z →
    ∃ ms t1, Walk w true t ms t1 ∧ t1.lines = t.lines ∧ t1.box = t.box ∧ t1.got = t.got ∧ (w.getD h []).drop (dn t1 h) = z ∧ ∀ j, j ≠ h → dn t1 j = dn t j
  | 0, t, z, f, nl, e => ⟨[], t, .nil, rfl, rfl, rfl, by simpa using e, fun _ _ => rfl⟩
  | n + 1, t, z, f, nl, e => by
    have e' : (w.getD h []).drop (dn t h) = .fence :: (List.replicate n .fence ++ z) := by rw [e]; rfl
    obtain ⟨e1, e2⟩ := drop_at e'
    have c : canS w t h false = true := can_step e1 fun _ => noLines_get nl h
    have np : putAt w t (h, false) = false := by
      cases q : putAt w t (h, false) with
      | false => rfl
      | true =>
        obtain ⟨b, m, eb⟩ := putAt_iff.mp q
        rw [e1] at eb; cases eb
    have e1' : (w.getD h [])[t.done.getD h 0]? = some .fence := e1
    have es : stepS w t h = { t with done := t.done.set h (t.done.getD h 0 + 1) } := by
      unfold stepS; rw [e1']
    have hst : [(h, false)] ∈ stridesW w t true := mem_strides.mpr ⟨h, false, hh, c, by rw [np]; rfl⟩
    have hr : run w t [(h, false)] = some (stepS w t h) := by
      simp only [run]; rw [if_pos ⟨hh, c⟩]; rfl
    have f1 := run_fit gw f hr
    have d1 : dn (stepS w t h) h = dn t h + 1 := by
      rw [es]; show (t.done.set h _).getD h 0 = _
      rw [dn_set f hh, if_pos rfl]; rfl
    obtain ⟨ms, t1, W, a1, a2, a3, a4, a5⟩ := fenceWalk gw hh n (stepS w t h) z f1 (noLines_eq nl (by rw [es])) (by rw [d1]; exact e2)
    refine ⟨_, t1, .cons hst hr W, by rw [a1, es], by rw [a2, es], by rw [a3, es], a4, fun j hj => ?_⟩
    rw [a5 j hj, es]
    show (t.done.set h _).getD j 0 = _
    rw [dn_set f hh, if_neg fun e => hj e.symm]
/-- a stride of a prompt walk of the web with fewer fences, in the one with more -/
theorem Sim.strideP {v w : Web} {s s' t : Sta} {st : List Mv} (gv : ∀ r ∈ v, ∀ st ∈ r, goodS st) (gw : ∀ r ∈ w, ∀ st ∈ r, goodS st) (hl : v.length = w.length) (m : Sim v w s t) (fs : Fit v s) (ft : Fit w t) (nl : noLines s) (hs : st ∈ stridesW v s true) (r : run v s st = some s') : ∃ ms t', Walk w true t ms t' ∧ Sim v w s' t' := by
  obtain ⟨h, k, hv, c, e⟩ := mem_strides.mp hs
  have hh : h < w.length := by omega
  have hk : k = false := by
    cases k with
    | false => rfl
    | true =>
      have z := noLines_get nl h
      simp only [canS, if_true, decide_eq_true_eq] at c
      exact absurd z c
  subst hk
  obtain ⟨x, e1, e2, e3⟩ := step_at fs hv c
  have z := m.rm h
  rw [e2] at z
  obtain ⟨n, b, eb, zb⟩ := z.find
  obtain ⟨ms1, t1, W1, a1, a2, a3, a4, a5⟩ := fenceWalk gw hh n t (x :: b) ft (noLines_eq nl m.ln.symm) eb
  have ft1 := W1.fit gw ft
  have m1 : Sim v w s t1 := ⟨by rw [a1]; exact m.ln, by rw [a2]; exact m.bx, by rw [a3]; exact m.gt, fun j => by
    by_cases hj : j = h
    · subst hj; rw [a4, e2]; exact .keep zb
    · rw [a5 j hj]; exact m.rm j⟩
  obtain ⟨e4, _⟩ := drop_at a4
  have c' : canS w t1 h false = true := can_step e4 (fun q => by rw [← m1.ln]; exact e3 q)
  have m2 := m1.stepB fs ft1 hv hh a4 e2 zb
  have pe : putAt w t1 (h, false) = putAt v s (h, false) := by
    rw [Bool.eq_iff_iff, putAt_iff, putAt_iff, e4, e1]
  have hst : st ∈ stridesW w t1 true := mem_strides.mpr ⟨h, false, hh, c', by rw [pe]; exact e⟩
  split at e
  · rename_i q
    have p := (Bool.and_eq_true_iff.mp q).2
    obtain ⟨b', n', eb'⟩ := putAt_iff.mp p
    subst e
    have a1 : canS v (stepS v s h) h true = true := (after_step fs hv c).2.2 b' n' eb'
    have a2 : canS w (stepS w t1 h) h true = true := by
      have := a1
      simp only [canS, if_true] at this ⊢
      rw [← m2.ln]; exact this
    simp only [run] at r
    rw [if_pos ⟨hv, c⟩] at r
    have a1' : canS v (moveS v s (h, false)) h true = true := a1
    rw [if_pos ⟨hv, a1'⟩] at r
    cases r
    refine ⟨ms1 ++ [(h, false), (h, true)], sendS (stepS w t1 h) h, W1.snoc hst ?_, m2.send h⟩
    simp only [run]
    have a2' : canS w (moveS w t1 (h, false)) h true = true := a2
    rw [if_pos ⟨hh, c'⟩, if_pos ⟨hh, a2'⟩]
    rfl
  · subst e
    simp only [run] at r
    rw [if_pos ⟨hv, c⟩] at r
    cases r
    refine ⟨ms1 ++ [(h, false)], stepS w t1 h, W1.snoc hst ?_, m2⟩
    simp only [run]
    rw [if_pos ⟨hh, c'⟩]
    rfl
theorem Sim.walkP {v w : Web} (gv : ∀ r ∈ v, ∀ st ∈ r, goodS st) (gw : ∀ r ∈ w, ∀ st ∈ r, goodS st) (hl : v.length = w.length) {s s' : Sta} {ms : List Mv} (W : Walk v true s ms s') : ∀ {t : Sta}, Sim v w s t → Fit v s → Fit w t → noLines s → ∃ ms' t', Walk w true t ms' t' ∧ Sim v w s' t' := by
  induction W with
  | nil => exact fun m _ _ _ => ⟨[], _, .nil, m⟩
  | cons a b _ ih =>
    intro t m fs ft nl
    obtain ⟨ms1, t1, W1, m1⟩ := m.strideP gv gw hl fs ft nl a b
    obtain ⟨ms2, t2, W2, m2⟩ := ih m1 (run_fit gv fs b) (W1.fit gw ft) (stride_lines fs nl a b).1
    exact ⟨_, t2, W1.trans W2, m2⟩
/-- only fences are left -/
theorem fences_left {w : Web} (gw : ∀ r ∈ w, ∀ st ∈ r, goodS st) {t t' : Sta} {ms : List Mv} (W : Walk w true t ms t') : Fit w t → noLines t → (∀ h, ∀ x ∈ (w.getD h []).drop (dn t h), x = .fence) → endOf t' = endOf t := by
  induction W with
  | nil => exact fun _ _ _ => rfl
  | @cons t t1 t2 st ms a b _ ih =>
    intro f nl hx
    obtain ⟨h, k, hh, c, e⟩ := mem_strides.mp a
    have hk : k = false := by
      cases k with
      | false => rfl
      | true =>
        have z := noLines_get nl h
        simp only [canS, if_true, decide_eq_true_eq] at c
        exact absurd z c
    subst hk
    obtain ⟨x, e1, e2, e3⟩ := step_at f hh c
    have ex : x = .fence := hx h x (by rw [e2]; exact List.mem_cons_self)
    subst ex
    have np : putAt w t (h, false) = false := by
      cases q : putAt w t (h, false) with
      | false => rfl
      | true =>
        obtain ⟨b, m, eb⟩ := putAt_iff.mp q
        rw [e1] at eb; cases eb
    rw [np, Bool.and_false] at e
    have e : st = [(h, false)] := e
    subst e
    simp only [run] at b
    rw [if_pos ⟨hh, c⟩] at b
    cases b
    have e1' : (w.getD h [])[t.done.getD h 0]? = some .fence := e1
    have es : moveS w t (h, false) = { t with done := t.done.set h (t.done.getD h 0 + 1) } := by
      show stepS w t h = _
      unfold stepS; rw [e1']
    have ft := f.move gw (m := (h, false)) hh c
    rw [ih ft (noLines_eq nl (by rw [es])) fun j x hxx => ?_, es]
    · rfl
    · rw [es] at hxx
      have hxx : x ∈ (w.getD j []).drop ((t.done.set h (t.done.getD h 0 + 1)).getD j 0) := hxx
      rw [dn_set f hh] at hxx
      by_cases hj : h = j
      · subst hj
        rw [if_pos rfl] at hxx
        refine hx h x ?_
        rw [e2]
        exact List.mem_cons_of_mem _ hxx
      · rw [if_neg hj] at hxx
        exact hx j x hxx
theorem end_prompt {v w : Web} {e : EndT} (gv : ∀ r ∈ v, ∀ st ∈ r, goodS st) (gw : ∀ r ∈ w, ∀ st ∈ r, goodS st) (h : SubW v w) (he : isEnd v true e) : isEnd w true e := by
  obtain ⟨ms, s, W, o, rfl⟩ := he
  obtain ⟨ms', t, W', m⟩ := Sim.walkP gv gw h.len W (sim0 h) fit0 fit0 noLines0
  have fs := W.fit gv fit0
  have ft := W'.fit gw fit0
  have nl : noLines t := noLines_eq (over_lines fs o) m.ln.symm
  obtain ⟨ms2, t2, W2, o2⟩ := some_end gw true _ t (Nat.le_refl _) ft
  have d := over_done fs o
  have e2 := fences_left gw W2 ft nl fun j x hx => by
    have z := m.rm j
    have ej : (v.getD j []).drop (dn s j) = [] := by
      rw [List.drop_eq_nil_iff]
      by_cases hj : j < v.length
      · simp [dn, d, hj]
      · simp [hj]
    rw [ej] at z
    exact z.nil_left x hx
  refine ⟨_, t2, W'.trans W2, o2, ?_⟩
  rw [e2]
  simp only [endOf, m.bx, m.gt]
/-- a prompt end is an end -/
theorem run_walk {w : Web} : ∀ {ms : List Mv} {s s' : Sta}, run w s ms = some s' → Walk w false s ms s'
  | [], s, s', h => by cases h; exact .nil
  | m :: ms, s, s', h => by
    simp only [run] at h
    split at h
    · rename_i c
      have hs : [m] ∈ stridesW w s false := mem_strides.mpr ⟨m.1, m.2, c.1, c.2, by simp⟩
      have : Walk w false s ([m] ++ ms) s' := .cons hs (by simp only [run]; rw [if_pos c]) (run_walk h)
      exact this
    · cases h
theorem prompt_end {w : Web} {e : EndT} (he : isEnd w true e) : isEnd w false e := by
  obtain ⟨ms, s, W, o, ee⟩ := he
  exact ⟨ms, s, run_walk W.run, o, ee⟩
/-! ### with a fence behind each put no end is late -/
def AfterPut (r : List Step) : Prop := ∀ i b n x, r[i]? = some (.put b n) → r[i + 1]? = some x → x = .fence
structure LSim (v : Web) (s t : Sta) : Prop where
  bx : s.box = t.box
  gt : s.got = t.got
  nl : noLines s
  hn : ∀ h, (t.lines.getD h [] = [] ∧ dn t h = dn s h) ∨ ∃ b n, t.lines.getD h [] = [(b, n)] ∧ (v.getD h [])[dn s h]? = some (.put b n) ∧ dn t h = dn s h + 1
theorem LSim.move {v : Web} (gv : ∀ r ∈ v, ∀ st ∈ r, goodS st) (ap : ∀ h, AfterPut (v.getD h [])) {s t : Sta} (m : LSim v s t) (fs : Fit v s) (ft : Fit v t) {h : Nat} {k : Bool} (hh : h < v.length) (c : canS v t h k = true) : ∃ ms s', Walk v true s ms s' ∧ LSim v s' (moveS v t (h, k)) := by
  have lns := noLines_get m.nl h
  have lt1 : h < t.lines.length := by rw [ft.l]; exact hh
  have ls1 : h < s.lines.length := by rw [fs.l]; exact hh
  have hg1 : h < t.got.length := by rw [ft.g]; exact hh
  cases k with
  | true =>
    rcases m.hn h with ⟨a, _⟩ | ⟨b, n, a1, a2, a3⟩
    · simp only [canS, if_true, decide_eq_true_eq] at c
      exact absurd a c
    · have c1 : canS v s h false = true := can_step a2 fun e => by cases e
      have p1 : putAt v s (h, false) = true := putAt_iff.mpr ⟨b, n, a2⟩
      have a2' : (v.getD h [])[s.done.getD h 0]? = some (.put b n) := a2
      have e1 : stepS v s h = { s with done := s.done.set h (s.done.getD h 0 + 1), lines := s.lines.set h [(b, n)] } := by
        unfold stepS
        rw [a2']
        simp only [lns, List.nil_append]
      have e2 : sendS (stepS v s h) h = { s with done := s.done.set h (s.done.getD h 0 + 1), lines := s.lines.set h [], box := s.box.set b n } := by
        unfold sendS
        have : (stepS v s h).lines.getD h [] = [(b, n)] := by
          rw [e1]; show (s.lines.set h [(b, n)]).getD h [] = _
          rw [getD_set ls1, if_pos rfl]
        rw [this, e1]
        simp only [List.set_set]
      have et : moveS v t (h, true) = { t with lines := t.lines.set h [], box := t.box.set b n } := by
        show sendS t h = _
        unfold sendS
        rw [a1]
      have hst : [(h, false), (h, true)] ∈ stridesW v s true := mem_strides.mpr ⟨h, false, hh, c1, by rw [p1]; rfl⟩
      have c2 : canS v (moveS v s (h, false)) h true = true := (after_step fs hh c1).2.2 b n a2
      have hr : run v s [(h, false), (h, true)] = some (sendS (stepS v s h) h) := by
        simp only [run]
        rw [if_pos ⟨hh, c1⟩, if_pos ⟨hh, c2⟩]
        rfl
      refine ⟨_, _, .cons hst hr .nil, ?_, ?_, (stride_lines fs m.nl hst hr).1, fun j => ?_⟩
      · rw [e2, et]; simp only [m.bx]
      · rw [e2, et]; exact m.gt
      · rw [et, e2]
        show ((t.lines.set h []).getD j [] = [] ∧ dn t j = (s.done.set h (s.done.getD h 0 + 1)).getD j 0) ∨ ∃ b n, (t.lines.set h []).getD j [] = [(b, n)] ∧ (v.getD j [])[(s.done.set h (s.done.getD h 0 + 1)).getD j 0]? = some (.put b n) ∧ dn t j = (s.done.set h (s.done.getD h 0 + 1)).getD j 0 + 1
        rw [dn_set fs hh, getD_set lt1]
        by_cases hj : h = j
        · subst hj
          rw [if_pos rfl, if_pos rfl]
          exact .inl ⟨rfl, a3⟩
        · rw [if_neg hj, if_neg hj]; exact m.hn j
  | false =>
    obtain ⟨x, e1, e2, e3⟩ := step_at ft hh c
    have e1' : (v.getD h [])[t.done.getD h 0]? = some x := e1
    obtain ⟨a1, a2⟩ : t.lines.getD h [] = [] ∧ dn t h = dn s h := by
      rcases m.hn h with a | ⟨b, n, a1, a2, a3⟩
      · exact a
      · have : x = .fence := ap h _ b n x a2 (by rw [← a3]; exact e1)
        rw [e3 this] at a1; cases a1
    have e1s : (v.getD h [])[dn s h]? = some x := by rw [← a2]; exact e1
    have e1s' : (v.getD h [])[s.done.getD h 0]? = some x := e1s
    have c1 : canS v s h false = true := can_step e1s fun _ => lns
    show ∃ ms s', Walk v true s ms s' ∧ LSim v s' (stepS v t h)
    cases x with
    | put b n =>
      have et : stepS v t h = { t with done := t.done.set h (t.done.getD h 0 + 1), lines := t.lines.set h [(b, n)] } := by
        unfold stepS
        rw [e1']
        simp only [a1, List.nil_append]
      refine ⟨[], s, .nil, by rw [et]; exact m.bx, by rw [et]; exact m.gt, m.nl, fun j => ?_⟩
      rw [et]
      show ((t.lines.set h [(b, n)]).getD j [] = [] ∧ (t.done.set h (t.done.getD h 0 + 1)).getD j 0 = dn s j) ∨ ∃ b' n', (t.lines.set h [(b, n)]).getD j [] = [(b', n')] ∧ (v.getD j [])[dn s j]? = some (.put b' n') ∧ (t.done.set h (t.done.getD h 0 + 1)).getD j 0 = dn s j + 1
      rw [dn_set ft hh, getD_set lt1]
      by_cases hj : h = j
      · subst hj
        rw [if_pos rfl, if_pos rfl]
        exact .inr ⟨b, n, rfl, e1s, by show dn t h + 1 = _; rw [a2]⟩
      · rw [if_neg hj, if_neg hj]; exact m.hn j
    | get b =>
      have np : putAt v s (h, false) = false := by
        cases q : putAt v s (h, false) with
        | false => rfl
        | true =>
          obtain ⟨b, n, eb⟩ := putAt_iff.mp q
          rw [e1s] at eb; cases eb
      have hst : [(h, false)] ∈ stridesW v s true := mem_strides.mpr ⟨h, false, hh, c1, by rw [np]; rfl⟩
      have hr : run v s [(h, false)] = some (stepS v s h) := by
        simp only [run]; rw [if_pos ⟨hh, c1⟩]; rfl
      have es : stepS v s h = { s with done := s.done.set h (s.done.getD h 0 + 1), got := s.got.set h (s.got.getD h [] ++ [seenS s h b]) } := by
        unfold stepS; rw [e1s']
      have et : stepS v t h = { t with done := t.done.set h (t.done.getD h 0 + 1), got := t.got.set h (t.got.getD h [] ++ [seenS t h b]) } := by
        unfold stepS; rw [e1']
      have sn : seenS s h b = seenS t h b := by
        unfold seenS
        rw [a1, lns, m.bx]
      refine ⟨_, _, .cons hst hr .nil, by rw [es, et]; exact m.bx, by rw [es, et]; simp only [m.gt, sn], (stride_lines fs m.nl hst hr).1, fun j => ?_⟩
      rw [es, et]
      show (t.lines.getD j [] = [] ∧ (t.done.set h (t.done.getD h 0 + 1)).getD j 0 = (s.done.set h (s.done.getD h 0 + 1)).getD j 0) ∨ ∃ b' n', t.lines.getD j [] = [(b', n')] ∧ (v.getD j [])[(s.done.set h (s.done.getD h 0 + 1)).getD j 0]? = some (.put b' n') ∧ (t.done.set h (t.done.getD h 0 + 1)).getD j 0 = (s.done.set h (s.done.getD h 0 + 1)).getD j 0 + 1
      rw [dn_set ft hh, dn_set fs hh]
      by_cases hj : h = j
      · subst hj
        rw [if_pos rfl, if_pos rfl]
        exact .inl ⟨a1, by show dn t h + 1 = dn s h + 1; rw [a2]⟩
      · rw [if_neg hj, if_neg hj]; exact m.hn j
    | fence =>
      have np : putAt v s (h, false) = false := by
        cases q : putAt v s (h, false) with
        | false => rfl
        | true =>
          obtain ⟨b, n, eb⟩ := putAt_iff.mp q
          rw [e1s] at eb; cases eb
      have hst : [(h, false)] ∈ stridesW v s true := mem_strides.mpr ⟨h, false, hh, c1, by rw [np]; rfl⟩
      have hr : run v s [(h, false)] = some (stepS v s h) := by
        simp only [run]; rw [if_pos ⟨hh, c1⟩]; rfl
      have es : stepS v s h = { s with done := s.done.set h (s.done.getD h 0 + 1) } := by
        unfold stepS; rw [e1s']
      have et : stepS v t h = { t with done := t.done.set h (t.done.getD h 0 + 1) } := by
        unfold stepS; rw [e1']
      refine ⟨_, _, .cons hst hr .nil, by rw [es, et]; exact m.bx, by rw [es, et]; exact m.gt, (stride_lines fs m.nl hst hr).1, fun j => ?_⟩
      rw [es, et]
      show (t.lines.getD j [] = [] ∧ (t.done.set h (t.done.getD h 0 + 1)).getD j 0 = (s.done.set h (s.done.getD h 0 + 1)).getD j 0) ∨ ∃ b' n', t.lines.getD j [] = [(b', n')] ∧ (v.getD j [])[(s.done.set h (s.done.getD h 0 + 1)).getD j 0]? = some (.put b' n') ∧ (t.done.set h (t.done.getD h 0 + 1)).getD j 0 = (s.done.set h (s.done.getD h 0 + 1)).getD j 0 + 1
      rw [dn_set ft hh, dn_set fs hh]
      by_cases hj : h = j
      · subst hj
        rw [if_pos rfl, if_pos rfl]
        exact .inl ⟨a1, by show dn t h + 1 = dn s h + 1; rw [a2]⟩
      · rw [if_neg hj, if_neg hj]; exact m.hn j
theorem LSim.run {v : Web} (gv : ∀ r ∈ v, ∀ st ∈ r, goodS st) (ap : ∀ h, AfterPut (v.getD h [])) : ∀ {ms : List Mv} {s t t' : Sta}, LSim v s t → Fit v s → Fit v t → FW.run v t ms = some t' → ∃ ms' s', Walk v true s ms' s' ∧ LSim v s' t'
  | [], s, t, t', m, fs, ft, h => by cases h; exact ⟨[], s, .nil, m⟩
  | (h, k) :: ms, s, t, t', m, fs, ft, r => by
    simp only [FW.run] at r
    split at r
    · rename_i c
      obtain ⟨m1, s1, W1, l1⟩ := m.move gv ap fs ft c.1 c.2
      obtain ⟨m2, s2, W2, l2⟩ := LSim.run gv ap l1 (W1.fit gv fs) (ft.move gv c.1 c.2) r
      exact ⟨_, s2, W1.trans W2, l2⟩
    · cases r
theorem end_late {v : Web} {e : EndT} (gv : ∀ r ∈ v, ∀ st ∈ r, goodS st) (ap : ∀ h, AfterPut (v.getD h [])) (he : isEnd v false e) : isEnd v true e := by
  obtain ⟨ms, t, W, o, rfl⟩ := he
  have z0 : LSim v (st0 v) (st0 v) := ⟨rfl, rfl, noLines0, fun h => .inl ⟨noLines_get noLines0 h, rfl⟩⟩
  obtain ⟨ms', s, W', m⟩ := LSim.run gv ap z0 fit0 fit0 W.run
  have fs := W'.fit gv fit0
  have ft := W.fit gv fit0
  refine ⟨ms', s, W', over_of fs m.nl ?_, by simp only [endOf, m.bx, m.gt]⟩
  rw [← over_done ft o]
  refine ext_getD (d := 0) (by rw [fs.d, ft.d]) fun i => ?_
  have nl := noLines_get (over_lines ft o) i
  rcases m.hn i with a | ⟨b, n, a1, _, _⟩
  · exact a.2.symm
  · rw [nl] at a1; cases a1
/-- a web fenced at all its places -/
theorem insF_after {p : Nat → Bool} : ∀ (r : List Step) (i : Nat), (∀ j, 1 ≤ j → j < r.length → p (i + j) = true) → AfterPut (insF p i r)
  | [], i, h => fun j b n x e _ => by simp [insF] at e
  | s :: r, i, h => by
    have ih := insF_after r (i + 1) fun j h1 h2 => by
      have := h (j + 1) (by omega) (by simp; omega)
      rw [show i + 1 + j = i + (j + 1) by omega]; exact this
    -- what stands behind s is a fence, or nothing
    have nx : ∀ x, (insF p (i + 1) r)[0]? = some x → x = .fence := fun x e => by
      cases r with
      | nil => simp [insF] at e
      | cons y r =>
        have := h 1 (by omega) (by simp)
        simp only [insF, this, if_true, List.cons_append, List.nil_append, List.getElem?_cons_zero, Option.some.injEq] at e
        exact e.symm
    have key : AfterPut (s :: insF p (i + 1) r) := fun j b n x e1 e2 => by
      cases j with
      | zero => exact nx x (by simpa using e2)
      | succ j => exact ih j b n x (by simpa using e1) (by simpa using e2)
    simp only [insF]
    split
    · intro j b n x e1 e2
      cases j with
      | zero => simp at e1
      | succ j => exact key j b n x (by simpa using e1) (by simpa using e2)
    · exact key
theorem fenced_after {p : Nat → Nat → Bool} {w : Web} (h : ∀ q ∈ placesW w, p q.1 q.2 = true) : ∀ i, AfterPut ((fencedW p w).getD i []) := fun i => by
  unfold fencedW
  rw [getD_mapIdx (fun _ => rfl)]
  refine insF_after _ _ fun j h1 h2 => ?_
  have hi : i < w.length := by
    by_cases hi : i < w.length
    · exact hi
    · simp [hi] at h2
  have := h (i, j) (List.mem_flatMap.mpr ⟨i, List.mem_range.mpr hi, List.mem_map.mpr ⟨j - 1, List.mem_range.mpr (by omega), by congr 1; omega⟩⟩)
  simpa using this
theorem fenced_good {p : Nat → Nat → Bool} {w : Web} (g : ∀ r ∈ w, ∀ st ∈ r, goodS st) : ∀ r ∈ fencedW p w, ∀ st ∈ r, goodS st := by
  have key : ∀ (q : Nat → Bool) (r : List Step) (i : Nat), (∀ st ∈ r, goodS st) → ∀ st ∈ insF q i r, goodS st := fun q r => by
    induction r with
    | nil => intro i _ st hs; cases hs
    | cons s r ih =>
      intro i h st hs
      simp only [insF] at hs
      rcases List.mem_append.mp hs with z | z
      · split at z
        · rw [List.mem_singleton.mp z]; trivial
        · cases z
      · rcases List.mem_cons.mp z with e | z
        · rw [e]; exact h s List.mem_cons_self
        · exact ih (i + 1) (fun t ht => h t (List.mem_cons_of_mem _ ht)) st z
  intro r hr st hs
  obtain ⟨i, hi, e⟩ := List.getElem_of_mem hr
  unfold fencedW at e hi
  rw [List.getElem_mapIdx] at e
  rw [← e] at hs
  exact key _ _ _ (g _ (List.getElem_mem _)) st hs
end FW

set_option Elab.async false
set_option linter.all false
set_option maxRecDepth 100000
set_option maxHeartbeats 4000000
namespace FW
open PySem PySem.Spec PyProof.Rows L2
/-! ### min of a list of numbers; xs.insert(1, data) -/
section
variable {X : Cx} {W : WX} {fx : List Nat} {a : Expr} {t : TD} {pos p : Pos}
@[simp] def fMin (x : OT) (Q : OT → Prop) : Prop := x.isScr = false ∧ ∃ ns : List Int, x.er = .list (ns.map .int) ∧ 0 < ns.length ∧ ∀ m, m ∈ ns → (∀ y ∈ ns, m ≤ y) → Q (.leaf (.int m))
theorem ints_of {K : PySem.W.Frag} {H : Hp} : ∀ {ns : List Int} {vs : List V}, DDs K H vs (ns.map .int) → vs = ns.map V.int
  | [], _, h => by cases h; rfl
  | n :: ns, _, h => by
    cases h with
    | cons d t =>
      cases d
      rw [ints_of t]; rfl
theorem de_min (hc : X.calm = true) (hg : Gl X "min") (m : X.mg "min" = none) (hb : bootBuiltins "min" = some (.builtin "min")) (ha : DE X W fx a t) (hs : starEach [a] X.env = (false, eval a X.env) :: starEach [] X.env := by rfl) : DE X W fx (.Call (.Name "min" p) [a] [] pos) (tU fMin t) := by
  refine de_call1 (pe_callB (cr_min hc) hg m hb (pa_cons ha pa_nil hs) (he := hs)) fun A Z H1 x v Q Qd dm c ⟨nsc, ns, e, hl, q⟩ k => ?_
  obtain ⟨a, xs, rfl, h, t⟩ := c.list e
  have ex := ints_of t
  subst ex
  exact ⟨a, ns, rfl, hid_same.seq h, hl, fun m h1 h2 => k.leaf (.int m) (q m h1 h2)⟩
end
section
variable {K : PySem.W.Frag} {H : Hp}
theorem Owns.insLeaf {Hs : Hp} {v : V} {d : PyData} (dv : DD K Hs v d) : ∀ {vs : List V} {ts : List OT} {C : List Addr} (k : Nat), Owns K Hs H vs ts C → Owns K Hs H (vs.take k ++ [v] ++ vs.drop k) (ts.take k ++ [.leaf d] ++ ts.drop k) C
  | _, _, _, 0, o => .cons (A := []) rfl (.leaf dv) o
  | _, _, _, _ + 1, .nil => .cons (A := []) rfl (.leaf dv) .nil
  | _, _, _, k + 1, .cons n h o => .cons n h (Owns.insLeaf dv k o)
end
section
variable {X : Cx} {W : WX} {fx : List Nat} {e a : Expr} {t : TD} {tr : TDR} {pos p apos epos zpos : Pos} {i k jz : Nat}
@[simp] def tIns (i k : Nat) (tr : TDR) (t : TD) : TDS := fun D Γ => tr Γ (fun js => lstAt i js Γ fun tree ts => ts.length < sizeLine ∧ k < 1000 ∧ t Γ (fun r => r.isScr = false ∧ D.nx (Γ.set i (some (tree.put js (.node (ts.take k ++ [.leaf r.er] ++ ts.drop k)))))) fun c => D.ex c Γ) fun c => D.ex c Γ
theorem ds_ins (ha : DR X W fx i a tr) (he : DE X W fx e t) (hs : starEach [.Constant (.int (k : Nat)) jz zpos, e] X.env = (false, eval (.Constant (.int (k : Nat)) jz zpos) X.env) :: starEach [e] X.env := by rfl) (hs2 : starEach [e] X.env = (false, eval e X.env) :: starEach [] X.env := by rfl)
    (hbase : attributeBase a "insert" X.env (eval a X.env) = eval a X.env := by rfl)
    (hfew : ((backTo pos (starEach [.Constant (.int (k : Nat)) jz zpos, e] X.env)).all (fun x => !x.1) && (backToKw pos (keywordEach [] X.env)).all (fun x => x.1.isSome)
      && decide (([Expr.Constant (.int (k : Nat)) jz zpos, e]).length + ([] : List Keyword).length + (if ([] : List Keyword).isEmpty then 0 else 1) < 30)) = true := by rfl)
    (hline : (apos.endLine == pos.line) = true := by rfl) (hplain : (backTo pos (starEach [e] X.env)).any (·.1) = false := by rfl) (hsw : swapsWith (.Call (.Attribute a "insert" apos) [.Constant (.int (k : Nat)) jz zpos, e] [] pos) none epos.line X.env = pure false := by rfl) :
    DS X W fx (.Expr (.Call (.Attribute a "insert" apos) [.Constant (.int (k : Nat)) jz zpos, e] [] pos) epos) (tIns i k tr t) :=
  PS.imp (ps_expr (pe_bm PySem.F.plainAttrs_list PySem.F.slot_list_insert PySem.F.type_list_insert mt_insert ha (pa_cons pe_int (pa_cons he pa_nil hs2) hs) hbase hfew hline hs hplain) hsw) fun D σ H ⟨φ, A, Γ, Dd, rel, q, er⟩ => by
  refine ⟨φ, A, Γ, _, _, rel, q, fun js v H1 s1 ⟨root, hr, re⟩ ⟨tree, ts, e1, e2, hz, hk, q1⟩ => ?_, fun c H' s' q' => er.ex c σ H' A Γ (rel.mono s') q'⟩
  have rel1 := rel.mono s1
  obtain ⟨q', rfl⟩ := rel1.reach e1 e2 hr re
  obtain ⟨vs, Bs, g1, g2, _⟩ := rel1.change (Ns := []) rel1.env (fun _ h => by simp at h) e1 e2 hr re
  refine ⟨Or.inl ⟨rfl, _, Or.inl (Or.inl g1)⟩, ?_⟩
  refine ⟨φ, A, Γ, _, _, rel1, q1, fun r y H2 s2 r2 ⟨ns, q2⟩ => ?_, fun c H' s' q' => er.ex c σ H' A Γ (rel1.mono s') q'⟩
  have rel2 := rel1.mono s2
  have dv : DD X.K (hid (A ++ φ.Z) H2) y r.er := (r2.cv rel1.dom).dd ns
  obtain ⟨vs2, Bs2, c1, c2, c3, c4, c5, c6⟩ := rel2.change (Ns := []) rel2.env (fun _ h => by simp at h) e1 e2 hr (re.mono s2)
  rw [s2 _ _ g1] at c1; cases c1
  obtain ⟨A', r', _⟩ := c6 (vs.take k ++ [y] ++ vs.drop k) (ts.take k ++ [.leaf r.er] ++ ts.drop k) Bs2 (fun b hb => .inl hb) c4 ((Owns.insLeaf (show DD X.K (hid ([] ++ (A ++ φ.Z)) H2) y r.er from dv) k c3).mono (Same.refl _) fun a ha ob z => by
    rw [upd_ne fun y : a = q' => (List.nodup_cons.mp c4).1 (y ▸ ha)]; exact z)
  exact ⟨q', vs, (k : Int), y, rfl, rfl, s2 _ _ g1, by rw [c3.length]; exact hz, by omega, by omega, er.nx _ _ A' _ r' q2⟩
end
/-! ### a number in a tuple of numbers -/
theorem inV_ints (i : Int) : ∀ ns : List Int, inV (.int i) (ns.map V.int) = decide (i ∈ ns)
  | [] => by simp [inV]
  | n :: ns => by
    have ih := inV_ints i ns
    simp only [inV, List.map_cons, List.any_cons] at ih ⊢
    rw [ih]
    by_cases e : n = i
    · subst e; simp [eqV]
    · have e' : ¬ i = n := fun z => e z.symm
      simp [eqV, e, e']
theorem flat_ints : ∀ ns : List Int, (ns.map V.int).all flatV = true
  | [] => rfl
  | n :: ns => by rw [List.map_cons, List.all_cons, flat_ints ns]; rfl
section
variable {X : Cx} {W : WX} {fx : List Nat} {a b : Expr} {t u : TD} {pos : Pos} {k : Nat}
@[simp] def fNotInTI (x y : OT) (Q : OT → Prop) : Prop := ∃ i, x.er = .int i ∧ ∃ ns : List Int, y.er = .tuple (ns.map .int) ∧ Q (.leaf (.bool (!decide (i ∈ ns))))
theorem dt_notInT (hr : Room k X.A) (ha : DE X W fx a t) (hb : DE X W fx b u) (hm : behindInMarks .NotIn b = false := by rfl) : DT X W fx (.Compare a [.NotIn] [b] pos) (tTV (tB fNotInTI t u)) := dt_op (pt_cmpR op_notIn_seq ha hb hm) fun A Z H1 x y v u Q Qd dm c c' ⟨i, e, ns, e', q⟩ k => by
  have ev := c.int e
  subst ev
  obtain ⟨p, xs, rfl, h, t⟩ := c'.tup e'
  have ex := ints_of t
  subst ex
  refine ⟨p, _, rfl, .inr (sqT_mono hid_same h), rfl, flat_ints ns, ?_⟩
  rw [if_pos rfl, inV_ints]
  exact k.leaf (.bl _) q
end
/-! ### lists of ends -/
theorem ends_len {w : Web} {pr : Bool} {es : List (EndT × List Mv)} (few : Few w pr) (eo : EndsOf w pr es) : es.length < sizeLine := by
  have key : ∀ l : List (EndT × List Mv), (∀ e ∈ l, ∃ s, Walk w pr (st0 w) e.2 s ∧ overS w s = true ∧ endOf s = e.1) → ∃ L : List Sta, L.map endOf = l.map (·.1) ∧ ∀ s ∈ L, ∃ ms, Walk w pr (st0 w) ms s := fun l => by
    induction l with
    | nil => exact fun _ => ⟨[], rfl, fun s hs => by cases hs⟩
    | cons a l ih =>
      intro h
      obtain ⟨L, e1, e2⟩ := ih fun e he => h e (List.mem_cons_of_mem _ he)
      obtain ⟨s, W, _, es⟩ := h a List.mem_cons_self
      refine ⟨s :: L, by simp [e1, es], fun t ht => ?_⟩
      rcases List.mem_cons.mp ht with z | z
      · subst z; exact ⟨_, W⟩
      · exact e2 t z
  obtain ⟨L, e1, e2⟩ := key es eo.sound
  have nd : (es.map (·.1)).Nodup := List.nodup_iff_pairwise_ne.mpr (eo.rise.imp fun {a b} h e => by subst e; rw [ltE_irrefl] at h; cases h)
  rw [← e1] at nd
  have nL : L.Nodup := List.nodup_iff_pairwise_ne.mpr ((List.pairwise_map.mp (List.nodup_iff_pairwise_ne.mp nd)).imp fun h e => h (by rw [e]))
  have := few L nL e2
  have l := congrArg List.length e1
  simp at l
  omega
theorem ends_iff {w : Web} {pr : Bool} {es : List (EndT × List Mv)} (eo : EndsOf w pr es) (e : EndT) : e ∈ es.map (·.1) ↔ isEnd w pr e := by
  constructor
  · intro h
    obtain ⟨a, ha, rfl⟩ := List.mem_map.mp h
    obtain ⟨s, W, o, ee⟩ := eo.sound a ha
    exact ⟨_, s, W, o, ee⟩
  · rintro ⟨ms, s, W, o, rfl⟩
    exact eo.full ms s W o
theorem heads_ok {es : List (EndT × List Mv)} {i : Nat} {Γ : Ev} {Q' : OT → Prop} (fr : free1 i Γ) (hl : es.length ≤ sizeLine) (q : Q' (.node ((es.map (·.1)).map fun e => .leaf (endE e)))) : compInv (esD es) i tYesD (tB fIx (tName i) (tK (.int 0))) Γ Q' := by
  obtain ⟨o, eo, nn⟩ := fr
  have hi : i < Γ.length := (List.getElem?_eq_some_iff.mp eo).1
  refine compInv_idx (l := es) (fun e => .tuple [endE e.1, .list (e.2.map moveD)]) (fun e => .leaf (endE e.1)) ⟨o, eo, nn⟩ rfl hl (fun _ _ => rfl) (fun e he Q'' q'' => ?_) (by simpa [List.map_map, Function.comp_def] using q)
  have : (Γ.set i (some (OT.leaf (.tuple [endE e.1, .list (e.2.map moveD)]))))[i]? = some (some (OT.leaf (.tuple [endE e.1, .list (e.2.map moveD)]))) := by simp [hi]
  exact ⟨_, this, rfl, rfl, endE e.1, rfl, q''⟩
theorem copy_ok {w : Web} (h3 : w.length ≤ 3) {i : Nat} {Γ : Ev} {Q' : OT → Prop} (fr : free1 i Γ) (q : Q' (nodeW w)) : compInv (w.map encRow) i tYesD (tU fList (tName i)) Γ Q' := by
  obtain ⟨o, eo, nn⟩ := fr
  have hi : i < Γ.length := (List.getElem?_eq_some_iff.mp eo).1
  refine compInv_map copyD ⟨o, eo, nn⟩ ?_ (fun _ _ => rfl) (fun d hd Q'' q'' => ?_) ?_
  · exact Nat.le_of_lt (sizeLine_big (by simp; omega))
  · obtain ⟨r, _, rfl⟩ := List.mem_map.mp hd
    have : (Γ.set i (some (OT.leaf (encRow r))))[i]? = some (some (OT.leaf (encRow r))) := by simp [hi]
    refine ⟨.leaf (encRow r), this, rfl, ?_⟩
    simpa [encRow, copyD, stepsD] using q''
  · have eN : OT.node ((w.map encRow).map copyD) = nodeW w := by simp [nodeW_mk, copyD, encRow, stepsD, Function.comp_def]
    rw [eN]; exact q
theorem any_ends {l : List EndT} {e : EndT} : anyEqv (l.map endE) (endE e) = decide (e ∈ l) := by
  induction l with
  | nil => rfl
  | cons a l ih =>
    have : anyEqv ((a :: l).map endE) (endE e) = (PyData.eqv (endE a) (endE e) || anyEqv (l.map endE) (endE e)) := rfl
    rw [this, eqv_endE, ih]
    by_cases h : a = e
    · simp [h]
    · have h' : ¬ e = a := fun z => h z.symm
      simp [h, h']
theorem eqv_ends {l m : List EndT} : PyData.eqv (.list (l.map endE)) (.list (m.map endE)) = decide (l = m) := by
  have key : ∀ l m : List EndT, PyData.eqvAll (l.map endE) (m.map endE) = decide (l = m) := fun l => by
    induction l with
    | nil => intro m; cases m <;> simp [PyData.eqvAll]
    | cons a l ih =>
      intro m
      cases m with
      | nil => simp [PyData.eqvAll]
      | cons b m => simp [PyData.eqvAll, ih, eqv_endE]
  simpa [PyData.eqv] using key l m
end FW

set_option Elab.async false
set_option linter.all false
set_option maxRecDepth 100000
set_option maxHeartbeats 4000000
namespace FW
open PySem PySem.Spec PyProof.Rows L2
/-! ### fenced webs -/
theorem inD_places {l : List (Nat × Nat)} {i j : Nat} : inD (l.map encPlace) i j = decide ((i, j) ∈ l) := by
  unfold inD
  rw [in_places]
  simp
def fencedL (l : List (Nat × Nat)) (w : Web) : Web := fencedW (fun i j => decide ((i, j) ∈ l)) w
theorem fencedL_eq {l : List (Nat × Nat)} {w : Web} : fencedW (inD (l.map encPlace)) w = fencedL l w := by
  unfold fencedL
  congr 1
  funext i j
  exact inD_places
theorem insF_deeds {p : Nat → Bool} : ∀ (r : List Step) (i : Nat), ((insF p i r).filter deedS) = r.filter deedS
  | [], _ => rfl
  | s :: r, i => by
    rw [insF, List.filter_append, List.filter_cons, List.filter_cons, insF_deeds r (i + 1)]
    have : (if p i = true then [Step.fence] else []).filter deedS = [] := by split <;> rfl
    rw [this, List.nil_append]
theorem map_zipIdx_fst {α β γ : Type} (f : α → γ) (g : Nat → α → β) (h : β → γ) (e : ∀ i a, h (g i a) = f a) (l : List α) : (l.mapIdx g).map h = l.map f := by
  apply List.ext_getElem (by simp)
  intro i h1 h2
  simp [e]
theorem deeds_flat (w : Web) : deedsW w = (w.map fun r => (r.filter deedS).length).sum := by
  unfold deedsW
  induction w with
  | nil => rfl
  | cons a w ih => simp only [List.flatten_cons, List.filter_append, List.length_append, List.map_cons, List.sum_cons, ih]
theorem deeds_fenced {p : Nat → Nat → Bool} {w : Web} : deedsW (fencedW p w) = deedsW w := by
  rw [deeds_flat, deeds_flat]
  unfold fencedW
  rw [map_zipIdx_fst (f := fun r : List Step => (r.filter deedS).length)]
  intro i r
  rw [insF_deeds]
theorem sum_le {α : Type} {f g : α → Nat} : ∀ l : List α, (∀ a ∈ l, f a ≤ 2 * g a) → (l.map f).sum ≤ 2 * (l.map g).sum
  | [], _ => Nat.le_refl _
  | a :: l, h => by
    have := sum_le l fun b hb => h b (List.mem_cons_of_mem _ hb)
    have := h a List.mem_cons_self
    simp only [List.map_cons, List.sum_cons]; omega
theorem size_fenced {p : Nat → Nat → Bool} {w : Web} : sizeW (fencedW p w) ≤ 2 * sizeW w := by
  have key : ∀ (w : Web) (p : Nat → Nat → Bool), sizeW (w.mapIdx fun h r => insF (p h) 0 r) ≤ 2 * sizeW w := fun w => by
    induction w with
    | nil => intro p; exact Nat.le_refl _
    | cons a w ih =>
      intro p
      have := ih fun h => p (h + 1)
      have z := insF_len (p 0) a 0
      simp only [sizeW, List.mapIdx_cons, List.map_cons, List.sum_cons] at this ⊢
      omega
  exact key w p
theorem goodW_fenced {p : Nat → Nat → Bool} {w : Web} (g : goodW w) : goodW (fencedW p w) :=
  ⟨by simpa [fencedW] using g.1, by simpa [fencedW] using g.2.1, fenced_good g.2.2⟩
theorem few_webs {w : Web} (g : goodW w) (hN : sizeW w ≤ 22) (dd : deedsW w ≤ 5) (pr : Bool) : Few w pr :=
  few_of g.2.2 (Nat.le_trans (rows_le hN) (Nat.pow_le_pow_right (by decide) g.2.1)) dd deed5 (by decide) pr
theorem few_fenced {p : Nat → Nat → Bool} {w : Web} (g : goodW w) (hN : sizeW w ≤ 11) (dd : deedsW w ≤ 5) (pr : Bool) : Few (fencedW p w) pr :=
  few_webs (goodW_fenced g) (Nat.le_trans size_fenced (by omega)) (by rw [deeds_fenced]; exact dd) pr
theorem okWeb_fenced {p : Nat → Nat → Bool} {w : Web} (g : goodW w) (dd : deedsW w ≤ 5) : okWeb (encWeb (fencedW p w)) = true := okWeb_enc (goodW_fenced g) (by rw [deeds_fenced]; omega)
theorem small_fenced {p : Nat → Nat → Bool} {w : Web} (g : goodW w) (hN : sizeW w ≤ 11) : smallW (fencedW p w) := small_of (goodW_fenced g).2.1 (Nat.le_trans size_fenced (by omega))
theorem goodPs {w : Web} {l : List (Nat × Nat)} (h : ∀ p ∈ l, p ∈ placesW w) : (l.map encPlace).all (goodP w) = true := by
  simp only [List.all_map, List.all_eq_true]
  exact fun p hp => goodP_enc.mpr (h p hp)
/-- fenced at all its places a web has just its prompt ends -/
theorem ends_all {w : Web} (g : goodW w) (e : EndT) : isEnd (fencedL (placesW w) w) false e ↔ isEnd w true e := by
  have gw := g.2.2
  have gv : ∀ r ∈ fencedL (placesW w) w, ∀ st ∈ r, goodS st := fenced_good gw
  constructor
  · intro h
    exact end_sub gw gv SubW.fence (end_late gv (fenced_after fun q hq => by simpa using hq) h)
  · intro h
    exact prompt_end (end_prompt gw gv SubW.fence h)
theorem ends_prompt {p : Nat → Nat → Bool} {w : Web} (g : goodW w) (e : EndT) : isEnd (fencedW p w) true e ↔ isEnd w true e :=
  ⟨end_sub g.2.2 (fenced_good g.2.2) SubW.fence, end_prompt g.2.2 (fenced_good g.2.2) SubW.fence⟩
theorem heads_eq {v w : Web} {b c : Bool} {es fs : List (EndT × List Mv)} (h : ∀ e, isEnd v b e ↔ isEnd w c e) (eo : EndsOf v b es) (fo : EndsOf w c fs) : es.map (·.1) = fs.map (·.1) :=
  rise_uniq eo.rise fo.rise fun x => by rw [ends_iff eo, ends_iff fo]; exact h x
/-! ### calls, as the laws make them -/
theorem ends_at {w : Web} {pr : Bool} {CB : Value} {Q : OT → Prop} {E : Value → Prop} (g : goodW w) (hN : sizeW w ≤ 22) (dd : deedsW w ≤ 5) (q : ∀ es, EndsOf w pr es → es.length < sizeLine → Q (.node ((esD es).map .leaf))) : S_ends CB pr [.leaf (encWeb w)] Q E :=
  ⟨_, rfl, .inr ⟨w, rfl, okWeb_enc g (by omega), small_of g.2.1 (by omega), g.2.2, few_webs g hN dd pr, fun es eo => q es eo (ends_len (few_webs g hN dd pr) eo)⟩⟩
theorem places_at {w : Web} {CB : Value} {Q : OT → Prop} {E : Value → Prop} (g : goodW w) (hN : sizeW w ≤ 22) (dd : deedsW w ≤ 5) (q : Q (.node ((placesW w).map fun p => .leaf (encPlace p)))) : S_places CB [.leaf (encWeb w)] Q E :=
  ⟨_, rfl, .inr ⟨w, rfl, okWeb_enc g (by omega), small_of g.2.1 (by omega), q⟩⟩
theorem fenced_at {w : Web} {l : List (Nat × Nat)} {CB CN : Value} {Q : OT → Prop} {E : Value → Prop} {d : PyData} (hd : d = .list (l.map encPlace)) (g : goodW w) (hN : sizeW w ≤ 22) (dd : deedsW w ≤ 5) (hl : ∀ p ∈ l, p ∈ placesW w) (q : Q (nodeW (fencedL l w))) : S_fenced CB CN [.leaf (encWeb w), .leaf d] Q E := by
  subst hd
  refine ⟨_, _, rfl, .inr ⟨w, _, rfl, rfl, okWeb_enc g (by omega), small_of g.2.1 (by omega), ?_⟩⟩
  rw [if_pos (goodPs hl), fencedL_eq]
  exact q
def endsN (l : List EndT) : OT := .node (l.map fun e => .leaf (endE e))
theorem endsN_er {l : List EndT} : (endsN l).er = .list (l.map endE) := by
  show PyData.list (OT.ers _) = _
  rw [ers_map, List.map_map]; rfl
@[simp high] theorem endsN_vw {l : List EndT} : vw (endsN l) = .leaf (.list (l.map endE)) := by
  show OT.leaf (endsN l).er = _
  rw [endsN_er]
@[simp high] theorem endsN_isScr {l : List EndT} : (endsN l).isScr = false := rfl
theorem heads_at {es : List (EndT × List Mv)} {i : Nat} {Γ : Ev} {Q' : OT → Prop} (hl : es.length < sizeLine) (q : Q' (endsN (es.map (·.1)))) (fr : free1 i Γ) : ∃ ds, srcL (.node ((esD es).map .leaf)) = some ds ∧ compInv ds i tYesD (tB fIx (tName i) (tK (.int 0))) Γ Q' :=
  ⟨esD es, congrArg some (ers_leaf _), heads_ok fr (Nat.le_of_lt hl) q⟩
theorem eqOk_ends {l m : List EndT} : eqOk (.list (l.map endE)) (.list (m.map endE)) = true := by
  show (okd _ && okd _) = true
  rw [okd_ends, okd_ends]; rfl
end FW

set_option Elab.async false
set_option linter.all false
set_option maxRecDepth 100000
set_option maxHeartbeats 4000000
namespace FW
open PySem PySem.Spec PyProof.Rows L2
/-! ### which fences are kept -/
def LateOf (v : Web) (B : List EndT) (ms : List Mv) : Prop := ∃ s, Walk v false (st0 v) ms s ∧ overS v s = true ∧ endOf s ∉ B
def S_late_weaving : SD := fun rs Q _ => ∃ w l B, rs = [.leaf (encWeb w), .leaf (.list (l.map encPlace)), .leaf (.list (B.map endE))] ∧ goodW w ∧ sizeW w ≤ 11 ∧ deedsW w ≤ 5 ∧
  ((∀ ms, ¬ LateOf (fencedL l w) B ms) → Q (.leaf .none)) ∧ ∀ ms, LateOf (fencedL l w) B ms → Q (.leaf (.list (ms.map moveD)))
def freeW (w : Web) (l : List (Nat × Nat)) : Prop := ∀ e, isEnd (fencedL l w) false e → isEnd w true e
def without (p : Nat × Nat) (l : List (Nat × Nat)) : List (Nat × Nat) := l.filter fun q => !decide (q = p)
open Classical in
noncomputable def keepW (w : Web) (kept : List (Nat × Nat)) (p : Nat × Nat) : List (Nat × Nat) := if freeW w (without p kept) then without p kept else kept
noncomputable def keptTo (w : Web) (ps : List (Nat × Nat)) : List (Nat × Nat) := ps.foldl (keepW w) (placesW w)
noncomputable def keptW (w : Web) : List (Nat × Nat) := keptTo w (placesW w)
theorem free_late {w : Web} {l : List (Nat × Nat)} {B : List EndT} (hB : ∀ e, e ∈ B ↔ isEnd w true e) : freeW w l ↔ ∀ ms, ¬ LateOf (fencedL l w) B ms := by
  constructor
  · rintro h ms ⟨s, W, o, n⟩
    exact n ((hB _).mpr (h _ ⟨ms, s, W, o, rfl⟩))
  · rintro h e ⟨ms, s, W, o, rfl⟩
    refine Classical.byContradiction fun n => h ms ⟨s, W, o, fun m => n ((hB _).mp m)⟩
theorem without_sub {p : Nat × Nat} {l : List (Nat × Nat)} : (without p l).Sublist l := List.filter_sublist
theorem keepW_sub {w : Web} {l : List (Nat × Nat)} {p : Nat × Nat} : (keepW w l p).Sublist l := by
  unfold keepW
  split
  · exact without_sub
  · exact List.Sublist.refl _
theorem keptTo_snoc {w : Web} {ps : List (Nat × Nat)} {p : Nat × Nat} : keptTo w (ps ++ [p]) = keepW w (keptTo w ps) p := by simp [keptTo]
theorem fold_sub {w : Web} : ∀ (ps l : List (Nat × Nat)), (ps.foldl (keepW w) l).Sublist l
  | [], l => List.Sublist.refl _
  | p :: ps, l => (fold_sub ps (keepW w l p)).trans keepW_sub
theorem keptTo_sub {w : Web} (ps : List (Nat × Nat)) : (keptTo w ps).Sublist (placesW w) := fold_sub ps _
theorem free_places {w : Web} (g : goodW w) : freeW w (placesW w) := fun e h => (ends_all g e).mp h
theorem fold_free {w : Web} : ∀ (ps l : List (Nat × Nat)), freeW w l → freeW w (ps.foldl (keepW w) l)
  | [], l, h => h
  | p :: ps, l, h => fold_free ps _ (by
    unfold keepW
    split
    · assumption
    · exact h)
theorem kept_free {w : Web} (g : goodW w) : freeW w (keptW w) := fold_free _ _ (free_places g)
theorem free_more {w : Web} (g : goodW w) {l m : List (Nat × Nat)} (s : ∀ p ∈ l, p ∈ m) (h : freeW w l) : freeW w m := fun e he =>
  h e (end_sub (fenced_good g.2.2) (fenced_good g.2.2) (SubW.fenced fun i j hp => by simpa using s _ (by simpa using hp)) he)
theorem fold_late {w : Web} (g : goodW w) {q : Nat × Nat} : ∀ (ps l : List (Nat × Nat)), q ∈ ps → q ∈ ps.foldl (keepW w) l → ¬ freeW w (without q (ps.foldl (keepW w) l))
  | p :: ps, l, h1, h2 => by
    by_cases e : q = p
    · subst e
      intro h
      have s := fold_sub (w := w) ps (keepW w l q)
      have hq := s.subset h2
      unfold keepW at hq
      split at hq
      · simp [without] at hq
      · rename_i n
        refine n (free_more g (fun r hr => ?_) h)
        have z : r ∈ without q ((q :: ps).foldl (keepW w) l) := hr
        simp only [without, List.mem_filter] at z ⊢
        exact ⟨(fold_sub (w := w) (q :: ps) l).subset z.1, z.2⟩
    · rcases List.mem_cons.mp h1 with z | z
      · exact absurd z e
      · exact fold_late g ps _ z h2
theorem kept_late {w : Web} (g : goodW w) {q : Nat × Nat} (h : q ∈ keptW w) : ¬ freeW w (without q (keptW w)) := fold_late g _ _ ((keptTo_sub _).subset h) h
/-- places with a weaving each that shows why -/
structure Shown (w : Web) (prs : List ((Nat × Nat) × List Mv)) : Prop where
  pl : prs.map (·.1) = keptW w
  late : ∀ q ∈ prs, ∃ s, Walk (fencedL (without q.1 (keptW w)) w) false (st0 (fencedL (without q.1 (keptW w)) w)) q.2 s ∧ overS (fencedL (without q.1 (keptW w)) w) s = true ∧ ¬ isEnd w true (endOf s)
def shownD (q : (Nat × Nat) × List Mv) : PyData := .tuple [encPlace q.1, .list (q.2.map moveD)]
def S_fences (CB : Value) : SD := fun rs Q E => ∃ d, rs = [.leaf d] ∧ ((okWeb d = false ∧ E CB) ∨ ∃ w, d = encWeb w ∧ goodW w ∧ sizeW w ≤ 11 ∧ deedsW w ≤ 5 ∧ ∀ prs, Shown w prs → Q (.node (prs.map fun q => .leaf (shownD q))))
theorem eqv_place {p q : Nat × Nat} : PyData.eqv (encPlace p) (encPlace q) = decide (p = q) := by
  by_cases e : p = q
  · subst e; simp [encPlace, PyData.eqv, PyData.eqvAll]
  · have : ¬ (p.1 = q.1 ∧ p.2 = q.2) := fun z => e (Prod.ext z.1 z.2)
    simp [encPlace, PyData.eqv, PyData.eqvAll, e]
    intro h1 h2
    exact this ⟨by omega, by omega⟩
theorem okd_place {p : Nat × Nat} : okd (encPlace p) = true := okd_pl (n := 1) pl_place
theorem eqOk_place {p q : Nat × Nat} : eqOk (encPlace p) (encPlace q) = true := by
  show (okd (encPlace p) && okd (encPlace q)) = true
  rw [okd_place, okd_place]; rfl
theorem without_data {p : Nat × Nat} {l : List (Nat × Nat)} : ((l.map encPlace).filter fun d => !PyData.eqv d (encPlace p)) = (without p l).map encPlace := by
  rw [List.filter_map]
  unfold without
  congr 1
  apply List.filter_congr
  intro q _
  simp [eqv_place]
theorem places_size {w : Web} (g : goodW w) (hN : sizeW w ≤ 22) : (placesW w).length ≤ 3000 := Nat.le_trans (places_len (small_of g.2.1 (by omega)) _) (by have := g.2.1; omega)
theorem ers_places (l : List (Nat × Nat)) : OT.ers (l.map fun p => .leaf (encPlace p)) = l.map encPlace := by
  rw [ers_map, List.map_map]; rfl
/-! ### the pairs of no prompt end -/
def lateP (B : List EndT) : PyData → Bool
  | .tuple (e :: _) => !anyEqv (B.map endE) e
  | _ => false
theorem lateP_es {B : List EndT} {a : EndT × List Mv} : lateP B (.tuple [endE a.1, .list (a.2.map moveD)]) = !decide (a.1 ∈ B) := by
  show (!anyEqv _ _) = _
  rw [any_ends]
theorem lateP_eqOk {B : List EndT} {fs : List (EndT × List Mv)} : eqOk (.list ((esD fs).filter (lateP B))) (.list []) = true := by
  have h : okd (.list ((esD fs).filter (lateP B))) = true := okd_pl (n := 5) (by
    simp only [pl, pls_iff]
    intro d hd
    obtain ⟨p, _, rfl⟩ := List.mem_map.mp (show d ∈ fs.map _ from (List.mem_filter.mp hd).1)
    exact pl_esp)
  show (okd _ && okd _) = true
  rw [h]; rfl
open Classical in
theorem lateP_nil {B : List EndT} {fs : List (EndT × List Mv)} : PyData.eqv (.list ((esD fs).filter (lateP B))) (.list []) = decide (∀ a ∈ fs, a.1 ∈ B) := by
  have h : (esD fs).filter (lateP B) = [] ↔ ∀ a ∈ fs, a.1 ∈ B := by
    rw [List.filter_eq_nil_iff]
    constructor
    · intro h a ha
      have := h _ (List.mem_map.mpr ⟨a, ha, rfl⟩)
      rw [lateP_es] at this
      simpa using this
    · intro h d hd
      obtain ⟨a, ha, rfl⟩ := List.mem_map.mp hd
      rw [lateP_es]
      simpa using h a ha
  cases z : (esD fs).filter (lateP B) with
  | nil => rw [decide_eq_true (h.mp z)]; rfl
  | cons x y => rw [decide_eq_false fun q => by rw [h.mpr q] at z; cases z]; rfl
theorem lateP_free {w : Web} {l : List (Nat × Nat)} {B : List EndT} {fs : List (EndT × List Mv)} (hB : ∀ e, e ∈ B ↔ isEnd w true e) (fo : EndsOf (fencedL l w) false fs) : (∀ a ∈ fs, a.1 ∈ B) ↔ freeW w l := by
  have iF := ends_iff fo
  constructor
  · intro h e he
    obtain ⟨a, ha, ee⟩ := List.mem_map.mp ((iF e).mpr he)
    rw [← ee]; exact (hB _).mp (h a ha)
  · intro h a ha
    exact (hB _).mpr (h _ ((iF _).mp (List.mem_map.mpr ⟨a, ha, rfl⟩)))
end FW

set_option Elab.async false
set_option linter.all false
set_option maxRecDepth 100000
set_option maxHeartbeats 4000000
namespace FW
open PySem PySem.Spec PyProof.Rows L2
/-! ### < of data -/
def rLtD (K : PySem.W.Frag) : R2 := fun x y H Q => ∃ d e, Dp K H x d ∧ Dp K H y e ∧ PySem.W.alike d e = true ∧ d ≠ .none ∧ d.depth ≤ 64 ∧ Q (.bl (PySem.W.dataLt d e)) H
section
variable {X : Cx}
theorem op_ltD (hu : X.A.units + 64 < cLine) : OpR X (compareOp .Lt) (rLtD X.K) := by
  intro pins s σ H x y v u Q I rx ry h
  obtain ⟨d, e, hd, he, al, nn, dp, q⟩ := h
  obtain ⟨as, r1⟩ := Dp.reads I d x v hd rx
  obtain ⟨bs, r2⟩ := Dp.reads I e y u he ry
  exact PySem.W.lt_data r1 r2 al nn (by omega) ⟨.bl _, H, I, rfl, q⟩
end
section
variable {X : Cx} {W : WX} {fx : List Nat} {a b : Expr} {t u : TD} {pos : Pos} {k : Nat}
@[simp] def fLtD (x y : OT) (Q : OT → Prop) : Prop := x.isScr = false ∧ y.isScr = false ∧ okd x.er = true ∧ okd y.er = true ∧ PySem.W.alike x.er y.er = true ∧ x.er ≠ .none ∧ x.er.depth ≤ 64 ∧ Q (.leaf (.bool (PySem.W.dataLt x.er y.er)))
theorem u_ltD {K : PySem.W.Frag} : U2 K (rLtD K) fLtD := by
  intro A Z H1 x y v u Q Qd dm c c' ⟨n, n', o, o', al, nn, dp, q⟩ k
  have c1 := (c.dd n).mono hid_same
  have c2 := (c'.dd n').mono hid_same
  have o := Bool.and_eq_true_iff.mp o
  have o' := Bool.and_eq_true_iff.mp o'
  exact ⟨_, _, c1.dp o.1, c2.dp o'.1, al, nn, dp, k.leaf (.bl _) q⟩
theorem dt_ltD {k : Nat} (hr : Room k X.A) (ha : DE X W fx a t) (hb : DE X W fx b u) : DT X W fx (.Compare a [.Lt] [b] pos) (tTV (tB fLtD t u)) := dt_op (pt_cmpR (op_ltD hr.units) ha hb (nomark _)) u_ltD
end
/-! ### places rise -/
def ltP (p q : Nat × Nat) : Prop := p.1 < q.1 ∨ (p.1 = q.1 ∧ p.2 < q.2)
theorem lt_place {p q : Nat × Nat} (h : ltP p q) : PySem.W.dataLt (encPlace p) (encPlace q) = true := by
  obtain ⟨a, b⟩ := p
  obtain ⟨c, d⟩ := q
  simp only [ltP] at h
  simp [PySem.W.dataLt, encPlace, PySem.W.keyToks, PySem.W.keyToksAll, PyProof.Rows.lexLt, PyProof.Rows.itemOrd, PyProof.Rows.itemLt]
  omega
theorem alike_place {p q : Nat × Nat} : PySem.W.alike (encPlace p) (encPlace q) = true := rfl
theorem depth_place {p : Nat × Nat} : (encPlace p).depth ≤ 64 := by
  simp [encPlace, PyData.depth, PyData.depthAll]
theorem place_pos {w : Web} {p : Nat × Nat} (h : p ∈ placesW w) : ltP (0, 0) p := by
  obtain ⟨i, hi, hm⟩ := List.mem_flatMap.mp h
  obtain ⟨k, hk, e⟩ := List.mem_map.mp hm
  cases e
  simp only [ltP]
  omega
theorem row_rise {w : Web} (i : Nat) : (rowPlaces w i).Pairwise ltP := by
  unfold rowPlaces
  rw [List.pairwise_map]
  exact List.Pairwise.imp (fun {a b} h => .inr ⟨rfl, by simp; exact h⟩) List.pairwise_lt_range
theorem places_rise (w : Web) : (placesW w).Pairwise ltP := by
  unfold placesW
  rw [List.pairwise_flatMap]
  refine ⟨fun i _ => row_rise i, List.Pairwise.imp (fun {a b} h x hx y hy => ?_) List.pairwise_lt_range⟩
  obtain ⟨k, _, rfl⟩ := List.mem_map.mp hx
  obtain ⟨j, _, rfl⟩ := List.mem_map.mp hy
  exact .inl h
theorem kept_rise (w : Web) : (keptW w).Pairwise ltP := (places_rise w).sublist (keptTo_sub _)
end FW

set_option Elab.async false
set_option linter.all false
set_option maxRecDepth 100000
set_option maxHeartbeats 4000000
namespace FW
open PySem PySem.Spec PyProof.Rows L2
/-! ### xs[a:] = ys, of another list -/
section
variable {prog : Program} {w : World} {A : Around} {E : Value → Shared → Prop} {s : Shared}
theorem bounds_tail {a n : Nat} (h : a ≤ n) : sliceBounds (some (a : Int)) none none n = ((a : Int), (n : Int), 1) := by
  simp only [sliceBounds, Option.getD_none]
  have h1 : ¬ ((a : Int) < 0) := by omega
  simp only [h1, if_false, show (1 : Int) > 0 by decide, if_true]
  congr 1
  omega
theorem setItem_tail {l b sl : Addr} {items new : Array Value} {n n2 : Nat} {vl : Value} {a : Nat} {Q : Unit → Shared → Prop}
    (e : s.heap.get? l = some { cls := .type "list", data := .seq items n }) (e2 : s.heap.get? b = some { cls := .type "list", data := .seq new n2 }) (hne : l ≠ b)
    (hs : s.heap.IsSliceOf sl vl .none .none) (pl : IsPart vl (some (a : Int))) (hac : a ≤ items.size)
    (hsz : items.size + new.size ≤ sizeLine) (h : Q () { s with heap := s.heap.update l (Obj.mapSeq fun xs => xs.extract 0 a ++ new ++ xs.extract items.size xs.size) }) :
    wpAny (model prog w) A (setItem (.ref l) (.ref sl) (.ref b)) Q E s := by
  have hl : s.heap.IsList l items := PySem.IsL.isList e
  have hb : s.heap.IsList b new := PySem.IsL.isList e2
  obtain ⟨os, hos, hcs, hds⟩ := id hs
  have hTs : s.TypeIs (.ref sl) "slice" := ⟨os, hos, hcs⟩
  have hstep : ¬ ((rawPart none == rawInt 0) = true) := Bool.false_ne_true
  have hsame : Builtin.List.listSameRef (.ref l) (.ref b) = false := by
    unfold Builtin.List.listSameRef
    exact beq_eq_false_iff_ne.mpr hne
  have hmax : (max (a : Int) (items.size : Int)).toNat = items.size := by omega
  have hz' : ((fun xs : Array Value => xs.extract 0 a ++ new ++ xs.extract items.size xs.size) items).size ≤ sizeLine + 1 := by
    simp only [Array.size_append, Array.size_extract]
    omega
  unfold setItem
  try with_reducible refine wpAny_holding ?_
  first | refine wpAny_bind (wpAny_pure ?_) | skip
  refine wpAny_bind (wpAny_sequenceKey hl.typeIs (by decide) ?_)
  refine wpAny_bind (wpAny_callSpecial?_slot (name := Str.ofString "__setitem__") hl.typeIs slot_list_setitem
    (wpAny_call_entry slot_list_setitem hl.typeIs entry_list_setitem ?_ (args_list_setitem _ _ _)))
  show wpAny _ _ (Builtin.List.listSubscript? (.ref sl) >>= _) _ _ s
  refine wpAny_bind ?_
  unfold Builtin.List.listSubscript?
  refine wpAny_bind (wpAny_specialOf hTs slice_no_index ?_)
  simp only [Option.isNone_none, if_true]
  refine wpAny_pure ?_
  show wpAny _ _ (typeOf (.ref sl) >>= _) _ _ s
  refine wpAny_bind (wpAny_typeOf hTs ?_)
  first
    | rw [if_neg (by decide)]
    | refine PySem.W.KFB.if_not (by decide) ?_
  rw [listSliceParts_eq]
  refine wpAny_bind (wpAny_bind (wpAny_field hos hds (x := .none) rfl (wpAny_bind (wpAny_listPart .none ?_))))
  rw [if_neg hstep]
  refine wpAny_bind (wpAny_field hos hds (x := vl) rfl (wpAny_bind (wpAny_listPart pl ?_)))
  refine wpAny_bind (wpAny_field hos hds (x := .none) rfl (wpAny_bind (wpAny_listPart .none (wpAny_pure ?_))))
  first
    | simp only [hsame, Bool.false_eq_true, if_false]
    | refine PySem.W.KFB.if_not hsame ?_
    | (dsimp only
       rw [if_neg (by rw [hsame]; exact Bool.false_ne_true)])
  refine wpAny_bind (m := Builtin.List.listAllItems (.ref b) "must assign iterable to extended slice") ?_
  unfold Builtin.List.listAllItems
  refine wpAny_bind (wpAny_typeOf hb.typeIs ?_)
  first
    | refine PySem.W.KFB.if_so (by decide) ?_
    | rw [if_pos (by decide)]
    | simp only [beq_self_eq_true, Bool.true_or, if_true]
  unfold Builtin.List.listItems
  refine wpAny_bind (wpAny_seqItems e2 rfl (wpAny_pure ?_))
  refine wpAny_bind (wpAny_bind (wpAny_seqItems e rfl (wpAny_pure ?_)))
  refine wpAny_bind (wpAny_of_eq ((sliceIndices_raw (some (a : Int)) none none items.size (by simp)).trans (congrArg (pure : Int × Int × Int → Sem (Int × Int × Int)) (bounds_tail hac))) ?_)
  show wpAny _ _ (if ((1 : Int) == 1) = true then _ else _) _ _ s
  rw [if_pos (by decide)]
  refine wpAny_bind (wpAny_rule ?_)
  first
    | simp only [notLongL hsz, Bool.false_eq_true, if_false]
    | refine PySem.W.KFB.if_not (notLongL hsz) ?_
  first | refine wpAny_bind (wpAny_pure ?_) | skip
  show wpAny _ _ (updateSeq l (fun xs => xs.extract 0 ((a : Int)).toNat ++ new ++ xs.extract (max (a : Int) (items.size : Int)).toNat xs.size) >>= _) _ _ s
  rw [hmax, Int.toNat_natCast]
  refine wpAny_bind (wpAny_updateSeq (hz := Nat.le_trans (Nat.le_add_right _ _) hsz) (_hz' := hz') e rfl ?_)
  refine wpAny_bind (wpAny_letGo ?_)
  first
    | exact wpAny_bind (wpAny_pure (wpAny_pure ⟨.none, rfl, wpAny_pure h⟩))
    | exact wpAny_pure ⟨.none, rfl, wpAny_pure h⟩
end
section
variable {X : Cx}
theorem set_tail {pins : List (Addr × Obj)} {s : Shared} {σ : L2.St} {H : Hp} {l b sl : Addr} {xs ys : List V} {a : Nat} {vl : Value} {Q : Unit → Shared → Prop} (I : Inv X pins σ H s)
    (hH : H l = some (.lst xs)) (hB : H b = some (.lst ys)) (hne : l ≠ b) (hs : s.heap.IsSliceOf sl vl .none .none) (pl : IsPart vl (some (a : Int))) (hac : a ≤ xs.length)
    (hz : xs.length + ys.length ≤ sizeLine) (h : ∀ s', Inv X pins σ (upd H l (.lst (xs.take a ++ ys))) s' → Q () s') :
    wpAny (model X.prog X.w) X.A (setItem (.ref l) (.ref sl) (.ref b)) Q X.xe s := by
  obtain ⟨z, its, n, r, hl, e⟩ := I.lstM hH
  obtain ⟨z2, its2, n2, r2, hl2, e2⟩ := I.lstM hB
  refine setItem_tail (a := a) e e2 hne hs pl (by rw [List.size_toArray]; omega) (by rw [List.size_toArray, List.size_toArray]; omega) (h _ ?_)
  refine I.lset (its' := its.take a ++ its2) (t' := s.toks) hH e ?_ (Vals.append (r.take _) r2) ?_
  · have := splice_eq its its2 a its.toArray.size
    have d : its.drop its.toArray.size = [] := by simp
    rw [d, List.append_nil] at this
    exact this
  · rw [List.length_append, List.length_take]
    omega
/-- o[lo:] = .. -/
def gTail (to : TE) (a : Nat) : TG := fun v σ H Q => to σ H fun o H1 => ∃ p b xs ys, o = .ref p ∧ v = .ref b ∧ H1 p = some (.lst xs) ∧ H1 b = some (.lst ys) ∧ p ≠ b ∧ a ≤ xs.length ∧ xs.length + ys.length ≤ sizeLine ∧ Q σ (upd H1 p (.lst (xs.take a ++ ys)))
theorem pg_tail {o : Expr} {to : TE} {a jz : Nat} {zpos p2 pos : Pos} (ho : PE X o to)
    (ha : ∀ v, assign (.Subscript o (.Slice (some (.Constant (.int (a : Nat)) jz zpos)) none none p2) pos) X.env v = (do
      let ov ← holding [v] (eval o X.env)
      let iv ← holding [v, ov] (eval (.Slice (some (.Constant (.int (a : Nat)) jz zpos)) none none p2) X.env)
      standAt pos
      holding [v, ov, iv] (setItem ov iv v)
      release [iv, v, ov] []) := by intro _; rfl) : PG X (.Subscript o (.Slice (some (.Constant (.int (a : Nat)) jz zpos)) none none p2) pos) (gTail to a) := by
  refine ⟨fun pins s σ H v u Q I r h => ?_⟩
  rw [ha]
  refine wpAny_bind (wpAny_holding (thn (ho.run pins s σ H _ I h) fun ov s1 ⟨x, H1, I1, r1, p, b, xs, ys, e1, e2, h1, h2, hne, hac, hz, q1⟩ => ?_))
  subst e1 e2
  cases r1
  cases r
  refine wpAny_bind (wpAny_holding ?_)
  refine wpAny_Slice (thn ((po_some (pe_int (X := X))).run pins s1 σ H1 (fun l H2 => l = some (a : Int) ∧ H2 = H1) I1 ⟨_, rfl, rfl, rfl⟩) fun vl s2 ⟨l, H2, I2, pl, el, eH⟩ => ?_)
  subst el eH
  rw [evalPart_none]
  refine wpAny_pure (wpAny_pure ?_)
  have I4 : Inv X pins σ H2 { s2 with heap := s2.heap.push { cls := .type "slice", data := .fields #[vl, .none, .none] } } := I2.kept (t' := s2.toks) fun b ob q => Heap.get?_push_of_some _ q
  refine wpAny_bind (wpAny_standAt (wpAny_bind (wpAny_holding (set_tail I4 h1 h2 hne (Heap.IsSliceOf.new ..) pl hac hz fun s3 I3 => ?_))))
  exact wpAny_release ⟨σ, _, I3, q1⟩
end
section
variable {K : PySem.W.Frag} {H : Hp}
theorem Owns.leafs {Hs : Hp} : ∀ {ws : List V} {ds : List PyData}, DDs K Hs ws ds → Owns K Hs H ws (ds.map .leaf) []
  | [], _, h => by cases h; exact .nil
  | w :: ws, _, h => by
    cases h with
    | cons d t => exact .cons (A := []) rfl (.leaf d) (Owns.leafs t)
theorem Owns.takeApp {Hs : Hp} {ws : List V} {ds : List PyData} (hd : DDs K Hs ws ds) : ∀ {vs : List V} {ts : List OT} {C : List Addr} (k : Nat), Owns K Hs H vs ts C → ∃ C', Owns K Hs H (vs.take k ++ ws) (ts.take k ++ ds.map .leaf) C' ∧ C'.Sublist C
  | _, _, C, 0, o => ⟨[], by simpa using Owns.leafs hd, List.nil_sublist _⟩
  | _, _, _, _ + 1, .nil => ⟨[], by simpa using Owns.leafs hd, List.nil_sublist _⟩
  | _, _, _, k + 1, .cons n h o => by
    obtain ⟨C', o', s⟩ := Owns.takeApp hd k o
    exact ⟨_, .cons n h o', List.Sublist.append_left s _⟩
end
section
variable {X : Cx} {W : WX} {fx : List Nat} {o v : Expr} {t : TD} {tr : TDR} {zpos p2 pos spos : Pos} {i a jz : Nat}
@[simp] def tSetTl (i a : Nat) (tr : TDR) (t : TD) : TDS := fun D Γ => t Γ (fun r => r.isScr = false ∧ ∃ ds, r.er = .list ds ∧ tr Γ (fun js => lstAt i js Γ fun tree ts => a ≤ ts.length ∧ ts.length + ds.length ≤ sizeLine ∧ D.nx (Γ.set i (some (tree.put js (.node (ts.take a ++ ds.map .leaf)))))) fun c => D.ex c Γ) fun c => D.ex c Γ
theorem ds_setTl (ha : DR X W fx i o tr) (hv : DE X W fx v t)
    (hg : ∀ w, assign (.Subscript o (.Slice (some (.Constant (.int (a : Nat)) jz zpos)) none none p2) pos) X.env w = (do
      let ov ← holding [w] (eval o X.env)
      let iv ← holding [w, ov] (eval (.Slice (some (.Constant (.int (a : Nat)) jz zpos)) none none p2) X.env)
      standAt pos
      holding [w, ov, iv] (setItem ov iv w)
      release [iv, w, ov] []) := by intro _; rfl)
    (hs : swapsWithSole [.Subscript o (.Slice (some (.Constant (.int (a : Nat)) jz zpos)) none none p2) pos] v spos.line X.env = pure false := by rfl) (hw : swappedStores [.Subscript o (.Slice (some (.Constant (.int (a : Nat)) jz zpos)) none none p2) pos] v X.env = pure none := by rfl)
    (h1 : (assignEach [.Subscript o (.Slice (some (.Constant (.int (a : Nat)) jz zpos)) none none p2) pos] X.env).map (·.2) = [assign (.Subscript o (.Slice (some (.Constant (.int (a : Nat)) jz zpos)) none none p2) pos) X.env] := by rfl) :
    DS X W fx (.Assign [.Subscript o (.Slice (some (.Constant (.int (a : Nat)) jz zpos)) none none p2) pos] v spos) (tSetTl i a tr t) :=
  PS.imp (ps_asg hv (pg_tail ha hg) hs hw h1) fun D σ H ⟨φ, A, Γ, Dd, rel, q, er⟩ => by
  refine ⟨φ, A, Γ, _, _, rel, q, fun r v H1 s1 res ⟨ns, ds, ed, q1⟩ => ?_, fun c H' s' q' => er.ex c σ H' A Γ (rel.mono s') q'⟩
  have rel1 := rel.mono s1
  have d1 : DD X.K (hid (A ++ φ.Z) H1) v r.er := (res.cv rel.dom).dd ns
  refine ⟨φ, A, Γ, _, _, rel1, q1, fun js v2 H2 s2 ⟨root, hr, re⟩ ⟨tree, ts, e1, e2, hz1, hz2, q2⟩ => ?_, fun c H' s' q' => er.ex c σ H' A Γ (rel1.mono s') q'⟩
  have rel2 := rel1.mono s2
  obtain ⟨q', rfl⟩ := rel2.reach e1 e2 hr re
  have d2 : DD X.K (hid (A ++ φ.Z) H2) v r.er := d1.mono (hid_mono s2)
  rw [ed] at d2
  obtain ⟨vs2, Bs2, c1, c2, c3, c4, c5, c6⟩ := rel2.change (Ns := []) rel2.env (fun _ h => by simp at h) e1 e2 hr re
  cases d2 with
  | @lst b ws _ hb td =>
    obtain ⟨C', o', sl⟩ := Owns.takeApp (show DDs X.K (hid ([] ++ (A ++ φ.Z)) H2) ws ds from td) a c3
    have nd := List.nodup_cons.mp c4
    obtain ⟨A', r', _⟩ := c6 (vs2.take a ++ ws) (ts.take a ++ ds.map .leaf) C' (fun b hb => .inl (sl.subset hb)) (List.nodup_cons.mpr ⟨fun z => nd.1 (sl.subset z), nd.2.sublist sl⟩) (o'.mono (Same.refl _) fun x hx ob z => by
      rw [upd_ne fun y : x = q' => nd.1 (y ▸ sl.subset hx)]; exact z)
    have hb2 : H2 b = some (.lst ws) ∧ b ∉ A ++ φ.Z := by
      unfold hid at hb
      split at hb
      · cases hb
      · rename_i z
        exact ⟨hb, by simpa using z⟩
    have lw := td.length
    refine ⟨q', b, vs2, ws, rfl, rfl, c1, hb2.1, fun z => hb2.2 (z ▸ List.mem_append_left _ c2), by rw [c3.length]; exact hz1, by rw [c3.length, lw]; exact hz2, er.nx _ _ A' _ r' q2⟩
end
end FW

set_option Elab.async false
set_option linter.all false
set_option maxRecDepth 100000
set_option maxHeartbeats 4000000
namespace FW
open PySem PySem.Spec PyProof.Rows L2
/-! ### an exception goes out of a comprehension's block -/
theorem takesN {X : Cx} {W : WX} (tk : L2.Takes X W) : L2N.Takes X W := fun u s' ⟨a, B, sI, pins, σ, H, cls, d, e, I, nb, up, sky, na, os, ag, w⟩ => tk u s' ⟨a, B, sI, pins, σ, H, cls, d, e, I, nb, up, by
  have tr : ∀ {h : Heap} {fl : Value}, HandSPX.TracedZ h B a (L2N.Zn cls d) fl → HandSPX.TracedZ h B a (Zc cls d) fl := fun ⟨oe, vs, T, oT, ts, he, hz, r⟩ => ⟨oe, vs, T, oT, ts, he, hz.zc, r⟩
  rcases sky with ⟨h1, h2, h3, oe, vs, h4, h5, h6⟩ | ⟨h1, h2, h3, h4⟩ | ⟨h1, h2, h3, h4⟩
  · exact .inl ⟨h1, h2, h3, oe, vs, h4, h5.zc, h6⟩
  · exact .inr (.inl ⟨h1, h2, h3, tr h4⟩)
  · exact .inr (.inr ⟨h1, h2, h3, tr h4⟩), na, os, ag, w⟩
theorem noteFrame_eq {e : Value} {a b : Env} (h : a.frame = b.frame) : noteFrame e a = noteFrame e b := by
  unfold noteFrame PySem.frameOf
  rw [h]
theorem funFrames_but {h h' B B' : Heap} {C : Addr} (hC : ∃ o, B.get? C = some o) (k : ∀ b, b ≠ C → h'.get? b = h.get? b) (sub : ∀ b, B.get? b = none → B'.get? b = none) : ∀ {l : List Env}, h.FunFrames B l → h'.FunFrames B' l
  | [], _ => trivial
  | env :: rest, ⟨hk, ⟨L, o, hf, hn, ho, hd⟩, hr⟩ => ⟨hk, ⟨L, o, hf, sub L hn, by
      rw [k L fun z => by subst z; obtain ⟨o', e⟩ := hC; rw [hn] at e; cases e]; exact ho, hd⟩, funFrames_but hC k sub hr⟩
theorem comp_out {X : Cx} {W : WX} (hs : X.stack = X.env :: X.outer) (hf : X.env.frame = some X.env.locals) (tk : L2N.Takes X W) {pins : List (Addr × Obj)} {σ : L2.St} {C : Addr} {H6 : Hp} {s6 : Shared} {Ex : XK} {u : Value} {s' : Shared} {ce : Env} {m : Str → Option Value}
    (I7 : Inv X pins σ H6 s6) (hn : s6.heap.Ns C m) (fC : FpOk X pins H6 C) (hce : ce.frame = X.env.frame) (c : L2N.CX X.prog X.w X.stack H6 s6 Ex u s') (hW : ∀ cls d H', Ex cls d H' → W cls d σ H') :
    notedBy (model X.prog X.w) X.A ce (fun e s'' => ∃ m, s''.heap.Ns C m ∧ ∀ h', Heap.SameBut C s''.heap h' → wpAny (model X.prog X.w) X.A (passOn "comprehension.variables-let-go" e ce : Sem Value) (fun _ _ => False) X.xe { s'' with heap := h' }) u s' := by
  obtain ⟨a, B, H', cls, d, rfl, fl, hok, ub, na, os, ag, hE⟩ := c
  obtain ⟨f0, f1, f2, f3, f4, f5⟩ := fC
  have hfr : X.A.frames = some (X.env :: X.outer) := by rw [I7.ok.frames, hs]
  obtain ⟨oC, es, ep, eC, dC, kC, nC⟩ := hn
  have nfr : C ∉ frs X.stack := fun z => by
    rcases List.mem_cons.mp (I7.stkSub C z) with z | z
    · exact f1 z
    · exact f2 z
  have BC : B.get? C = some oC := ub.keep C oC eC f0 nfr
  have nC' : H' C = none := ub.free C oC eC f0
  show wpAny _ _ (noteFrame (.ref a) ce) _ _ _
  rw [noteFrame_eq hce]
  refine PXN.looks_onZ L2N.Zn.steady hfr hf (by rw [← hs]; exact fl) fun h1 held up1 => ?_
  obtain ⟨st1, ba, ff1, tr1⟩ := held
  refine ⟨m, ⟨oC, es, ep, st1 _ _ BC, dC, kC, nC⟩, fun h' sb => ?_⟩
  have Bsub : ∀ b, B.get? b = none → (PySem.W.hideAll B [C]).get? b = none := fun b hb => by
    cases q : (PySem.W.hideAll B [C]).get? b with
    | none => rfl
    | some o => rw [PySem.W.of_hideAll _ q] at hb; cases hb
  have hid1 : ∀ {h : Heap} {b : Addr} {o : Obj}, (PySem.W.hideAll h [C]).get? b = some o → b ≠ C := fun {h b o} q z => by
    subst z
    rw [PySem.W.hideAll_none [b] (List.mem_singleton.mpr rfl)] at q; cases q
  have st' : (PySem.W.hideAll B [C]).StaysIn h' := fun b o e => by
    rw [sb.2 b (hid1 e)]
    exact st1 _ _ (PySem.W.of_hideAll _ e)
  have ff' : h'.FunFrames (PySem.W.hideAll B [C]) (X.env :: X.outer) := funFrames_but ⟨oC, BC⟩ sb.2 Bsub ff1
  have tr' : HandSPX.TracedZ h' (PySem.W.hideAll B [C]) a (L2N.Zn cls d) (rawInt X.env.locals) := by
    obtain ⟨oe, vs, T, oT, ts, he, hz, hd, h1', hnT, hTe, hT, hdT, h3⟩ := tr1
    refine ⟨oe, vs, T, oT, ts, ?_, hz, hd, h1', Bsub _ hnT, hTe, ?_, hdT, h3⟩
    · rw [sb.2 a fun z => by subst z; rw [ba] at BC; cases BC]; exact he
    · rw [sb.2 T fun z => by subst z; rw [hnT] at BC; cases BC]; exact hT
  have upB : ∀ b o, s'.heap.get? b = some o → (∀ vs, o.data ≠ .fields vs) → b ≠ C → ∃ sl, h'.get? b = some { o with slots := sl } := fun b o e nf hb => by
    obtain ⟨sl, e1⟩ := up1 b o e nf
    exact ⟨sl, by rw [sb.2 b hb]; exact e1⟩
  have trc := id tr'
  obtain ⟨oe, vs, T, oT, ts, he, hz, hd, h1', hnT, hTe, hT, hdT, h3⟩ := trc
  unfold PySem.passOn
  refine wpAny_bind (wpAny_field he hd h1' ?_)
  rw [if_neg (show ¬ ((Value.ref T == Value.none) = true) from by simp)]
  have fin : wpAny (model X.prog X.w) X.A (setFlight (.ref a) ce.frame) (fun _ s4 => wpAny (model X.prog X.w) X.A (throw (.ref a) : Sem Value) (fun _ _ => False) X.xe s4) X.xe { s' with heap := h' } := by
    rw [hce, hf]
    refine HandSPX.setFlight_onZ (base := PySem.W.hideAll B [C]) (l := X.env :: X.outer) (Z := L2N.Zn cls d) ⟨st', Bsub _ ba, ff', tr'⟩ fun h4 hh4 up4 => wpAny_throw (tk _ _ ?_)
    -- the state without it, and without the block's dict
    obtain ⟨G, g1, g2⟩ := restrict h4 fun b => ((PySem.W.hideAll B [C]).get? b).isSome || decide (b ∈ frs X.stack)
    have st4 : (PySem.W.hideAll B [C]).StaysIn h4 := hh4.1
    have gB : ∀ b o, (PySem.W.hideAll B [C]).get? b = some o → G.get? b = some o := fun b o e => by
      rw [g1 b (by simp [e])]
      exact st4 b o e
    have gF : ∀ b, b ∈ frs X.stack → G.get? b = h4.get? b := fun b hb => g1 b (by simp [hb])
    have og : ∀ b o, G.get? b = some o → h4.get? b = some o ∧ (((PySem.W.hideAll B [C]).get? b).isSome = true ∨ b ∈ frs X.stack) := fun b o e => by
      cases q : (((PySem.W.hideAll B [C]).get? b).isSome || decide (b ∈ frs X.stack)) with
      | false => rw [g2 b q] at e; cases e
      | true =>
        rw [g1 b q] at e
        exact ⟨e, by simpa [Bool.or_eq_true] using q⟩
    have I7c : Inv X pins σ H6 { s6 with heap := PySem.W.hideAll s6.heap [C], toks := s6.toks } := I7.turned (fun b o hb e => PySem.W.hideAll_get _ e (by simpa using hb)) f0 f1 f3 f4 f5
    have hokB : HOk X.prog X.w H' (PySem.W.hideAll B [C]) := fun b u e => by
      refine (hok b u e).stay (fun c v hc q => PySem.W.hideAll_get _ q ?_) (fun _ q => q) fun _ _ q => q
      have nit : ∀ b u, H' b = some u → b ≠ C := fun b u e z => by rw [z, nC'] at e; cases e
      rcases hc with z | z
      · rw [z]; simpa using nit b u e
      · simpa using nit c _ z
    have frUp : ∀ b o, s6.heap.get? b = some o → b ∈ frs X.stack → ∃ sl, h4.get? b = some { o with slots := sl } := fun b o e hb => by
      obtain ⟨sl, q⟩ := ub.slot b o e hb
      have hb' : b ∈ (X.env :: X.outer).filterMap (·.frame) := by rw [← hs]; exact hb
      have nf : ∀ vs, o.data ≠ .fields vs := by
        obtain ⟨_, o1, e1, hnf⟩ := fl.2.2.1.mem hb
        rw [q] at e1; cases e1
        exact hnf
      have bC : b ≠ C := fun z => nfr (z ▸ hb)
      obtain ⟨sl2, q2⟩ := upB b _ q nf bC
      obtain ⟨sl3, q3⟩ := up4 b _ q2 nf
      exact ⟨sl3, q3⟩
    refine ⟨a, PySem.W.hideAll B [C], { s6 with heap := G, gens := s'.gens, drawn := s'.drawn, toks := s'.toks }, pins, σ, H', cls, d, rfl, ?_, fun b o e hb => ?_, Heap.UpToSlots.of_keeps fun b o e => (og b o e).1, .inr (.inr (by rw [hs]; exact hh4)), na, os, ag, hW _ _ _ hE⟩
    · have J : Inv X pins σ H' { ({ s6 with heap := PySem.W.hideAll s6.heap [C], toks := s6.toks } : Shared) with heap := G, gens := s'.gens, drawn := s'.drawn, toks := s'.toks } := by
       refine I7c.call (h' := G) (g' := s'.gens) (d' := s'.drawn) (t' := s'.toks) (ch := []) ⟨fun b o e n hb _ => gB b o (PySem.W.hideAll_get _ (ub.keep b o (PySem.W.of_hideAll _ e) n hb) (by simpa using hid1 e)), fun b o e n hb _ => ?_, fun b o e n _ => ub.free b o (PySem.W.of_hideAll _ e) n, fun b o e _ => ?_, ub.tups, ub.frzs, ub.tbls⟩ (hokB.kept gB) ag (fun _ z => nomatch z)
       · obtain ⟨sl, q⟩ := frUp b o (PySem.W.of_hideAll _ e) hb
         exact ⟨sl, by rw [gF b hb]; exact q⟩
       · by_cases hb : b ∈ frs X.stack
         · obtain ⟨sl, q⟩ := frUp b o (PySem.W.of_hideAll _ e) hb
           exact ⟨_, by rw [gF b hb]; exact q⟩
         · obtain ⟨o', q⟩ := ub.there b o (PySem.W.of_hideAll _ e) hb
           exact ⟨o', gB b o' (PySem.W.hideAll_get _ q (by simpa using hid1 e))⟩
      exact J
    · obtain ⟨e', h⟩ := og b o e
      rcases h with h | h
      · obtain ⟨o', q⟩ := Option.isSome_iff_exists.mp h
        have z := st4 b o' q
        rw [e'] at z; cases z
        exact q
      · exact absurd h hb
  first
    | exact wpAny_bind (wpAny_pure (wpAny_bind fin))
    | exact wpAny_bind fin
end FW

set_option Elab.async false
set_option linter.all false
set_option maxRecDepth 100000
set_option maxHeartbeats 4000000
namespace FW
open PySem PySem.Spec PyProof.Rows L2
/-! ### a list comprehension whose element may raise -/
/-- behind the block: ce is its env -/
def outPost (M : Model) (A : Around) (E : Value → Shared → Prop) (use : Option (Value → Sem Unit)) (Q : Value → Shared → Prop) (acc : Value) (ce : Env) : Result → Shared → Prop
  | .ok f, s' => compPost M A E use Q acc ce.locals (.ok f) s'
  | .error x, s' => ∃ m, s'.heap.Ns ce.locals m ∧ ∀ h', Heap.SameBut ce.locals s'.heap h' → wpAny M A (passOn "comprehension.variables-let-go" x ce : Sem Value) (fun _ _ => False) E { s' with heap := h' }
section
variable {M : Model} {A : Around} {E : Value → Shared → Prop} {s : Shared} {env : Env}
theorem comprehension_out {e : Expr} {scope : Scope} {pos : Pos} {newAcc first : Sem Value} {g : Comprehension} {gs : List Comprehension} {cl : List (Str × Addr)} {use : Option (Value → Sem Unit)} {Q : Value → Shared → Prop}
    (hcl : clausesOf e = g :: gs) (hs : ∀ x, foldedSetIterable g.iter env x = pure x) (hclos : closureFor scope env = pure cl) (hkind : scope.kind = .function) (hnames : ∀ x ∈ scope.names, x.2 = .local → scope.names.lookup x.1 = some .local)
    (h : wpAny M A first (fun x s₁ => wpAny M A (pyIter x) (fun it s₂ => wpAny M A newAcc (fun acc s₃ => wpAny M A (newFunctionEnv scope env.globals cl [] env.qual none .none (some env)) (fun cenv s₄ =>
        codeAny M A (.compStart e 0 it acc { cenv with scope := relabel scope env }) (outPost M A E use Q acc { cenv with scope := relabel scope env }) s₄) E s₃) E s₂) E s₁) E s) :
    wpAny M A (comprehension e scope env pos newAcc false first use) Q E s := by
  unfold comprehension
  rw [hclos, hcl]
  refine wpAny_bind (wpAny_mono h (fun x s₁ h₁ => wpAny_bind (wpAny_standAt (wpAny_bind (wpAny_of_eq (hs x) (wpAny_bind (wpAny_holding (wpAny_mono h₁ (fun it s₂ h₂ =>
    wpAny_standIf (wpAny_bind (wpAny_mono h₂ (fun acc s₃ h₃ => wpAny_bind (wpAny_pure (wpAny_bind (wpAny_mono h₃ (fun cenv s₄ h₄ => ?_) fun _ _ y => y)))) fun _ _ y => y))) fun _ _ y => y))))))) fun _ _ y => y)
  dsimp only
  have hv : ∀ x ∈ (scope.names.filter fun x => (x.2 == .local || x.2 == .cell) && x.1 != (".0" : Str)).reverse, x.2 = .local → Env.kindOf { cenv with scope := relabel scope env } x.1 = some .local :=
    fun x hx hl => lookup_relabel_local (hnames x (List.mem_filter.mp (List.mem_reverse.mp hx)).1 hl)
  have hv' : ∀ x ∈ (scope.names.filter fun x => (x.2 == .local || x.2 == .cell) && x.1 != (".0" : Str)).reverse.drop 1 ++ (scope.names.filter fun x => (x.2 == .local || x.2 == .cell) && x.1 != (".0" : Str)).reverse.take 1,
      x.2 = .local → Env.kindOf { cenv with scope := relabel scope env } x.1 = some .local := fun x hx hl => (List.mem_append.mp hx).elim (fun z => hv x (List.mem_of_mem_drop z) hl) fun z => hv x (List.mem_of_mem_take z) hl
  refine wpAny_holding (wpAny_bind (wpAny_attempt (wpAny_holding (wpAny_run (codeAny_mono h₄ fun r s' hr => ?_)))))
  cases r with
  | ok f =>
    cases use with
    | none =>
      obtain ⟨m, hn, hr⟩ := hr
      exact wpAny_bind (wpAny_holding (wpAny_comp_letGo (cenv := { cenv with scope := relabel scope env }) hkind _ s' m hv hn fun h' m' _ hs' => wpAny_pure (hr h' hs')))
    | some u =>
      refine wpAny_bind (wpAny_rule (wpAny_bind (wpAny_holding (wpAny_mono (show wpAny M A (u acc) _ E s' from hr) (fun _ s'' hr' => ?_) fun _ _ y => y))))
      obtain ⟨m, hn, hr'⟩ := hr'
      exact wpAny_bind (wpAny_comp_letGo (cenv := { cenv with scope := relabel scope env }) hkind _ s'' m hv' hn fun h' m' _ hs' => wpAny_pure (hr' h' hs'))
  | error x =>
    obtain ⟨m, hn, hr'⟩ := hr
    exact wpAny_bind (wpAny_holding (wpAny_comp_letGo (cenv := { cenv with scope := relabel scope env }) hkind _ s' m hv hn fun h' m' _ hs' => wpAny_mono (hr' h' hs') (fun _ _ f => f.elim) fun _ _ y => y))
end
section
variable {X : Cx}
/-- what leaves a call within the block -/
def outX (X Y : Cx) (Ex : XK) : Value → Shared → Prop := fun u s' => ∃ (pins : List (Addr × Obj)) (σ : L2.St) (H : Hp) (s : Shared), Inv Y pins σ H s ∧ L2N.CX X.prog X.w X.stack H s Ex u s'
abbrev blkX (X : Cx) (s : Shared) (H : Hp) (scope : Scope) (cenv : Env) (fp : List Addr) (Ex : XK) : Cx := (X.blk s H scope cenv fp).wish (outX X (X.blk s H scope cenv fp) Ex)
theorem blkX_at {s : Shared} {H : Hp} {scope : Scope} {cenv : Env} {fp : List Addr} {Ex : XK} (σ : L2.St) : PassesAt (L2N.CX X.prog X.w) (blkX X s H scope cenv fp Ex) σ Ex := fun pins H' s' e s'' I c => ⟨pins, σ, H', s', I.unwish, c⟩
def tLcX (wi : TI) (g : TG) (tt : TT) (te : XK → TE) (vs : List Nat) (W : WX) : TE := fun σ H Q => wi σ H fun J H1 => ∀ D, H1 D = none → ∃ (Ex : XK) (Wv : Nat → Nat → Hp → Prop), (∀ cls d H', Ex cls d H' → W cls d σ H') ∧ (∃ m, Wv 0 m (upd H1 D (.lst []))) ∧ ∀ i m H, Wv i m H →
  (J.stop i H ∧ Q (.ref D) H) ∨ (J.go i H ∧ ∃ Nx : Hp → Prop, (∀ H', Nx H' → ∃ m', m' < m ∧ Wv (i + 1) m' H') ∧ ∀ x H', J.yld i H x H' → g x (wipe σ vs) H' fun σ2 H2 => wipe σ2 vs = wipe σ vs ∧ tt σ2 H2 fun b H3 =>
    if b = true then te Ex σ2 H3 fun y H4 => ∃ acc, H4 D = some (.lst acc) ∧ acc.length < sizeLine ∧ Nx (upd H4 D (.lst (acc ++ [y]))) else Nx H3)
theorem lcX_core {W : WX} (st0 : X.stack = X.env :: X.outer) (hfr0 : X.env.frame = some X.env.locals) (tk : L2N.Takes X W) {pins : List (Addr × Obj)} {s : Shared} {σ : L2.St} {H : Hp} {Q : VK} {elt tg iter : Expr} {ifs : List Expr} {scope : Scope} {own : List (Str × Nat)} {pos pos' : Pos} {wi : TI} {g : TG} {tt : TT} {te : XK → TE} {use : Option (Value → Sem Unit)} {Qf : Value → Shared → Prop}
    (hc : X.calm = true) (hN : X.N.Nodup) (I : Inv X pins σ H s) (hi : PI X tg iter wi) (ok : BlkOk X.N X.env.scope scope own)
    (hg : ∀ (s : Shared) (H : Hp) (C : Addr) (cl : List (Str × Addr)) (fp : List Addr), PG (X.blk s H scope (compEnvC scope cl C X.env) fp) tg g) (ht : ∀ (s : Shared) (H : Hp) (C : Addr) (cl : List (Str × Addr)) (fp : List Addr), PTs (X.blk s H scope (compEnvC scope cl C X.env) fp) ifs tt)
    (he : ∀ (s : Shared) (H : Hp) (C : Addr) (cl : List (Str × Addr)) (fp : List Addr) (Ex : XK), PE (blkX X s H scope (compEnvC scope cl C X.env) fp Ex) elt (te Ex)) (hs : ∀ x, foldedSetIterable iter X.env x = pure x)
    (h : tLcX wi g tt te (own.map (·.2)) W σ H Q)
    (hRR : ∀ D C s' m H', Inv X pins σ H' s' → Q (.ref D) H' → s'.heap.Ns C m → FpOk X pins H' C → compPost (model X.prog X.w) X.A X.xe use Qf (.ref D) C (.ok .next) s') :
    wpAny (model X.prog X.w) X.A (comprehension (.ListComp elt [⟨tg, iter, ifs, 0⟩] scope pos) scope X.env pos' (newList []) false (eval iter X.env) use) Qf X.xe s := by
  have hfree : ∀ y ∈ scope.names, y.2 = .free → ∃ c, X.env.cells.lookup y.1 = some c := fun y hy e => (ok.free y hy e).elim (fun k => I.ok.has _ (.inl k)) fun k => I.ok.has _ (.inr k)
  refine comprehension_out (use := use) rfl hs (closure_ok hfree) ok.kind (fun y hy e => by rw [ok.uniq y hy, e]) (thn (hi.run pins s σ H _ I h) fun xv s1 hx => thn hx fun itv s2 h2 => ?_)
  obtain ⟨it, fp, tn, J, H2, e, I2, T, st2, f2, q⟩ := h2
  subst e
  refine wpAny_newObj_type (newEnv_comp ?_) (by show 0 ≤ sizeLine; decide)
  generalize hD : s2.heap.objs.size = D
  have hDn : H2 D = none := I2.hok.fresh (Nat.le_of_eq hD)
  obtain ⟨Ex, Wv, hEx, ⟨m0, w0⟩, turn⟩ := q D hDn
  generalize hs3 : ({ s2 with heap := s2.heap.push { cls := .type "list", data := .seq ([] : List Value).toArray } } : Shared) = s3
  have I3 : Inv X pins σ (upd H2 D (.lst [])) s3 := by
    rw [← hs3]
    refine I2.laid (t' := s2.toks) (fun b o e => Heap.get?_push_of_some _ e) (Nat.le_of_eq hD) ⟨Nat.zero_le _, [], 0, .nil, ?_⟩
    rw [← hD]
    exact Heap.get?_push_size _ rfl
  have h3 : s3.heap = s2.heap.push { cls := .type "list", data := .seq ([] : List Value).toArray } := by rw [← hs3]
  have sz : ∀ b ∈ fp, b < s2.heap.objs.size := fun b hb => by
    obtain ⟨o, e, _⟩ := T.obj _ _ st2 b hb
    exact Heap.lt_size e
  have f3 : ∀ b ∈ fp, FpOk X pins (upd H2 D (.lst [])) b ∧ b < s3.heap.objs.size := fun b hb => by
    have hlt := sz b hb
    refine ⟨⟨?_, (f2 b hb).2⟩, by rw [h3, Heap.size_push]; exact Nat.lt_succ_of_lt hlt⟩
    rw [upd_ne (by rw [← hD]; exact Nat.ne_of_lt hlt)]
    exact (f2 b hb).1
  have st3 : tn 0 s3.heap := T.keep _ _ _ st2 fun b _ o e => by rw [h3]; exact Heap.get?_push_of_some _ e
  have I4 := block_start I3 ok hN f3
  have pg := hg s3 (upd H2 D (.lst [])) s3.heap.objs.size (cellsFrom (s3.heap.objs.size + 1) scope.names (cloFrom X.env.cells scope.names [])) fp
  have pt := ht s3 (upd H2 D (.lst [])) s3.heap.objs.size (cellsFrom (s3.heap.objs.size + 1) scope.names (cloFrom X.env.cells scope.names [])) fp
  have pe := he s3 (upd H2 D (.lst [])) s3.heap.objs.size (cellsFrom (s3.heap.objs.size + 1) scope.names (cloFrom X.env.cells scope.names [])) fp Ex
  show codeAny _ _ (.compStart (.ListComp elt [⟨tg, iter, ifs, 0⟩] scope pos) 0 (.ref it) (.ref D) (compEnvC scope (cellsFrom (s3.heap.objs.size + 1) scope.names (cloFrom X.env.cells scope.names [])) s3.heap.objs.size X.env)) (outPost (model X.prog X.w) X.A X.xe use Qf (.ref D) (compEnvC scope (cellsFrom (s3.heap.objs.size + 1) scope.names (cloFrom X.env.cells scope.names [])) s3.heap.objs.size X.env)) { s3 with heap := pushCells (s3.heap.push { cls := .type "dict", data := .dict #[] }) scope.names }
  have nfp : ∀ b ∈ fp, (upd H2 D (.lst [])) b = none := fun b hb => (f3 b hb).1.1
  generalize hce : compEnvC scope (cellsFrom (s3.heap.objs.size + 1) scope.names (cloFrom X.env.cells scope.names [])) s3.heap.objs.size X.env = ce at I4 pg pt pe ⊢
  have cL : ce.locals = s3.heap.objs.size := by subst hce; rfl
  have cF : ce.frame = X.env.frame := by subst hce; rfl
  generalize hH3 : upd H2 D (.lst []) = H3 at I3 I4 pg pt pe w0 nfp f3
  generalize hs4 : ({ s3 with heap := pushCells (s3.heap.push { cls := .type "dict", data := .dict #[] }) scope.names } : Shared) = s4 at I4 ⊢
  have st4 : tn 0 s4.heap := T.keep _ _ _ st3 fun b _ o e => by rw [← hs4]; exact pushCells_keeps _ _ _ _ (Heap.get?_push_of_some _ e)
  have stat : ∀ {σ' : L2.St} {H' : Hp} {s' : Shared}, Inv (X.blk s3 H3 scope ce fp) [] σ' H' s' → (∀ b ∈ fp, H' b = none) → ∀ b ∈ fp, FpOk (X.blk s3 H3 scope ce fp) [] H' b := fun {σ' H' s'} I' hn b hb =>
    ⟨hn b hb, (I'.ok.exf b hb).1, I'.ok.exfs b hb, .inl hb, fun x c e => (I'.ok.exf b hb).2 x c e, fun p hp => absurd (show p ∈ ([] : List (Addr × Obj)) ++ [] from hp) (by simp)⟩
  -- back in the def's context
  have back : ∀ {pins' : List (Addr × Obj)} {σ' : L2.St} {H' : Hp} {s' : Shared}, Inv (X.blk s3 H3 scope ce fp) pins' σ' H' s' → Inv X pins σ H' s' ∧ FpOk X pins H' s3.heap.objs.size ∧ ∃ m, s'.heap.Ns s3.heap.objs.size m := fun {pins' σ' H' s'} I6 => by
    have I7 : Inv X pins σ H' s' := I3.call' (ch := fp) I6.os I6.base I6.hok I6.bare fun b hb => ⟨(f3 b hb).1.2.2.2.1, (f3 b hb).1.2.1, (f3 b hb).1.2.2.2.2.1, (f3 b hb).1.2.2.2.2.2⟩
    have nC : H' s3.heap.objs.size = none := by
      have z : H' ce.locals = none := I6.free
      rw [cL] at z
      exact z
    obtain ⟨m, hn, _⟩ := I6.loc
    have hn : s'.heap.Ns ce.locals m := hn
    rw [cL] at hn
    exact ⟨I7, I3.fpOk (Nat.le_refl _) nC, m, hn⟩
  have loop : codeAny (model X.prog X.w) X.A (.compLoop (.ListComp elt [⟨tg, iter, ifs, 0⟩] scope pos) 0 (.ref it) (.ref D) ce) (outPost (model X.prog X.w) X.A X.xe use Qf (.ref D) ce) s4 := by
    refine compLoop_any (fun n s' => ∃ i H', Inv (X.blk s3 H3 scope ce fp) [] (wipe σ (own.map (·.2))) H' s' ∧ tn i s'.heap ∧ (∀ b ∈ fp, H' b = none) ∧ Wv i n H') ?_ m0 ⟨0, H3, I4, st4, nfp, w0⟩
    rintro n s5 ⟨i, H5, I5, st5, n5, w5⟩
    rcases turn i n H5 w5 with ⟨stop, qq⟩ | ⟨go, Nx, hNx, step⟩
    · have td := T.done (X.blk s3 H3 scope ce fp) rfl rfl rfl hc i [] s5 _ H5 (fun _ _ => False) I5 (stat I5 n5) st5 stop
      refine thnF td fun r s6 ⟨hr, I6⟩ => ?_
      subst hr
      obtain ⟨I7, fC, m, hn⟩ := back I6
      show compPost _ _ _ _ _ _ ce.locals _ _
      rw [cL]
      exact hRR D s3.heap.objs.size s6 m H5 I7 qq hn fC
    · have ti := T.item (X.blk s3 H3 scope ce fp) rfl rfl rfl hc i [] s5 _ H5 (fun _ _ => False) I5 (stat I5 n5) st5 go
      refine thnF ti fun r s6 ⟨u, hr, h6⟩ => ?_
      subst hr
      refine thnF h6 fun _ s7 ⟨x, H7, I7, r7, y7, st7, n7⟩ => ?_
      have I7' := I7.pinned (stat I7 n7) (T.obj _ _ st7)
      refine thnF (pg.run _ s7 _ H7 x u _ I7' r7 (step x H7 y7)) fun _ s8 ⟨σ8, H8, I8, hw8, q8⟩ => ?_
      refine thnF (pt.run _ s8 σ8 H8 _ I8 q8) fun b s9 ⟨H9, I9, q9⟩ => ?_
      have fin : ∀ {s' : Shared} {H' : Hp}, Inv (X.blk s3 H3 scope ce fp) ([] ++ pinsAt fp s7.heap) σ8 H' s' → Nx H' → ∃ m, m < n ∧ ∃ i H', Inv (X.blk s3 H3 scope ce fp) [] (wipe σ (own.map (·.2))) H' s' ∧ tn i s'.heap ∧ (∀ b ∈ fp, H' b = none) ∧ Wv i m H' := fun {s' H'} I' nx => by
        obtain ⟨m', hm, w'⟩ := hNx H' nx
        have pin' : ∀ b ∈ fp, ∀ o, s7.heap.get? b = some o → s'.heap.get? b = some o ∧ H' b = none := fun b hb o e =>
          let z := I'.pin (b, o) (List.mem_append_right _ (List.mem_append_right _ (mem_pinsAt hb e)))
          ⟨z.1, z.2.1⟩
        have hl : (wipe σ (own.map (·.2))).length = σ8.length := by rw [← hw8, wipe_length]
        refine ⟨m', hm, i + 1, H', (I'.unpinned (pins := [])).weak hl (fun j v e => ?_), T.keep _ _ _ st7 fun b hb o e => (pin' b hb o e).1, fun b hb => ?_, w'⟩
        · rw [← hw8] at e
          exact (wipe_some e).1
        · obtain ⟨o, e, _⟩ := T.obj _ _ st7 b hb
          exact (pin' b hb o e).2
      cases b with
      | false =>
        simp only [Bool.false_eq_true, if_false] at q9 ⊢
        exact fin I9 q9
      | true =>
        simp only [if_true] at q9 ⊢
        refine wpAny_mono (pe.run _ s9 σ8 H9 _ (I9.wish _) q9) (fun z s10 ⟨yv, H10, I10, r10, acc, hD10, hz10, nx⟩ => ?_) fun u s' ⟨pins', σ', H', s0, I0, c⟩ => ?_
        · exact app_ok (X := X.blk s3 H3 scope ce fp) I10.unwish hD10 hz10 r10 fun s11 I11 => fin I11 nx
        · obtain ⟨I7, fC, m, hn⟩ := back I0
          have z := comp_out st0 hfr0 tk I7 hn fC cF c hEx
          rw [← cL] at z
          exact z
  exact codeAny_compStart_list loop (T.self X.A 0 _ _ _ st4 loop)
end
end FW

set_option Elab.async false
set_option linter.all false
set_option maxRecDepth 100000
set_option maxHeartbeats 4000000
namespace FW
open PySem PySem.Spec PyProof.Rows L2
section
variable {X : Cx} {W : WX} {elt tg iter : Expr} {ifs : List Expr} {scope : Scope} {own : List (Str × Nat)} {pos spos py : Pos} {wi : TI} {g : TG} {tt : TT} {te : XK → TE} {i : Nat} {y : Str}
theorem pe_lcX (st0 : X.stack = X.env :: X.outer) (hfr0 : X.env.frame = some X.env.locals) (tk : L2N.Takes X W) (hc : X.calm = true) (hN : X.N.Nodup) (hi : PI X tg iter wi) (ok : BlkOk X.N X.env.scope scope own)
    (hg : ∀ (s : Shared) (H : Hp) (C : Addr) (cl : List (Str × Addr)) (fp : List Addr), PG (X.blk s H scope (compEnvC scope cl C X.env) fp) tg g) (ht : ∀ (s : Shared) (H : Hp) (C : Addr) (cl : List (Str × Addr)) (fp : List Addr), PTs (X.blk s H scope (compEnvC scope cl C X.env) fp) ifs tt)
    (he : ∀ (s : Shared) (H : Hp) (C : Addr) (cl : List (Str × Addr)) (fp : List Addr) (Ex : XK), PE (blkX X s H scope (compEnvC scope cl C X.env) fp Ex) elt (te Ex)) (hs : ∀ x, foldedSetIterable iter X.env x = pure x := by intro _; rfl) :
    PE X (.ListComp elt [⟨tg, iter, ifs, 0⟩] scope pos) (tLcX wi g tt te (own.map (·.2)) W) := by
  refine ⟨fun pins s σ H Q I h => ?_⟩
  rw [eval_ListComp]
  refine lcX_core st0 hfr0 tk hc hN I hi ok hg ht he hs h fun D C s' m H' I' q hn f => ⟨m, hn, fun h'' sb => ?_⟩
  obtain ⟨f0, f1, f2, f3, f4, f5⟩ := f
  exact ⟨.ref D, H', I'.turned (t' := s'.toks) (fun b o hb e => (sb.2 b hb).trans e) f0 f1 f3 f4 f5, rfl, q⟩
theorem ps_setLcX (st0 : X.stack = X.env :: X.outer) (hfr0 : X.env.frame = some X.env.locals) (tk : L2N.Takes X W) (hc : X.calm = true) (hN : X.N.Nodup) (hy : X.N[i]? = some y) (hyl : X.env.scope.names.lookup y = some .local)
    (hsw : swapsWith (.ListComp elt [⟨tg, iter, ifs, 0⟩] scope pos) (some (.Name y py)) spos.line X.env = pure true) (hi : PI X tg iter wi) (ok : BlkOk X.N X.env.scope scope own)
    (hg : ∀ (s : Shared) (H : Hp) (C : Addr) (cl : List (Str × Addr)) (fp : List Addr), PG (X.blk s H scope (compEnvC scope cl C X.env) fp) tg g) (ht : ∀ (s : Shared) (H : Hp) (C : Addr) (cl : List (Str × Addr)) (fp : List Addr), PTs (X.blk s H scope (compEnvC scope cl C X.env) fp) ifs tt)
    (he : ∀ (s : Shared) (H : Hp) (C : Addr) (cl : List (Str × Addr)) (fp : List Addr) (Ex : XK), PE (blkX X s H scope (compEnvC scope cl C X.env) fp Ex) elt (te Ex)) (hs : ∀ x, foldedSetIterable iter X.env x = pure x := by intro _; rfl) :
    PS X (.Assign [.Name y py] (.ListComp elt [⟨tg, iter, ifs, 0⟩] scope pos) spos) (tAsg (tLcX wi g tt te (own.map (·.2)) W) (gName i)) := by
  refine ⟨fun pins s σ H D I h => ?_⟩
  rw [exec_Assign_Name_used _ _ _ _ hsw]
  refine wpAny_bind (wpAny_standAt (wpAny_bind ?_))
  show wpAny _ X.A (do let _ ← comprehension (.ListComp elt [⟨tg, iter, ifs, 0⟩] scope pos) scope X.env (firstIterPos [⟨tg, iter, ifs, 0⟩] pos) (newList []) false (eval iter X.env) (some (assign (.Name y py) X.env))) _ _ s
  have h : tLcX wi g tt te (own.map (·.2)) W σ H (fun x H1 => gName i x σ H1 D.nx) := h
  refine wpAny_bind (thn (lcX_core (Qf := fun _ s' => SP X pins D .next s') st0 hfr0 tk hc hN I hi ok hg ht he hs h fun L C s' m H' I' q hn f => ?_) fun _ s' hq => wpAny_pure (wpAny_pure hq))
  show wpAny _ _ (assign (.Name y py) X.env (.ref L)) _ _ _
  refine wpAny_assign_Name (store_ok2 (v := V.ref L) I' hN hy (.inl hyl) rfl (fun s2 I2 ⟨a, sb, ha⟩ => ?_) (.inr hyl))
  obtain ⟨f0, f1, f2, f3, f4, f5⟩ := f
  have haC : C ≠ a := by
    rcases ha with z | z
    · rw [z]; exact f1
    · exact fun e => f4 y a z e.symm
  refine ⟨m, hn.sameBut sb haC, fun h3 sb3 => ?_⟩
  exact ⟨_, H', I2.turned (t' := s2.toks) (fun b o hb e => (sb3.2 b hb).trans e) f0 f1 f3 f4 f5, q⟩
end
/-! ### the same over data -/
abbrev wX (Ex : XK) : WX := fun cls d _ H => Ex cls d H
def compInvX (ds : List PyData) (i : Nat) (tt : TDT) (te : TD) (Γ : Ev) (Q : OT → Prop) (E : Value → Prop) : Prop :=
  free1 i Γ ∧ ∃ Iv : Nat → List OT → Prop, Iv 0 [] ∧ (∀ n d acc, ds[n]? = some d → Iv n acc → tt (Γ.set i (some (.leaf d))) (fun b => if b = true then te (Γ.set i (some (.leaf d))) (fun r => r.isScr = false ∧ acc.length < sizeLine ∧ Iv (n + 1) (acc ++ [r])) E else Iv (n + 1) acc) fun _ => False) ∧
    ∀ acc, Iv ds.length acc → Q (.node acc)
section
variable {fx : List Nat} {i : Nat}
theorem lcX_coreD {J : It} {K : PySem.W.Frag} {φ : FrF} {A : List Addr} {σ : L2.St} {H1 : Hp} {Γ : Ev} {ds : List PyData} {tt : TDT} {te : TD} {Qd : OT → Prop} {Ed : Value → Prop} {Q : VK} {D : Addr} (rel : Rel K fx φ A σ H1 Γ) (hf : i ∉ fx) (k : Kt K A φ.Z H1 Qd Q) (q : compInvX ds i tt te Γ Qd Ed) (nD : H1 D = none)
    (hgo : ∀ n H', Same H1 H' → n < ds.length → J.go n H' ∧ ∀ x H2, J.yld n H' x H2 → H2 = H' ∧ ∃ d, ds[n]? = some d ∧ DD K (hid (A ++ φ.Z) H1) x d) (hst : ∀ H', Same H1 H' → J.stop ds.length H') :
    ∃ Wv : Nat → Nat → Hp → Prop, (∃ m, Wv 0 m (upd H1 D (.lst []))) ∧ ∀ n m H, Wv n m H →
      (J.stop n H ∧ Q (.ref D) H) ∨ (J.go n H ∧ ∃ Nx : Hp → Prop, (∀ H', Nx H' → ∃ m', m' < m ∧ Wv (n + 1) m' H') ∧ ∀ x H', J.yld n H x H' → gName i x (wipe σ [i]) H' fun σ2 H2 => wipe σ2 [i] = wipe σ [i] ∧ liftT K W0 fx tt σ2 H2 fun b H3 =>
        if b = true then lift K (wX fun cls d H' => d = none ∧ Same H1 H' ∧ Ed cls) fx te σ2 H3 fun y H4 => ∃ acc, H4 D = some (.lst acc) ∧ acc.length < sizeLine ∧ Nx (upd H4 D (.lst (acc ++ [y]))) else Nx H3) := by
  obtain ⟨fr, Iv, i0, turn, fin⟩ := q
  have St : ∀ n (H : Hp), (n ≤ ds.length ∧ Same H1 H ∧ ∃ acc vs As, Iv n acc ∧ H D = some (.lst vs) ∧ (D :: As).Nodup ∧ (∀ a, a ∈ As → H1 a = none) ∧ Owns K (hid ((D :: As) ++ (A ++ φ.Z)) H) H vs acc As) = (n ≤ ds.length ∧ Same H1 H ∧ ∃ acc vs As, Iv n acc ∧ H D = some (.lst vs) ∧ (D :: As).Nodup ∧ (∀ a, a ∈ As → H1 a = none) ∧ Owns K (hid ((D :: As) ++ (A ++ φ.Z)) H) H vs acc As) := fun _ _ => rfl
  refine ⟨fun n m H => m = ds.length - n ∧ (n ≤ ds.length ∧ Same H1 H ∧ ∃ acc vs As, Iv n acc ∧ H D = some (.lst vs) ∧ (D :: As).Nodup ∧ (∀ a, a ∈ As → H1 a = none) ∧ Owns K (hid ((D :: As) ++ (A ++ φ.Z)) H) H vs acc As), ⟨ds.length, by simp, Nat.zero_le _, same_upd nD, [], [], [], i0, upd_same, by simp, fun a h => by simp at h, .nil⟩, ?_⟩
  rintro n m H ⟨rfl, hn, sm, acc, vs, As, iv, hD, nd, fa, ow⟩
  have wp : wipe σ [i] = σ.set i none := rfl
  by_cases hlt : n < ds.length
  · obtain ⟨go, yl⟩ := hgo n H sm hlt
    refine .inr ⟨go, fun H' => n + 1 ≤ ds.length ∧ Same H1 H' ∧ ∃ acc vs As, Iv (n + 1) acc ∧ H' D = some (.lst vs) ∧ (D :: As).Nodup ∧ (∀ a, a ∈ As → H1 a = none) ∧ Owns K (hid ((D :: As) ++ (A ++ φ.Z)) H') H' vs acc As, fun H' h => ⟨ds.length - (n + 1), by omega, rfl, h⟩, fun x H2 y => ?_⟩
    obtain ⟨rfl, d, ed, dd⟩ := yl x H2 y
    have fy : ∀ a, a ∈ D :: As → H1 a = none ∧ ∃ xs : LxO, H2 a = some xs.ho := fun a ha => by
      rcases List.mem_cons.mp ha with z | z
      · subst z; exact ⟨nD, .lst _, hD⟩
      · exact ⟨fa a z, ow.there a z⟩
    have r1 := rel.rebase sm (D :: As) fy
    have r2 := r1.wipe fr hf
    obtain ⟨o, eo, _⟩ := fr
    have hi : i < Γ.length := (List.getElem?_eq_some_iff.mp eo).1
    have e0 : (Γ.set i none)[i]? = some none := List.getElem?_set_self hi
    have dd2 : DD K (hid (A ++ ((D :: As) ++ φ.Z)) H2) x d := dd.mono (hid_new sm fun a ha => by
      rcases List.mem_append.mp ha with z | z
      · exact .inl (List.mem_append_left _ z)
      · rcases List.mem_append.mp z with z | z
        · exact .inr (fy a z).1
        · exact .inl (List.mem_append_right _ z))
    have r3 : Rel K fx ⟨(D :: As) ++ φ.Z, H2, A, φ.s0⟩ A ((σ.set i none).set i (some x)) H2 (Γ.set i (some (.leaf d))) := by
      have z := r2.env.setLeaf e0 dd2
      rw [show (Γ.set i none).set i (some (OT.leaf d)) = Γ.set i (some (OT.leaf d)) from List.set_set ..] at z
      exact ⟨z, r2.nd, r2.az, r2.keep, r2.own, r2.zs, r2.a0, fun j hj => by rw [List.getElem?_set_ne (fun e : i = j => hf (e.symm ▸ hj))]; exact r2.fix j hj⟩
    refine ⟨by rw [wp]; show ((σ.set i none).set i (some x)).set i none = σ.set i none; rw [List.set_set, List.set_set], _, A, _, _, _, r3, turn n d acc ed iv, fun b H3 s3 q3 => ?_, fun c H' _ z => z.elim⟩
    cases b with
    | false => exact ⟨hlt, sm.trans s3, acc, vs, As, q3, s3 _ _ hD, nd, fa, ow.same (hid_mono s3) s3⟩
    | true =>
      refine ⟨_, A, _, _, _, r3.mono s3, q3, fun r y H4 s4 ⟨Bs, nb, fb, ob⟩ ⟨ns, hz, iv'⟩ => ?_, fun c H' s' z => ⟨rfl, (sm.trans s3).trans s', z⟩⟩
      have s34 := s3.trans s4
      have hD4 := s34 _ _ hD
      have ow4 : Owns K (hid ((D :: As) ++ (A ++ φ.Z)) H4) H4 vs acc As := ow.same (hid_mono s34) s34
      refine ⟨vs, hD4, by rw [ow.length]; exact hz, hlt, ?_, acc ++ [r], vs ++ [y], As ++ (Bs ++ []), iv', upd_same, ?_, fun a ha => ?_, ?_⟩
      · intro b o e
        rw [upd_ne (ne_of_none e nD)]
        exact s34 _ _ (sm _ _ e)
      · have nd' := List.nodup_cons.mp nd
        have dB : ∀ a, a ∈ Bs → H2 a = none := fun a ha => s3.free (fb a ha)
        refine List.nodup_cons.mpr ⟨fun z => ?_, List.nodup_append.mpr ⟨nd'.2, by simpa using nb, fun a ha b hb eab => ?_⟩⟩
        · rcases List.mem_append.mp z with z | z
          · exact nd'.1 z
          · have := dB D (by simpa using z)
            rw [hD] at this; cases this
        · subst eab
          obtain ⟨xs, w⟩ := ow.there a ha
          rw [dB a (by simpa using hb)] at w; cases w
      · rcases List.mem_append.mp ha with z | z
        · exact fa a z
        · exact sm.free (s3.free (fb a (by simpa using z)))
      · have other : ∀ a, a ≠ D → ∀ o, H4 a = some o → upd H4 D (.lst (vs ++ [y])) a = some o := fun a n o z => by rw [upd_ne n]; exact z
        have hs : Same (hid ((D :: (As ++ (Bs ++ []))) ++ (A ++ φ.Z)) H4) (hid ((D :: (As ++ (Bs ++ []))) ++ (A ++ φ.Z)) (upd H4 D (.lst (vs ++ [y])))) := fun b o e => by
          obtain ⟨n, e⟩ := hid_some e
          rw [hid_out n]
          exact other b (fun z => n (by rw [z]; simp)) o e
        have nDA : ∀ a, a ∈ As → a ≠ D := fun a ha z => (List.nodup_cons.mp nd).1 (z ▸ ha)
        have nDB : ∀ a, a ∈ Bs → a ≠ D := fun a ha z => by
          have := s3.free (fb a ha)
          rw [z, hD] at this; cases this
        refine (Owns.mono (Hs := hid ((D :: (As ++ (Bs ++ []))) ++ (A ++ φ.Z)) H4) hs (ow.same (hid_new s34 fun a ha => ?_) s34) fun a ha o z => other a (nDA a ha) o z).append (.cons ns (Own.mono hs (ob.same (hid_sub fun a ha => ?_) (Same.refl _)) fun a ha o z => other a (nDB a ha) o z) .nil)
        · simp only [List.cons_append, List.mem_cons, List.mem_append, List.append_nil] at ha ⊢
          rcases ha with z | (z | z) | z
          · exact .inl (.inl z)
          · exact .inl (.inr (.inl z))
          · exact .inr (s3.free (fb a z))
          · exact .inl (.inr (.inr z))
        · simp only [List.cons_append, List.mem_cons, List.mem_append, List.append_nil] at ha ⊢
          grind
  · have e : n = ds.length := by omega
    subst e
    refine .inl ⟨hst H sm, k _ _ H sm ⟨D :: As, nd, fun a ha => ?_, .node hD ow⟩ (fin acc iv)⟩
    rcases List.mem_cons.mp ha with z | z
    · subst z; exact nD
    · exact fa a z
end
end FW

set_option Elab.async false
set_option linter.all false
set_option maxRecDepth 100000
set_option maxHeartbeats 4000000
namespace FW
open PySem PySem.Spec PyProof.Rows L2
@[simp] def tLcDX (src : OT → Option (List PyData)) (i : Nat) (tt : TDT) (te : TD) (t : TD) : TD := fun Γ Q E => t Γ (fun x => ∃ ds, src x = some ds ∧ compInvX ds i tt te Γ Q E) E
section
variable {X : Cx} {W : WX} {fx : List Nat} {e a b elt tg : Expr} {ifs : List Expr} {t u te : TD} {tt : TDT} {pos p spos py : Pos} {i k y : Nat} {scope : Scope} {x yn : Str}
theorem lcX_coreW {J : It} {K : PySem.W.Frag} {φ : FrF} {A : List Addr} {σ : L2.St} {H1 : Hp} {Γ : Ev} {ds : List PyData} {Qd : OT → Prop} {Ed : Value → Prop} {Q : VK} {D : Addr} (rel : Rel K fx φ A σ H1 Γ) (hf : i ∉ fx) (k : Kt K A φ.Z H1 Qd Q) (q : compInvX ds i tt te Γ Qd Ed) (nD : H1 D = none)
    (hgo : ∀ n H', Same H1 H' → n < ds.length → J.go n H' ∧ ∀ x H2, J.yld n H' x H2 → H2 = H' ∧ ∃ d, ds[n]? = some d ∧ DD K (hid (A ++ φ.Z) H1) x d) (hst : ∀ H', Same H1 H' → J.stop ds.length H') (ke : ∀ c H', Same H1 H' → Ed c → W c none σ H') :
    ∃ (Ex : XK) (Wv : Nat → Nat → Hp → Prop), (∀ cls d H', Ex cls d H' → W cls d σ H') ∧ (∃ m, Wv 0 m (upd H1 D (.lst []))) ∧ ∀ n m H, Wv n m H →
      (J.stop n H ∧ Q (.ref D) H) ∨ (J.go n H ∧ ∃ Nx : Hp → Prop, (∀ H', Nx H' → ∃ m', m' < m ∧ Wv (n + 1) m' H') ∧ ∀ x H', J.yld n H x H' → gName i x (wipe σ [i]) H' fun σ2 H2 => wipe σ2 [i] = wipe σ [i] ∧ liftT K W0 fx tt σ2 H2 fun b H3 =>
        if b = true then lift K (wX Ex) fx te σ2 H3 fun y H4 => ∃ acc, H4 D = some (.lst acc) ∧ acc.length < sizeLine ∧ Nx (upd H4 D (.lst (acc ++ [y]))) else Nx H3) := by
  obtain ⟨Wv, w0, turn⟩ := lcX_coreD rel hf k q nD hgo hst
  exact ⟨_, Wv, fun cls d H' ⟨ed, s', z⟩ => by subst ed; exact ke cls H' s' z, w0, turn⟩
theorem lcLX_imp {K : PySem.W.Frag} {σ : L2.St} {H : Hp} {Q : VK} (hf : i ∉ fx) (h : lift K W fx (tLcDX srcL i tt te t) σ H Q) : tLcX (iList K (lift K W fx t)) (gName i) (liftT K W0 fx tt) (fun Ex => lift K (wX Ex) fx te) [i] W σ H Q := by
  obtain ⟨φ, A, Γ, Qd, Ed, rel, q, k, ke⟩ := h
  refine ⟨φ, A, Γ, _, _, rel, q, fun x v H1 s1 r1 ⟨ds, es, q1⟩ => ?_, ke⟩
  obtain ⟨a, xs, rfl, h, t'⟩ := (r1.cv rel.dom).list (srcL_er es)
  refine ⟨a, rfl, ⟨xs, hid_same.seq h⟩, fun D nD => lcX_coreW (rel.mono s1) hf (fun y v H' s' r' qy => k y v H' (s1.trans s') (r'.back s1) qy) q1 nD (fun n H' s' hn => ?_) (fun H' s' => ⟨xs, s'.seq (hid_same.seq h), Nat.le_of_eq t'.length⟩) fun c H' s' z => ke c H' (s1.trans s') z⟩
  have hx : n < xs.length := by rw [t'.length]; exact hn
  refine ⟨⟨xs, xs[n], s'.seq (hid_same.seq h), List.getElem?_eq_getElem hx⟩, fun x H2 y => ⟨y.1, ?_⟩⟩
  exact t'.at (y.2 xs (s'.seq (hid_same.seq h)))
section
variable (st0 : X.stack = X.env :: X.outer) (hfr0 : X.env.frame = some X.env.locals) (tk : L2N.Takes X W) (hc : X.calm = true) (hN : X.N.Nodup) (ok : BlkOk X.N X.env.scope scope [(x, i)])
  (hg : ∀ (s : Shared) (H : Hp) (C : Addr) (cl : List (Str × Addr)) (fp : List Addr), PG (X.blk s H scope (compEnvC scope cl C X.env) fp) tg (gName i))
  (ht : ∀ (s : Shared) (H : Hp) (C : Addr) (cl : List (Str × Addr)) (fp : List Addr), PTs (X.blk s H scope (compEnvC scope cl C X.env) fp) ifs (liftT X.K W0 fx tt))
  (hel : ∀ (s : Shared) (H : Hp) (C : Addr) (cl : List (Str × Addr)) (fp : List Addr) (Ex : XK), PE (blkX X s H scope (compEnvC scope cl C X.env) fp Ex) elt (lift X.K (wX Ex) fx te))
include st0 hfr0 tk hc hN ok hg ht hel
theorem de_lcLX (he : DE X W fx e t) (hf : i ∉ fx := by decide) (hs : ∀ x, foldedSetIterable e X.env x = pure x := by intro _; rfl) : DE X W fx (.ListComp elt [⟨tg, e, ifs, 0⟩] scope pos) (tLcDX srcL i tt te t) :=
  PE.imp (pe_lcX st0 hfr0 tk hc hN (pi_list he) ok hg ht hel hs) fun σ H Q h => lcLX_imp hf h
theorem ds_lcLFX (hy : X.N[y]? = some yn) (hyl : X.env.scope.names.lookup yn = some .local) (hsw : swapsWith (.ListComp elt [⟨tg, e, ifs, 0⟩] scope pos) (some (.Name yn py)) spos.line X.env = pure true) (he : DE X W fx e t) (hf : i ∉ fx := by decide) (hfy : y ∉ fx := by decide) (hs : ∀ x, foldedSetIterable e X.env x = pure x := by intro _; rfl) :
    DS X W fx (.Assign [.Name yn py] (.ListComp elt [⟨tg, e, ifs, 0⟩] scope pos) spos) (tSetF y (tLcDX srcL i tt te t)) :=
  PS.imp (ps_setLcX st0 hfr0 tk hc hN hy hyl hsw (pi_list he) ok hg ht hel hs) fun D σ H h => lcLX_imp hf (setF_imp hfy h)
end
end
/-! ### calls of defs whose exceptions have no context -/
section
variable {X : Cx} {W : WX} {fx : List Nat} {e e' a b c : Expr} {es : List Expr} {t u w : TD} {ta : TDA} {pos p p2 q2 : Pos} {k : Nat} {f : Addr} {fd : FuncData} {ps : List Str} {S : SD} {x : Str}
theorem de_callP (F : FnOk X.prog X.w X.K X.mg X.base (L2N.CX X.prog X.w) k f fd ps (spP X.K S)) (hx : ∀ σ, PassesAt (L2N.CX X.prog X.w) X σ (WE W σ)) (hr : Room k X.A) (hg : Gl X x) (hm : X.mg x = some (.ref f)) (hk : PySem.W.keepIn X.K (.ref f) = true) (hb : Binds X.K fd ps [])
    (ha : DA X W fx (e :: es) ta) (hdb : (x == ("__debug__" : Str)) = false := by decide) (he : starEach (e :: es) X.env = (false, eval e X.env) :: starEach es X.env := by rfl) (hpl : (backTo pos (starEach es X.env)).any (·.1) = false := by rfl) :
    DE X W fx (.Call (.Name x p) (e :: es) [] pos) (tCallD S ta) := by
  refine PE.imp (pe_callS F hr hg hm hk hb hx ha hdb he hpl) fun σ H Q ⟨φ, A, Γ, Qd, Ed, rel, q, k, ke⟩ => ?_
  refine ⟨φ, A, Γ, _, Ed, rel, q, fun xs vs H1 s1 r1 q1 => ?_, ke⟩
  refine ⟨A ++ φ.Z, xs, Qd, Ed, rel.dom.mono s1, r1, q1, fun y w H' s' r' qy => k y w H' (s1.trans s') ?_ qy, fun c H' s' q' => ke c H' (s1.trans s') q'⟩
  exact Res.back s1 r'
theorem de_callN (F : FnOk X.prog X.w X.K X.mg X.base (L2N.CX X.prog X.w) k f fd ps (spP X.K S)) (tk : L2N.Takes X W) (hr : Room k X.A) (hg : Gl X x) (hm : X.mg x = some (.ref f)) (hk : PySem.W.keepIn X.K (.ref f) = true) (hb : Binds X.K fd ps [])
    (ha : DA X W fx (e :: es) ta) (hdb : (x == ("__debug__" : Str)) = false := by decide) (he : starEach (e :: es) X.env = (false, eval e X.env) :: starEach es X.env := by rfl) (hpl : (backTo pos (starEach es X.env)).any (·.1) = false := by rfl) :
    DE X W fx (.Call (.Name x p) (e :: es) [] pos) (tCallD S ta) := de_callP F (fun σ => L2N.passAt tk σ) hr hg hm hk hb ha hdb he hpl
theorem de_callIN {ok : PyData → Bool} {C : Value} (F : FnOk X.prog X.w X.K X.mg X.base (L2N.CX X.prog X.w) k f fd ps (spI X.K ok C)) (tk : L2N.Takes X W) (hr : Room k X.A) (hg : Gl X x) (hm : X.mg x = some (.ref f)) (hk : PySem.W.keepIn X.K (.ref f) = true) (hb : Binds X.K fd ps [])
    (ha : DE X W fx e t) (hs : starEach [e] X.env = (false, eval e X.env) :: starEach [] X.env := by rfl) (hdb : (x == ("__debug__" : Str)) = false := by decide) (he : starEach [e] X.env = (false, eval e X.env) :: starEach [] X.env := by rfl) (hpl : (backTo pos (starEach [] X.env)).any (·.1) = false := by rfl) :
    DE X W fx (.Call (.Name x p) [e] [] pos) (tCallI ok C t) := by
  refine PE.imp (pe_callS F hr hg hm hk hb (fun σ => L2N.passAt tk σ) (pa_cons ha pa_nil hs) hdb he hpl) fun σ H Q ⟨φ, A, Γ, Qd, Ed, rel, q, k, ke⟩ => ?_
  refine ⟨φ, A, Γ, _, Ed, rel, q, fun x v H1 s1 r1 ⟨ns, q1⟩ => ?_, ke⟩
  have d := (r1.cv rel.dom).dd ns
  refine ⟨A ++ φ.Z, v, x.er, rel.dom.mono s1, rfl, d, fun o H' s' => ?_, fun o H' s' => ?_⟩
  · rw [if_pos o] at q1
    exact k _ _ H' (s1.trans s') (.leaf (d.mono (hid_mono s'))) q1
  · rw [if_neg (by rw [o]; exact Bool.false_ne_true)] at q1
    exact ke C H' (s1.trans s') q1
theorem ds_raiseN {C : Addr} (hc : X.calm = true) (tk : L2N.Takes X W) (he : L2N.PMk X e (fun _ H Q => Q (.ref C) none H)) : DS X W fx (.Raise (some e) none pos) (tRaise (.ref C)) := PS.imp (L2N.ps_raise hc tk he) fun D σ H ⟨φ, A, Γ, Dd, rel, q, er⟩ => er.ex _ σ H A Γ rel q
theorem ds_raiseH {C : Addr} (hc : L2H.HotC X) (tk : L2.Takes X W) (he : L2N.PMk X e (fun _ H Q => Q (.ref C) none H)) : DS X W fx (.Raise (some e) none pos) (tRaise (.ref C)) := PS.imp (L2H.ps_raiseH hc tk he) fun D σ H ⟨φ, A, Γ, Dd, rel, q, er⟩ => er.ex _ σ H A Γ rel q
end
section
variable {P : Program} {w : World} {K : PySem.W.Frag} {mg : Str → Option Value} {base : Heap}
theorem okXC {CX : CXT} {x qual : Str} {st : Stmt} {f : Addr} {fd : FuncData} {N ps : List Str} {k : Nat} {sp : Sp} (F : Fun K x qual st f fd) (S : FnScope N ps (defScope st)) (len : ∀ vs H Q E, sp vs H Q E → vs.length = ps.length)
    (hbody : ∀ (cdv : Value) (A : Around) (outer : List Env) (s : Shared) (H : Hp) (vs : List V) (Q : VK) (E : XK), Room k (A.deeper (envOfC qual (defScope st) s.heap.objs.size f cdv)) → sp vs H Q E →
      ∃ t, PSs (cxOf CX P w K mg base N qual (defScope st) f cdv A outer s H E) (defBody st) t ∧ t { nx := fun _ H' => Q .non H', rt := Q } (L2.start N vs) H) : FnOk P w K mg base CX (k + 1) f fd ps sp := by
  obtain ⟨oc, od, kV, doc, pm, an, cdv, ct, osl, rfl, lk, hcd⟩ := F.ex
  exact fn_of lk hcd S len fun A outer s H vs Q E hr hsp => hbody cdv A outer s H vs Q E hr hsp
theorem fnPN {x qual : Str} {st : Stmt} {f : Addr} {fd : FuncData} {N ps : List Str} {k : Nat} {S : SD} (F : Fun K x qual st f fd) (Sc : FnScope N ps (defScope st)) (len : ∀ rs Qd Ed, S rs Qd Ed → rs.length = ps.length)
    (hbody : ∀ (cdv : Value) (A : Around) (outer : List Env) (s : Shared) (H : Hp) (E : XK), Room k (A.deeper (envOfC qual (defScope st) s.heap.objs.size f cdv)) →
      L2N.Takes (cxOf (L2N.CX P w) P w K mg base N qual (defScope st) f cdv A outer s H E) (wE E) → PassesOwn (model P w) (A.deeper (envOfC qual (defScope st) s.heap.objs.size f cdv)) (envOfC qual (defScope st) s.heap.objs.size f cdv) (cxOf (L2N.CX P w) P w K mg base N qual (defScope st) f cdv A outer s H E).xe →
      ∃ t : TDS, PSs (cxOf (L2N.CX P w) P w K mg base N qual (defScope st) f cdv A outer s H E) (defBody st) (liftS K (wE E) [] t) ∧ ∀ rs Qd Ed, S rs Qd Ed → t (endP Qd Ed) (rs.map some ++ List.replicate (N.length - rs.length) none)) : FnOk P w K mg base (L2N.CX P w) (k + 1) f fd ps (spP K S) := by
  refine okXC F Sc (fun vs H Q E ⟨Z, rs, Qd, Ed, dm, c, s, k1, k2⟩ => ?_) fun cdv A outer s H vs Q E hr ⟨Z, rs, Qd, Ed, dm, c, sd, k1, k2⟩ => ?_
  · have l := len _ _ _ s
    rw [List.length_map] at l
    rw [c.length, l]
  · obtain ⟨t, h, q⟩ := hbody cdv A outer s H E hr (L2N.takes_of rfl rfl rfl rfl) (passes_of rfl)
    refine ⟨_, h, ⟨Z, H, [], L2.start N vs⟩, [], startE N rs, _, rel_start dm c, ?_, ends_start k1 k2⟩
    have z := q _ Qd Ed sd
    rw [List.map_map, List.length_map] at z
    exact z
theorem fnIN {x qual : Str} {st : Stmt} {f : Addr} {fd : FuncData} {N : List Str} {p : Str} {k : Nat} {ok : PyData → Bool} {C : Value} (F : Fun K x qual st f fd) (Sc : FnScope N [p] (defScope st))
    (hbody : ∀ (cdv : Value) (A : Around) (outer : List Env) (s : Shared) (H : Hp) (E : XK), Room k (A.deeper (envOfC qual (defScope st) s.heap.objs.size f cdv)) →
      L2N.Takes (cxOf (L2N.CX P w) P w K mg base N qual (defScope st) f cdv A outer s H E) (wE E) → PassesOwn (model P w) (A.deeper (envOfC qual (defScope st) s.heap.objs.size f cdv)) (envOfC qual (defScope st) s.heap.objs.size f cdv) (cxOf (L2N.CX P w) P w K mg base N qual (defScope st) f cdv A outer s H E).xe →
      ∃ t : TDS, PSs (cxOf (L2N.CX P w) P w K mg base N qual (defScope st) f cdv A outer s H E) (defBody st) (liftS K (wE E) [0] t) ∧
        ∀ d, t { nx := fun _ => False, rt := fun _ _ => False, bk := fun _ => False, ct := fun _ => False, ex := fun c _ => c = C ∧ ok d = false, rf := fun _ => ok d = true } (some (.leaf d) :: List.replicate (N.length - 1) none)) : FnOk P w K mg base (L2N.CX P w) (k + 1) f fd [p] (spI K ok C) := by
  refine okXC F Sc (fun vs H Q E ⟨Z, v, d, _, e, _⟩ => by rw [e]; rfl) fun cdv A outer s H vs Q E hr ⟨Z, v, d, dm, e, dd, k1, k2⟩ => ?_
  subst e
  obtain ⟨t, h, q⟩ := hbody cdv A outer s H E hr (L2N.takes_of rfl rfl rfl rfl) (passes_of rfl)
  have c : CVs K (hid Z H) [v] [.leaf d] := .cons (.dat rfl dd) .nil
  have r := rel_start (N := N) dm c
  have sm : ∀ {A σ H' Γ}, Rel K [0] ⟨Z, H, [], L2.start N [v]⟩ A σ H' Γ → Same H H' := fun r b o e => r.keep b o e (by simp)
  refine ⟨_, h, ⟨Z, H, [], L2.start N [v]⟩, [], startE N [.leaf d], _, ⟨r.env, r.nd, r.az, r.keep, r.own, r.zs, r.a0, fun i _ => rfl⟩, q d, ?_⟩
  refine ⟨fun _ _ _ _ _ q => q.elim, fun _ _ _ _ _ _ _ _ _ _ _ q => q.elim, fun _ _ _ _ _ q => q.elim, fun _ _ _ _ _ q => q.elim, fun c σ H' A Γ r qc => ?_, fun σ H' A Γ v' r z q => ?_⟩
  · obtain ⟨rfl, qo⟩ := qc
    exact k2 qo H' (sm r)
  · have e := r.fix 0 (by simp)
    rw [z] at e
    have e' : v' = v := by
      have z : (L2.start N [v])[0]? = some (some v) := rfl
      rw [z] at e
      cases e; rfl
    subst e'
    exact k1 q H' (sm r)
end
/-! ### try: .. except X: suite, a suite that raises out -/
section
variable {X : Cx} {W : WX} {fx : List Nat} {x : Str} {c : Value} {body suite : List Stmt} {b₀ : Stmt} {np pos pos' : Pos} {tb ts : TDS}
def caughtX (K : PySem.W.Frag) (c : Value) (ts : TDS) (D : DEnds) (cls : Value) (Γ : Ev) : Prop :=
  ∃ b, PySem.W.exmOne K cls c = some b ∧ (b = true → ts D Γ) ∧ (b = false → D.ex cls Γ)
@[simp] def tTryX (K : PySem.W.Frag) (c : Value) (tb : TDS) (ts : TDS) : TDS := fun D Γ => tb { D with ex := caughtX K c ts D } Γ
theorem ds_tryX (hs : X.stack = X.env :: X.outer) (hf : X.env.frame = some X.env.locals) (hc : Names X x c) (hpa : ∀ hd : Option Value, PassesOwnAt (model X.prog X.w) (X.A.mark hd) X.A X.env X.xe) (tk : L2.Takes X W)
    (hb : ∀ (W' : WX) (pn : List (Addr × Obj)) (xe : Value → Shared → Prop), L2N.Takes (X.tr pn xe) W' → PassesOwn (model X.prog X.w) X.A X.env xe → DSs (X.tr pn xe) W' fx body tb)
    (hsu : ∀ (a : Addr) (oe : Obj) (pn : List (Addr × Obj)), L2.Takes (L2H.suiteX X a ((a, oe) :: pn)) W → L2H.HotC (L2H.suiteX X a ((a, oe) :: pn)) → DSs (L2H.suiteX X a ((a, oe) :: pn)) W fx (b₀ :: suite) ts) :
    DS X W fx (.Try body [.ExceptHandler (some (.Name x np)) none (b₀ :: suite) pos'] [] [] pos) (tTryX X.K c tb ts) := by
  refine PS.imp (L2H.ps_try_onlyX (tb := fun W' => liftS X.K W' fx tb) (ts := fun a cls d D σ H => liftS X.K W fx ts D σ H) hs hf hc hpa tk (fun W' pn xe t1 _ po => hb W' pn xe t1 po) fun a oe cls d pn hz hfl t1 h1 => hsu a oe pn t1 h1) fun D σ H h => ?_
  obtain ⟨φ, A, Γ, Dd, rel, q, er⟩ := h
  refine ⟨φ, A, Γ, _, rel, q, ⟨er.nx, er.rt, er.bk, er.ct, fun cls σ1 H1 A1 Γ1 r1 ⟨b, eb, qt, qf⟩ => ⟨b, eb, fun hb a ha => ?_, fun hb => er.ex cls σ1 H1 A1 Γ1 r1 (qf hb)⟩, er.rf⟩⟩
  exact ⟨φ, A1, Γ1, _, r1, qt hb, er⟩
end
end FW

set_option Elab.async false
set_option linter.all false
set_option maxRecDepth 100000
set_option maxHeartbeats 4000000
namespace FW
open PySem PySem.Spec PyProof.Rows L2
/-! ### texts: split, join, number of a text, one sign in a text -/
theorem dds_strs {K : PySem.W.Frag} {Hs : Hp} : ∀ ys : List Str, DDs K Hs (ys.map V.str) (ys.map PyData.str)
  | [] => .nil
  | y :: ys => .cons (.str y) (dds_strs ys)
theorem strs_of {K : PySem.W.Frag} {Hs : Hp} : ∀ {xs : List V} {ys : List Str}, DDs K Hs xs (ys.map PyData.str) → xs = ys.map V.str
  | _, [], .nil => rfl
  | _, _ :: _, .cons h t => by
    cases h
    rw [strs_of t]; rfl
section
variable {X : Cx} {W : WX} {fx : List Nat} {o e a b : Expr} {t u : TD} {pos p apos : Pos} {k : Nat}
@[simp] def tSplit (t u : TD) : TD := fun Γ Q E => t Γ (fun x => ∃ a, x.er = .str a ∧ u Γ (fun y => ∃ b, y.er = .str b ∧ (b.length == 0) = false ∧ a.length + 2 ≤ sizeLine ∧ Q (.node ((Txt.split a b).map fun z => .leaf (.str z)))) E) E
theorem de_m_split (ho : DE X W fx o t) (he : DE X W fx e u) (hs : starEach [e] X.env = [(false, eval e X.env)] := by rfl) (hbase : attributeBase o "split" X.env (eval o X.env) = eval o X.env := by rfl) (hline : (apos.endLine == pos.line) = true := by rfl) :
    DE X W fx (.Call (.Attribute o "split" apos) [e] [] pos) (tSplit t u) := by
  refine PE.imp (pe_split ho he hs hbase hline) fun σ H Q ⟨φ, A, Γ, Qd, Ed, rel, q, k, ke⟩ => ?_
  refine ⟨φ, A, Γ, _, Ed, rel, q, fun x v H1 s1 r1 ⟨a, ea, q1⟩ => ?_, ke⟩
  have ev := (r1.cv rel.dom).str ea
  subst ev
  refine ⟨⟨a, rfl⟩, φ, A, Γ, _, Ed, rel.mono s1, q1, fun y w H2 s2 r2 ⟨b, eb, h0, hz, q2⟩ => ?_, fun c H' s' q' => ke c H' (s1.trans s') q'⟩
  have ew := (r2.cv (rel.dom.mono s1)).str eb
  subst ew
  have k' : Kt X.K A φ.Z H2 Qd Q := fun y w H' s' r' qy => k y w H' ((s1.trans s2).trans s') (r'.back (s1.trans s2)) qy
  refine ⟨a, b, rfl, rfl, h0, hz, Kt.lst ((rel.dom.mono s1).mono s2) k' (dds_strs _) ?_⟩
  rw [List.map_map]
  exact q2
@[simp] def tJoin (t u : TD) : TD := fun Γ Q E => t Γ (fun x => ∃ a, x.er = .str a ∧ u Γ (fun y => ∃ ys : List Str, y.er = .list (ys.map .str) ∧ (ys.map (·.length)).sum + ys.length * a.length ≤ 16777216 ∧ Q (.leaf (.str (Txt.join a ys)))) E) E
theorem de_m_join (ho : DE X W fx o t) (he : DE X W fx e u) (hs : starEach [e] X.env = [(false, eval e X.env)] := by rfl) (hbase : attributeBase o "join" X.env (eval o X.env) = eval o X.env := by rfl) (hline : (apos.endLine == pos.line) = true := by rfl) :
    DE X W fx (.Call (.Attribute o "join" apos) [e] [] pos) (tJoin t u) := by
  refine PE.imp (pe_join ho he hs hbase hline) fun σ H Q ⟨φ, A, Γ, Qd, Ed, rel, q, k, ke⟩ => ?_
  refine ⟨φ, A, Γ, _, Ed, rel, q, fun x v H1 s1 r1 ⟨a, ea, q1⟩ => ?_, ke⟩
  have ev := (r1.cv rel.dom).str ea
  subst ev
  refine ⟨⟨a, rfl⟩, φ, A, Γ, _, Ed, rel.mono s1, q1, fun y w H2 s2 r2 ⟨ys, eb, hz, q2⟩ => ?_, fun c H' s' q' => ke c H' (s1.trans s') q'⟩
  obtain ⟨pl, xs, rfl, h, d⟩ := (r2.cv (rel.dom.mono s1)).list eb
  have ex := strs_of d
  subst ex
  have k' : Kt X.K A φ.Z H2 Qd Q := fun y w H' s' r' qy => k y w H' ((s1.trans s2).trans s') (r'.back (s1.trans s2)) qy
  exact ⟨a, pl, ys, rfl, rfl, .inl (hid_same.seq h), hz, k'.leaf (.str _) q2⟩
@[simp] def fIntT (x : OT) (Q : OT → Prop) : Prop := ∃ a n, x.er = .str a ∧ PySem.intText? a = some n ∧ a.length ≤ 640 ∧ Q (.leaf (.int n))
theorem de_intT (hg : Gl X "int") (m : X.mg "int" = none) (hb : bootBuiltins "int" = some (.type "int")) (ha : DE X W fx a t) (hs : starEach [a] X.env = (false, eval a X.env) :: starEach [] X.env := by rfl) : DE X W fx (.Call (.Name "int" p) [a] [] pos) (tU fIntT t) :=
  de_call1 (pe_callTy call_int_str hg m hb (pa_cons ha pa_nil hs) (he := hs)) fun A Z H1 x v Q Qd dm c ⟨z, n, e, hn, hl, q⟩ k => ⟨z, n, by rw [c.str e], hn, hl, k.leaf (.int _) q⟩
@[simp] def fNotInS (x y : OT) (Q : OT → Prop) : Prop := ∃ (c : Nat) (z : Str), x.er = .str ⟨#[c]⟩ ∧ y.er = .str z ∧ Q (.leaf (.bool (!decide (c ∈ z.cps.toList))))
theorem dt_notInS (ha : DE X W fx a t) (hb : DE X W fx b u) (hm : behindInMarks .NotIn b = false := by rfl) : DT X W fx (.Compare a [.NotIn] [b] pos) (tTV (tB fNotInS t u)) := dt_op (pt_cmpR op_notIn_sign ha hb hm) fun A Z H1 x y v u Q Qd dm c c' ⟨ch, z, e1, e2, q⟩ k => ⟨ch, z, c.str e1, c'.str e2, k.leaf (.bl _) q⟩
/-- a text some times -/
def timesS (z : Str) (n : Nat) : Str := ⟨(List.replicate n z.cps).foldl (· ++ ·) #[]⟩
theorem times_size (a : Array Nat) : ∀ (n : Nat) (b : Array Nat), ((List.replicate n a).foldl (· ++ ·) b).size = b.size + a.size * n
  | 0, b => rfl
  | n + 1, b => by
    rw [List.replicate_succ, List.foldl_cons, times_size a n, Array.size_append, Nat.mul_succ]
    omega
theorem timesS_len (z : Str) (n : Nat) : (timesS z n).length = z.length * n := by
  show ((List.replicate n z.cps).foldl (· ++ ·) #[]).size = _
  rw [times_size]; simp [Str.length]
def rStrN : R2 := fun x y H Q => ∃ z n, x = .str z ∧ y = .int n ∧ 2 ≤ n ∧ n ≤ 1000 ∧ 0 < z.length ∧ z.length ≤ 1000 ∧ Q (.str (timesS z n.toNat)) H
theorem op_strN : OpR X (binaryOp .Mult) rStrN := by
  intro pins s σ H x y v u Q I rx ry h
  obtain ⟨z, n, rfl, rfl, h2, hn, hz, hz2, q⟩ := h
  obtain ⟨t, rfl⟩ := rx
  obtain ⟨t', rfl⟩ := ry
  have hpos : ¬ (n == 1 || z.length == 0) = true := by
    simp only [Bool.or_eq_true, beq_iff_eq]; omega
  have hl : z.length * n.toNat ≤ 1000000 := by
    have : n.toNat ≤ 1000 := by omega
    calc z.length * n.toNat ≤ 1000 * 1000 := Nat.mul_le_mul hz2 this
      _ = 1000000 := rfl
  refine P.mul_str (by simp only [Bool.or_eq_false_iff, decide_eq_false_iff_not]; omega) (fun _ _ hh => ?_) (fun _ _ => ?_) ?_
  · have hm : (z.length : Int) * n ≤ 2 ^ 63 - 1 := by
      have e : ((z.length * n.toNat : Nat) : Int) = (z.length : Int) * n := by
        rw [Int.natCast_mul, Int.toNat_of_nonneg (by omega)]
      omega
    have := Int.le_ediv_of_mul_le (by omega) hm
    omega
  · unfold Builtin.Str.tooLong
    have := sizeLine_big (n := 100000) (by omega)
    have e := sizeLine_eq
    simp only [decide_eq_false_iff_not, gt_iff_lt, Nat.not_lt]
    rw [e]; omega
  · rw [if_neg (by omega), if_neg hpos]
    exact ⟨by show (timesS z n.toNat).length ≤ sizeLine; rw [timesS_len, sizeLine_eq]; omega, .str _, H, I.tok _, ⟨_, rfl⟩, q⟩
@[simp] def fStrN (x y : OT) (Q : OT → Prop) : Prop := ∃ z n, x.er = .str z ∧ y.er = .int n ∧ 2 ≤ n ∧ n ≤ 1000 ∧ 0 < z.length ∧ z.length ≤ 1000 ∧ Q (.leaf (.str (timesS z n.toNat)))
theorem de_mulN (ha : DE X W fx a t) (hb : DE X W fx b u) : DE X W fx (.BinOp a .Mult b pos) (tB fStrN t u) := de_bin (pe_op op_strN ha hb) fun A Z H1 x y v u Q Qd dm c c' ⟨z, n, e1, e2, h1, h2, h3, h4, q⟩ k =>
  ⟨z, n, c.str e1, c'.int e2, h1, h2, h3, h4, k.leaf (.str _) q⟩
/-- a text among texts of a tuple -/
theorem inV_strs (i : Str) : ∀ ns : List Str, inV (.str i) (ns.map V.str) = decide (i ∈ ns)
  | [] => by simp [inV]
  | n :: ns => by
    have ih := inV_strs i ns
    simp only [inV, List.map_cons, List.any_cons] at ih ⊢
    rw [ih]
    by_cases e : n = i
    · subst e; simp [eqV]
    · have e' : ¬ i = n := fun z => e z.symm
      simp [eqV, e, e']
theorem flat_strs : ∀ ns : List Str, (ns.map V.str).all flatV = true
  | [] => rfl
  | n :: ns => by rw [List.map_cons, List.all_cons, flat_strs ns]; rfl
@[simp] def fNotInTS (x y : OT) (Q : OT → Prop) : Prop := ∃ i, x.er = .str i ∧ ∃ ns : List Str, y.er = .tuple (ns.map .str) ∧ Q (.leaf (.bool (!decide (i ∈ ns))))
theorem dt_notInTS (hr : Room k X.A) (ha : DE X W fx a t) (hb : DE X W fx b u) (hm : behindInMarks .NotIn b = false := by rfl) : DT X W fx (.Compare a [.NotIn] [b] pos) (tTV (tB fNotInTS t u)) := dt_op (pt_cmpR op_notIn_seq ha hb hm) fun A Z H1 x y v u Q Qd dm c c' ⟨i, e, ns, e', q⟩ k => by
  have ev := c.str e
  subst ev
  obtain ⟨p, xs, rfl, h, t⟩ := c'.tup e'
  have ex := strs_of t
  subst ex
  refine ⟨p, _, rfl, .inr (sqT_mono hid_same h), rfl, flat_strs ns, ?_⟩
  rw [if_pos rfl, inV_strs]
  exact k.leaf (.bl _) q
end
/-- a block whose names are free of the block around it -/
theorem blkOk_any {N : List Str} {sc scope : Scope} {own : List (Str × Nat)} (h : blkC N sc scope own = true) (hf : (scope.names.all fun y => !(y.2 == .free)) = true) (sc' : Scope) : BlkOk N sc' scope own := by
  have o := blkOk_by h
  refine ⟨o.kind, o.uniq, o.ix, fun y hy e => ?_, o.own⟩
  have z := List.all_eq_true.mp hf y hy
  rw [e] at z
  cases z
/-! ### comprehensions whose element may raise, by a function that may lack -/
theorem compInvX_mapM {ds : List PyData} {i : Nat} {te : TD} {Γ : Ev} {Q : OT → Prop} {E : Value → Prop} {c : Value} (f : PyData → Option OT) (hf : free1 i Γ) (hl : ds.length ≤ sizeLine) (hs : ∀ d r, d ∈ ds → f d = some r → r.isScr = false)
    (h : ∀ d, d ∈ ds → ∀ (Q' : OT → Prop), (∀ r, f d = some r → Q' r) → (f d = none → E c) → te (Γ.set i (some (.leaf d))) Q' E) (q : ∀ rs, ds.mapM f = some rs → Q (.node rs)) (qn : ds.mapM f = none → E c) : compInvX ds i tYesD te Γ Q E := by
  refine ⟨hf, fun n acc => (ds.take n).mapM f = some acc, by simp, fun n d acc e ea => ?_, fun acc ea => q acc (by have ea : (ds.take ds.length).mapM f = some acc := ea; rw [List.take_length] at ea; exact ea)⟩
  have hn : n < ds.length := (List.getElem?_eq_some_iff.mp e).1
  have hm : d ∈ ds := List.mem_of_getElem? e
  have e1 : ds.take (n + 1) = ds.take n ++ [d] := by rw [List.take_add_one, e]; rfl
  have lenM : ∀ {l : List PyData} {a : List OT}, l.mapM f = some a → a.length = l.length := by
    intro l
    induction l with
    | nil => intro a h; simp at h; subst h; rfl
    | cons x l ih =>
      intro a h
      simp only [List.mapM_cons, Option.bind_eq_bind, Option.bind_eq_some_iff] at h
      obtain ⟨y, _, r, hr, e⟩ := h
      cases e
      simp [ih hr]
  simp only [tYesD, if_true]
  refine h d hm _ (fun r hr => ⟨hs d r hm hr, ?_, ?_⟩) fun hr => qn ?_
  · rw [lenM ea, List.length_take]; omega
  · rw [e1, List.mapM_append, ea]
    simp [hr]
  · have e2 : ds = ds.take n ++ d :: ds.drop (n + 1) := by
      have z := List.take_append_drop n ds
      rw [List.drop_eq_getElem_cons hn, (List.getElem?_eq_some_iff.mp e).2] at z
      exact z.symm
    rw [e2, List.mapM_append, ea]
    simp [hr]
end FW

set_option Elab.async false
set_option linter.all false
set_option maxRecDepth 100000
set_option maxHeartbeats 4000000
namespace FW
open PySem PySem.Spec PyProof.Rows L2 TL PySem.NumText
/-! ### texts of webs: the words, the parts, the numbers -/
theorem joinL_cons {S p : List Nat} {r : List (List Nat)} (h : r ≠ []) : joinL S (p :: r) = p ++ (S ++ joinL S r) := by
  cases r with
  | nil => exact absurd rfl h
  | cons q r => rfl
theorem spl_ne (S : List Nat) : ∀ (k : Nat) (acc l : List Nat), spl S k acc l ≠ []
  | k, acc, [] => by rw [spl_nil]; simp
  | 0, acc, c :: r => by
    cases h : pre S (c :: r) with
    | true => rw [spl_hit h]; simp
    | false => rw [spl_miss h]; exact spl_ne S 0 _ r
  | k + 1, acc, c :: r => spl_ne S k acc r
/-- what is split, joined -/
theorem join_spl {S : List Nat} (hS : S ≠ []) : ∀ (n : Nat) (l acc : List Nat), l.length ≤ n → joinL S (spl S 0 acc l) = acc ++ l
  | _, [], acc, _ => by rw [spl_nil]; simp [joinL]
  | 0, c :: r, acc, h => by simp at h
  | n + 1, c :: r, acc, h => by
    cases hp : pre S (c :: r) with
    | false =>
      rw [spl_miss hp, join_spl hS n r _ (by simpa using h), List.append_assoc]; rfl
    | true =>
      have e : (c :: r).take S.length = S := eq_of_beq hp
      rw [spl_hit hp, spl_pass, joinL_cons (spl_ne S 0 [] _)]
      have hl : (r.drop (S.length - 1)).length ≤ n := by
        rw [List.length_drop]
        have : r.length + 1 ≤ n + 1 := by simpa using h
        omega
      rw [join_spl hS n _ [] hl, List.nil_append]
      congr 1
      have e2 : r.drop (S.length - 1) = (c :: r).drop S.length := by
        cases S with
        | nil => exact absurd rfl hS
        | cons s S => rfl
      rw [e2]
      conv => lhs; arg 1; rw [← e]
      exact List.take_append_drop _ _
theorem mem_joinL {S : List Nat} {c : Nat} : ∀ {ps : List (List Nat)}, c ∈ joinL S ps → c ∈ S ∨ ∃ p ∈ ps, c ∈ p
  | [], h => by simp [joinL] at h
  | [p], h => .inr ⟨p, by simp, h⟩
  | p :: q :: r, h => by
    rw [joinL_cons (by simp)] at h
    rcases List.mem_append.mp h with h | h
    · exact .inr ⟨p, by simp, h⟩
    · rcases List.mem_append.mp h with h | h
      · exact .inl h
      · rcases mem_joinL h with h | ⟨x, hx, h⟩
        · exact .inl h
        · exact .inr ⟨x, List.mem_cons_of_mem _ hx, h⟩
theorem joinL_part {S : List Nat} {p : List Nat} : ∀ {ps : List (List Nat)}, p ∈ ps → (∀ c ∈ p, c ∈ joinL S ps) ∧ p.length ≤ (joinL S ps).length
  | [], h => by simp at h
  | [q], h => by
    have e : p = q := by simpa using h
    subst e
    exact ⟨fun c hc => hc, Nat.le_refl _⟩
  | q :: r :: s, h => by
    rw [joinL_cons (by simp)]
    rcases List.mem_cons.mp h with e | h
    · subst e
      exact ⟨fun c hc => List.mem_append_left _ hc, by simp⟩
    · obtain ⟨a, b⟩ := joinL_part (S := S) h
      refine ⟨fun c hc => List.mem_append_right _ (List.mem_append_right _ (a c hc)), ?_⟩
      simp only [List.length_append]; omega
theorem joinL_len {S : List Nat} {k : Nat} : ∀ {ps : List (List Nat)}, (∀ p ∈ ps, p.length ≤ k) → (joinL S ps).length ≤ ps.length * (k + S.length)
  | [], _ => by simp [joinL]
  | [p], h => by
    have := h p (by simp)
    simp [joinL]; omega
  | p :: q :: r, h => by
    rw [joinL_cons (by simp)]
    have h1 := h p (by simp)
    have h2 := joinL_len (S := S) (ps := q :: r) fun x hx => h x (List.mem_cons_of_mem _ hx)
    simp only [List.length_append, List.length_cons] at h2 ⊢
    rw [Nat.succ_mul]
    omega
/-- split, and joined again -/
theorem split_tl {x y : Str} (hy : tl y ≠ []) (hk : y.cps.all (· < 256) = true) : (Txt.split x y).map tl = spl (tl y) 0 [] (tl x) := split_spl x y hy (kind_ok hk)
theorem join_split {x y : Str} (hy : tl y ≠ []) (hk : y.cps.all (· < 256) = true) : Txt.join y (Txt.split x y) = x := by
  refine ext_tl ?_
  rw [join_eq, tl_join, split_tl hy hk, join_spl hy _ _ _ (Nat.le_refl _), List.nil_append]
theorem split_nil {x y : Str} (hy : tl y ≠ []) (hk : y.cps.all (· < 256) = true) : Txt.split x y ≠ [] := fun e => by
  have z := split_tl (x := x) hy hk
  rw [e] at z
  exact spl_ne _ _ _ _ z.symm
theorem split_part {x y p : Str} (hy : tl y ≠ []) (hk : y.cps.all (· < 256) = true) (h : p ∈ Txt.split x y) : (∀ c ∈ tl p, c ∈ tl x) ∧ p.length ≤ x.length := by
  have z := split_tl (x := x) hy hk
  have j : joinL (tl y) ((Txt.split x y).map tl) = tl x := by rw [z, join_spl hy _ _ _ (Nat.le_refl _), List.nil_append]
  have q := joinL_part (S := tl y) (ps := (Txt.split x y).map tl) (List.mem_map_of_mem h)
  rw [j] at q
  rw [len_tl, len_tl]
  exact q
theorem split_le2 (x y : Str) : (Txt.split x y).length ≤ x.length + 2 := PyProof.Rows.split_le x y
/-! ### the three separators -/
abbrev sepB : Str := Str.ofString " "
abbrev sepS : Str := Str.ofString "; "
abbrev sepR : Str := Str.ofString " | "
theorem tl_B : tl sepB = [32] := by decide +kernel
theorem tl_S : tl sepS = [59, 32] := by decide +kernel
theorem tl_R : tl sepR = [32, 124, 32] := by decide +kernel
theorem ne_B : tl sepB ≠ [] := by rw [tl_B]; simp
theorem ne_S : tl sepS ≠ [] := by rw [tl_S]; simp
theorem ne_R : tl sepR ≠ [] := by rw [tl_R]; simp
theorem k_B : sepB.cps.all (· < 256) = true := by decide +kernel
theorem k_S : sepS.cps.all (· < 256) = true := by decide +kernel
theorem k_R : sepR.cps.all (· < 256) = true := by decide +kernel
/-- parts without the bar -/
theorem pre_bar {p q : List Nat} (h : 124 ∉ p) (hq : q.head? ≠ some 124) : ∀ i, i < p.length → pre [32, 124, 32] ((p ++ q).drop i) = false := fun i hi => by
  cases hp : pre [32, 124, 32] ((p ++ q).drop i) with
  | false => rfl
  | true =>
    exfalso
    have e : ((p ++ q).drop i).take 3 = [32, 124, 32] := eq_of_beq hp
    have e1 : (((p ++ q).drop i).take 3)[1]? = some 124 := by rw [e]; rfl
    rw [List.getElem?_take, if_pos (by decide), List.getElem?_drop] at e1
    by_cases hl : i + 1 < p.length
    · rw [List.getElem?_append_left hl] at e1
      exact h (List.mem_of_getElem? e1)
    · have ei : i + 1 = p.length := by omega
      rw [ei, List.getElem?_append_right (Nat.le_refl _), Nat.sub_self] at e1
      rw [List.head?_eq_getElem?] at hq
      exact hq e1
theorem spl_bar : ∀ {ps : List (List Nat)}, ps ≠ [] → (∀ p ∈ ps, 124 ∉ p) → spl [32, 124, 32] 0 [] (joinL [32, 124, 32] ps) = ps
  | [], h, _ => absurd rfl h
  | [p], _, hp => by
    show spl _ 0 [] p = [p]
    rw [spl_last (acc := []) fun i hi => by
      have z := pre_bar (q := []) (hp p (by simp)) (by simp) i hi
      rwa [List.append_nil] at z]
    rfl
  | p :: q :: r, _, hp => by
    rw [joinL_cons (by simp), spl_part (by simp) (pre_bar (hp p (by simp)) (by simp)), List.nil_append, spl_bar (by simp) fun z hz => hp z (List.mem_cons_of_mem _ hz)]
/-! ### numbers -/
abbrev numT (n : Int) : Str := Str.ofString (toString n)
theorem numT_nn (n : Nat) : tl (numT (n : Int)) = numL n := tl_num n
theorem numT_neg {n : Int} (h : n < 0) : tl (numT n) = 45 :: numL n.natAbs := by
  have e : (0 - n : Int) = ((n.natAbs : Nat) : Int) := by omega
  rw [show numT n = Str.ofString ("-" ++ toString ((n.natAbs : Nat) : Int)) from by rw [← e, ← toString_neg h]]
  rw [tl_ofString, String.toList_append, List.map_append, ← tl_ofString, ← tl_ofString, numT_nn]
  rfl
theorem numT_mem {n : Int} {c : Nat} (h : c ∈ tl (numT n)) : c = 45 ∨ (48 ≤ c ∧ c ≤ 57) := by
  by_cases hn : n < 0
  · rw [numT_neg hn] at h
    rcases List.mem_cons.mp h with h | h
    · exact .inl h
    · exact .inr (numL_digits _ c h)
  · obtain ⟨m, rfl⟩ := Int.eq_ofNat_of_zero_le (show 0 ≤ n by omega)
    rw [numT_nn] at h
    exact .inr (numL_digits _ c h)
/-- the figures of a word -/
def figs (l : List Nat) : List Nat := if l.head? = some 45 then l.drop 1 else l
def negW (l : List Nat) : Bool := decide (l.head? = some 45)
def figOk (f : List Nat) : Bool := decide (1 ≤ f.length) && decide (f.length ≤ 30) && f.all fun c => decide (48 ≤ c) && decide (c ≤ 57)
theorem figOk_iff {f : List Nat} : figOk f = true ↔ 1 ≤ f.length ∧ f.length ≤ 30 ∧ AllDigits f := by
  simp [figOk, AllDigits, and_assoc]
def numP (w : Str) : Option Int := if figOk (figs (tl w)) = true then some (if negW (tl w) = true then -((digitsVal (figs (tl w)) : Nat) : Int) else ((digitsVal (figs (tl w)) : Nat) : Int)) else none
theorem numL_head {n : Nat} : (numL n).head? ≠ some 45 := fun h => by
  have : 45 ∈ numL n := List.mem_of_mem_head? h
  have := numL_digits n 45 this
  omega
theorem figs_num (n : Int) : figs (tl (numT n)) = numL n.natAbs ∧ negW (tl (numT n)) = decide (n < 0) := by
  by_cases hn : n < 0
  · rw [numT_neg hn]
    simp [figs, negW, hn]
  · obtain ⟨m, rfl⟩ := Int.eq_ofNat_of_zero_le (show 0 ≤ n by omega)
    rw [numT_nn]
    have := numL_head (n := m)
    refine ⟨by unfold figs; rw [if_neg this]; simp, ?_⟩
    unfold negW
    rw [decide_eq_false this, decide_eq_false hn]
theorem numL_ok {n : Nat} (h : n < 10 ^ 30) : figOk (numL n) = true := figOk_iff.mpr ⟨List.length_pos_iff.mpr (numL_ne n), numL_len (by decide) h, numL_digits n⟩
theorem numP_num {n : Int} (h : n.natAbs < 10 ^ 30) : numP (numT n) = some n := by
  obtain ⟨e1, e2⟩ := figs_num n
  unfold numP
  rw [e1, e2, if_pos (numL_ok h), numL_val]
  congr 1
  by_cases hn : n < 0
  · rw [decide_eq_true hn, if_pos rfl]; omega
  · rw [decide_eq_false hn, if_neg Bool.false_ne_true]; omega
theorem head_app {g r : List Nat} (h : g ≠ []) : (g ++ r).head? = g.head? := by
  cases g with
  | nil => exact absurd rfl h
  | cons a g => rfl
/-- figures with no nought ahead are those of a number -/
theorem canon : ∀ (k : Nat) (f : List Nat), f.length ≤ k → f ≠ [] → AllDigits f → (f.head? = some 48 → f = [48]) → numL (digitsVal f) = f
  | 0, f, h, hne, _, _ => absurd (List.length_eq_zero_iff.mp (by omega)) hne
  | k + 1, f, h, hne, hd, h0 => by
    rcases List.eq_nil_or_concat f with e | ⟨g, c, e⟩
    · exact absurd e hne
    · subst e
      rw [List.concat_eq_append] at *
      have hc : 48 ≤ c ∧ c ≤ 57 := hd c (by simp)
      have v : digitsVal (g ++ [c]) = digitsVal g * 10 + (c - 48) := by simp [digitsVal, List.foldl_append]
      by_cases hg : g = []
      · subst hg
        have e : digitsVal ([] ++ [c]) = c - 48 := by simp [digitsVal]
        rw [e, numL_lt (by omega)]
        simp; omega
      · have hgd : AllDigits g := fun d h => hd d (by simp [h])
        have hh : g.head? ≠ some 48 := fun z => by
          have := h0 (by rw [head_app hg]; exact z)
          have l := congrArg List.length this
          simp at l
          exact hg l
        have ih := canon k g (by simp at h; omega) hg hgd fun z => absurd z hh
        have pos : 1 ≤ digitsVal g := by
          rcases Nat.eq_zero_or_pos (digitsVal g) with z | z
          · rw [z] at ih
            have e0 : numL 0 = [48] := numL_lt (by decide)
            rw [e0] at ih
            rw [← ih] at hh
            exact absurd rfl hh
          · exact z
        rw [v, numL_step (by omega), show (digitsVal g * 10 + (c - 48)) / 10 = digitsVal g by omega, ih, show (digitsVal g * 10 + (c - 48)) % 10 = c - 48 by omega, show 48 + (c - 48) = c by omega]
theorem digits_lt : ∀ (k : Nat) (f : List Nat), f.length = k → AllDigits f → digitsVal f < 10 ^ f.length := by
  intro k
  induction k with
  | zero => intro f e _; rw [List.length_eq_zero_iff.mp e]; simp [digitsVal]
  | succ k ih =>
    intro f e hd
    rcases List.eq_nil_or_concat f with e0 | ⟨g, c, e0⟩
    · subst e0; cases e
    rw [List.concat_eq_append] at e0
    subst e0
    have hc : 48 ≤ c ∧ c ≤ 57 := hd c (by simp)
    have i := ih g (by simpa using e) fun d h => hd d (by simp [h])
    have v : digitsVal (g ++ [c]) = digitsVal g * 10 + (c - 48) := by simp [digitsVal, List.foldl_append]
    rw [v, List.length_append, List.length_singleton, Nat.pow_succ]
    omega
theorem numP_small {w : Str} {n : Int} (h : numP w = some n) : n.natAbs < 10 ^ 30 := by
  unfold numP at h
  split at h
  · rename_i ok
    obtain ⟨h1, h2, h3⟩ := figOk_iff.mp ok
    have := digits_lt _ _ rfl h3
    have : 10 ^ (figs (tl w)).length ≤ 10 ^ 30 := Nat.pow_le_pow_right (by decide) h2
    cases h
    split <;> omega
  · cases h
/-- the law's own look: no nought ahead -/
def canonW (w : Str) : Bool := !(decide ((figs (tl w)).head? = some 48) && !decide (w = Str.ofString "0"))
theorem figs_of {l : List Nat} : l = if negW l = true then 45 :: figs l else figs l := by
  unfold negW figs
  by_cases h : l.head? = some 45
  · rw [decide_eq_true h, if_pos rfl, if_pos h]
    cases l with
    | nil => cases h
    | cons a r => cases h; rfl
  · rw [decide_eq_false h, if_neg Bool.false_ne_true, if_neg h]
theorem tl_zero : tl (Str.ofString "0") = [48] := by decide +kernel
theorem canon_num {w : Str} {n : Int} (h : numP w = some n) (hc : canonW w = true) : numT n = w := by
  unfold numP at h
  split at h
  · rename_i ok
    obtain ⟨h1, h2, h3⟩ := figOk_iff.mp ok
    have hne : figs (tl w) ≠ [] := List.length_pos_iff.mp h1
    have z : (figs (tl w)).head? = some 48 → w = Str.ofString "0" := fun hh => by
      simp only [canonW, hh, decide_true, Bool.true_and, Bool.not_not, decide_eq_true_eq] at hc
      exact hc
    have cn := canon _ (figs (tl w)) (Nat.le_refl _) hne h3 fun hh => by
      have e := z hh
      rw [e, tl_zero]; rfl
    have fo := figs_of (l := tl w)
    refine ext_tl ?_
    by_cases hn : negW (tl w) = true
    · rw [if_pos hn] at h fo
      cases h
      have pos : digitsVal (figs (tl w)) ≠ 0 := fun e => by
        rw [e, numL_lt (by decide)] at cn
        have := z (by rw [← cn]; rfl)
        rw [this, tl_zero] at hn
        exact absurd hn (by decide)
      have := (numT_neg (n := -((digitsVal (figs (tl w)) : Nat) : Int)) (by omega))
      rw [this, show (-((digitsVal (figs (tl w)) : Nat) : Int)).natAbs = digitsVal (figs (tl w)) by omega, cn]
      exact fo.symm
    · rw [if_neg hn] at h fo
      cases h
      rw [numT_nn, cn]
      exact fo.symm
  · cases h
theorem canonW_num (n : Int) : canonW (numT n) = true := by
  cases hh : canonW (numT n) with
  | true => rfl
  | false =>
    exfalso
    simp only [canonW, Bool.not_eq_false', Bool.and_eq_true, decide_eq_true_eq, Bool.not_eq_true', decide_eq_false_iff_not] at hh
    obtain ⟨h1, h2⟩ := hh
    rw [(figs_num n).1] at h1
    have hz : n.natAbs < 10 := by
      rcases Nat.lt_or_ge n.natAbs 10 with h | h
      · exact h
      · exfalso
        have key : ∀ (k m : Nat), m ≤ k → 1 ≤ m → (numL m).head? ≠ some 48 := by
          intro k
          induction k with
          | zero => intro m h1 h2; omega
          | succ k ih =>
            intro m h1 h2
            by_cases hm : m < 10
            · rw [numL_lt hm]; simp; omega
            · rw [numL_step (by omega), head_app (numL_ne _)]
              exact ih _ (by omega) (by omega)
        exact key _ _ (Nat.le_refl _) (by omega) h1
    rw [numL_lt hz] at h1
    have : n.natAbs = 0 := by simp at h1; omega
    have e0 : n = 0 := by omega
    subst e0
    exact h2 (by decide +kernel)
end FW

set_option Elab.async false
set_option linter.all false
set_option maxRecDepth 100000
set_option maxHeartbeats 4000000
namespace FW
open PySem PySem.Spec PyProof.Rows L2 TL PySem.NumText
/-! ### a web's text, written and read -/
abbrev wPut : Str := Str.ofString "put"
abbrev wGet : Str := Str.ofString "get"
abbrev wFen : Str := Str.ofString "fence"
abbrev wNil : Str := Str.ofString ""
def wordsS : Step → List Str
  | .put b n => [wPut, numT (b : Int), numT n]
  | .get b => [wGet, numT (b : Int)]
  | .fence => [wFen]
def stepT (s : Step) : Str := Txt.join sepB (wordsS s)
def rowT (r : List Step) : Str := Txt.join sepS (r.map stepT)
def webT (w : Web) : Str := Txt.join sepR (w.map rowT)
theorem tl_put : tl wPut = [112, 117, 116] := by decide +kernel
theorem tl_get : tl wGet = [103, 101, 116] := by decide +kernel
theorem tl_fen : tl wFen = [102, 101, 110, 99, 101] := by decide +kernel
theorem tl_nil : tl wNil = [] := by decide +kernel
/-- the signs of words -/
def okC (c : Nat) : Prop := c = 45 ∨ (48 ≤ c ∧ c ≤ 57) ∨ (97 ≤ c ∧ c ≤ 122)
theorem word_okC {s : Step} {z : Str} (h : z ∈ wordsS s) {c : Nat} (hc : c ∈ tl z) : okC c := by
  unfold okC
  cases s <;> simp only [wordsS, List.mem_cons, List.not_mem_nil, or_false] at h
  · rcases h with h | h | h <;> subst h
    · rw [tl_put] at hc; simp at hc; omega
    · have := numT_mem hc; omega
    · have := numT_mem hc; omega
  · rcases h with h | h <;> subst h
    · rw [tl_get] at hc; simp at hc; omega
    · have := numT_mem hc; omega
  · subst h
    rw [tl_fen] at hc; simp at hc; omega
theorem tl_joinT (y : Str) (ps : List Str) : tl (Txt.join y ps) = joinL (tl y) (ps.map tl) := by rw [join_eq, tl_join]
theorem mem_joinT {y : Str} {ps : List Str} {c : Nat} (h : c ∈ tl (Txt.join y ps)) : c ∈ tl y ∨ ∃ p ∈ ps, c ∈ tl p := by
  rw [tl_joinT] at h
  rcases mem_joinL h with h | ⟨p, hp, h⟩
  · exact .inl h
  · obtain ⟨z, hz, rfl⟩ := List.mem_map.mp hp
    exact .inr ⟨z, hz, h⟩
theorem stepT_mem {s : Step} {c : Nat} (h : c ∈ tl (stepT s)) : c = 32 ∨ okC c := by
  rcases mem_joinT h with h | ⟨p, hp, h⟩
  · rw [tl_B] at h; exact .inl (by simpa using h)
  · exact .inr (word_okC hp h)
theorem rowT_mem {r : List Step} {c : Nat} (h : c ∈ tl (rowT r)) : c = 32 ∨ c = 59 ∨ okC c := by
  rcases mem_joinT h with h | ⟨p, hp, h⟩
  · rw [tl_S] at h; simp at h; omega
  · obtain ⟨s, _, rfl⟩ := List.mem_map.mp hp
    rcases stepT_mem h with h | h
    · exact .inl h
    · exact .inr (.inr h)
theorem webT_mem {w : Web} {c : Nat} (h : c ∈ tl (webT w)) : c < 128 := by
  rcases mem_joinT h with h | ⟨p, hp, h⟩
  · rw [tl_R] at h; simp at h; omega
  · obtain ⟨s, _, rfl⟩ := List.mem_map.mp hp
    rcases rowT_mem h with h | h | h
    · omega
    · omega
    · unfold okC at h; omega
theorem words_ne {s : Step} : wordsS s ≠ [] := by cases s <;> simp [wordsS]
theorem split_step (s : Step) : Txt.split (stepT s) sepB = wordsS s := split_join tl_B k_B words_ne fun p hp h => by
  have := word_okC hp h
  unfold okC at this; omega
theorem split_row {r : List Step} (h : r ≠ []) : Txt.split (rowT r) sepS = r.map stepT := split_join tl_S k_S (by simpa using h) fun p hp h => by
  obtain ⟨s, _, rfl⟩ := List.mem_map.mp hp
  rcases stepT_mem h with h | h
  · omega
  · unfold okC at h; omega
theorem split_web {w : Web} (h : w ≠ []) : Txt.split (webT w) sepR = w.map rowT := by
  refine map_tl_inj ?_
  rw [split_tl ne_R k_R, webT, tl_joinT, tl_R]
  refine spl_bar (by simpa using h) fun p hp hc => ?_
  obtain ⟨z, hz, rfl⟩ := List.mem_map.mp hp
  obtain ⟨r, _, rfl⟩ := List.mem_map.mp hz
  rcases rowT_mem hc with h | h | h
  · omega
  · omega
  · unfold okC at h; omega
theorem joinL_ne {S : List Nat} {p : List Nat} {ps : List (List Nat)} (h : p ∈ ps) (hp : p ≠ []) : joinL S ps ≠ [] := fun e => by
  have z := (joinL_part (S := S) h).2
  rw [e] at z
  exact hp (List.length_eq_zero_iff.mp (by simpa using z))
theorem stepT_ne (s : Step) : tl (stepT s) ≠ [] := by
  rw [stepT, tl_joinT]
  cases s with
  | put b n => exact joinL_ne (p := tl wPut) (by simp [wordsS]) (by rw [tl_put]; simp)
  | get b => exact joinL_ne (p := tl wGet) (by simp [wordsS]) (by rw [tl_get]; simp)
  | fence => exact joinL_ne (p := tl wFen) (by simp [wordsS]) (by rw [tl_fen]; simp)
theorem rowT_nil : rowT [] = wNil := ext_tl (by rw [tl_nil, rowT, tl_joinT]; rfl)
theorem rowT_ne {r : List Step} (h : r ≠ []) : rowT r ≠ wNil := fun e => by
  have z := congrArg tl e
  rw [tl_nil, rowT, tl_joinT] at z
  cases r with
  | nil => exact h rfl
  | cons s r => exact joinL_ne (p := tl (stepT s)) (by simp) (stepT_ne s) z
/-! ### as the program reads it -/
theorem mapM_iff {α β : Type} {f : α → Option β} : ∀ {l : List α} {r : List β}, l.mapM f = some r ↔ l.map f = r.map some
  | [], r => by cases r <;> simp
  | a :: l, r => by
    simp only [List.mapM_cons, Option.bind_eq_bind, Option.bind_eq_some_iff, List.map_cons]
    constructor
    · rintro ⟨b, hb, q, hq, e⟩
      cases e
      rw [hb, mapM_iff.mp hq]; rfl
    · intro h
      cases r with
      | nil => cases h
      | cons b q =>
        rw [List.map_cons] at h
        injection h with h1 h2
        exact ⟨b, h1, q, mapM_iff.mpr h2, rfl⟩
theorem mapM_all {α β : Type} {f : α → Option β} {l : List α} {g : α → β} (h : ∀ a ∈ l, f a = some (g a)) : l.mapM f = some (l.map g) := by
  rw [mapM_iff, List.map_map]
  exact List.map_congr_left h
theorem mapM_mem {α β : Type} {f : α → Option β} {l : List α} {r : List β} (h : l.mapM f = some r) : ∀ b ∈ r, ∃ a ∈ l, f a = some b := fun b hb => by
  have z := mapM_iff.mp h
  have : some b ∈ l.map f := by rw [z]; exact List.mem_map_of_mem hb
  obtain ⟨a, ha, e⟩ := List.mem_map.mp this
  exact ⟨a, ha, e⟩
theorem mapM_len {α β : Type} {f : α → Option β} {l : List α} {r : List β} (h : l.mapM f = some r) : r.length = l.length := by
  have z := congrArg List.length (mapM_iff.mp h)
  simpa using z.symm
theorem mapM_none {α β : Type} {f : α → Option β} : ∀ {l : List α}, l.mapM f = none ↔ ∃ a ∈ l, f a = none
  | [] => by simp
  | a :: l => by
    simp only [List.mapM_cons, Option.bind_eq_bind, List.mem_cons, exists_eq_or_imp]
    cases h : f a with
    | none => simp
    | some b =>
      cases h2 : l.mapM f with
      | none =>
        have := mapM_none.mp h2
        simp [h2]; exact this
      | some r =>
        simp only [Option.bind_some, h2]
        have : ¬ ∃ a ∈ l, f a = none := fun z => by rw [mapM_none.mpr z] at h2; cases h2
        simp; intro x hx e; exact this ⟨x, hx, e⟩
def stepP (t : Str) : Option PyData :=
  if (Txt.split t sepB).getD 0 wNil = wPut ∧ (Txt.split t sepB).length = 3 then (numP ((Txt.split t sepB).getD 1 wNil)).bind fun a => (numP ((Txt.split t sepB).getD 2 wNil)).map fun b => .tuple [.str wPut, .int a, .int b]
  else if (Txt.split t sepB).getD 0 wNil = wGet ∧ (Txt.split t sepB).length = 2 then (numP ((Txt.split t sepB).getD 1 wNil)).map fun a => .tuple [.str wGet, .int a]
  else if t = wFen then some (.tuple [.str wFen]) else none
def rowP (t : Str) : Option (List PyData) := if t = wNil then some [] else (Txt.split t sepS).mapM stepP
def webP (t : Str) : Option (List (List PyData)) := (Txt.split t sepR).mapM rowP
theorem fen_text : stepT .fence = wFen := ext_tl (by rw [stepT, tl_joinT]; rfl)
theorem stepP_step {s : Step} (h : goodS s) : stepP (stepT s) = some s.enc := by
  unfold stepP
  rw [split_step]
  cases s with
  | put b n =>
    have hb : ((b : Nat) : Int).natAbs < 10 ^ 30 := by
      have := h.1
      have : (4 : Nat) < 10 ^ 30 := by decide
      omega
    rw [if_pos ⟨rfl, rfl⟩]
    show (numP (numT (b : Int))).bind (fun a => (numP (numT n)).map fun b => _) = _
    rw [numP_num hb, numP_num h.2]; rfl
  | get b =>
    have hb : ((b : Nat) : Int).natAbs < 10 ^ 30 := by
      have h : b < 4 := h
      have : (4 : Nat) < 10 ^ 30 := by decide
      omega
    rw [if_neg (fun z => by have := z.2; simp [wordsS] at this), if_pos ⟨rfl, rfl⟩]
    show (numP (numT (b : Int))).map (fun a => _) = _
    rw [numP_num hb]; rfl
  | fence =>
    rw [if_neg (fun z => by have := z.2; simp [wordsS] at this), if_neg (fun z => by have := z.2; simp [wordsS] at this), if_pos fen_text]; rfl
theorem rowP_row {r : List Step} (h : ∀ s ∈ r, goodS s) : rowP (rowT r) = some (r.map Step.enc) := by
  unfold rowP
  by_cases e : r = []
  · subst e; rw [if_pos rowT_nil]; rfl
  · rw [if_neg (rowT_ne e), split_row e, mapM_iff, List.map_map, List.map_map]
    exact List.map_congr_left fun s hs => stepP_step (h s hs)
theorem webP_web {w : Web} (h : ∀ r ∈ w, ∀ s ∈ r, goodS s) (hne : w ≠ []) : webP (webT w) = some (w.map fun r => r.map Step.enc) := by
  unfold webP
  rw [split_web hne, mapM_iff, List.map_map, List.map_map]
  exact List.map_congr_left fun r hr => rowP_row (h r hr)
theorem enc_inj {a b : Step} (h : a.enc = b.enc) : a = b := by
  cases a <;> cases b <;> simp [Step.enc] at h
  · obtain ⟨h1, h2⟩ := h
    subst h1 h2; rfl
  · subst h; rfl
  · rfl
theorem map_inj' {α β : Type} {f : α → β} (hf : ∀ {a b}, f a = f b → a = b) : ∀ {l m : List α}, l.map f = m.map f → l = m
  | [], [], _ => rfl
  | [], _ :: _, h => by cases h
  | _ :: _, [], h => by cases h
  | a :: l, b :: m, h => by
    rw [List.map_cons, List.map_cons] at h
    injection h with h1 h2
    rw [hf h1, map_inj' hf h2]
theorem encWeb_inj {w w' : Web} (h : encWeb w = encWeb w') : w = w' := by
  unfold encWeb at h
  injection h with h
  refine map_inj' (fun {a b} e => ?_) h
  unfold encRow at e
  injection e with e
  exact map_inj' enc_inj e
/-- t writes w -/
def Txts (t : Str) (w : Web) : Prop := goodW w ∧ deedsW w ≤ 8 ∧ t = webT w
theorem goodW_ne {w : Web} (g : goodW w) : w ≠ [] := fun e => by
  have := g.1
  rw [e] at this
  simp at this
theorem Txts.parse {t : Str} {w : Web} (h : Txts t w) : webP t = some (w.map fun r => r.map Step.enc) := by
  rw [h.2.2]
  exact webP_web h.1.2.2 (goodW_ne h.1)
theorem rows_enc (w : Web) : (w.map fun r => r.map Step.enc).map PyData.list = w.map encRow := by
  rw [List.map_map]; rfl
theorem Txts.uniq {t : Str} {w w' : Web} (h : Txts t w) (h' : Txts t w') : w = w' := by
  have z := h.parse
  rw [h'.parse] at z
  injection z with z
  refine encWeb_inj ?_
  unfold encWeb
  rw [← rows_enc, ← rows_enc, z]
/-- a web by its data -/
theorem isStep_dec {d : PyData} (h : isStepD d = true) : ∃ s, d = s.enc ∧ goodS s := by
  unfold isStepD at h
  split at h
  · rename_i s a b
    simp only [Bool.and_eq_true, decide_eq_true_eq] at h
    obtain ⟨⟨rfl, ha⟩, hb⟩ := h
    cases a <;> simp [isBoxD] at ha
    cases b <;> simp [isNumD] at hb
    rename_i i j
    exact ⟨.put i.toNat j, by simp [Step.enc, Int.toNat_of_nonneg ha.1], by simp [goodS]; omega⟩
  · rename_i s a
    simp only [Bool.and_eq_true, decide_eq_true_eq] at h
    obtain ⟨rfl, ha⟩ := h
    cases a <;> simp [isBoxD] at ha
    rename_i i
    exact ⟨.get i.toNat, by simp [Step.enc, Int.toNat_of_nonneg ha.1], by simp [goodS]; omega⟩
  · rename_i s
    have h : s = wFen := by simpa using h
    subst h
    exact ⟨.fence, rfl, trivial⟩
  · cases h
theorem choose_map {α β : Type} {f : β → α} {P : β → Prop} : ∀ {l : List α}, (∀ a ∈ l, ∃ b, a = f b ∧ P b) → ∃ m : List β, l = m.map f ∧ ∀ b ∈ m, P b
  | [], _ => ⟨[], rfl, fun _ h => by simp at h⟩
  | a :: l, h => by
    obtain ⟨b, e, p⟩ := h a (by simp)
    obtain ⟨m, e2, p2⟩ := choose_map (l := l) fun x hx => h x (List.mem_cons_of_mem _ hx)
    refine ⟨b :: m, by rw [List.map_cons, ← e, ← e2], fun x hx => ?_⟩
    rcases List.mem_cons.mp hx with z | z
    · subst z; exact p
    · exact p2 x z
theorem okWeb_dec {d : PyData} (h : okWeb d = true) : ∃ w, d = encWeb w ∧ goodW w ∧ deedsW w ≤ 8 := by
  unfold okWeb at h
  split at h
  · rename_i rows
    simp only [Bool.and_eq_true, decide_eq_true_eq, List.all_eq_true] at h
    obtain ⟨⟨hl, hr⟩, hd⟩ := h
    obtain ⟨w, e, g⟩ := choose_map (f := encRow) (P := fun r => ∀ s ∈ r, goodS s) (l := rows) fun r hr' => by
      have q := hr r hr'
      unfold isRowD at q
      split at q
      · rename_i steps
        obtain ⟨m, e, g⟩ := choose_map (f := Step.enc) (P := goodS) (l := steps) fun s hs => isStep_dec (List.all_eq_true.mp q s hs)
        exact ⟨m, by rw [encRow, ← e], g⟩
      · cases q
    subst e
    rw [deedsD_enc] at hd
    refine ⟨w, rfl, ⟨by simpa using hl.1, by simpa using hl.2, g⟩, hd⟩
  · cases h
theorem okWeb_good {w : Web} (h : okWeb (encWeb w) = true) : goodW w ∧ deedsW w ≤ 8 := by
  obtain ⟨w', e, g, d⟩ := okWeb_dec h
  rw [encWeb_inj e]
  exact ⟨g, d⟩
/-! ### as the law reads it -/
def lnumP (w : Str) : Option Int := if canonW w = true then numP w else none
theorem lnumP_iff {w : Str} {n : Int} : lnumP w = some n ↔ n.natAbs < 10 ^ 30 ∧ w = numT n := by
  unfold lnumP
  constructor
  · intro h
    split at h
    · rename_i c
      exact ⟨numP_small h, (canon_num h c).symm⟩
    · cases h
  · rintro ⟨h, rfl⟩
    rw [if_pos (canonW_num n), numP_num h]
def boxO (a : Int) : Bool := decide (0 ≤ a ∧ a ≤ 3)
def stepL (t : Str) : Option Step :=
  if Txt.split t sepB = [wFen] then some .fence
  else if (Txt.split t sepB).getD 0 wNil = wPut ∧ (Txt.split t sepB).length = 3 then (lnumP ((Txt.split t sepB).getD 1 wNil)).bind fun a => (lnumP ((Txt.split t sepB).getD 2 wNil)).bind fun b => if boxO a = true then some (.put a.toNat b) else none
  else if (Txt.split t sepB).getD 0 wNil = wGet ∧ (Txt.split t sepB).length = 2 then (lnumP ((Txt.split t sepB).getD 1 wNil)).bind fun a => if boxO a = true then some (.get a.toNat) else none
  else none
theorem stepL_step {s : Step} (h : goodS s) : stepL (stepT s) = some s := by
  unfold stepL
  rw [split_step]
  have small : ∀ {b : Nat}, b < 4 → ((b : Nat) : Int).natAbs < 10 ^ 30 := fun {b} h => by
    have : (4 : Nat) < 10 ^ 30 := by decide
    omega
  cases s with
  | put b n =>
    rw [if_neg (fun z => by have := congrArg List.length z; simp [wordsS] at this), if_pos ⟨rfl, rfl⟩]
    show (lnumP (numT (b : Int))).bind (fun a => (lnumP (numT n)).bind fun b => _) = _
    rw [lnumP_iff.mpr ⟨small h.1, rfl⟩, lnumP_iff.mpr ⟨h.2, rfl⟩]
    have := h.1
    have hb : boxO (b : Int) = true := decide_eq_true (by omega)
    simp [hb]
  | get b =>
    have h : b < 4 := h
    rw [if_neg (fun z => by have := congrArg List.length z; simp [wordsS] at this), if_neg (fun z => by have := z.2; simp [wordsS] at this), if_pos ⟨rfl, rfl⟩]
    show (lnumP (numT (b : Int))).bind (fun a => _) = _
    rw [lnumP_iff.mpr ⟨small h, rfl⟩]
    have hb : boxO (b : Int) = true := decide_eq_true (by omega)
    simp [hb]
  | fence => exact if_pos rfl
theorem len3 {α : Type} {l : List α} {d : α} (h : l.length = 3) : l = [l.getD 0 d, l.getD 1 d, l.getD 2 d] := by
  match l, h with
  | [a, b, c], _ => rfl
theorem len2 {α : Type} {l : List α} {d : α} (h : l.length = 2) : l = [l.getD 0 d, l.getD 1 d] := by
  match l, h with
  | [a, b], _ => rfl
theorem stepL_iff {t : Str} {s : Step} : stepL t = some s ↔ goodS s ∧ t = stepT s := by
  constructor
  · intro h
    have key : ∀ {s' : Step}, goodS s' → Txt.split t sepB = wordsS s' → s' = s → goodS s ∧ t = stepT s := fun {s'} g e es => by
      subst es
      refine ⟨g, ?_⟩
      rw [stepT, ← e, join_split ne_B k_B]
    unfold stepL at h
    split at h
    · rename_i e
      exact key (s' := .fence) trivial e (Option.some.inj h)
    · split at h
      · rename_i e
        obtain ⟨a, ha, h⟩ := Option.bind_eq_some_iff.mp h
        obtain ⟨b, hb, h⟩ := Option.bind_eq_some_iff.mp h
        split at h
        · rename_i hx
          have hx : 0 ≤ a ∧ a ≤ 3 := of_decide_eq_true hx
          obtain ⟨a1, a2⟩ := lnumP_iff.mp ha
          obtain ⟨b1, b2⟩ := lnumP_iff.mp hb
          refine key (s' := .put a.toNat b) ⟨by omega, b1⟩ ?_ (Option.some.inj h)
          have l := len3 (d := wNil) e.2
          rw [e.1, a2, b2] at l
          rw [l, wordsS, Int.toNat_of_nonneg hx.1]
        · cases h
      · split at h
        · rename_i e
          obtain ⟨a, ha, h⟩ := Option.bind_eq_some_iff.mp h
          split at h
          · rename_i hx
            have hx : 0 ≤ a ∧ a ≤ 3 := of_decide_eq_true hx
            obtain ⟨a1, a2⟩ := lnumP_iff.mp ha
            refine key (s' := .get a.toNat) (show a.toNat < 4 by omega) ?_ (Option.some.inj h)
            have l := len2 (d := wNil) e.2
            rw [e.1, a2] at l
            rw [l, wordsS, Int.toNat_of_nonneg hx.1]
          · cases h
        · cases h
  · rintro ⟨g, rfl⟩
    exact stepL_step g
def rowL (t : Str) : Option (List Step) := if t = wNil then some [] else (Txt.split t sepS).mapM stepL
theorem rowL_iff {t : Str} {r : List Step} : rowL t = some r ↔ (∀ s ∈ r, goodS s) ∧ t = rowT r := by
  constructor
  · intro h
    unfold rowL at h
    split at h
    · rename_i e
      cases h
      exact ⟨fun _ h => by simp at h, by rw [e, rowT_nil]⟩
    · have e := mapM_iff.mp h
      refine ⟨fun s hs => ?_, ?_⟩
      · obtain ⟨a, _, ea⟩ := mapM_mem h s hs
        exact (stepL_iff.mp ea).1
      · have e2 : Txt.split t sepS = r.map stepT := by
          refine map_inj' (f := fun z => z) (fun h => h) ?_
          have : ∀ {l : List Str} {r : List Step}, l.map stepL = r.map some → l = r.map stepT := by
            intro l
            induction l with
            | nil => intro r h; cases r <;> first | rfl | cases h
            | cons a l ih =>
              intro r h
              cases r with
              | nil => cases h
              | cons s r =>
                rw [List.map_cons, List.map_cons] at h
                injection h with h1 h2
                rw [List.map_cons, ← ih h2, (stepL_iff.mp h1).2]
          rw [this e]
        rw [rowT, ← e2, join_split ne_S k_S]
  · rintro ⟨g, rfl⟩
    unfold rowL
    by_cases e : r = []
    · subst e; rw [if_pos rowT_nil]
    · rw [if_neg (rowT_ne e), split_row e, mapM_iff, List.map_map]
      exact List.map_congr_left fun s hs => stepL_step (g s hs)
def webL (t : Str) : Option Web := (Txt.split t sepR).mapM rowL
theorem webL_iff {t : Str} {w : Web} : webL t = some w ↔ (∀ r ∈ w, ∀ s ∈ r, goodS s) ∧ w ≠ [] ∧ t = webT w := by
  constructor
  · intro h
    have e := mapM_iff.mp h
    refine ⟨fun r hr => ?_, fun z => ?_, ?_⟩
    · obtain ⟨a, _, ea⟩ := mapM_mem h r hr
      exact (rowL_iff.mp ea).1
    · subst z
      exact split_nil ne_R k_R (by simpa using e)
    · have : ∀ {l : List Str} {w : Web}, l.map rowL = w.map some → l = w.map rowT := by
        intro l
        induction l with
        | nil => intro r h; cases r <;> first | rfl | cases h
        | cons a l ih =>
          intro r h
          cases r with
          | nil => cases h
          | cons s r =>
            rw [List.map_cons, List.map_cons] at h
            injection h with h1 h2
            rw [List.map_cons, ← ih h2, (rowL_iff.mp h1).2]
      rw [webT, ← this e, join_split ne_R k_R]
  · rintro ⟨g, hne, rfl⟩
    unfold webL
    rw [split_web hne, mapM_iff, List.map_map]
    exact List.map_congr_left fun r hr => rowL_iff.mpr ⟨g r hr, rfl⟩
/-! ### lengths -/
theorem numT_len {n : Int} (h : n.natAbs < 10 ^ 30) : (numT n).length ≤ 31 := by
  have l := numL_len (k := 30) (by decide) h
  rw [len_tl]
  by_cases hn : n < 0
  · rw [numT_neg hn, List.length_cons]; omega
  · obtain ⟨m, rfl⟩ := Int.eq_ofNat_of_zero_le (show 0 ≤ n by omega)
    rw [numT_nn]
    simp at l; omega
theorem joinT_len {y : Str} {ps : List Str} {k : Nat} (h : ∀ p ∈ ps, p.length ≤ k) : (Txt.join y ps).length ≤ ps.length * (k + y.length) := by
  rw [len_tl, tl_joinT, len_tl y]
  have := joinL_len (S := tl y) (k := k) (ps := ps.map tl) fun p hp => by
    obtain ⟨z, hz, rfl⟩ := List.mem_map.mp hp
    rw [← len_tl]; exact h z hz
  simpa using this
theorem stepT_len {s : Step} (h : goodS s) : (stepT s).length ≤ 96 := by
  have hw : ∀ z ∈ wordsS s, z.length ≤ 31 := fun z hz => by
    have small : ∀ {b : Nat}, b < 4 → ((b : Nat) : Int).natAbs < 10 ^ 30 := fun {b} h => by
      have : (4 : Nat) < 10 ^ 30 := by decide
      omega
    cases s with
    | put b n =>
      simp only [wordsS, List.mem_cons, List.not_mem_nil, or_false] at hz
      rcases hz with e | e | e <;> subst e
      · decide
      · exact numT_len (small h.1)
      · exact numT_len h.2
    | get b =>
      have h : b < 4 := h
      simp only [wordsS, List.mem_cons, List.not_mem_nil, or_false] at hz
      rcases hz with e | e <;> subst e
      · decide
      · exact numT_len (small h)
    | fence =>
      simp only [wordsS, List.mem_cons, List.not_mem_nil, or_false] at hz
      subst hz; decide
  have l : (wordsS s).length ≤ 3 := by cases s <;> simp [wordsS]
  have j := joinT_len (y := sepB) hw
  have : sepB.length = 1 := by decide
  rw [this] at j
  have : (wordsS s).length * (31 + 1) ≤ 3 * (31 + 1) := Nat.mul_le_mul_right _ l
  unfold stepT
  omega
theorem rowT_len {r : List Step} (h : ∀ s ∈ r, goodS s) : (rowT r).length ≤ r.length * 98 := by
  have j := joinT_len (y := sepS) (ps := r.map stepT) (k := 96) fun z hz => by
    obtain ⟨s, hs, rfl⟩ := List.mem_map.mp hz
    exact stepT_len (h s hs)
  have : sepS.length = 2 := by decide
  rw [this, List.length_map] at j
  exact j
theorem joinL_sum {S : List Nat} : ∀ {ps : List (List Nat)}, (joinL S ps).length ≤ (ps.map List.length).sum + ps.length * S.length
  | [] => by simp [joinL]
  | [p] => by simp [joinL]
  | p :: q :: r => by
    rw [joinL_cons (by simp)]
    have h2 := joinL_sum (S := S) (ps := q :: r)
    simp only [List.length_append, List.length_cons, List.map_cons, List.sum_cons] at h2 ⊢
    rw [Nat.succ_mul]
    omega
theorem joinT_sum {y : Str} {ps : List Str} : (Txt.join y ps).length ≤ (ps.map (·.length)).sum + ps.length * y.length := by
  rw [len_tl, tl_joinT, len_tl y]
  have := joinL_sum (S := tl y) (ps := ps.map tl)
  rw [List.map_map, List.length_map] at this
  have e : (ps.map (List.length ∘ tl)) = ps.map (·.length) := List.map_congr_left fun p _ => (len_tl p).symm
  rw [e] at this
  exact this
theorem sum_leT {α : Type} {f g : α → Nat} : ∀ {l : List α}, (∀ a ∈ l, f a ≤ g a) → (l.map f).sum ≤ (l.map g).sum
  | [], _ => Nat.le_refl _
  | a :: l, h => by
    have := h a (by simp)
    have := sum_leT (l := l) fun x hx => h x (List.mem_cons_of_mem _ hx)
    simp; omega
theorem sum_mul {α : Type} {f : α → Nat} {k : Nat} : ∀ {l : List α}, (l.map fun a => f a * k).sum = (l.map f).sum * k
  | [] => by simp
  | a :: l => by
    have := sum_mul (f := f) (k := k) (l := l)
    simp only [List.map_cons, List.sum_cons, this, Nat.add_mul]
theorem webT_len {w : Web} (h : ∀ r ∈ w, ∀ s ∈ r, goodS s) : (webT w).length ≤ sizeW w * 98 + w.length * 3 := by
  have j := joinT_sum (y := sepR) (ps := w.map rowT)
  have : sepR.length = 3 := by decide
  rw [this, List.length_map, List.map_map] at j
  have s1 : (w.map ((·.length) ∘ rowT)).sum ≤ (w.map fun r => r.length * 98).sum := sum_leT fun r hr => rowT_len (h r hr)
  rw [sum_mul] at s1
  unfold webT sizeW
  have e : (w.map List.length).sum * 98 = (w.map fun r => r.length).sum * 98 := rfl
  omega
end FW
namespace FW
open PySem PySem.Spec PyProof.Rows L2 TL PySem.NumText
/-- a text of plain signs -/
def asciiT (z : Str) : Prop := ∀ c ∈ tl z, c < 128
def optI : Option Int → PyData
  | some n => .int n
  | none => .none
def optS : Option Step → PyData
  | some s => s.enc
  | none => .none
theorem asciiT.ok {z : Str} (h : asciiT z) : PyData.strOk z = true := by
  unfold PyData.strOk
  rw [← Array.all_toList, List.all_eq_true]
  intro c hc
  have := h c hc
  exact decide_eq_true (by omega)
theorem asciiT.part {x y p : Str} (h : asciiT x) (hy : tl y ≠ []) (hk : y.cps.all (· < 256) = true) (hp : p ∈ Txt.split x y) : asciiT p := fun c hc => h c ((split_part hy hk hp).1 c hc)
theorem webT_ascii {w : Web} : asciiT (webT w) := fun _ h => webT_mem h
theorem len_lt {n : Nat} (h : n ≤ 10000) : n + 2 ≤ sizeLine := Nat.le_of_lt (sizeLine_big (by omega))
end FW

set_option Elab.async false
set_option linter.all false
set_option maxRecDepth 100000
set_option maxHeartbeats 4000000
namespace FW
open PySem PySem.Spec PyProof.Rows L2 TL PySem.NumText
/-! ### slices of texts, figures -/
theorem tl_cut_to {z : Str} {k : Nat} : tl (cutS z none (some (k : Int))) = (tl z).take k := by
  have e : HT.sIx z.length z.length (some (k : Int)) = min k z.length := HT.sIx_nat _ _ _
  have e0 : HT.sIx z.length 0 none = 0 := rfl
  show (z.cps.toList.drop _).take _ = _
  rw [e, e0, List.drop_zero, Nat.sub_zero, len_tl, ← List.take_eq_take_min]
theorem tl_cut_from {z : Str} {k : Nat} : tl (cutS z (some (k : Int)) none) = (tl z).drop k := by
  have e : HT.sIx z.length 0 (some (k : Int)) = min k z.length := HT.sIx_nat _ _ _
  have e0 : HT.sIx z.length z.length none = z.length := rfl
  show (z.cps.toList.drop _).take _ = _
  rw [e, e0, List.take_of_length_le (by rw [List.length_drop, show z.cps.toList.length = z.length from (len_tl z).symm]; omega)]
  rw [len_tl]
  by_cases h : k ≤ (tl z).length
  · rw [Nat.min_eq_left h]
  · rw [Nat.min_eq_right (by omega), List.drop_length, List.drop_eq_nil_of_le (by omega)]
theorem tl_dash : tl (Str.ofString "-") = [45] := by decide +kernel
theorem cut_dash {z : Str} : cutS z none (some 1) = Str.ofString "-" ↔ (tl z).head? = some 45 := by
  have e := tl_cut_to (z := z) (k := 1)
  constructor
  · intro h
    have h2 := congrArg tl h
    rw [show cutS z none (some 1) = cutS z none (some ((1 : Nat) : Int)) from rfl, e, tl_dash] at h2
    cases hz : tl z with
    | nil => rw [hz] at h2; cases h2
    | cons a r => rw [hz] at h2; simp at h2; rw [h2]; rfl
  · intro h
    refine ext_tl ?_
    rw [show cutS z none (some 1) = cutS z none (some ((1 : Nat) : Int)) from rfl, e, tl_dash]
    cases hz : tl z with
    | nil => rw [hz] at h; cases h
    | cons a r => rw [hz] at h; simp at h; rw [h]; rfl
theorem tl_figs_neg {z : Str} (h : (tl z).head? = some 45) : tl (cutS z (some 1) none) = figs (tl z) := by
  rw [show cutS z (some 1) none = cutS z (some ((1 : Nat) : Int)) none from rfl, tl_cut_from]
  unfold figs
  rw [if_pos h]
theorem tl_figs_nn {z : Str} (h : ¬ (tl z).head? = some 45) : tl z = figs (tl z) := by
  unfold figs
  rw [if_neg h]
theorem figures_tl : (Str.ofString "0123456789").cps.toList = [48, 49, 50, 51, 52, 53, 54, 55, 56, 57] := by decide +kernel
theorem figure_iff {c : Nat} : c ∈ (Str.ofString "0123456789").cps.toList ↔ 48 ≤ c ∧ c ≤ 57 := by
  rw [figures_tl]
  simp only [List.mem_cons, List.not_mem_nil, or_false]
  omega
theorem numP_int {z : Str} {n : Int} (h : numP z = some n) : intText? z = some n ∧ z.length ≤ 31 := by
  unfold numP at h
  split at h
  · rename_i ok
    obtain ⟨h1, h2, h3⟩ := figOk_iff.mp ok
    have hne : figs (tl z) ≠ [] := List.length_pos_iff.mp h1
    have fo := figs_of (l := tl z)
    have hl : z.length ≤ 31 := by
      rw [len_tl]
      by_cases hn : negW (tl z) = true
      · rw [if_pos hn] at fo
        rw [fo, List.length_cons]; omega
      · rw [if_neg hn] at fo
        rw [fo]; omega
    refine ⟨?_, hl⟩
    by_cases hn : negW (tl z) = true
    · rw [if_pos hn] at h fo
      rw [← h]
      exact intText_neg fo h3 hne (by omega)
    · rw [if_neg hn] at h fo
      rw [← h]
      have e : z.cps.toList = figs (tl z) := fo
      have := intText_digits (x := z) (by rw [e]; exact h3) (by rw [e]; exact hne) (by omega)
      rw [e] at this
      exact this
  · cases h
theorem numP_some {z : Str} (h : figOk (figs (tl z)) = true) : ∃ n, numP z = some n := by
  unfold numP; rw [if_pos h]; exact ⟨_, rfl⟩
theorem numP_none {z : Str} (h : figOk (figs (tl z)) = false) : numP z = none := by
  unfold numP; rw [if_neg (by rw [h]; exact Bool.false_ne_true)]
/-- the loop over the signs of a word -/
theorem figs_loop {a f : Str} {C : Value} {D : DEnds} (h1 : AllDigits (tl f) → ∀ x, D.nx [some (.leaf (.str a)), some (.leaf (.str f)), x]) (h2 : ¬ AllDigits (tl f) → ∀ x, D.ex C [some (.leaf (.str a)), some (.leaf (.str f)), x]) :
    forInv (f.cps.toList.map fun c => .str ⟨#[c]⟩) (gN 2) (tIf (tTV (tB fNotInS (tName 2) (tK (.str (Str.ofString "0123456789"))))) (tRaise C) tNx) D [some (.leaf (.str a)), some (.leaf (.str f)), none] := by
  refine forInv_of (fun pre Γ => (∀ d ∈ pre, ∃ c, d = .str ⟨#[c]⟩ ∧ 48 ≤ c ∧ c ≤ 57) ∧ ∃ x, Γ = [some (.leaf (.str a)), some (.leaf (.str f)), x]) ⟨fun _ h => by simp at h, _, rfl⟩ (fun pre d post Γ' e ⟨pa, x, eg⟩ => ?_) fun Γ' ⟨pa, x, eg⟩ => ?_
  · subst eg
    have hm : d ∈ f.cps.toList.map fun c => PyData.str ⟨#[c]⟩ := by rw [e]; simp
    obtain ⟨c, hc, rfl⟩ := List.mem_map.mp hm
    simp
    by_cases hd : 48 ≤ c ∧ c ≤ 57
    · have := figure_iff.mpr hd
      simp at this
      refine .inl ⟨this, fun d hd' => ?_⟩
      rcases hd' with z | z
      · exact pa d z
      · exact ⟨c, z, hd⟩
    · have := fun z => hd (figure_iff.mp z)
      simp at this
      exact .inr ⟨this, h2 (fun z => hd (z c hc)) _⟩
  · subst eg
    refine h1 (fun c hc => ?_) _
    obtain ⟨c', e, h⟩ := pa (.str ⟨#[c]⟩) (List.mem_map.mpr ⟨c, hc, rfl⟩)
    injection e with e
    have e2 : (#[c] : Array Nat) = #[c'] := congrArg Str.cps e
    have : c = c' := by simpa using e2
    rw [this]; exact h
/-- the signs that are no figures -/
theorem figs_comp {a f : Str} {Q : OT → Prop} (hl : f.length ≤ 1000) (q : Q (.node (((tl f).filter fun c => !(decide (48 ≤ c) && decide (c ≤ 57))).map fun c => .leaf (.str ⟨#[c]⟩)))) :
    compInv (f.cps.toList.map fun c => .str ⟨#[c]⟩) 2 (tTV (tB fNotInS (tName 2) (tK (.str (Str.ofString "0123456789"))))) (tName 2) [some (.leaf (.str a)), some (.leaf (.str f)), none] Q := by
  let sg : PyData → Nat := fun d => match d with
    | .str s => s.cps.getD 0 0
    | _ => 0
  have sgc : ∀ c, sg (.str ⟨#[c]⟩) = c := fun c => rfl
  refine compInv_filter (fun d => !(decide (48 ≤ sg d) && decide (sg d ≤ 57))) .leaf ⟨none, rfl, by simp⟩ ?_ (fun _ _ => rfl) (fun d hd Q' q' => ?_) (fun d hd hp Q' q' => by simpa using q') ?_
  · rw [List.length_map]
    have : (tl f).length ≤ 1000 := by rw [← len_tl]; exact hl
    exact Nat.le_of_lt (sizeLine_big (Nat.le_trans this (by omega)))
  · obtain ⟨c, hc, rfl⟩ := List.mem_map.mp hd
    rw [sgc] at q'
    simp
    have e : (!(decide (48 ≤ c) && decide (c ≤ 57))) = !decide (c ∈ (Str.ofString "0123456789").cps.toList) := by
      rw [show decide (c ∈ (Str.ofString "0123456789").cps.toList) = decide (48 ≤ c ∧ c ≤ 57) from decide_eq_decide.mpr (figure_iff (c := c))]; simp
    rw [e] at q'
    simp at q'
    by_cases hd : c ∈ (Str.ofString "0123456789").cps
    · simp [hd] at q'; exact .inl ⟨hd, q'⟩
    · simp [hd] at q'; exact .inr ⟨hd, q'⟩
  · rw [List.filter_map, List.map_map]
    exact q
/-! ### the words of a step -/
def encL : Step → List PyData
  | .put b n => [.str wPut, .int b, .int n]
  | .get b => [.str wGet, .int b]
  | .fence => [.str wFen]
theorem encL_eq (s : Step) : s.enc = .tuple (encL s) := by cases s <;> rfl
def strW : PyData → Str
  | .str s => s
  | .int n => numT n
  | _ => wNil
theorem strW_enc (s : Step) : (encL s).map strW = wordsS s := by cases s <;> rfl
def stepTD : PyData → Str
  | .tuple ds => Txt.join sepB (ds.map strW)
  | _ => wNil
def rowTD : PyData → Str
  | .list ds => Txt.join sepS (ds.map stepTD)
  | _ => wNil
@[simp] theorem stepTD_enc (s : Step) : stepTD s.enc = stepT s := by
  rw [encL_eq, stepTD, strW_enc]; rfl
@[simp] theorem rowTD_enc (r : List Step) : rowTD (encRow r) = rowT r := by
  show Txt.join sepS ((r.map Step.enc).map stepTD) = _
  rw [List.map_map, show stepTD ∘ Step.enc = stepT from funext stepTD_enc]; rfl
theorem log30 {n : Int} (h : n.natAbs < 10 ^ 30) : n.natAbs.log2 < 1920 := by
  by_cases e : n.natAbs = 0
  · rw [e]; decide
  · refine (Nat.log2_lt e).mpr (Nat.lt_of_lt_of_le h ?_)
    exact Nat.le_trans (show (10 : Nat) ^ 30 ≤ 2 ^ 100 by decide) (Nat.pow_le_pow_right (by decide) (by decide))
theorem words_comp {Γ : Ev} {i : Nat} {s : Step} {Q : OT → Prop} (g : goodS s) (hf : free1 i Γ) (q : Q (.node ((wordsS s).map fun z => .leaf (.str z)))) : compInv (encL s) i tYesD (tU fStr (tName i)) Γ Q := by
  have hi : i < Γ.length := by
    obtain ⟨o, e, _⟩ := hf
    exact (List.getElem?_eq_some_iff.mp e).1
  refine compInv_map (fun d => .leaf (.str (strW d))) hf ?_ (fun _ _ => rfl) (fun d hd Q' q' => ?_) ?_
  · cases s <;> simp [encL]
  · have small : ∀ {b : Nat}, b < 4 → ((b : Nat) : Int).natAbs < 10 ^ 30 := fun {b} h => by
      have : (4 : Nat) < 10 ^ 30 := by decide
      omega
    have kw : ∀ {w : Str}, d = .str w → tU fStr (tName i) (Γ.set i (some (.leaf d))) Q' fun _ => False := fun {w} e => by
      subst e
      simp [hi]
      exact q'
    have kn : ∀ {n : Int}, n.natAbs < 10 ^ 30 → d = .int n → tU fStr (tName i) (Γ.set i (some (.leaf d))) Q' fun _ => False := fun {n} hn e => by
      subst e
      simp [hi]
      exact ⟨log30 hn, q'⟩
    cases s with
    | put b n =>
      simp only [encL, List.mem_cons, List.not_mem_nil, or_false] at hd
      rcases hd with e | e | e
      · exact kw e
      · exact kn (small g.1) e
      · exact kn g.2 e
    | get b =>
      simp only [encL, List.mem_cons, List.not_mem_nil, or_false] at hd
      rcases hd with e | e
      · exact kw e
      · exact kn (small g) e
    | fence =>
      simp only [encL, List.mem_cons, List.not_mem_nil, or_false] at hd
      exact kw hd
  · have e : (encL s).map (fun d => OT.leaf (.str (strW d))) = (wordsS s).map fun z => .leaf (.str z) := by
      rw [← strW_enc, List.map_map]; rfl
    rw [e]; exact q
theorem words_sum {s : Step} (g : goodS s) : ((wordsS s).map (·.length)).sum + (wordsS s).length * 1 ≤ 200 := by
  have hw : ∀ z ∈ wordsS s, z.length ≤ 31 := fun z hz => by
    have small : ∀ {b : Nat}, b < 4 → ((b : Nat) : Int).natAbs < 10 ^ 30 := fun {b} h => by
      have : (4 : Nat) < 10 ^ 30 := by decide
      omega
    cases s with
    | put b n =>
      simp only [wordsS, List.mem_cons, List.not_mem_nil, or_false] at hz
      rcases hz with e | e | e <;> subst e
      · decide
      · exact numT_len (small g.1)
      · exact numT_len g.2
    | get b =>
      simp only [wordsS, List.mem_cons, List.not_mem_nil, or_false] at hz
      rcases hz with e | e <;> subst e
      · decide
      · exact numT_len (small g)
    | fence =>
      simp only [wordsS, List.mem_cons, List.not_mem_nil, or_false] at hz
      subst hz; decide
  have l : (wordsS s).length ≤ 3 := by cases s <;> simp [wordsS]
  have := sum_leT (f := fun z : Str => z.length) (g := fun _ => 31) (l := wordsS s) hw
  have e : ((wordsS s).map fun _ => 31).sum = (wordsS s).length * 31 := by
    rw [List.map_const', List.sum_replicate_nat]
  omega
theorem row_sum {r : List Step} (g : ∀ s ∈ r, goodS s) (hl : r.length ≤ 1000) : ((r.map stepT).map (·.length)).sum + (r.map stepT).length * 2 ≤ 16777216 := by
  have := sum_leT (f := fun s : Step => (stepT s).length) (g := fun _ => 96) (l := r) fun s hs => stepT_len (g s hs)
  have e : (r.map fun _ => 96).sum = r.length * 96 := by
    rw [List.map_const', List.sum_replicate_nat]
  rw [List.map_map, List.length_map]
  have e2 : (r.map ((·.length) ∘ stepT)).sum = (r.map fun s : Step => (stepT s).length).sum := rfl
  omega
theorem web_sum {w : Web} (sm : smallW w) (g : ∀ r ∈ w, ∀ s ∈ r, goodS s) : ((w.map rowT).map (·.length)).sum + (w.map rowT).length * 3 ≤ 16777216 := by
  have := sum_leT (f := fun r : List Step => (rowT r).length) (g := fun _ => 98000) (l := w) fun r hr => by
    have := rowT_len (g r hr)
    have := sm.2 r hr
    omega
  have e : (w.map fun _ => 98000).sum = w.length * 98000 := by
    rw [List.map_const', List.sum_replicate_nat]
  rw [List.map_map, List.length_map]
  have e2 : (w.map ((·.length) ∘ rowT)).sum = (w.map fun s : List Step => (rowT s).length).sum := rfl
  have := sm.1
  have : w.length * 98000 ≤ 3 * 98000 := Nat.mul_le_mul_right _ sm.1
  omega
/-- a row's text as the program writes it -/
theorem row_comp {Γ : Ev} {i j : Nat} {r : List Step} {Q : OT → Prop} (g : ∀ s ∈ r, goodS s) (hl : r.length ≤ 1000) (hij : i ≠ j) (hf : free1 i Γ) (hj : free1 j Γ) (q : Q (.node ((r.map stepT).map fun z => .leaf (.str z)))) :
    compInv (r.map Step.enc) i tYesD (tJoin (tK (.str sepB)) (tLcD srcT j tYesD (tU fStr (tName j)) (tName i))) Γ Q := by
  have hi : i < Γ.length := by
    obtain ⟨o, e, _⟩ := hf
    exact (List.getElem?_eq_some_iff.mp e).1
  refine compInv_map (fun d => .leaf (.str (stepTD d))) hf ?_ (fun _ _ => rfl) (fun d hd Q' q' => ?_) ?_
  · rw [List.length_map]
    exact Nat.le_of_lt (sizeLine_big (by omega))
  · obtain ⟨s, hs, rfl⟩ := List.mem_map.mp hd
    rw [stepTD_enc] at q'
    have gs := g s hs
    simp [hi]
    refine ⟨encL s, by rw [encL_eq]; rfl, words_comp gs ?_ ⟨wordsS s, by simp, ?_, q'⟩⟩
    · obtain ⟨o, e, h⟩ := hj
      exact ⟨o, by rw [List.getElem?_set_ne hij]; exact e, h⟩
    · have := words_sum gs
      have : sepB.length = 1 := by decide
      rw [this]; omega
  · rw [List.map_map]
    have e : (r.map ((fun d => OT.leaf (.str (stepTD d))) ∘ Step.enc)) = (r.map stepT).map fun z => .leaf (.str z) := by
      rw [List.map_map]
      exact List.map_congr_left fun s _ => by simp
    rw [e]; exact q
theorem compInvX_strs {ws : List Str} {i : Nat} {te : TD} {Γ : Ev} {Q : OT → Prop} {E : Value → Prop} {c : Value} (g : Str → Option OT) (hf : free1 i Γ) (hl : ws.length ≤ sizeLine) (hs : ∀ p r, p ∈ ws → g p = some r → r.isScr = false)
    (h : ∀ p, p ∈ ws → ∀ (Q' : OT → Prop), (∀ r, g p = some r → Q' r) → (g p = none → E c) → te (Γ.set i (some (.leaf (.str p)))) Q' E) (q : ∀ rs, ws.mapM g = some rs → Q (.node rs)) (qn : ws.mapM g = none → E c) : compInvX (ws.map .str) i tYesD te Γ Q E := by
  have mm : ∀ ws : List Str, (ws.map PyData.str).mapM (fun d => match d with
    | .str p => g p
    | _ => none) = ws.mapM g := fun ws => by
    induction ws with
    | nil => rfl
    | cons a l ih => simp only [List.map_cons, List.mapM_cons, ih]
  refine compInvX_mapM (c := c) (fun d => match d with
    | .str p => g p
    | _ => none) hf (by simpa using hl) (fun d r hd e => ?_) (fun d hd Q' h1 h2 => ?_) (fun rs e => q rs (by rw [← mm]; exact e)) fun e => qn (by rw [← mm]; exact e)
  · obtain ⟨p, hp, rfl⟩ := List.mem_map.mp hd
    exact hs p r hp e
  · obtain ⟨p, hp, rfl⟩ := List.mem_map.mp hd
    exact h p hp Q' h1 h2
theorem mapM_map {α β γ : Type} {f : α → Option β} {g : β → γ} : ∀ {l : List α}, l.mapM (fun a => (f a).map g) = (l.mapM f).map (List.map g)
  | [] => rfl
  | a :: l => by
    simp only [List.mapM_cons, mapM_map (l := l)]
    cases f a <;> cases l.mapM f <;> rfl
theorem ln_B : (Str.ofString " ").length = 1 := by decide
theorem ln_S : (Str.ofString "; ").length = 2 := by decide
theorem ln_R : (Str.ofString " | ").length = 3 := by decide
end FW
namespace FW
open PySem TL
theorem len_tl' (x : Str) : x.length = (tl x).length := len_tl x
end FW
namespace FW
open PySem PySem.Spec PyProof.Rows L2 TL PySem.NumText
theorem okd_strs {l : List Str} (h : ∀ s ∈ l, PyData.strOk s = true) : okd (.list (l.map .str)) = true := okd_pl (n := 1) (by
  simp only [pl, pls_iff, List.mem_map]
  rintro _ ⟨s, hs, rfl⟩
  exact h s hs)
@[simp] theorem eqOk_list {a b : List PyData} : eqOk (.list a) (.list b) = (okd (.list a) && okd (.list b)) := rfl
theorem sign_ok {c : Nat} (h : c < 128) : PyData.strOk ⟨#[c]⟩ = true := by
  simp [PyData.strOk]; omega
theorem sign_zero {c : Nat} : ((⟨#[c]⟩ : Str) = Str.ofString "0") ↔ c = 48 := by
  have e : Str.ofString "0" = ⟨#[48]⟩ := by decide +kernel
  rw [e]
  constructor
  · intro h
    have := congrArg Str.cps h
    simpa using this
  · intro h; rw [h]
theorem vw_rows (L : List (List PyData)) : vw (.node (L.map fun ds => .node (ds.map .leaf))) = .leaf (.list (L.map PyData.list)) := by
  have e : OT.ers (L.map fun ds => OT.node (ds.map .leaf)) = L.map PyData.list := by
    rw [ers_map, List.map_map]
    exact List.map_congr_left fun ds _ => by simp [ers_leaf]
  show OT.leaf (.list (OT.ers _)) = _
  rw [e]
theorem rowP_len {p : Str} {ds : List PyData} (h : rowP p = some ds) : ds.length ≤ p.length + 2 := by
  unfold rowP at h
  split at h
  · cases h; simp
  · rw [mapM_len h]; exact split_le2 _ _
theorem parse_inj {z : Str} {L : List (List PyData)} {w : Web} (h : webP z = some L) (t : Txts z w) : PyData.list (L.map PyData.list) = encWeb w := by
  have p := t.parse
  rw [h] at p
  injection p with p
  rw [p, rows_enc]; rfl
end FW
namespace FW
open PySem PySem.Spec PyProof.Rows L2 TL PySem.NumText
/-- the odd texts of the law -/
def odd12 : List Str := [Str.ofString "", Str.ofString " ", Str.ofString "|", Str.ofString " | ", Str.ofString " |  |  | ", Str.ofString "fence;", Str.ofString "; fence", Str.ofString "fence ", Str.ofString " fence", Str.ofString "fence fence", Str.ofString "get 4",
  Str.ofString "get -1", Str.ofString "get", Str.ofString "get 00", Str.ofString "put 0", Str.ofString "put 0 01", Str.ofString "put 0 -0", Str.ofString "put 0 +1", Str.ofString "put 4 1", Str.ofString "put 0 1;get 1", Str.ofString "Get 0",
  Str.ofString "put 0 1" ++ timesS (Str.ofString "0") 30, timesS (Str.ofString "get 0; ") 8 ++ Str.ofString "get 0", Str.ofString "put 0 1 |get 0"]
theorem odd12_all : (odd12.all fun z => (tl z).all (fun c => decide (c < 128)) && decide (z.length ≤ 900)) = true := by decide +kernel
theorem odd12_ok : ∀ z ∈ odd12, asciiT z ∧ z.length ≤ 900 := fun z hz => by
  have h := List.all_eq_true.mp odd12_all z hz
  simp only [Bool.and_eq_true, List.all_eq_true, decide_eq_true_eq] at h
  exact ⟨h.1, h.2⟩
/-- the signs that may be put in -/
def signs12 : Str := Str.ofString " !\"#$&'()*+,-./0123456789:;<=>?@ABCDEFGHIJKLMNOPQRSTUVWXYZ[\\]^_`" ++ Str.ofString "abcdefghijklmnopqrstuvwxyz{|}~\n\t"
theorem signs12_len : (tl signs12).length = 96 := by decide +kernel
theorem signs12_ok : ((tl signs12).all fun c => decide (c < 128)) = true := by decide +kernel
end FW
namespace FW
open PySem PySem.Spec PyProof.Rows L2 TL PySem.NumText
theorem app_len (x y : Str) : (x ++ y).length = x.length + y.length := by
  rw [len_tl, len_tl, len_tl, tl_append, List.length_append]
theorem asciiT.app {x y : Str} (h : asciiT x) (h' : asciiT y) : asciiT (x ++ y) := fun c hc => by
  rw [tl_append] at hc
  exact (List.mem_append.mp hc).elim (h c) (h' c)
theorem ascii_sign {c : Nat} (h : c < 128) : asciiT ⟨#[c]⟩ := fun d hd => by
  have : d = c := by simpa [TL.tl] using hd
  omega
theorem sign_len {c : Nat} : (⟨#[c]⟩ : Str).length = 1 := rfl
end FW
namespace FW
open PySem PySem.Spec PyProof.Rows L2 TL PySem.NumText
theorem eqv_strs : ∀ {l m : List Str}, PyData.eqv (.list (l.map .str)) (.list (m.map .str)) = decide (l = m)
  | [], [] => by simp [PyData.eqv, PyData.eqvAll]
  | [], _ :: _ => by simp [PyData.eqv, PyData.eqvAll]
  | _ :: _, [] => by simp [PyData.eqv, PyData.eqvAll]
  | a :: l, b :: m => by
    have ih := eqv_strs (l := l) (m := m)
    simp only [PyData.eqv, PyData.eqvAll, List.map_cons] at ih ⊢
    rw [ih, Bool.eq_iff_iff]
    simp
theorem optI_pl (o : Option Int) : pl 0 (optI o) = true := by cases o <;> rfl
theorem okd_optI (l : List (Option Int)) : okd (.list (l.map optI)) = true := okd_pl (n := 1) (by
  simp only [pl, pls_iff, List.mem_map]
  rintro _ ⟨s, hs, rfl⟩
  exact optI_pl s)
theorem okd_none : okd .none = true := by decide
theorem none_nums : ∀ l : List (Option Int), anyEqv (l.map optI) .none = l.any (·.isNone)
  | [] => rfl
  | a :: l => by
    have ih := none_nums l
    simp only [anyEqv, List.map_cons, List.any_cons] at ih ⊢
    rw [ih]
    cases a <;> simp [optI, PyData.eqv]
end FW
namespace FW
open PySem PySem.Spec PyProof.Rows L2 TL PySem.NumText
/-- the parts of a row's text -/
def partsS (p : Str) : List Str := if p = wNil then [] else Txt.split p sepS
theorem rowL_parts (p : Str) : rowL p = (partsS p).mapM stepL := by
  unfold rowL partsS
  by_cases h : p = wNil
  · rw [if_pos h, if_pos h]; rfl
  · rw [if_neg h, if_neg h]
theorem partsS_len (p : Str) : (partsS p).length ≤ p.length + 2 := by
  unfold partsS
  split
  · simp
  · exact split_le2 _ _
theorem partsS_mem {p s : Str} (h : s ∈ partsS p) : s ∈ Txt.split p sepS := by
  unfold partsS at h
  split at h
  · simp at h
  · exact h
/-- a row as the law keeps it -/
def rowLD (p : Str) : PyData := .list ((partsS p).map fun s => optS (stepL s))
theorem rowLD_er (p : Str) : (OT.node ((partsS p).map fun s => .leaf (optS (stepL s)))).er = rowLD p := by
  rw [OT.er, ers_leaf']; rfl
end FW
namespace FW
open PySem PySem.Spec PyProof.Rows L2 TL PySem.NumText
theorem optS_pl (o : Option Step) : pl 1 (optS o) = true := by
  cases o with
  | none => rfl
  | some s => exact pl_enc
theorem rowLD_pl (p : Str) : pl 2 (rowLD p) = true := by
  simp only [rowLD, pl, pls_iff, List.mem_map]
  rintro _ ⟨s, _, rfl⟩
  exact optS_pl _
theorem okd_rowLD (p : Str) : okd (rowLD p) = true := okd_pl (rowLD_pl p)
theorem okd_rowsLD {l : List PyData} (h : ∀ d ∈ l, ∃ p, d = rowLD p) : okd (.list l) = true := okd_pl (n := 3) (by
  simp only [pl, pls_iff]
  intro d hd
  obtain ⟨p, rfl⟩ := h d hd
  exact rowLD_pl p)
theorem eqv_optS (o : Option Step) : PyData.eqv (optS o) .none = o.isNone := by
  cases o with
  | none => simp [optS, PyData.eqv]
  | some s => cases s <;> simp [optS, Step.enc, PyData.eqv]
theorem mapM_isNone {α β : Type} {f : α → Option β} : ∀ {l : List α}, (l.mapM f).isNone = l.any fun a => (f a).isNone
  | [] => rfl
  | a :: l => by
    have ih := mapM_isNone (f := f) (l := l)
    simp only [List.mapM_cons, List.any_cons]
    rw [← ih]
    cases f a <;> cases l.mapM f <;> rfl
theorem none_in_row (p : Str) : anyEqv ((partsS p).map fun s => optS (stepL s)) .none = (rowL p).isNone := by
  rw [rowL_parts, mapM_isNone]
  unfold anyEqv
  rw [List.any_map]
  congr 1
  funext s
  exact eqv_optS _
theorem rowLD_some {p : Str} {r : List Step} (h : rowL p = some r) : rowLD p = encRow r := by
  rw [rowL_parts] at h
  have e := mapM_iff.mp h
  have e2 : (partsS p).map (fun s => optS (stepL s)) = ((partsS p).map stepL).map optS := by rw [List.map_map]; rfl
  unfold rowLD encRow
  rw [e2, e, List.map_map]; rfl
theorem rows_some {ps : List Str} {w : Web} (h : ps.mapM rowL = some w) : ps.map rowLD = w.map encRow := by
  induction ps generalizing w with
  | nil => simp at h; subst h; rfl
  | cons a l ih =>
    have e := mapM_iff.mp h
    cases w with
    | nil => cases e
    | cons r w =>
      rw [List.map_cons, List.map_cons] at e
      injection e with e1 e2
      rw [List.map_cons, List.map_cons, rowLD_some e1, ih (mapM_iff.mpr e2)]
theorem vw_rowsL (ps : List Str) : OT.er (.node (ps.map fun p => .node ((partsS p).map fun s => .leaf (optS (stepL s))))) = .list (ps.map rowLD) := by
  have e : OT.ers (ps.map fun p => OT.node ((partsS p).map fun s => .leaf (optS (stepL s)))) = ps.map rowLD := by
    rw [ers_map, List.map_map]
    exact List.map_congr_left fun p _ => rowLD_er p
  show PyData.list (OT.ers _) = _
  rw [e]
theorem eqv_fence (s : Step) : PyData.eqv s.enc (.tuple [.str (Str.ofString "fence")]) = !deedS s := by
  cases s <;> simp [Step.enc, PyData.eqv, PyData.eqvAll, deedS]
theorem okd_fence : okd (.tuple [.str (Str.ofString "fence")]) = true := okd_step (w := .fence)
end FW
namespace FW
open PySem PySem.Spec PyProof.Rows L2 TL PySem.NumText
theorem ers_rowsL (ps : List Str) : OT.ers (ps.map fun p => OT.node ((partsS p).map fun s => .leaf (optS (stepL s)))) = ps.map rowLD := by
  rw [ers_map, List.map_map]
  exact List.map_congr_left fun p _ => rowLD_er p
theorem Txts.webL {z : Str} {w : Web} (t : Txts z w) : webL z = some w := webL_iff.mpr ⟨t.1.2.2, goodW_ne t.1, t.2.2⟩
theorem deedsW_snoc (w : Web) (r : List Step) : deedsW (w ++ [r]) = deedsW w + (r.filter deedS).length := by simp [deedsW]
end FW

set_option Elab.async false
set_option linter.all false
set_option maxRecDepth 100000
set_option maxHeartbeats 4000000
namespace FW
open PySem PySem.Spec PyProof.Rows L2 TL PySem.NumText
def topS (i : Nat) : Stmt := PySem.Challenge.pw_fencewright_k12_written_and_read.main.body.getD i (.Pass ⟨0, 0, 0, 0⟩)
abbrev s_is_whole : Stmt := topS 11
abbrev N_is_whole : List Str := ["thing"]
theorem sc_is_whole : FnScope N_is_whole ["thing"] (defScope s_is_whole) := ⟨rfl, rfl, rfl, by decide +kernel, rfl, by decide +kernel, by decide +kernel⟩
abbrev s_is_box : Stmt := topS 12
abbrev N_is_box : List Str := ["thing"]
theorem sc_is_box : FnScope N_is_box ["thing"] (defScope s_is_box) := ⟨rfl, rfl, rfl, by decide +kernel, rfl, by decide +kernel, by decide +kernel⟩
abbrev s_is_step : Stmt := topS 13
abbrev N_is_step : List Str := ["thing"]
theorem sc_is_step : FnScope N_is_step ["thing"] (defScope s_is_step) := ⟨rfl, rfl, rfl, by decide +kernel, rfl, by decide +kernel, by decide +kernel⟩
abbrev s_need_web : Stmt := topS 14
abbrev N_need_web : List Str := ["web", "deeds", "row", "step"]
theorem sc_need_web : FnScope N_need_web ["web"] (defScope s_need_web) := ⟨rfl, rfl, rfl, by decide +kernel, rfl, by decide +kernel, by decide +kernel⟩
abbrev s_shown : Stmt := topS 17
abbrev N_shown : List Str := ["web", "rows", "row", "word", "step"]
theorem sc_shown : FnScope N_shown ["web"] (defScope s_shown) := ⟨rfl, rfl, rfl, by decide +kernel, rfl, by decide +kernel, by decide +kernel⟩
abbrev s_number_of : Stmt := topS 18
abbrev N_number_of : List Str := ["word", "figures", "sign"]
theorem sc_number_of : FnScope N_number_of ["word"] (defScope s_number_of) := ⟨rfl, rfl, rfl, by decide +kernel, rfl, by decide +kernel, by decide +kernel⟩
abbrev s_step_of : Stmt := topS 19
abbrev N_step_of : List Str := ["text", "words"]
theorem sc_step_of : FnScope N_step_of ["text"] (defScope s_step_of) := ⟨rfl, rfl, rfl, by decide +kernel, rfl, by decide +kernel, by decide +kernel⟩
abbrev s_row_of : Stmt := topS 20
abbrev N_row_of : List Str := ["text", "part"]
theorem sc_row_of : FnScope N_row_of ["text"] (defScope s_row_of) := ⟨rfl, rfl, rfl, by decide +kernel, rfl, by decide +kernel, by decide +kernel⟩
abbrev s_read : Stmt := topS 21
abbrev N_read : List Str := ["text", "web", "part", "again"]
theorem sc_read : FnScope N_read ["text"] (defScope s_read) := ⟨rfl, rfl, rfl, by decide +kernel, rfl, by decide +kernel, by decide +kernel⟩
abbrev s__law_cell_at : Stmt := topS 23
abbrev N__law_cell_at : List Str := ["_law_script", "_law_k"]
theorem sc__law_cell_at : FnScope N__law_cell_at ["_law_script", "_law_k"] (defScope s__law_cell_at) := ⟨rfl, rfl, rfl, by decide +kernel, rfl, by decide +kernel, by decide +kernel⟩
abbrev s__law_number_by : Stmt := topS 24
abbrev N__law_number_by : List Str := ["_law_cell"]
theorem sc__law_number_by : FnScope N__law_number_by ["_law_cell"] (defScope s__law_number_by) := ⟨rfl, rfl, rfl, by decide +kernel, rfl, by decide +kernel, by decide +kernel⟩
abbrev s__law_step_by : Stmt := topS 25
abbrev N__law_step_by : List Str := ["_law_cell"]
theorem sc__law_step_by : FnScope N__law_step_by ["_law_cell"] (defScope s__law_step_by) := ⟨rfl, rfl, rfl, by decide +kernel, rfl, by decide +kernel, by decide +kernel⟩
abbrev s__law_web_by : Stmt := topS 26
abbrev N__law_web_by : List Str := ["_law_script", "_law_first", "_law_web", "_law_k", "_law_cell"]
theorem sc__law_web_by : FnScope N__law_web_by ["_law_script"] (defScope s__law_web_by) := ⟨rfl, rfl, rfl, by decide +kernel, rfl, by decide +kernel, by decide +kernel⟩
abbrev s__law_text_by : Stmt := topS 27
abbrev N__law_text_by : List Str := ["_law_web", "_law_rows", "_law_row", "_law_parts", "_law_step_here", "_law_word"]
theorem sc__law_text_by : FnScope N__law_text_by ["_law_web"] (defScope s__law_text_by) := ⟨rfl, rfl, rfl, by decide +kernel, rfl, by decide +kernel, by decide +kernel⟩
abbrev s__law_changed : Stmt := topS 28
abbrev N__law_changed : List Str := ["_law_text", "_law_cell", "_law_some", "_law_at", "_law_sign"]
theorem sc__law_changed : FnScope N__law_changed ["_law_text", "_law_cell"] (defScope s__law_changed) := ⟨rfl, rfl, rfl, by decide +kernel, rfl, by decide +kernel, by decide +kernel⟩
abbrev s__law_odd : Stmt := topS 29
abbrev N__law_odd : List Str := ["_law_cell", "_law_some"]
theorem sc__law_odd : FnScope N__law_odd ["_law_cell"] (defScope s__law_odd) := ⟨rfl, rfl, rfl, by decide +kernel, rfl, by decide +kernel, by decide +kernel⟩
abbrev s__law_number : Stmt := topS 30
abbrev N__law_number : List Str := ["_law_word", "_law_figures", "_law_sign"]
theorem sc__law_number : FnScope N__law_number ["_law_word"] (defScope s__law_number) := ⟨rfl, rfl, rfl, by decide +kernel, rfl, by decide +kernel, by decide +kernel⟩
abbrev s__law_step : Stmt := topS 31
abbrev N__law_step : List Str := ["_law_text", "_law_words", "_law_numbers", "_law_word"]
theorem sc__law_step : FnScope N__law_step ["_law_text"] (defScope s__law_step) := ⟨rfl, rfl, rfl, by decide +kernel, rfl, by decide +kernel, by decide +kernel⟩
abbrev s__law_due : Stmt := topS 32
abbrev N__law_due : List Str := ["_law_text", "_law_web", "_law_part", "_law_one", "_law_row", "_law_deeds", "_law_step_here"]
theorem sc__law_due : FnScope N__law_due ["_law_text"] (defScope s__law_due) := ⟨rfl, rfl, rfl, by decide +kernel, rfl, by decide +kernel, by decide +kernel⟩
abbrev s__law_read : Stmt := topS 33
abbrev N__law_read : List Str := ["_law_text", "error", "_law_other"]
theorem sc__law_read : FnScope N__law_read ["_law_text"] (defScope s__law_read) := ⟨rfl, rfl, rfl, by decide +kernel, rfl, by decide +kernel, by decide +kernel⟩
abbrev s__law_same : Stmt := topS 34
abbrev N__law_same : List Str := ["_law_found", "_law_web", "_law_row", "_law_step_here", "_law_word"]
theorem sc__law_same : FnScope N__law_same ["_law_found", "_law_web"] (defScope s__law_same) := ⟨rfl, rfl, rfl, by decide +kernel, rfl, by decide +kernel, by decide +kernel⟩
abbrev s_law : Stmt := topS 35
abbrev N_law : List Str := ["_law_script", "_law_web", "_law_text", "_law_handed", "_law_row", "_law_found", "_law_cell", "_law_due_here", "_law_told"]
theorem sc_law : FnScope N_law ["_law_script"] (defScope s_law) := ⟨rfl, rfl, rfl, by decide +kernel, rfl, by decide +kernel, by decide +kernel⟩
structure Txt (K : PySem.W.Frag) (mg : Str → Option Value) where
  b_ValueError : mg "ValueError" = none
  b_abs : mg "abs" = none
  b_bool : mg "bool" = none
  b_int : mg "int" = none
  b_isinstance : mg "isinstance" = none
  b_len : mg "len" = none
  b_list : mg "list" = none
  b_range : mg "range" = none
  b_str : mg "str" = none
  b_tuple : mg "tuple" = none
  v_MOST_HANDS : Tok
  g_MOST_HANDS : mg "MOST_HANDS" = some (.int 3 v_MOST_HANDS)
  v_MOST_DEEDS : Tok
  g_MOST_DEEDS : mg "MOST_DEEDS" = some (.int 8 v_MOST_DEEDS)
  v_BOXES : Tok
  g_BOXES : mg "BOXES" = some (.int 4 v_BOXES)
  v_FIGURES : Tok
  g_FIGURES : mg "FIGURES" = some (.str "0123456789" v_FIGURES)
  C_WebError : Addr
  g_WebError : mg "WebError" = some (.ref C_WebError)
  x_WebError : PySem.W.excIn K C_WebError [.type "ValueError", .type "Exception", .type "BaseException", .type "object"] "ValueError.__new__" = true
  k_WebError : PySem.W.keepIn K (.ref C_WebError) = true
  s_WebError : PySem.W.subIn K (.ref C_WebError) (.type "BaseException") = some true
  t_WebError : PySem.W.typeIn K (.ref C_WebError) = some (.type "type")
  C_BadWeb : Addr
  g_BadWeb : mg "BadWeb" = some (.ref C_BadWeb)
  x_BadWeb : PySem.W.excIn K C_BadWeb [.type "ValueError", .type "Exception", .type "BaseException", .type "object"] "ValueError.__new__" = true
  k_BadWeb : PySem.W.keepIn K (.ref C_BadWeb) = true
  s_BadWeb : PySem.W.subIn K (.ref C_BadWeb) (.type "BaseException") = some true
  t_BadWeb : PySem.W.typeIn K (.ref C_BadWeb) = some (.type "type")
  C_NoMove : Addr
  g_NoMove : mg "NoMove" = some (.ref C_NoMove)
  x_NoMove : PySem.W.excIn K C_NoMove [.type "ValueError", .type "Exception", .type "BaseException", .type "object"] "ValueError.__new__" = true
  k_NoMove : PySem.W.keepIn K (.ref C_NoMove) = true
  s_NoMove : PySem.W.subIn K (.ref C_NoMove) (.type "BaseException") = some true
  t_NoMove : PySem.W.typeIn K (.ref C_NoMove) = some (.type "type")
  C_NotOver : Addr
  g_NotOver : mg "NotOver" = some (.ref C_NotOver)
  x_NotOver : PySem.W.excIn K C_NotOver [.type "ValueError", .type "Exception", .type "BaseException", .type "object"] "ValueError.__new__" = true
  k_NotOver : PySem.W.keepIn K (.ref C_NotOver) = true
  s_NotOver : PySem.W.subIn K (.ref C_NotOver) (.type "BaseException") = some true
  t_NotOver : PySem.W.typeIn K (.ref C_NotOver) = some (.type "type")
  C_NoPlace : Addr
  g_NoPlace : mg "NoPlace" = some (.ref C_NoPlace)
  x_NoPlace : PySem.W.excIn K C_NoPlace [.type "ValueError", .type "Exception", .type "BaseException", .type "object"] "ValueError.__new__" = true
  k_NoPlace : PySem.W.keepIn K (.ref C_NoPlace) = true
  s_NoPlace : PySem.W.subIn K (.ref C_NoPlace) (.type "BaseException") = some true
  t_NoPlace : PySem.W.typeIn K (.ref C_NoPlace) = some (.type "type")
  C_NoText : Addr
  g_NoText : mg "NoText" = some (.ref C_NoText)
  x_NoText : PySem.W.excIn K C_NoText [.type "ValueError", .type "Exception", .type "BaseException", .type "object"] "ValueError.__new__" = true
  k_NoText : PySem.W.keepIn K (.ref C_NoText) = true
  s_NoText : PySem.W.subIn K (.ref C_NoText) (.type "BaseException") = some true
  t_NoText : PySem.W.typeIn K (.ref C_NoText) = some (.type "type")
  E_NoText : ExcC K C_NoText
  m_NoText_BadWeb : PySem.W.exmOne K (.ref C_NoText) (.ref C_BadWeb) = some false
  m_NoText_WebError : PySem.W.exmOne K (.ref C_NoText) (.ref C_WebError) = some true
  i_NoText_BadWeb : PySem.W.kitOne K (.ref C_NoText) (.ref C_BadWeb) = some false
  i_NoText_NoMove : PySem.W.kitOne K (.ref C_NoText) (.ref C_NoMove) = some false
  i_NoText_NoPlace : PySem.W.kitOne K (.ref C_NoText) (.ref C_NoPlace) = some false
  i_NoText_NoText : PySem.W.kitOne K (.ref C_NoText) (.ref C_NoText) = some true
  i_NoText_NotOver : PySem.W.kitOne K (.ref C_NoText) (.ref C_NotOver) = some false
  i_NoText_ValueError : PySem.W.kitOne K (.ref C_NoText) (.type "ValueError") = some true
  E_BadWeb : ExcC K C_BadWeb
  m_BadWeb_BadWeb : PySem.W.exmOne K (.ref C_BadWeb) (.ref C_BadWeb) = some true
  m_BadWeb_WebError : PySem.W.exmOne K (.ref C_BadWeb) (.ref C_WebError) = some true
  i_BadWeb_BadWeb : PySem.W.kitOne K (.ref C_BadWeb) (.ref C_BadWeb) = some true
  i_BadWeb_NoMove : PySem.W.kitOne K (.ref C_BadWeb) (.ref C_NoMove) = some false
  i_BadWeb_NoPlace : PySem.W.kitOne K (.ref C_BadWeb) (.ref C_NoPlace) = some false
  i_BadWeb_NoText : PySem.W.kitOne K (.ref C_BadWeb) (.ref C_NoText) = some false
  i_BadWeb_NotOver : PySem.W.kitOne K (.ref C_BadWeb) (.ref C_NotOver) = some false
  i_BadWeb_ValueError : PySem.W.kitOne K (.ref C_BadWeb) (.type "ValueError") = some true
  f_is_whole : Addr
  d_is_whole : FuncData
  F_is_whole : Fun K "is_whole" "is_whole" s_is_whole f_is_whole d_is_whole
  g_is_whole : mg "is_whole" = some (.ref f_is_whole)
  B_is_whole : Binds K d_is_whole ["thing"] []
  f_is_box : Addr
  d_is_box : FuncData
  F_is_box : Fun K "is_box" "is_box" s_is_box f_is_box d_is_box
  g_is_box : mg "is_box" = some (.ref f_is_box)
  B_is_box : Binds K d_is_box ["thing"] []
  f_is_step : Addr
  d_is_step : FuncData
  F_is_step : Fun K "is_step" "is_step" s_is_step f_is_step d_is_step
  g_is_step : mg "is_step" = some (.ref f_is_step)
  B_is_step : Binds K d_is_step ["thing"] []
  f_need_web : Addr
  d_need_web : FuncData
  F_need_web : Fun K "need_web" "need_web" s_need_web f_need_web d_need_web
  g_need_web : mg "need_web" = some (.ref f_need_web)
  B_need_web : Binds K d_need_web ["web"] []
  f_shown : Addr
  d_shown : FuncData
  F_shown : Fun K "shown" "shown" s_shown f_shown d_shown
  g_shown : mg "shown" = some (.ref f_shown)
  B_shown : Binds K d_shown ["web"] []
  f_number_of : Addr
  d_number_of : FuncData
  F_number_of : Fun K "number_of" "number_of" s_number_of f_number_of d_number_of
  g_number_of : mg "number_of" = some (.ref f_number_of)
  B_number_of : Binds K d_number_of ["word"] []
  f_step_of : Addr
  d_step_of : FuncData
  F_step_of : Fun K "step_of" "step_of" s_step_of f_step_of d_step_of
  g_step_of : mg "step_of" = some (.ref f_step_of)
  B_step_of : Binds K d_step_of ["text"] []
  f_row_of : Addr
  d_row_of : FuncData
  F_row_of : Fun K "row_of" "row_of" s_row_of f_row_of d_row_of
  g_row_of : mg "row_of" = some (.ref f_row_of)
  B_row_of : Binds K d_row_of ["text"] []
  f_read : Addr
  d_read : FuncData
  F_read : Fun K "read" "read" s_read f_read d_read
  g_read : mg "read" = some (.ref f_read)
  B_read : Binds K d_read ["text"] []
  f__law_cell_at : Addr
  d__law_cell_at : FuncData
  F__law_cell_at : Fun K "_law_cell_at" "_law_cell_at" s__law_cell_at f__law_cell_at d__law_cell_at
  g__law_cell_at : mg "_law_cell_at" = some (.ref f__law_cell_at)
  B__law_cell_at : Binds K d__law_cell_at ["_law_script", "_law_k"] []
  f__law_number_by : Addr
  d__law_number_by : FuncData
  F__law_number_by : Fun K "_law_number_by" "_law_number_by" s__law_number_by f__law_number_by d__law_number_by
  g__law_number_by : mg "_law_number_by" = some (.ref f__law_number_by)
  B__law_number_by : Binds K d__law_number_by ["_law_cell"] []
  f__law_step_by : Addr
  d__law_step_by : FuncData
  F__law_step_by : Fun K "_law_step_by" "_law_step_by" s__law_step_by f__law_step_by d__law_step_by
  g__law_step_by : mg "_law_step_by" = some (.ref f__law_step_by)
  B__law_step_by : Binds K d__law_step_by ["_law_cell"] []
  f__law_web_by : Addr
  d__law_web_by : FuncData
  F__law_web_by : Fun K "_law_web_by" "_law_web_by" s__law_web_by f__law_web_by d__law_web_by
  g__law_web_by : mg "_law_web_by" = some (.ref f__law_web_by)
  B__law_web_by : Binds K d__law_web_by ["_law_script"] []
  f__law_text_by : Addr
  d__law_text_by : FuncData
  F__law_text_by : Fun K "_law_text_by" "_law_text_by" s__law_text_by f__law_text_by d__law_text_by
  g__law_text_by : mg "_law_text_by" = some (.ref f__law_text_by)
  B__law_text_by : Binds K d__law_text_by ["_law_web"] []
  f__law_changed : Addr
  d__law_changed : FuncData
  F__law_changed : Fun K "_law_changed" "_law_changed" s__law_changed f__law_changed d__law_changed
  g__law_changed : mg "_law_changed" = some (.ref f__law_changed)
  B__law_changed : Binds K d__law_changed ["_law_text", "_law_cell"] []
  f__law_odd : Addr
  d__law_odd : FuncData
  F__law_odd : Fun K "_law_odd" "_law_odd" s__law_odd f__law_odd d__law_odd
  g__law_odd : mg "_law_odd" = some (.ref f__law_odd)
  B__law_odd : Binds K d__law_odd ["_law_cell"] []
  f__law_number : Addr
  d__law_number : FuncData
  F__law_number : Fun K "_law_number" "_law_number" s__law_number f__law_number d__law_number
  g__law_number : mg "_law_number" = some (.ref f__law_number)
  B__law_number : Binds K d__law_number ["_law_word"] []
  f__law_step : Addr
  d__law_step : FuncData
  F__law_step : Fun K "_law_step" "_law_step" s__law_step f__law_step d__law_step
  g__law_step : mg "_law_step" = some (.ref f__law_step)
  B__law_step : Binds K d__law_step ["_law_text"] []
  f__law_due : Addr
  d__law_due : FuncData
  F__law_due : Fun K "_law_due" "_law_due" s__law_due f__law_due d__law_due
  g__law_due : mg "_law_due" = some (.ref f__law_due)
  B__law_due : Binds K d__law_due ["_law_text"] []
  f__law_read : Addr
  d__law_read : FuncData
  F__law_read : Fun K "_law_read" "_law_read" s__law_read f__law_read d__law_read
  g__law_read : mg "_law_read" = some (.ref f__law_read)
  B__law_read : Binds K d__law_read ["_law_text"] []
  f__law_same : Addr
  d__law_same : FuncData
  F__law_same : Fun K "_law_same" "_law_same" s__law_same f__law_same d__law_same
  g__law_same : mg "_law_same" = some (.ref f__law_same)
  B__law_same : Binds K d__law_same ["_law_found", "_law_web"] []
  f_law : Addr
  d_law : FuncData
  F_law : Fun K "law" "law" s_law f_law d_law
  g_law : mg "law" = some (.ref f_law)
  B_law : Binds K d_law ["_law_script"] []
section
variable {P : Program} {w : World} {K : PySem.W.Frag} {mg : Str → Option Value} {base : Heap}
theorem ok_is_whole (T : Txt K mg) : FnOk P w K mg base (L2N.CX P w) 2 T.f_is_whole T.d_is_whole ["thing"] (spP K S_is_whole) := by
  refine fnPN T.F_is_whole sc_is_whole (fun rs Qd Ed h => ?_) fun cdv A outer s H E hr tk po => ⟨_, (ds_one (ds_ret (de_and (de_isi .int (by rfl) T.b_isinstance bb_isinstance (by rfl) T.b_int bb_int (by decide) (by decide) (de_name 0)) (de_one (de_not (de_isi .bool (by rfl) T.b_isinstance bb_isinstance (by rfl) T.b_bool bb_bool (by decide) (by decide) (de_name 0))))))), fun rs Qd Ed h => ?_⟩
  · obtain ⟨d, rfl, _⟩ := h; rfl
  · skip
    obtain ⟨d, rfl, q⟩ := h
    cases d <;> simpa [isWhole] using q
theorem ok_is_box (T : Txt K mg) : FnOk P w K mg base (L2N.CX P w) 4 T.f_is_box T.d_is_box ["thing"] (spP K S_is_box) := by
  refine fnPN T.F_is_box sc_is_box (fun rs Qd Ed h => ?_) fun cdv A outer s H E hr tk po => ⟨_, (ds_one (ds_ret (de_and (de_callN (ok_is_whole T) tk (hr.mono (by decide)) (by rfl) T.g_is_whole T.F_is_whole.kp T.B_is_whole (da_cons (de_name 0) da_nil)) (de_one (de_chain op_le op_lt de_int (de_name 0) (de_globI (by rfl) T.g_BOXES ⟨_, rfl⟩)))))), fun rs Qd Ed h => ?_⟩
  · obtain ⟨d, rfl, _⟩ := h; rfl
  · skip
    obtain ⟨d, rfl, q⟩ := h
    cases d with
    | int i =>
      simp [S_is_whole, isWhole, isBoxD] at q ⊢
      by_cases h : 0 ≤ i
      · simpa [h] using q
      · have h' : i < 0 := by omega
        simpa [h, h'] using q
    | _ => simpa [S_is_whole, isWhole, isBoxD] using q
theorem ok_is_step (T : Txt K mg) : FnOk P w K mg base (L2N.CX P w) 6 T.f_is_step T.d_is_step ["thing"] (spP K S_is_step) := by
  refine fnPN T.F_is_step sc_is_step (fun rs Qd Ed h => ?_) fun cdv A outer s H E hr tk po => ⟨_, (ds_cons (ds_if (dt_w (dw_or (dt_not (dt_val (de_isi .tuple (by rfl) T.b_isinstance bb_isinstance (by rfl) T.b_tuple bb_tuple (by decide) (by decide) (de_name 0)))) (dw_or (dt_lt (de_len (by rfl) T.b_len (de_name 0)) de_int) (dw_or1 (dt_not (dt_val (de_isi .str (by rfl) T.b_isinstance bb_isinstance (by rfl) T.b_str bb_str (by decide) (by decide) (de_ix (de_name 0) de_int))))))))
 (ds_one (ds_ret de_bl))
 ds_nil)
 (ds_cons (ds_if (dt_eq hr (de_ix (de_name 0) de_int) de_str)
 (ds_one (ds_ret (de_and (de_eq hr (de_len (by rfl) T.b_len (de_name 0)) de_int) (de_and (de_callN (ok_is_box T) tk (hr.mono (by decide)) (by rfl) T.g_is_box T.F_is_box.kp T.B_is_box (da_cons (de_ix (de_name 0) de_int) da_nil)) (de_and (de_callN (ok_is_whole T) tk (hr.mono (by decide)) (by rfl) T.g_is_whole T.F_is_whole.kp T.B_is_whole (da_cons (de_ix (de_name 0) de_int) da_nil)) (de_one (de_lt (de_abs (by rfl) T.b_abs bb_abs (de_ix (de_name 0) de_int)) (de_pow de_int de_int))))))))
 ds_nil)
 (ds_cons (ds_if (dt_eq hr (de_ix (de_name 0) de_int) de_str)
 (ds_one (ds_ret (de_and (de_eq hr (de_len (by rfl) T.b_len (de_name 0)) de_int) (de_one (de_callN (ok_is_box T) tk (hr.mono (by decide)) (by rfl) T.g_is_box T.F_is_box.kp T.B_is_box (da_cons (de_ix (de_name 0) de_int) da_nil))))))
 ds_nil)
 (ds_one (ds_ret (de_and (de_eq hr (de_ix (de_name 0) de_int) de_str) (de_one (de_eq hr (de_len (by rfl) T.b_len (de_name 0)) de_int)))))))), fun rs Qd Ed h => ?_⟩
  · obtain ⟨d, rfl, _⟩ := h; rfl
  · skip
    obtain ⟨d, rfl, q⟩ := h
    cases d with
    | tuple ds =>
      rcases ds with _ | ⟨x, r⟩
      · simpa [isStepD] using q
      · have hl : (1 : Int) ≤ r.length + 1 := by omega
        have hl' : ¬ ((r.length : Int) + 1 < 1) := by omega
        cases x with
        | str s =>
          rcases r with _ | ⟨a, _ | ⟨b, _ | ⟨c, r⟩⟩⟩
          · simp [S_is_box, S_is_whole, PyData.eqv, isStepD] at q ⊢
            repeat' split
            all_goals simp_all
          · simp [S_is_box, S_is_whole, PyData.eqv, isStepD] at q ⊢
            repeat' split
            all_goals simp_all
          · simp [S_is_box, S_is_whole, PyData.eqv, isStepD] at q ⊢
            by_cases hs : s = Str.ofString "put"
            · by_cases ha : isBoxD a = true
              · by_cases hb : isWhole b = true
                · obtain ⟨i, rfl⟩ := isWhole_iff.mp hb
                  have e : decide ((if i < 0 then -i else i) < 1000000000000000000000000000000) = decide (i.natAbs < 10 ^ 30) := by
                    apply decide_eq_decide.mpr
                    split <;> omega
                  simpa [hs, ha, hb, e, isNumD] using q
                · have hn : isNumD b = false := by cases b <;> simp_all [isNumD, isWhole]
                  simpa [hs, ha, hb, hn] using q
              · simpa [hs, ha] using q
            · simpa [hs] using q
          · simp [S_is_box, S_is_whole, PyData.eqv, isStepD] at q ⊢
            have h1 : ¬ ((r.length : Int) + 1 + 1 + 1 + 1 = 3) := by omega
            have h2 : ¬ ((r.length : Int) + 1 + 1 + 1 + 1 = 2) := by omega
            have h3 : ¬ ((r.length : Int) + 1 + 1 + 1 + 1 = 1) := by omega
            have h4 : (1 : Int) ≤ (r.length : Int) + 1 + 1 + 1 + 1 := by omega
            refine .inl ⟨h4, ?_⟩
            simpa [h1, h2, h3] using q
        | _ => simpa [isStepD, hl, hl'] using q
    | _ => simpa [isStepD] using q
theorem ok_need_web (T : Txt K mg) : FnOk P w K mg base (L2N.CX P w) 8 T.f_need_web T.d_need_web ["web"] (spI K okWeb (.ref T.C_BadWeb)) := by
  refine fnIN T.F_need_web sc_need_web fun cdv A outer s H E hr tk po => ⟨_, (ds_cons (ds_if (dt_w (dw_or (dt_not (dt_val (de_isi .list (by rfl) T.b_isinstance bb_isinstance (by rfl) T.b_list bb_list (by decide) (by decide) (de_name 0)))) (dw_or1 (dt_not (dt_chain op_le op_le de_int (de_len (by rfl) T.b_len (de_name 0)) (de_globI (by rfl) T.g_MOST_HANDS ⟨_, rfl⟩))))))
 (ds_one (ds_raiseN rfl tk (L2N.pmk_own PySem.F.excBase_ValueError T.x_BadWeb T.g_BadWeb T.k_BadWeb (raises_own T.s_BadWeb T.t_BadWeb) rfl)))
 ds_nil)
 (ds_cons (ds_setF (i := 1) sc_need_web.nd rfl (Or.inl rfl) de_int)
 (ds_cons (ds_forL po rfl (de_name 0) (pg_name (i := 2) sc_need_web.nd rfl (Or.inl rfl)) (gd_name (i := 2) (by decide))
 (ds_cons (ds_if (dt_not (dt_val (de_isi .list (by rfl) T.b_isinstance bb_isinstance (by rfl) T.b_list bb_list (by decide) (by decide) (de_name 2))))
 (ds_one (ds_raiseN rfl tk (L2N.pmk_own PySem.F.excBase_ValueError T.x_BadWeb T.g_BadWeb T.k_BadWeb (raises_own T.s_BadWeb T.t_BadWeb) rfl)))
 ds_nil)
 (ds_one (ds_forL po rfl (de_name 2) (pg_name (i := 3) sc_need_web.nd rfl (Or.inl rfl)) (gd_name (i := 3) (by decide))
 (ds_cons (ds_if (dt_not (dt_val (de_callN (ok_is_step T) tk (hr.mono (by decide)) (by rfl) T.g_is_step T.F_is_step.kp T.B_is_step (da_cons (de_name 3) da_nil))))
 (ds_one (ds_raiseN rfl tk (L2N.pmk_own PySem.F.excBase_ValueError T.x_BadWeb T.g_BadWeb T.k_BadWeb (raises_own T.s_BadWeb T.t_BadWeb) rfl)))
 ds_nil)
 (ds_one (ds_setF (i := 1) sc_need_web.nd rfl (Or.inl rfl) (de_add (de_name 1) (de_intB (by rfl) T.b_int bb_int (de_ne hr (de_ix (de_name 3) de_int) de_str))))))))))
 (ds_cons (ds_if (dt_gt (de_name 1) (de_globI (by rfl) T.g_MOST_DEEDS ⟨_, rfl⟩))
 (ds_one (ds_raiseN rfl tk (L2N.pmk_own PySem.F.excBase_ValueError T.x_BadWeb T.g_BadWeb T.k_BadWeb (raises_own T.s_BadWeb T.t_BadWeb) rfl)))
 ds_nil)
 (ds_one ds_retF))))), ?_⟩
  intro d
  clear tk po
  cases d with
  | list rows =>
    simp
    by_cases h1 : (1 : Int) ≤ rows.length
    · by_cases h3 : (rows.length : Int) ≤ 3
      · simp [h1, h3]
        refine forInv_of (fun pre Γ => pre.all isRowD = true ∧ ∃ x2 x3, Γ = [some (.leaf (.list rows)), some (.leaf (.int (deedsD pre))), x2, x3]) ?_ (fun pre row post Γ' e ⟨pa, x2, x3, eg⟩ => ?_) (fun Γ' ⟨pa, x2, x3, eg⟩ => ?_)
        · simp [deedsD]
        · subst eg
          have bad : isRowD row = false → okWeb (.list rows) = false := fun h => by
            subst e; simp [okWeb, h]
          cases row with
          | list steps =>
            simp
            refine forInv_of (fun pre2 Γ => pre2.all isStepD = true ∧ ∃ x3, Γ = [some (.leaf (.list rows)), some (.leaf (.int (deedsD pre + (pre2.filter isDeedD).length))), some (.leaf (.list steps)), x3]) ?_ (fun pre2 st post2 Γ' e2 ⟨pa2, x3, eg⟩ => ?_) (fun Γ' ⟨pa2, x3, eg⟩ => ?_)
            · simp
            · subst eg
              simp [S_is_step]
              by_cases hs : isStepD st = true
              · simp [hs]
                cases st with
                | tuple ds =>
                  cases ds with
                  | nil => simp [isStepD] at hs
                  | cons x r =>
                    cases x with
                    | str s =>
                      simp [PyData.eqv]
                      have pa2' : ∀ x ∈ pre2, isStepD x = true := by simpa using pa2
                      by_cases hf : s = Str.ofString "fence"
                      · exact .inl ⟨hf, pa2', by simp [hf, isDeedD]⟩
                      · exact .inr ⟨hf, pa2', by simp [hf, isDeedD]; omega⟩
                    | _ => cases r with | nil => simp [isStepD] at hs | cons a r => cases r <;> simp [isStepD] at hs
                | _ => simp [isStepD] at hs
              · simp [hs]
                apply bad
                subst e2
                simp [isRowD, hs]
            · subst eg
              have pa' : ∀ x ∈ pre, isRowD x = true := by simpa using pa
              have pa2' : ∀ x ∈ steps, isStepD x = true := by simpa using pa2
              refine ⟨by simpa [isRowD] using ⟨pa', pa2'⟩, ?_⟩
              simp [deeds_snoc, stepsD]
          | _ => simp; exact bad rfl
        · subst eg
          simp
          have hl : 1 ≤ rows.length ∧ rows.length ≤ 3 := by omega
          by_cases h8 : (8 : Int) < deedsD rows
          · have h8' : ¬ deedsD rows ≤ 8 := by omega
            simp [h8, okWeb, h8']
          · have h8' : deedsD rows ≤ 8 := by omega
            have pa' : ∀ x ∈ rows, isRowD x = true := by simpa using pa
            simp [h8, okWeb, h8', hl.1, hl.2]
            exact ⟨by omega, pa'⟩
      · simp [h1, h3]
        have : ¬ rows.length ≤ 3 := by omega
        simp [okWeb, this]
    · simp [h1]
      have : ¬ 1 ≤ rows.length := by omega
      simp [okWeb, this]
  | _ => simp [okWeb]
def S_shown (C : Value) : SD := fun rs Q E => ∃ d, rs = [.leaf d] ∧ ((okWeb d = false ∧ E C) ∨ ∃ w, d = encWeb w ∧ okWeb d = true ∧ smallW w ∧ Q (.leaf (.str (webT w))))
theorem ok_shown (T : Txt K mg) : FnOk P w K mg base (L2N.CX P w) 10 T.f_shown T.d_shown ["web"] (spP K (S_shown (.ref T.C_BadWeb))) := by
  refine fnPN T.F_shown sc_shown (fun rs Qd Ed h => ?_) fun cdv A outer s H E hr tk po => ⟨_, (ds_cons (ds_set (i := 1) sc_shown.nd rfl (Or.inl rfl) (de_lst do_nil))
 (ds_cons (ds_forL po rfl (de_callIN (ok_need_web T) tk (hr.mono (by decide)) (by rfl) T.g_need_web T.F_need_web.kp T.B_need_web (de_name 0)) (pg_name (i := 2) sc_shown.nd rfl (Or.inl rfl)) (gd_name (i := 2) (by decide))
 (ds_one (ds_app (dr_name 1) (de_m_join de_str (de_lcL (i := 4) rfl sc_shown.nd (blkOk_by (own := [("step", 4)]) (N := N_shown) (sc := defScope s_shown) (by decide +kernel)) (fun _ _ _ _ _ => pg_name (i := 4) sc_shown.nd rfl (Or.inl rfl)) (fun _ _ _ _ _ => dts_nil) (fun _ _ _ _ _ => (de_m_join de_str (de_lcT (i := 3) rfl sc_shown.nd (blkOk_any (own := [("word", 3)]) (N := N_shown) (sc := defScope s_shown) (by decide +kernel) (by decide +kernel) _) (fun _ _ _ _ _ => pg_name (i := 3) sc_shown.nd rfl (Or.inl rfl)) (fun _ _ _ _ _ => dts_nil) (fun _ _ _ _ _ => (de_strC (by rfl) T.b_str bb_str (de_name 3))) (de_name 4)))) (de_name 2))))))
 (ds_one (ds_ret (de_view (de_m_join de_str (de_name 1))))))), fun rs Qd Ed h => ?_⟩
  · obtain ⟨d, rfl, _⟩ := h; rfl
  · skip
    clear tk po
    obtain ⟨d, rfl, h⟩ := h
    rcases h with ⟨h1, h2⟩ | ⟨w, rfl, ok, sm, q⟩
    · simp [h1]; exact h2
    simp [ok]
    have g := (okWeb_good ok).1.2.2
    have h3 := sm.1
    refine forInv_of (fun pre Γ => ∃ (wp : Web) (x2 : Option OT), pre = wp.map encRow ∧ wp.length ≤ w.length ∧ Γ = [some (.leaf (encWeb w)), some (.node (wp.map fun r => .leaf (.str (rowT r)))), x2, none, none]) ⟨[], none, rfl, Nat.zero_le _, rfl⟩ (fun pre d post Γ' e ⟨wp, x2, ep, lp, eg⟩ => ?_) fun Γ' ⟨wp, x2, ep, lp, eg⟩ => ?_
    · subst eg
      have hm : d ∈ w.map encRow := by rw [e]; simp
      obtain ⟨r, hr, rfl⟩ := List.mem_map.mp hm
      have hlen := congrArg List.length e
      simp [ep] at hlen
      simp [lstAt]
      refine ⟨Nat.lt_of_le_of_lt lp (sizeLine_big (by omega)), _, rfl, row_comp (fun s hs => g r hr s hs) (sm.2 r hr) (by decide) ⟨none, rfl, by simp⟩ ⟨none, rfl, by simp⟩ ⟨r.map stepT, by simp [Function.comp_def], ?_, ?_⟩⟩
      · have := row_sum (fun s hs => g r hr s hs) (sm.2 r hr)
        rw [ln_S]; exact this
      · exact ⟨wp ++ [r], by rw [ep]; simp, by simp; omega, by simp [rowT]⟩
    · subst eg
      have ew : wp = w := map_inj' (fun {a b} h => by
        unfold encRow at h; injection h with h; exact map_inj' enc_inj h) ep.symm
      subst ew
      simp [oflat, flat]
      refine ⟨wp.map rowT, by simp, ?_, q⟩
      have := web_sum sm g
      rw [ln_R]; simpa using this
def S_number_of (C : Value) : SD := fun rs Q E => ∃ z, rs = [.leaf (.str z)] ∧ z.length ≤ 1000 ∧ (∀ n, numP z = some n → Q (.leaf (.int n))) ∧ (numP z = none → E C)
theorem ok_number_of (T : Txt K mg) : FnOk P w K mg base (L2N.CX P w) 2 T.f_number_of T.d_number_of ["word"] (spP K (S_number_of (.ref T.C_NoText))) := by
  refine fnPN T.F_number_of sc_number_of (fun rs Qd Ed h => ?_) fun cdv A outer s H E hr tk po => ⟨_, (ds_cons (ds_setF (i := 1) sc_number_of.nd rfl (Or.inl rfl) (de_ifExp (dt_eq hr (de_slice (de_name 0) dp_none (dp_some de_int)) de_str) (de_slice (de_name 0) (dp_some de_int) dp_none) (de_name 0)))
 (ds_cons (ds_if (dt_not (dt_chain op_le op_le de_int (de_len (by rfl) T.b_len (de_name 1)) de_int))
 (ds_one (ds_raiseN rfl tk (L2N.pmk_own PySem.F.excBase_ValueError T.x_NoText T.g_NoText T.k_NoText (raises_own T.s_NoText T.t_NoText) rfl)))
 ds_nil)
 (ds_cons (ds_forS po rfl (de_name 1) (pg_name (i := 2) sc_number_of.nd rfl (Or.inl rfl)) (gd_name (i := 2) (by decide))
 (ds_one (ds_if (dt_notInS (de_name 2) (de_globS (by rfl) T.g_FIGURES ⟨_, rfl⟩))
 (ds_one (ds_raiseN rfl tk (L2N.pmk_own PySem.F.excBase_ValueError T.x_NoText T.g_NoText T.k_NoText (raises_own T.s_NoText T.t_NoText) rfl)))
 ds_nil)))
 (ds_one (ds_ret (de_intT (by rfl) T.b_int bb_int (de_name 0))))))), fun rs Qd Ed h => ?_⟩
  · obtain ⟨d, rfl, _⟩ := h; rfl
  · skip
    clear tk po
    obtain ⟨z, rfl, hz, q, qn⟩ := h
    have sl : z.length ≤ sizeLine := Nat.le_of_lt (sizeLine_big (by omega))
    have main : ∀ f : Str, tl f = figs (tl z) → f.length ≤ 1000 → (if 1 ≤ (f.length : Int) then
          if (f.length : Int) ≤ 30 then
            forInv (f.cps.toList.map fun c => PyData.str { cps := #[c] }) (gN 2)
              (tIf (tTV (tB fNotInS (tName 2) (tK (PyData.str (Str.ofString "0123456789"))))) (tRaise (Value.ref T.C_NoText)) tNx)
              { nx := tRt (tU fIntT (tName 0)) { nx := fun x => Qd (OT.leaf PyData.none), rt := fun r x => Qd r, bk := fun x => False, ct := fun x => False, ex := fun c x => Ed c },
                rt := fun r x => Qd r, bk := fun x => False, ct := fun x => False, ex := fun c x => Ed c }
              [some (OT.leaf (PyData.str z)), some (OT.leaf (PyData.str f)), none]
          else Ed (Value.ref T.C_NoText)
        else Ed (Value.ref T.C_NoText)) := fun f ef hf => by
      have el : f.length = (figs (tl z)).length := by rw [len_tl', ef]
      by_cases h1 : 1 ≤ f.length
      · by_cases h2 : f.length ≤ 30
        · rw [if_pos (by omega), if_pos (by omega)]
          refine figs_loop (fun ad x => ?_) (fun nd x => qn (numP_none ?_))
          · obtain ⟨n, hn⟩ := numP_some (z := z) (figOk_iff.mpr ⟨by omega, by omega, by rw [← ef]; exact ad⟩)
            obtain ⟨hi, hl⟩ := numP_int hn
            simp
            exact ⟨n, hi, by omega, q n hn⟩
          · cases hh : figOk (figs (tl z)) with
            | false => rfl
            | true => exact absurd (by rw [ef]; exact (figOk_iff.mp hh).2.2) nd
        · rw [if_pos (by omega), if_neg (by omega)]
          refine qn (numP_none ?_)
          cases hh : figOk (figs (tl z)) with
          | false => rfl
          | true => exact absurd (figOk_iff.mp hh).2.1 (by omega)
      · rw [if_neg (by omega)]
        refine qn (numP_none ?_)
        cases hh : figOk (figs (tl z)) with
        | false => rfl
        | true => exact absurd (figOk_iff.mp hh).1 (by omega)
    simp
    refine ⟨sl, ?_⟩
    by_cases hn : (tl z).head? = some 45
    · have hc := cut_dash.mpr hn
      have lc := cutS_length z (some 1) none
      rw [if_pos hc]
      exact ⟨sl, Nat.le_trans lc sl, main _ (tl_figs_neg hn) (Nat.le_trans lc hz)⟩
    · have hc := fun h => hn (cut_dash.mp h)
      rw [if_neg hc]
      exact ⟨sl, main _ (tl_figs_nn hn) hz⟩
def S_step_of (C : Value) : SD := fun rs Q E => ∃ z, rs = [.leaf (.str z)] ∧ z.length ≤ 1000 ∧ (∀ d, stepP z = some d → Q (.leaf d)) ∧ (stepP z = none → E C)
theorem ok_step_of (T : Txt K mg) : FnOk P w K mg base (L2N.CX P w) 4 T.f_step_of T.d_step_of ["text"] (spP K (S_step_of (.ref T.C_NoText))) := by
  refine fnPN T.F_step_of sc_step_of (fun rs Qd Ed h => ?_) fun cdv A outer s H E hr tk po => ⟨_, (ds_cons (ds_setF (i := 1) sc_step_of.nd rfl (Or.inl rfl) (de_m_split (de_name 0) de_str))
 (ds_cons (ds_if (dt_w (dw_and (dt_eq hr (de_ix (de_name 1) de_int) de_str) (dw_and1 (dt_eq hr (de_len (by rfl) T.b_len (de_name 1)) de_int))))
 (ds_one (ds_ret (de_tup (da_cons de_str (da_cons (de_callN (ok_number_of T) tk (hr.mono (by decide)) (by rfl) T.g_number_of T.F_number_of.kp T.B_number_of (da_cons (de_ix (de_name 1) de_int) da_nil)) (da_cons (de_callN (ok_number_of T) tk (hr.mono (by decide)) (by rfl) T.g_number_of T.F_number_of.kp T.B_number_of (da_cons (de_ix (de_name 1) de_int) da_nil)) da_nil))))))
 ds_nil)
 (ds_cons (ds_if (dt_w (dw_and (dt_eq hr (de_ix (de_name 1) de_int) de_str) (dw_and1 (dt_eq hr (de_len (by rfl) T.b_len (de_name 1)) de_int))))
 (ds_one (ds_ret (de_tup (da_cons de_str (da_cons (de_callN (ok_number_of T) tk (hr.mono (by decide)) (by rfl) T.g_number_of T.F_number_of.kp T.B_number_of (da_cons (de_ix (de_name 1) de_int) da_nil)) da_nil)))))
 ds_nil)
 (ds_cons (ds_if (dt_eq hr (de_name 0) de_str)
 (ds_one (ds_ret (de_tup (da_cons de_str da_nil))))
 ds_nil)
 (ds_one (ds_raiseN rfl tk (L2N.pmk_own PySem.F.excBase_ValueError T.x_NoText T.g_NoText T.k_NoText (raises_own T.s_NoText T.t_NoText) rfl))))))), fun rs Qd Ed h => ?_⟩
  · obtain ⟨d, rfl, _⟩ := h; rfl
  · skip
    clear tk po
    obtain ⟨z, rfl, hz, q, qn⟩ := h
    have part : ∀ p ∈ Txt.split z sepB, p.length ≤ 1000 := fun p hp => Nat.le_trans (split_part ne_B k_B hp).2 hz
    have l0 := len_lt (n := z.length) (by omega)
    have sn := split_nil (x := z) ne_B k_B
    unfold stepP at q qn
    generalize hws : Txt.split z sepB = ws at part sn q qn
    have hws' : Txt.split z (Str.ofString " ") = ws := hws
    simp [ln_B, hws', l0]
    cases ws with
    | nil => exact absurd rfl sn
    | cons a r =>
      have fen : ¬ (a = wPut ∧ (a :: r).length = 3) → ¬ (a = wGet ∧ (a :: r).length = 2) → if z = Str.ofString "fence" then Qd (.leaf (.tuple [.str (Str.ofString "fence")])) else Ed (.ref T.C_NoText) := fun h1 h2 => by
        have e0 : (a :: r).getD 0 wNil = a := rfl
        rw [e0, if_neg h1, if_neg h2] at qn
        rw [e0, if_neg h1, if_neg h2] at q
        by_cases e : z = Str.ofString "fence"
        · rw [if_pos e]
          rw [if_pos e] at q
          exact q _ rfl
        · rw [if_neg e]
          rw [if_neg e] at qn
          exact qn rfl
      simp
      by_cases ha : a = Str.ofString "put"
      · by_cases hl : r.length = 2
        · obtain ⟨b, c, rfl⟩ : ∃ b c, r = [b, c] := by
            match r, hl with
            | [b, c], _ => exact ⟨b, c, rfl⟩
          have h1 : [a, b, c].getD 0 wNil = wPut ∧ [a, b, c].length = 3 := ⟨ha, rfl⟩
          rw [if_pos h1] at qn
          rw [if_pos h1] at q
          subst ha
          simp [S_number_of]
          refine ⟨part b (by simp), fun n hn => ⟨part c (by simp), fun m hm => ?_, fun hm => ?_⟩, fun hn => ?_⟩
          · exact q _ (by show (numP b).bind _ = _; rw [hn]; show Option.map _ (numP c) = _; rw [hm]; rfl)
          · exact qn (by show (numP b).bind _ = _; rw [hn]; show Option.map _ (numP c) = _; rw [hm]; rfl)
          · exact qn (by show (numP b).bind _ = _; rw [hn]; rfl)
        · have h3 : ¬ ((r.length : Int) + 1 = 3) := by omega
          have f := fen (fun z => hl (by simpa using z.2)) (fun z => by rw [ha] at z; exact absurd z.1 (by decide))
          subst ha
          simp [h3]
          exact f
      · by_cases hg : a = Str.ofString "get"
        · by_cases hl : r.length = 1
          · obtain ⟨b, rfl⟩ : ∃ b, r = [b] := by
              match r, hl with
              | [b], _ => exact ⟨b, rfl⟩
            have h0 : ¬ ([a, b].getD 0 wNil = wPut ∧ [a, b].length = 3) := fun z => ha z.1
            have h1 : [a, b].getD 0 wNil = wGet ∧ [a, b].length = 2 := ⟨hg, rfl⟩
            rw [if_neg h0, if_pos h1] at qn
            rw [if_neg h0, if_pos h1] at q
            subst hg
            simp [S_number_of]
            refine ⟨part b (by simp), fun n hn => ?_, fun hn => ?_⟩
            · exact q _ (by show Option.map _ (numP b) = _; rw [hn]; rfl)
            · exact qn (by show Option.map _ (numP b) = _; rw [hn]; rfl)
          · have h3 : ¬ ((r.length : Int) + 1 = 2) := by omega
            have f := fen (fun z => ha z.1) (fun z => hl (by simpa using z.2))
            subst hg
            simp [h3]
            exact f
        · have f := fen (fun z => ha z.1) (fun z => hg z.1)
          simp [ha, hg]
          exact f
def S_row_of (C : Value) : SD := fun rs Q E => ∃ z, rs = [.leaf (.str z)] ∧ z.length ≤ 1000 ∧ (∀ ds, rowP z = some ds → Q (.node (ds.map .leaf))) ∧ (rowP z = none → E C)
theorem ok_row_of (T : Txt K mg) : FnOk P w K mg base (L2N.CX P w) 6 T.f_row_of T.d_row_of ["text"] (spP K (S_row_of (.ref T.C_NoText))) := by
  refine fnPN T.F_row_of sc_row_of (fun rs Qd Ed h => ?_) fun cdv A outer s H E hr tk po => ⟨_, (ds_cons (ds_if (dt_eq hr (de_name 0) de_str)
 (ds_one (ds_ret (de_lst do_nil)))
 ds_nil)
 (ds_one (ds_ret (de_lcLX (i := 1) rfl rfl tk rfl sc_row_of.nd (blkOk_by (own := [("part", 1)]) (N := N_row_of) (sc := defScope s_row_of) (by decide +kernel)) (fun _ _ _ _ _ => pg_name (i := 1) sc_row_of.nd rfl (Or.inl rfl)) (fun _ _ _ _ _ => dts_nil) (fun _ _ _ _ _ _ => (de_callP (ok_step_of T) (fun σ => blkX_at σ) (hr.mono (by decide)) (by rfl) T.g_step_of T.F_step_of.kp T.B_step_of (da_cons (de_name 1) da_nil))) (de_m_split (de_name 0) de_str))))), fun rs Qd Ed h => ?_⟩
  · obtain ⟨d, rfl, _⟩ := h; rfl
  · skip
    clear tk po
    obtain ⟨z, rfl, hz, q, qn⟩ := h
    have part : ∀ p ∈ Txt.split z sepS, p.length ≤ 1000 := fun p hp => Nat.le_trans (split_part ne_S k_S hp).2 hz
    have l0 := len_lt (n := z.length) (by omega)
    have sl := split_le2 z sepS
    simp [ln_S, l0]
    by_cases e : z = Str.ofString ""
    · rw [if_pos e]
      exact q [] (by unfold rowP; rw [if_pos e])
    · rw [if_neg e]
      unfold rowP at q qn
      rw [if_neg e] at qn
      rw [if_neg e] at q
      refine compInvX_strs (c := .ref T.C_NoText) (fun p => (stepP p).map .leaf) ⟨none, rfl, by simp⟩ (Nat.le_trans sl l0) (fun p r hp h => ?_) (fun p hp Q' h1 h2 => ?_) (fun rs h => ?_) fun h => ?_
      · cases hs : stepP p with
        | none => rw [hs] at h; cases h
        | some d => rw [hs] at h; cases h; rfl
      · simp [S_step_of]
        exact ⟨part p hp, fun d hd => h1 _ (by rw [hd]; rfl), fun hd => h2 (by rw [hd]; rfl)⟩
      · rw [mapM_map] at h
        cases hm : (Txt.split z sepS).mapM stepP with
        | none => rw [hm] at h; cases h
        | some ds => rw [hm] at h; cases h; exact q ds hm
      · rw [mapM_map] at h
        cases hm : (Txt.split z sepS).mapM stepP with
        | none => exact qn hm
        | some ds => rw [hm] at h; cases h
def S_read (C : Value) : SD := fun rs Q E => ∃ d, rs = [.leaf d] ∧ (∀ z, d = .str z → z.length ≤ 900) ∧ (∀ z w, d = .str z → Txts z w → Q (.leaf (encWeb w))) ∧ ((∀ z w, d = .str z → ¬ Txts z w) → E C)
theorem ok_read (T : Txt K mg) : FnOk P w K mg base (L2.CX P w) 12 T.f_read T.d_read ["text"] (spP K (S_read (.ref T.C_NoText))) := by
  refine fnP T.F_read sc_read (fun rs Qd Ed h => ?_) fun cdv A outer s H E hr tk po => ⟨_, (ds_cons (ds_if (dt_not (dt_val (de_isi .str (by rfl) T.b_isinstance bb_isinstance (by rfl) T.b_str bb_str (by decide) (by decide) (de_name 0))))
 (ds_one (ds_raise rfl tk (pmk_own PySem.F.excBase_ValueError T.x_NoText T.g_NoText T.k_NoText (raises_own T.s_NoText T.t_NoText) rfl)))
 ds_nil)
 (ds_cons (ds_lcLFX (y := 1) (i := 2) rfl rfl (takesN tk) rfl sc_read.nd (blkOk_by (own := [("part", 2)]) (N := N_read) (sc := defScope s_read) (by decide +kernel)) (fun _ _ _ _ _ => pg_name (i := 2) sc_read.nd rfl (Or.inl rfl)) (fun _ _ _ _ _ => dts_nil) (fun _ _ _ _ _ _ => (de_callP (ok_row_of T) (fun σ => blkX_at σ) (hr.mono (by decide)) (by rfl) T.g_row_of T.F_row_of.kp T.B_row_of (da_cons (de_name 2) da_nil))) rfl rfl (sw_true rfl rfl rfl (by decide +kernel)) (de_m_split (de_name 0) de_str))
 (ds_cons (ds_tryX rfl rfl ⟨by rfl, by decide, .inl T.g_BadWeb⟩ (fun hd => L2H.passesAt_of rfl hd) tk (fun W pn xe tk po => (ds_one (ds_setF (i := 3) sc_read.nd rfl (Or.inl rfl) (de_callN (ok_shown T) tk (hr.mono (by decide)) (by rfl) T.g_shown T.F_shown.kp T.B_shown (da_cons (de_name 1) da_nil)))))
 (fun a oe pn tk ht => (ds_one (ds_raiseH ht tk (L2N.pmk_own PySem.F.excBase_ValueError T.x_NoText T.g_NoText T.k_NoText (raises_own T.s_NoText T.t_NoText) rfl)))))
 (ds_cons (ds_if (dt_ne hr (de_name 3) (de_name 0))
 (ds_one (ds_raise rfl tk (pmk_own PySem.F.excBase_ValueError T.x_NoText T.g_NoText T.k_NoText (raises_own T.s_NoText T.t_NoText) rfl)))
 ds_nil)
 (ds_one (ds_ret (de_name 1))))))), fun rs Qd Ed h => ?_⟩
  · obtain ⟨d, rfl, _⟩ := h; rfl
  · skip
    clear po
    obtain ⟨d, rfl, hd, q, qn⟩ := h
    simp
    cases d with
    | str z =>
      have hz := hd z rfl
      have part : ∀ p ∈ Txt.split z sepR, p.length ≤ 1000 := fun p hp => Nat.le_trans (split_part ne_R k_R hp).2 (by omega)
      have l0 := len_lt (n := z.length) (by omega)
      have sl := split_le2 z sepR
      simp [ln_R, l0]
      refine compInvX_strs (c := .ref T.C_NoText) (fun p => (rowP p).map fun ds => .node (ds.map .leaf)) ⟨none, rfl, by simp⟩ (Nat.le_trans sl l0) (fun p r hp h => ?_) (fun p hp Q' h1 h2 => ?_) (fun rs h => ?_) fun h => ?_
      · cases hs : rowP p with
        | none => rw [hs] at h; cases h
        | some d => rw [hs] at h; cases h; rfl
      · simp [S_row_of]
        exact ⟨part p hp, fun d hd => h1 _ (by rw [hd]; rfl), fun hd => h2 (by rw [hd]; rfl)⟩
      · rw [mapM_map] at h
        cases hm : (Txt.split z sepR).mapM rowP with
        | none => rw [hm] at h; cases h
        | some L =>
          rw [hm] at h
          cases h
          have wp : webP z = some L := hm
          rw [vw_rows]
          by_cases ok : okWeb (.list (L.map PyData.list)) = true
          · obtain ⟨w, eD, g, dd⟩ := okWeb_dec ok
            have sm : smallW w := by
              refine ⟨g.2.1, fun r hr => ?_⟩
              have hr2 : encRow r ∈ L.map PyData.list := by
                have : encRow r ∈ w.map encRow := List.mem_map_of_mem hr
                unfold encWeb at eD
                injection eD with eD
                rw [eD]; exact this
              obtain ⟨ds, hds, e⟩ := List.mem_map.mp hr2
              obtain ⟨p, hp, ep⟩ := mapM_mem hm ds hds
              have l1 := rowP_len ep
              have l2 := (split_part ne_R k_R hp).2
              unfold encRow at e
              injection e with e
              rw [e] at l1
              simp at l1
              omega
            refine ⟨_, rfl, .inr ⟨w, eD, ok, sm, ?_⟩⟩
            simp
            by_cases ez : webT w = z
            · refine .inl ⟨ez, ?_⟩
              rw [eD]
              exact q z w rfl ⟨g, dd, ez.symm⟩
            · refine .inr ⟨ez, qn fun z' w' e t => ?_⟩
              injection e with e
              subst e
              have := parse_inj wp t
              rw [eD] at this
              have := encWeb_inj this
              subst this
              exact ez t.2.2.symm
          · refine ⟨_, rfl, .inl ⟨by simpa using ok, true, T.m_BadWeb_BadWeb, fun _ => ?_, fun h => by cases h⟩⟩
            refine qn fun z' w' e t => ?_
            injection e with e
            subst e
            have := parse_inj wp t
            rw [this] at ok
            exact ok (okWeb_enc t.1 t.2.1)
      · rw [mapM_map] at h
        refine qn fun z' w e t => ?_
        injection e with e
        subst e
        have := t.parse
        unfold webP at this
        rw [this] at h
        cases h
    | _ => exact qn fun z w e => by cases e
theorem ok__law_cell_at (T : Txt K mg) : FnOk P w K mg base (L2N.CX P w) 2 T.f__law_cell_at T.d__law_cell_at ["_law_script", "_law_k"] (spP K S_cell_at) := by
  refine fnPN T.F__law_cell_at sc__law_cell_at (fun rs Qd Ed h => ?_) fun cdv A outer s H E hr tk po => ⟨_, (ds_cons (ds_if (dt_lt (de_name 1) (de_len (by rfl) T.b_len (de_name 0)))
 (ds_one (ds_ret (de_ix (de_name 0) (de_name 1))))
 ds_nil)
 (ds_one (ds_ret de_int))), fun rs Qd Ed h => ?_⟩
  · obtain ⟨ns, k, rfl, _⟩ := h; rfl
  · skip
    clear tk po
    obtain ⟨ns, k', rfl, h0, q⟩ := h
    obtain ⟨k, rfl⟩ := Int.eq_ofNat_of_zero_le h0
    by_cases hk : k < ns.length
    · have hk' : ¬ ns.length ≤ k := by omega
      simp [hk, hk', lstAt]
      simpa [cellAt, hk] using q
    · have hk' : ns.length ≤ k := by omega
      simp [hk, hk']
      simpa [cellAt, hk] using q
def S__law_number_by : SD := fun rs Q _ => ∃ c, rs = [.leaf (.int c)] ∧ numOk c ∧ Q (.leaf (.int (numBy 5 0 9 4 c)))
theorem ok__law_number_by (T : Txt K mg) : FnOk P w K mg base (L2N.CX P w) 2 T.f__law_number_by T.d__law_number_by ["_law_cell"] (spP K S__law_number_by) := by
  refine fnPN T.F__law_number_by sc__law_number_by (fun rs Qd Ed h => ?_) fun cdv A outer s H E hr tk po => ⟨_, (ds_cons (ds_if (dt_eq hr (de_mod (de_name 0) de_int) de_int)
 (ds_one (ds_ret (de_sub (de_mod (de_add (de_mulI (de_fdiv (de_name 0) de_int) (de_pow de_int de_int)) de_int) (de_sub (de_mulI de_int (de_pow de_int de_int)) de_int)) (de_sub (de_pow de_int de_int) de_int))))
 ds_nil)
 (ds_one (ds_ret (de_sub (de_mod (de_fdiv (de_name 0) de_int) de_int) de_int)))), fun rs Qd Ed h => ?_⟩
  · obtain ⟨c, rfl, _⟩ := h; rfl
  · skip
    clear tk po
    obtain ⟨c, rfl, ok, q⟩ := h
    have l1 : numOk (c / 5) := by unfold numOk at ok ⊢; omega
    have l2 := log_num l1
    have l3 := log_pow7
    have l4 : bigN < 90000000 := by decide
    by_cases h : c % 5 = 0
    · simp [h]
      have l5 := log2_2
      have l6 := log2_30
      have l7 := log2_p7
      refine ⟨by omega, by omega, ?_⟩
      simpa [numBy, h] using q
    · simp [h]
      simpa [numBy, h] using q
def stepBy3 (c : Int) : Step := if c % 7 < 3 then .put (c / 7 % 4).toNat (numBy 5 0 9 4 (c / 28)) else if c % 7 < 6 then .get (c / 7 % 4).toNat else .fence
def S__law_step_by : SD := fun rs Q _ => ∃ c, rs = [.leaf (.int c)] ∧ numOk c ∧ Q (.leaf (stepBy3 c).enc)
theorem ok__law_step_by (T : Txt K mg) : FnOk P w K mg base (L2N.CX P w) 4 T.f__law_step_by T.d__law_step_by ["_law_cell"] (spP K S__law_step_by) := by
  refine fnPN T.F__law_step_by sc__law_step_by (fun rs Qd Ed h => ?_) fun cdv A outer s H E hr tk po => ⟨_, (ds_cons (ds_if (dt_lt (de_mod (de_name 0) de_int) de_int)
 (ds_one (ds_ret (de_tup (da_cons de_str (da_cons (de_mod (de_fdiv (de_name 0) de_int) de_int) (da_cons (de_callN (ok__law_number_by T) tk (hr.mono (by decide)) (by rfl) T.g__law_number_by T.F__law_number_by.kp T.B__law_number_by (da_cons (de_fdiv (de_name 0) de_int) da_nil)) da_nil))))))
 ds_nil)
 (ds_cons (ds_if (dt_lt (de_mod (de_name 0) de_int) de_int)
 (ds_one (ds_ret (de_tup (da_cons de_str (da_cons (de_mod (de_fdiv (de_name 0) de_int) de_int) da_nil)))))
 ds_nil)
 (ds_one (ds_ret (de_tup (da_cons de_str da_nil)))))), fun rs Qd Ed h => ?_⟩
  · obtain ⟨c, rfl, _⟩ := h; rfl
  · skip
    clear tk po
    obtain ⟨c, rfl, ok, q⟩ := h
    have e4 : 0 ≤ c / 7 % 4 := Int.emod_nonneg _ (by decide)
    have l1 : numOk (c / 28) := by unfold numOk at ok ⊢; omega
    by_cases h3 : c % 7 < 3
    · have h3' : ¬ 3 ≤ c % 7 := by omega
      simp [h3, h3', S__law_number_by]
      exact ⟨l1, by simpa [stepBy3, h3, Step.enc, Int.toNat_of_nonneg e4] using q⟩
    · have h3' : 3 ≤ c % 7 := by omega
      by_cases h6 : c % 7 < 6
      · have h6' : ¬ 6 ≤ c % 7 := by omega
        simpa [stepBy3, h3, h3', h6, h6', Step.enc, Int.toNat_of_nonneg e4] using q
      · have h6' : 6 ≤ c % 7 := by omega
        simpa [stepBy3, h3, h3', h6, h6', Step.enc] using q
def webBy3 (ns : List Int) : Web := growW (fun k => stepBy3 (cellAt ns (2 + k) + 3 * k)) (fun l k => (cellAt ns (2 + k) / 11 % l).toNat) (cellAt ns 0 / 3 % 9).toNat (List.replicate (1 + cellAt ns 0 % 3).toNat [])
def S__law_web_by : SD := fun rs Q _ => ∃ ns, rs = [.scr ns] ∧ (∀ k, cellOk (cellAt ns k)) ∧ Q (nodeW (webBy3 ns))
theorem ok__law_web_by (T : Txt K mg) : FnOk P w K mg base (L2N.CX P w) 6 T.f__law_web_by T.d__law_web_by ["_law_script"] (spP K S__law_web_by) := by
  refine fnPN T.F__law_web_by sc__law_web_by (fun rs Qd Ed h => ?_) fun cdv A outer s H E hr tk po => ⟨_, (ds_cons (ds_setF (i := 1) sc__law_web_by.nd rfl (Or.inl rfl) (de_callN (ok__law_cell_at T) tk (hr.mono (by decide)) (by rfl) T.g__law_cell_at T.F__law_cell_at.kp T.B__law_cell_at (da_cons (de_name 0) (da_cons de_int da_nil))))
 (ds_cons (ds_lcR1 (y := 2) (i := 3) rfl sc__law_web_by.nd (blkOk_by (own := [("_law_k", 3)]) (N := N__law_web_by) (sc := defScope s__law_web_by) (by decide +kernel)) (fun _ _ _ _ _ => pg_name (i := 3) sc__law_web_by.nd rfl (Or.inl rfl)) (fun _ _ _ _ _ => dts_nil) (fun _ _ _ _ _ => (de_lst do_nil)) rfl rfl (by rfl) T.b_range (sw_true rfl rfl rfl (by decide +kernel)) (de_add de_int (de_mod (de_name 1) de_int)))
 (ds_cons (ds_forR1 po rfl (by rfl) T.b_range (de_mod (de_fdiv (de_name 1) de_int) de_int) (pg_name (i := 3) sc__law_web_by.nd rfl (Or.inl rfl)) (gd_name (i := 3) (by decide))
 (ds_cons (ds_setF (i := 4) sc__law_web_by.nd rfl (Or.inl rfl) (de_callN (ok__law_cell_at T) tk (hr.mono (by decide)) (by rfl) T.g__law_cell_at T.F__law_cell_at.kp T.B__law_cell_at (da_cons (de_name 0) (da_cons (de_add de_int (de_name 3)) da_nil))))
 (ds_one (ds_app (dr_ix (dr_name 2) (de_view (de_mod (de_fdiv (de_name 4) de_int) (de_len (by rfl) T.b_len (de_name 2))))) (de_callN (ok__law_step_by T) tk (hr.mono (by decide)) (by rfl) T.g__law_step_by T.F__law_step_by.kp T.B__law_step_by (da_cons (de_add (de_name 4) (de_mulI de_int (de_name 3))) da_nil))))))
 (ds_one (ds_retO 2))))), fun rs Qd Ed h => ?_⟩
  · obtain ⟨ns, rfl, _⟩ := h; rfl
  · skip
    clear tk po
    obtain ⟨ns, rfl, ok, q⟩ := h
    have a3 : 0 ≤ cellAt ns 0 % 3 ∧ cellAt ns 0 % 3 < 3 := ⟨Int.emod_nonneg _ (by decide), Int.emod_lt_of_pos _ (by decide)⟩
    have a9 : 0 ≤ cellAt ns 0 / 3 % 9 ∧ cellAt ns 0 / 3 % 9 < 9 := ⟨Int.emod_nonneg _ (by decide), Int.emod_lt_of_pos _ (by decide)⟩
    simp
    refine ⟨by omega, by omega, compInv_map (fun _ => .node []) ⟨none, rfl, by simp⟩ ?_ (fun _ _ => rfl) (fun d hd Q' q => ?_) ?_⟩
    · rw [rangeD_length]; exact Nat.le_of_lt (sizeLine_big (by omega))
    · simpa using q
    rw [rangeD_const]
    refine ⟨by omega, by omega, ?_⟩
    have ez : sizeW (List.replicate (1 + cellAt ns 0 % 3).toNat ([] : List Step)) = 0 := size_empty
    have l0 : (List.replicate (1 + cellAt ns 0 % 3).toNat ([] : List Step)).length = (1 + cellAt ns 0 % 3).toNat := List.length_replicate
    generalize hw0 : List.replicate (1 + cellAt ns 0 % 3).toNat ([] : List Step) = w0 at ez l0
    have pl : 0 < w0.length := by omega
    let p : Nat → Nat → Nat := fun l k => (cellAt ns (2 + k) / 11 % l).toNat
    let f : Nat → Step := fun k => stepBy3 (cellAt ns (2 + k) + 3 * k)
    have hp : ∀ k, p w0.length k < w0.length := fun k => by
      have h1 : 0 ≤ cellAt ns (2 + k) / 11 % w0.length := Int.emod_nonneg _ (by omega)
      have h2 : cellAt ns (2 + k) / 11 % w0.length < w0.length := Int.emod_lt_of_pos _ (by omega)
      show (cellAt ns (2 + k) / 11 % w0.length).toNat < _
      omega
    refine forInv_range (fun k Γ => ∃ x3 x4, Γ = [some (.scr ns), some (.leaf (.int (cellAt ns 0))), some (nodeW (growW f p k w0)), x3, x4]) ?_ (fun k Γ' hk ⟨x3, x4, eg⟩ => ?_) (fun Γ' ⟨x3, x4, eg⟩ => ?_)
    · subst hw0
      simp [growW, nodeW]
    · subst eg
      have hl := growW_len (f := f) (p := p) (w := w0) k
      have hs := growW_size (f := f) (w := w0) hp k
      have hg := growW_succ (f := f) (p := p) (w := w0) (n := k)
      have hk9 : k < 9 := by omega
      rw [hg]
      generalize growW f p k w0 = w at hl hs
      have n0 : w.length ≠ 0 := by omega
      have h1 : 0 ≤ cellAt ns (2 + k) / 11 % w.length := Int.emod_nonneg _ (by omega)
      have h2 : cellAt ns (2 + k) / 11 % w.length < w.length := Int.emod_lt_of_pos _ (by omega)
      have n1 : ¬ w = [] := fun e => n0 (by rw [e]; rfl)
      simp [encWeb, oflat, flat, n1]
      refine ⟨by omega, lst_grow rfl h1 h2 fun hj => ?_⟩
      have hr := row_size (List.getElem_mem hj)
      have hlog := log_small (k := k) (by omega)
      have h3 : Nat.log2 3 < 64 := log_small (by decide)
      have kk : numOk (cellAt ns (2 + k) + 3 * k) := by
        have o := ok (2 + k)
        have b := bigMN
        unfold cellOk at o; unfold numOk
        generalize 2 ^ bigM = M at o b; generalize 2 ^ bigN = N at b ⊢
        omega
      simp [S__law_step_by]
      refine ⟨sizeLine_big (by omega), by omega, kk, ?_⟩
      exact nodeW_put hj
    · subst eg
      exact ⟨_, rfl, by subst hw0; exact q⟩
def S__law_text_by : SD := fun rs Q _ => ∃ w, rs = [.leaf (encWeb w)] ∧ smallW w ∧ (∀ r ∈ w, ∀ s ∈ r, goodS s) ∧ Q (.leaf (.str (webT w)))
theorem ok__law_text_by (T : Txt K mg) : FnOk P w K mg base (L2N.CX P w) 2 T.f__law_text_by T.d__law_text_by ["_law_web"] (spP K S__law_text_by) := by
  refine fnPN T.F__law_text_by sc__law_text_by (fun rs Qd Ed h => ?_) fun cdv A outer s H E hr tk po => ⟨_, (ds_cons (ds_set (i := 1) sc__law_text_by.nd rfl (Or.inl rfl) (de_lst do_nil))
 (ds_cons (ds_forL po rfl (de_name 0) (pg_name (i := 2) sc__law_text_by.nd rfl (Or.inl rfl)) (gd_name (i := 2) (by decide))
 (ds_cons (ds_set (i := 3) sc__law_text_by.nd rfl (Or.inl rfl) (de_lst do_nil))
 (ds_cons (ds_forL po rfl (de_name 2) (pg_name (i := 4) sc__law_text_by.nd rfl (Or.inl rfl)) (gd_name (i := 4) (by decide))
 (ds_one (ds_app (dr_name 3) (de_m_join de_str (de_lcT (i := 5) rfl sc__law_text_by.nd (blkOk_by (own := [("_law_word", 5)]) (N := N__law_text_by) (sc := defScope s__law_text_by) (by decide +kernel)) (fun _ _ _ _ _ => pg_name (i := 5) sc__law_text_by.nd rfl (Or.inl rfl)) (fun _ _ _ _ _ => dts_nil) (fun _ _ _ _ _ => (de_strC (by rfl) T.b_str bb_str (de_name 5))) (de_name 4))))))
 (ds_one (ds_app (dr_name 1) (de_view (de_m_join de_str (de_name 3))))))))
 (ds_one (ds_ret (de_view (de_m_join de_str (de_name 1))))))), fun rs Qd Ed h => ?_⟩
  · obtain ⟨d, rfl, _⟩ := h; rfl
  · skip
    clear tk po
    obtain ⟨w, rfl, sm, gs, q⟩ := h
    have h3 := sm.1
    simp
    refine forInv_of (fun pre Γ => ∃ (wp : Web) (x2 x3 x4 : Option OT), pre = wp.map encRow ∧ wp.length ≤ w.length ∧ Γ = [some (.leaf (encWeb w)), some (.node (wp.map fun r => .leaf (.str (rowT r)))), x2, x3, x4, none]) ⟨[], none, none, none, rfl, Nat.zero_le _, rfl⟩ (fun pre d post Γ' e ⟨wp, x2, x3, x4, ep, lp, eg⟩ => ?_) fun Γ' ⟨wp, x2, x3, x4, ep, lp, eg⟩ => ?_
    · subst eg
      have hm : d ∈ w.map encRow := by rw [e]; simp
      obtain ⟨r, hr, rfl⟩ := List.mem_map.mp hm
      have hlen := congrArg List.length e
      simp [ep] at hlen
      have hl := sm.2 r hr
      have g := gs r hr
      simp
      refine ⟨r.map Step.enc, rfl, ?_⟩
      refine forInv_of (fun pre2 Γ => ∃ (rp : List Step) (x4 : Option OT), pre2 = rp.map Step.enc ∧ rp.length ≤ r.length ∧ Γ = [some (.leaf (encWeb w)), some (.node (wp.map fun r => .leaf (.str (rowT r)))), some (.leaf (encRow r)), some (.node (rp.map fun s => .leaf (.str (stepT s)))), x4, none]) ⟨[], x4, rfl, Nat.zero_le _, rfl⟩ (fun pre2 d2 post2 Γ' e2 ⟨rp, x4, ep2, lp2, eg⟩ => ?_) fun Γ' ⟨rp, x4, ep2, lp2, eg⟩ => ?_
      · subst eg
        have hm2 : d2 ∈ r.map Step.enc := by rw [e2]; simp
        obtain ⟨s, hs, rfl⟩ := List.mem_map.mp hm2
        have hlen2 := congrArg List.length e2
        simp [ep2] at hlen2
        simp [lstAt]
        refine ⟨Nat.lt_of_le_of_lt lp2 (sizeLine_big (by omega)), encL s, by rw [encL_eq]; rfl, words_comp (g s hs) ⟨none, rfl, by simp⟩ ⟨wordsS s, by simp, ?_, ?_⟩⟩
        · have := words_sum (g s hs)
          rw [ln_B]; omega
        · exact ⟨rp ++ [s], by rw [ep2]; simp, by simp; omega, by simp [stepT]⟩
      · subst eg
        have ew : rp = r := map_inj' enc_inj ep2.symm
        subst ew
        simp [lstAt, oflat, flat]
        refine ⟨Nat.lt_of_le_of_lt lp (sizeLine_big (by omega)), rp.map stepT, by simp, ?_, ?_⟩
        · have := row_sum g hl
          rw [ln_S]; simpa using this
        · exact ⟨wp ++ [rp], by rw [ep]; simp, by simp; omega, by simp [rowT]⟩
    · subst eg
      have ew : wp = w := map_inj' (fun {a b} h => by
        unfold encRow at h; injection h with h; exact map_inj' enc_inj h) ep.symm
      subst ew
      simp [oflat, flat]
      refine ⟨wp.map rowT, by simp, ?_, q⟩
      have := web_sum sm gs
      rw [ln_R]; simpa using this
def S__law_changed : SD := fun rs Q _ => ∃ z c, rs = [.leaf (.str z), .leaf (.int c)] ∧ asciiT z ∧ z.length ≤ 800 ∧ ∀ z', asciiT z' → z'.length ≤ 900 → Q (.leaf (.str z'))
theorem ok__law_changed (T : Txt K mg) : FnOk P w K mg base (L2N.CX P w) 2 T.f__law_changed T.d__law_changed ["_law_text", "_law_cell"] (spP K S__law_changed) := by
  refine fnPN T.F__law_changed sc__law_changed (fun rs Qd Ed h => ?_) fun cdv A outer s H E hr tk po => ⟨_, (ds_cons (ds_setF (i := 2) sc__law_changed.nd rfl (Or.inl rfl) de_str)
 (ds_cons (ds_setF (i := 2) sc__law_changed.nd rfl (Or.inl rfl) (de_add (de_name 2) de_str))
 (ds_cons (ds_setF (i := 3) sc__law_changed.nd rfl (Or.inl rfl) (de_mod (de_fdiv (de_name 1) de_int) (de_add (de_len (by rfl) T.b_len (de_name 0)) de_int)))
 (ds_cons (ds_setF (i := 4) sc__law_changed.nd rfl (Or.inl rfl) (de_ix (de_name 2) (de_mod (de_fdiv (de_name 1) de_int) de_int)))
 (ds_cons (ds_if (dt_eq hr (de_mod (de_name 1) de_int) de_int)
 (ds_one (ds_ret (de_add (de_add (de_slice (de_name 0) dp_none (dp_some (de_name 3))) (de_name 4)) (de_slice (de_name 0) (dp_some (de_name 3)) dp_none))))
 ds_nil)
 (ds_cons (ds_if (dt_eq hr (de_mod (de_name 1) de_int) de_int)
 (ds_one (ds_ret (de_add (de_slice (de_name 0) dp_none (dp_some (de_name 3))) (de_slice (de_name 0) (dp_some (de_add (de_name 3) de_int)) dp_none))))
 ds_nil)
 (ds_one (ds_ret (de_add (de_add (de_slice (de_name 0) dp_none (dp_some (de_name 3))) (de_name 4)) (de_slice (de_name 0) (dp_some (de_add (de_name 3) de_int)) dp_none)))))))))), fun rs Qd Ed h => ?_⟩
  · obtain ⟨z, c, rfl, _⟩ := h; rfl
  · skip
    clear tk po
    obtain ⟨z, c, rfl, az, hz, q⟩ := h
    have sl : z.length ≤ sizeLine := Nat.le_of_lt (sizeLine_big (by omega))
    have c96 := cell_mod (c / 7) (n := 96) (by decide)
    have hj : (c / 7 % 96).toNat < 96 := by omega
    have hm := cell_mod (c / 3) (n := (z.length : Int) + 1) (by omega)
    obtain ⟨k, hk⟩ := Int.eq_ofNat_of_zero_le hm.1
    have hk2 : k ≤ z.length := by omega
    have l1 := signs12_len
    have l2 : signs12.length = 96 := by rw [len_tl', l1]
    simp
    have es : Str.ofString " !\"#$&'()*+,-./0123456789:;<=>?@ABCDEFGHIJKLMNOPQRSTUVWXYZ[\\]^_`" ++ Str.ofString "abcdefghijklmnopqrstuvwxyz{|}~\n\t" = signs12 := rfl
    refine ⟨Nat.le_of_lt (sizeLine_big (by decide +kernel)), sl, ?_⟩
    have hj2 : (c / 7 % 96).toNat < (tl signs12).length := by omega
    rw [es, if_pos (show signs12.length ≤ sizeLine from Nat.le_of_lt (sizeLine_big (by omega))), show signs12.cps.toList = tl signs12 from rfl, atI_at c96.1, List.getElem?_eq_getElem hj2]
    have ch1 := List.all_eq_true.mp signs12_ok _ (List.getElem_mem hj2)
    generalize (tl signs12)[(c / 7 % 96).toNat] = ch at ch1
    have ch2 : ch < 128 := of_decide_eq_true ch1
    have e1 : (k : Int) + 1 = ((k + 1 : Nat) : Int) := rfl
    rw [hk, e1]
    have tA := tl_cut_to (z := z) (k := k)
    have tB := tl_cut_from (z := z) (k := k)
    have tC := tl_cut_from (z := z) (k := k + 1)
    generalize cutS z none (some (k : Int)) = A at *
    generalize cutS z (some (k : Int)) none = B at *
    generalize cutS z (some ((k + 1 : Nat) : Int)) none = C at *
    have lz := len_tl' z
    have lA : A.length = k := by rw [len_tl', tA, List.length_take]; omega
    have lB : B.length = z.length - k := by rw [len_tl', tB, List.length_drop]; omega
    have lC : C.length = z.length - (k + 1) := by rw [len_tl', tC, List.length_drop]; omega
    have aA : asciiT A := fun x hx => az x (List.mem_of_mem_take (tA ▸ hx))
    have aB : asciiT B := fun x hx => az x (List.mem_of_mem_drop (tB ▸ hx))
    have aC : asciiT C := fun x hx => az x (List.mem_of_mem_drop (tC ▸ hx))
    have aS := ascii_sign ch2
    have lS : (⟨#[ch]⟩ : Str).length = 1 := rfl
    have big : ∀ n : Nat, n ≤ 10000 → n ≤ sizeLine := fun n h => Nat.le_of_lt (sizeLine_big (by omega))
    simp only [Option.map_some, oq_some]
    by_cases h0 : c % 3 = 0
    · rw [if_pos h0]
      simp
      refine ⟨sl, big _ (by omega), sl, big _ (by rw [app_len]; omega), q _ ((aA.app aS).app aB) (by rw [app_len, app_len]; omega)⟩
    · rw [if_neg h0]
      by_cases h1 : c % 3 = 1
      · rw [if_pos h1]
        exact ⟨sl, big _ (by omega), q _ (aA.app aC) (by rw [app_len]; omega)⟩
      · rw [if_neg h1]
        simp
        refine ⟨sl, big _ (by omega), sl, big _ (by rw [app_len]; omega), q _ ((aA.app aS).app aC) (by rw [app_len, app_len]; omega)⟩
def S_odd12 : SD := fun rs Q _ => ∃ c, rs = [.leaf (.int c)] ∧ ∀ z', asciiT z' → z'.length ≤ 900 → Q (.leaf (.str z'))
theorem ok__law_odd (T : Txt K mg) : FnOk P w K mg base (L2N.CX P w) 2 T.f__law_odd T.d__law_odd ["_law_cell"] (spP K S_odd12) := by
  refine fnPN T.F__law_odd sc__law_odd (fun rs Qd Ed h => ?_) fun cdv A outer s H E hr tk po => ⟨_, (ds_cons (ds_setF (i := 1) sc__law_odd.nd rfl (Or.inl rfl) (de_lst (do_cons de_str (do_cons de_str (do_cons de_str (do_cons de_str (do_cons de_str (do_cons de_str (do_cons de_str (do_cons de_str (do_cons de_str (do_cons de_str (do_cons de_str (do_cons de_str do_nil))))))))))))))
 (ds_cons (ds_setF (i := 1) sc__law_odd.nd rfl (Or.inl rfl) (de_add (de_name 1) (de_lst (do_cons de_str (do_cons de_str (do_cons de_str (do_cons de_str (do_cons de_str (do_cons de_str (do_cons de_str (do_cons de_str (do_cons de_str do_nil))))))))))))
 (ds_cons (ds_setF (i := 1) sc__law_odd.nd rfl (Or.inl rfl) (de_add (de_name 1) (de_lst (do_cons (de_add de_str (de_mulN de_str de_int)) (do_cons (de_add (de_mulN de_str de_int) de_str) (do_cons de_str do_nil))))))
 (ds_one (ds_ret (de_ix (de_name 1) (de_mod (de_name 0) de_int))))))), fun rs Qd Ed h => ?_⟩
  · obtain ⟨c, rfl, _⟩ := h; rfl
  · skip
    clear tk po
    obtain ⟨c, rfl, q⟩ := h
    have c24 := cell_mod c (n := 24) (by decide)
    have hj : (c % 24).toNat < 24 := by omega
    simp
    refine ⟨Nat.le_of_lt (sizeLine_big (by decide)), by decide, by decide, Nat.le_of_lt (sizeLine_big (by decide)), by decide, by decide, Nat.le_of_lt (sizeLine_big (by decide)), Nat.le_of_lt (sizeLine_big (by decide)), ?_⟩
    rw [atI_at c24.1]
    have e : odd12.map PyData.str = [PyData.str (Str.ofString ""), PyData.str (Str.ofString " "), PyData.str (Str.ofString "|"),
                            PyData.str (Str.ofString " | "), PyData.str (Str.ofString " |  |  | "),
                            PyData.str (Str.ofString "fence;"), PyData.str (Str.ofString "; fence"),
                            PyData.str (Str.ofString "fence "), PyData.str (Str.ofString " fence"),
                            PyData.str (Str.ofString "fence fence"), PyData.str (Str.ofString "get 4"),
                            PyData.str (Str.ofString "get -1"), PyData.str (Str.ofString "get"),
                            PyData.str (Str.ofString "get 00"), PyData.str (Str.ofString "put 0"),
                            PyData.str (Str.ofString "put 0 01"), PyData.str (Str.ofString "put 0 -0"),
                            PyData.str (Str.ofString "put 0 +1"), PyData.str (Str.ofString "put 4 1"),
                            PyData.str (Str.ofString "put 0 1;get 1"), PyData.str (Str.ofString "Get 0"),
                            PyData.str (Str.ofString "put 0 1" ++ timesS (Str.ofString "0") 30),
                            PyData.str (timesS (Str.ofString "get 0; ") 8 ++ Str.ofString "get 0"),
                            PyData.str (Str.ofString "put 0 1 |get 0")] := rfl
    rw [← e]
    have hl : (c % 24).toNat < odd12.length := hj
    rw [List.getElem?_map, List.getElem?_eq_getElem hl]
    simp
    have ok := odd12_ok _ (List.getElem_mem hl)
    exact q _ ok.1 ok.2
def S__law_number : SD := fun rs Q _ => ∃ z, rs = [.leaf (.str z)] ∧ asciiT z ∧ z.length ≤ 1000 ∧ Q (.leaf (optI (lnumP z)))
theorem ok__law_number (T : Txt K mg) : FnOk P w K mg base (L2N.CX P w) 2 T.f__law_number T.d__law_number ["_law_word"] (spP K S__law_number) := by
  refine fnPN T.F__law_number sc__law_number (fun rs Qd Ed h => ?_) fun cdv A outer s H E hr tk po => ⟨_, (ds_cons (ds_setF (i := 1) sc__law_number.nd rfl (Or.inl rfl) (de_ifExp (dt_eq hr (de_slice (de_name 0) dp_none (dp_some de_int)) de_str) (de_slice (de_name 0) (dp_some de_int) dp_none) (de_name 0)))
 (ds_cons (ds_if (dt_w (dw_or (dt_not (dt_chain op_le op_le de_int (de_len (by rfl) T.b_len (de_name 1)) de_int)) (dw_or1 (dt_ne hr (de_lcS (i := 2) rfl sc__law_number.nd (blkOk_by (own := [("_law_sign", 2)]) (N := N__law_number) (sc := defScope s__law_number) (by decide +kernel)) (fun _ _ _ _ _ => pg_name (i := 2) sc__law_number.nd rfl (Or.inl rfl)) (fun _ _ _ _ _ => dts_one (dt_notInS (de_name 2) de_str)) (fun _ _ _ _ _ => (de_name 2)) (de_name 1)) (de_lst do_nil)))))
 (ds_one (ds_ret de_non))
 ds_nil)
 (ds_cons (ds_if (dt_w (dw_and (dt_eq hr (de_ix (de_name 1) de_int) de_str) (dw_and1 (dt_ne hr (de_name 0) de_str))))
 (ds_one (ds_ret de_non))
 ds_nil)
 (ds_one (ds_ret (de_intT (by rfl) T.b_int bb_int (de_name 0))))))), fun rs Qd Ed h => ?_⟩
  · obtain ⟨d, rfl, _⟩ := h; rfl
  · skip
    clear tk po
    obtain ⟨z, rfl, az, hz, q⟩ := h
    have sl : z.length ≤ sizeLine := Nat.le_of_lt (sizeLine_big (by omega))
    have qnone : lnumP z = none → Qd (.leaf .none) := fun e => by rw [e] at q; exact q
    have bad : figOk (figs (tl z)) = false → Qd (.leaf .none) := fun e => qnone (by unfold lnumP; rw [numP_none e]; simp)
    have good : canonW z = true → figOk (figs (tl z)) = true → ∃ n, intText? z = some n ∧ z.length ≤ 640 ∧ Qd (.leaf (.int n)) := fun hc ok => by
      obtain ⟨n, hn⟩ := numP_some ok
      obtain ⟨hi, hl⟩ := numP_int hn
      have e : lnumP z = some n := by unfold lnumP; rw [if_pos hc, hn]
      rw [e] at q
      exact ⟨n, hi, by omega, q⟩
    have main : ∀ f : Str, tl f = figs (tl z) → f.length ≤ 1000 → (if 1 ≤ (f.length : Int) then
                if (f.length : Int) ≤ 30 then
                  compInv (List.map (fun c => PyData.str { cps := #[c] }) f.cps.toList) 2
                    (tTV (tB fNotInS (tName 2) (tK (PyData.str (Str.ofString "0123456789"))))) (tName 2)
                    [some (OT.leaf (PyData.str z)), some (OT.leaf (PyData.str f)), none] fun x =>
                    x.isScr = false ∧
                      eqOk x.er (PyData.list []) = true ∧
                        ((x.er.eqv (PyData.list []) = true ∧
                            oq
                              (if f.length ≤ sizeLine then
                                Option.map (fun c => PyData.str { cps := #[c] }) f.cps[0]?
                              else none)
                              fun d =>
                              eqOk d (PyData.str (Str.ofString "0")) = true ∧
                                if d.eqv (PyData.str (Str.ofString "0")) = true then
                                  (z = Str.ofString "0" ∧
                                      ∃ x, intText? z = some x ∧ z.length ≤ 640 ∧ Qd (OT.leaf (PyData.int x))) ∨
                                    ¬z = Str.ofString "0" ∧ Qd (OT.leaf PyData.none)
                                else ∃ x, intText? z = some x ∧ z.length ≤ 640 ∧ Qd (OT.leaf (PyData.int x))) ∨
                          x.er.eqv (PyData.list []) = false ∧ Qd (OT.leaf PyData.none))
                else Qd (OT.leaf PyData.none)
              else Qd (OT.leaf PyData.none)) := fun f ef hf => by
      have el : f.length = (figs (tl z)).length := by rw [len_tl', ef]
      have slf : f.length ≤ sizeLine := Nat.le_of_lt (sizeLine_big (by omega))
      by_cases h1 : 1 ≤ f.length
      · by_cases h2 : f.length ≤ 30
        · rw [if_pos (by omega), if_pos (by omega)]
          refine figs_comp hf ⟨rfl, ?_⟩
          have sub : ∀ c ∈ tl f, c < 128 := fun c hc => az c (by
            rw [ef] at hc
            unfold figs at hc
            split at hc
            · exact List.mem_of_mem_drop hc
            · exact hc)
          have ey : (OT.node (((tl f).filter fun c => !(decide (48 ≤ c) && decide (c ≤ 57))).map fun c => OT.leaf (.str ⟨#[c]⟩))).er = .list ((((tl f).filter fun c => !(decide (48 ≤ c) && decide (c ≤ 57))).map fun c => (⟨#[c]⟩ : Str)).map .str) := by
            rw [OT.er, ers_leaf', List.map_map]; rfl
          have oks : okd (.list ((((tl f).filter fun c => !(decide (48 ≤ c) && decide (c ≤ 57))).map fun c => (⟨#[c]⟩ : Str)).map .str)) = true := okd_strs fun s hs => by
            obtain ⟨c, hc, rfl⟩ := List.mem_map.mp hs
            exact sign_ok (sub c (List.mem_filter.mp hc).1)
          rw [ey]
          refine ⟨by rw [eqOk_list, oks, okd_nil]; rfl, ?_⟩
          by_cases ad : AllDigits (tl f)
          · have e0 : (tl f).filter (fun c => !(decide (48 ≤ c) && decide (c ≤ 57))) = [] := List.filter_eq_nil_iff.mpr fun c hc => by
              have := ad c hc
              simp [this.1, this.2]
            have ok : figOk (figs (tl z)) = true := figOk_iff.mpr ⟨by omega, by omega, by rw [← ef]; exact ad⟩
            rw [e0]
            have hne : tl f ≠ [] := fun e => by rw [len_tl', e] at h1; simp at h1
            obtain ⟨c, r, ec⟩ : ∃ c r, tl f = c :: r := by
              cases hh : tl f with
              | nil => exact absurd hh hne
              | cons c r => exact ⟨c, r, rfl⟩
            have e1 : f.cps[0]? = some c := by
              rw [← Array.getElem?_toList]
              show (tl f)[0]? = _
              rw [ec]; rfl
            have hd : (figs (tl z)).head? = some c := by rw [← ef, ec]; rfl
            rw [if_pos slf, e1]
            refine .inl ⟨by simp, ?_⟩
            simp
            by_cases c48 : c = 48
            · rw [if_pos (sign_zero.mpr c48)]
              by_cases z0 : z = Str.ofString "0"
              · refine .inl ⟨z0, good ?_ ok⟩
                unfold canonW; rw [decide_eq_true z0]; simp
              · refine .inr ⟨z0, qnone ?_⟩
                unfold lnumP canonW
                rw [hd, c48, decide_eq_false z0]; rfl
            · rw [if_neg (fun h => c48 (sign_zero.mp h))]
              refine good ?_ ok
              unfold canonW
              rw [hd]
              simp [c48]
          · have e0 : (tl f).filter (fun c => !(decide (48 ≤ c) && decide (c ≤ 57))) ≠ [] := fun e => ad fun c hc => by
              have := List.filter_eq_nil_iff.mp e c hc
              simp at this
              omega
            refine .inr ⟨?_, bad ?_⟩
            · rw [eqv_nil]
              cases hh : (tl f).filter (fun c => !(decide (48 ≤ c) && decide (c ≤ 57))) with
              | nil => exact absurd hh e0
              | cons a r => rfl
            · cases hh : figOk (figs (tl z)) with
              | false => rfl
              | true => exact absurd (by rw [ef]; exact (figOk_iff.mp hh).2.2) ad
        · rw [if_pos (by omega), if_neg (by omega)]
          refine bad ?_
          cases hh : figOk (figs (tl z)) with
          | false => rfl
          | true => exact absurd (figOk_iff.mp hh).2.1 (by omega)
      · rw [if_neg (by omega)]
        refine bad ?_
        cases hh : figOk (figs (tl z)) with
        | false => rfl
        | true => exact absurd (figOk_iff.mp hh).1 (by omega)
    simp
    refine ⟨sl, ?_⟩
    by_cases hn : (tl z).head? = some 45
    · have hc := cut_dash.mpr hn
      have lc := cutS_length z (some 1) none
      rw [if_pos hc]
      exact ⟨sl, Nat.le_trans lc sl, main _ (tl_figs_neg hn) (Nat.le_trans lc hz)⟩
    · have hc := fun h => hn (cut_dash.mp h)
      rw [if_neg hc]
      exact ⟨sl, main _ (tl_figs_nn hn) hz⟩
def S__law_step : SD := fun rs Q _ => ∃ z, rs = [.leaf (.str z)] ∧ asciiT z ∧ z.length ≤ 1000 ∧ Q (.leaf (optS (stepL z)))
theorem nums_comp {Γ : Ev} {r : List Str} {Q : OT → Prop} (asc : ∀ p ∈ r, asciiT p) (len : ∀ p ∈ r, p.length ≤ 1000) (hl : r.length ≤ sizeLine) (hf : free1 3 Γ) (q : Q (.node ((r.map lnumP).map fun o => .leaf (optI o)))) :
    compInv (r.map .str) 3 tYesD (tCallD S__law_number (tAc (tName 3) tA0)) Γ Q := by
  have hi : 3 < Γ.length := by
    obtain ⟨o, e, _⟩ := hf
    exact (List.getElem?_eq_some_iff.mp e).1
  refine compInv_map (fun d => match d with
    | .str p => .leaf (optI (lnumP p))
    | _ => .leaf .none) hf (by simpa using hl) (fun d hd => ?_) (fun d hd Q' q' => ?_) ?_
  · obtain ⟨p, hp, rfl⟩ := List.mem_map.mp hd
    rfl
  · obtain ⟨p, hp, rfl⟩ := List.mem_map.mp hd
    simp [S__law_number, hi]
    exact ⟨asc p hp, len p hp, q'⟩
  · rw [List.map_map] at q ⊢
    exact q
theorem ok__law_step (T : Txt K mg) : FnOk P w K mg base (L2N.CX P w) 4 T.f__law_step T.d__law_step ["_law_text"] (spP K S__law_step) := by
  refine fnPN T.F__law_step sc__law_step (fun rs Qd Ed h => ?_) fun cdv A outer s H E hr tk po => ⟨_, (ds_cons (ds_setF (i := 1) sc__law_step.nd rfl (Or.inl rfl) (de_m_split (de_name 0) de_str))
 (ds_cons (ds_if (dt_eq hr (de_name 1) (de_lst (do_cons de_str do_nil)))
 (ds_one (ds_ret (de_tup (da_cons de_str da_nil))))
 ds_nil)
 (ds_cons (ds_if (dt_w (dw_or (dt_notInTS hr (de_ix (de_name 1) de_int) (de_tup (da_cons de_str (da_cons de_str da_nil)))) (dw_or1 (dt_ne hr (de_len (by rfl) T.b_len (de_name 1)) (de_sub de_int (de_intB (by rfl) T.b_int bb_int (de_eq hr (de_ix (de_name 1) de_int) de_str)))))))
 (ds_one (ds_ret de_non))
 ds_nil)
 (ds_cons (ds_lcLF (y := 2) (i := 3) rfl sc__law_step.nd (blkOk_by (own := [("_law_word", 3)]) (N := N__law_step) (sc := defScope s__law_step) (by decide +kernel)) (fun _ _ _ _ _ => pg_name (i := 3) sc__law_step.nd rfl (Or.inl rfl)) (fun _ _ _ _ _ => dts_nil) (fun _ _ _ _ _ => (de_callN (ok__law_number T) (takesN takes0) (hr.mono (by decide)) (by rfl) T.g__law_number T.F__law_number.kp T.B__law_number (da_cons (de_name 3) da_nil))) rfl rfl (sw_true rfl rfl rfl (by decide +kernel)) (de_slice (de_name 1) (dp_some de_int) dp_none))
 (ds_cons (ds_if (dt_w (dw_or (dt_in hr de_non (de_name 2)) (dw_or1 (dt_not (dt_chain op_le op_le de_int (de_ix (de_name 2) de_int) de_int)))))
 (ds_one (ds_ret de_non))
 ds_nil)
 (ds_one (ds_ret (de_tuple (by rfl) T.b_tuple bb_tuple (de_add (de_lst (do_cons (de_ix (de_name 1) de_int) do_nil)) (de_name 2)))))))))), fun rs Qd Ed h => ?_⟩
  · obtain ⟨d, rfl, _⟩ := h; rfl
  · skip
    clear tk po
    obtain ⟨z, rfl, az, hz, q⟩ := h
    have part : ∀ p ∈ Txt.split z sepB, p.length ≤ 1000 := fun p hp => Nat.le_trans (split_part ne_B k_B hp).2 hz
    have asc : ∀ p ∈ Txt.split z sepB, asciiT p := fun p hp => az.part ne_B k_B hp
    have l0 := len_lt (n := z.length) (by omega)
    have sn := split_nil (x := z) ne_B k_B
    have sl := split_le2 z sepB
    unfold stepL at q
    generalize hws : Txt.split z sepB = ws at part asc sn sl q
    have hws' : Txt.split z (Str.ofString " ") = ws := hws
    have ok1 : okd (.list (ws.map .str)) = true := okd_strs fun s hs => (asc s hs).ok
    have ok2 : okd (.list [.str (Str.ofString "fence")]) = true := okd_strs (l := [wFen]) fun s hs => by
      have : s = wFen := by simpa using hs
      subst this; decide +kernel
    simp [ln_B, hws', l0, ok1, ok2]
    have eq1 : PyData.eqv (.list (ws.map .str)) (.list [.str (Str.ofString "fence")]) = decide (ws = [wFen]) := eqv_strs (l := ws) (m := [wFen])
    rw [eq1]
    by_cases hf : ws = [wFen]
    · rw [if_pos (decide_eq_true hf)]
      rw [if_pos hf] at q
      exact q
    rw [if_neg (by rw [decide_eq_false hf]; exact Bool.false_ne_true)]
    rw [if_neg hf] at q
    cases ws with
    | nil => exact absurd rfl sn
    | cons a r =>
      have cut : OT.ers (List.map OT.leaf (cutL (List.map PyData.str (a :: r)) (some 1) none)) = r.map .str := by
        rw [ers_leaf, show cutL (List.map PyData.str (a :: r)) (some 1) none = (List.map PyData.str (a :: r)).drop 1 from cut_hi (k := 1) (by simp)]
        rfl
      have pr : ∀ p ∈ r, p.length ≤ 1000 := fun p hp => part p (List.mem_cons_of_mem _ hp)
      have ar : ∀ p ∈ r, asciiT p := fun p hp => asc p (List.mem_cons_of_mem _ hp)
      have lr : r.length ≤ sizeLine := by simp at sl; omega
      simp only [List.getElem?_cons_zero, Option.map_some, oq_some]
      refine ⟨a, rfl, [wPut, wGet], rfl, ?_⟩
      rw [cut]
      by_cases hp : a = wPut
      · subst hp
        refine .inl ⟨by simp, rfl, ?_⟩
        simp
        by_cases hl : r.length = 2
        · obtain ⟨b, c, rfl⟩ : ∃ b c, r = [b, c] := by
            match r, hl with
            | [b, c], _ => exact ⟨b, c, rfl⟩
          refine .inl ⟨by simp, nums_comp ar pr lr ⟨none, rfl, by simp⟩ ?_⟩
          rw [if_pos ⟨rfl, rfl⟩] at q
          have q : Qd (.leaf (optS ((lnumP b).bind fun a => (lnumP c).bind fun b => if boxO a = true then some (Step.put a.toNat b) else none))) := q
          have ok := okd_optI [lnumP b, lnumP c]
          have nn := none_nums [lnumP b, lnumP c]
          simp only [List.map_cons, List.map_nil] at ok nn
          simp [okd_none, ok, nn]
          cases hb : lnumP b with
          | none => rw [hb] at q; simp [hb]; exact q
          | some x =>
            cases hc : lnumP c with
            | none => rw [hb, hc] at q; simp [hb, hc]; exact q
            | some y =>
              rw [hb, hc] at q
              simp [hb, hc, optI]
              have q : Qd (.leaf (optS (if boxO x = true then some (Step.put x.toNat y) else none))) := q
              by_cases h0 : 0 ≤ x
              · by_cases h3 : x ≤ 3
                · rw [if_pos (show boxO x = true from decide_eq_true ⟨h0, h3⟩)] at q
                  have e : (Step.put x.toNat y).enc = .tuple [.str wPut, .int x, .int y] := by simp [Step.enc, Int.toNat_of_nonneg h0]
                  have q : Qd (.leaf (Step.put x.toNat y).enc) := q
                  rw [e] at q
                  simp [h0, h3]; exact q
                · rw [if_neg (show ¬ boxO x = true from fun z => h3 (of_decide_eq_true z).2)] at q
                  simp [h0, h3]; exact q
              · rw [if_neg (show ¬ boxO x = true from fun z => h0 (of_decide_eq_true z).1)] at q
                simp [h0]; exact q
        · refine .inr ⟨by omega, ?_⟩
          rw [if_neg (fun z => hl (by simpa using z.2)), if_neg (fun z => absurd (show wPut = wGet from z.1) (by decide +kernel))] at q
          exact q
      · by_cases hg : a = wGet
        · subst hg
          refine .inl ⟨by simp, rfl, ?_⟩
          simp
          by_cases hl : r.length = 1
          · obtain ⟨b, rfl⟩ : ∃ b, r = [b] := by
              match r, hl with
              | [b], _ => exact ⟨b, rfl⟩
            refine .inl ⟨by simp, nums_comp ar pr lr ⟨none, rfl, by simp⟩ ?_⟩
            rw [if_neg (fun z => absurd (show wGet = wPut from z.1) (by decide +kernel)), if_pos ⟨rfl, rfl⟩] at q
            have q : Qd (.leaf (optS ((lnumP b).bind fun a => if boxO a = true then some (Step.get a.toNat) else none))) := q
            have ok := okd_optI [lnumP b]
            have nn := none_nums [lnumP b]
            simp only [List.map_cons, List.map_nil] at ok nn
            simp [okd_none, ok, nn]
            cases hb : lnumP b with
            | none => rw [hb] at q; simp [hb]; exact q
            | some x =>
              rw [hb] at q
              simp [hb, optI]
              have q : Qd (.leaf (optS (if boxO x = true then some (Step.get x.toNat) else none))) := q
              by_cases h0 : 0 ≤ x
              · by_cases h3 : x ≤ 3
                · rw [if_pos (show boxO x = true from decide_eq_true ⟨h0, h3⟩)] at q
                  have e : (Step.get x.toNat).enc = .tuple [.str wGet, .int x] := by simp [Step.enc, Int.toNat_of_nonneg h0]
                  have q : Qd (.leaf (Step.get x.toNat).enc) := q
                  rw [e] at q
                  simp [h0, h3]; exact q
                · rw [if_neg (show ¬ boxO x = true from fun z => h3 (of_decide_eq_true z).2)] at q
                  simp [h0, h3]; exact q
              · rw [if_neg (show ¬ boxO x = true from fun z => h0 (of_decide_eq_true z).1)] at q
                simp [h0]; exact q
          · refine .inr ⟨by omega, ?_⟩
            rw [if_neg (fun z => absurd (show wGet = wPut from z.1) (by decide +kernel)), if_neg (fun z => hl (by simpa using z.2))] at q
            exact q
        · refine .inr ⟨by simp [hp, hg], ?_⟩
          rw [if_neg (fun z => hp z.1), if_neg (fun z => hg z.1)] at q
          exact q
def S__law_due : SD := fun rs Q _ => ∃ z, rs = [.leaf (.str z)] ∧ asciiT z ∧ z.length ≤ 900 ∧ (∀ w, Txts z w → Q (.leaf (encWeb w))) ∧ ((∀ w, ¬ Txts z w) → Q (.leaf .none))
theorem steps_comp {Γ : Ev} {r : List Str} {Q : OT → Prop} (asc : ∀ p ∈ r, asciiT p) (len : ∀ p ∈ r, p.length ≤ 1000) (hl : r.length ≤ sizeLine) (hf : free1 3 Γ) (q : Q (.node (r.map fun s => .leaf (optS (stepL s))))) :
    compInv (r.map .str) 3 tYesD (tCallD S__law_step (tAc (tName 3) tA0)) Γ Q := by
  have hi : 3 < Γ.length := by
    obtain ⟨o, e, _⟩ := hf
    exact (List.getElem?_eq_some_iff.mp e).1
  refine compInv_map (fun d => match d with
    | .str p => .leaf (optS (stepL p))
    | _ => .leaf .none) hf (by simpa using hl) (fun d hd => ?_) (fun d hd Q' q' => ?_) ?_
  · obtain ⟨p, hp, rfl⟩ := List.mem_map.mp hd
    rfl
  · obtain ⟨p, hp, rfl⟩ := List.mem_map.mp hd
    simp [S__law_step, hi]
    exact ⟨asc p hp, len p hp, q'⟩
  · rw [List.map_map]
    exact q
theorem ok__law_due (T : Txt K mg) : FnOk P w K mg base (L2N.CX P w) 6 T.f__law_due T.d__law_due ["_law_text"] (spP K S__law_due) := by
  refine fnPN T.F__law_due sc__law_due (fun rs Qd Ed h => ?_) fun cdv A outer s H E hr tk po => ⟨_, (ds_cons (ds_set (i := 1) sc__law_due.nd rfl (Or.inl rfl) (de_lst do_nil))
 (ds_cons (ds_forL po rfl (de_m_split (de_name 0) de_str) (pg_name (i := 2) sc__law_due.nd rfl (Or.inl rfl)) (gd_name (i := 2) (by decide))
 (ds_one (ds_app (dr_name 1) (de_ifExp (dt_ne hr (de_name 2) de_str) (de_lcL (i := 3) rfl sc__law_due.nd (blkOk_by (own := [("_law_one", 3)]) (N := N__law_due) (sc := defScope s__law_due) (by decide +kernel)) (fun _ _ _ _ _ => pg_name (i := 3) sc__law_due.nd rfl (Or.inl rfl)) (fun _ _ _ _ _ => dts_nil) (fun _ _ _ _ _ => (de_callN (ok__law_step T) (takesN takes0) (hr.mono (by decide)) (by rfl) T.g__law_step T.F__law_step.kp T.B__law_step (da_cons (de_name 3) da_nil))) (de_m_split (de_name 2) de_str)) (de_lst do_nil)))))
 (ds_cons (ds_freeze 1 (ds_if (dt_w (dw_or (dt_gt (de_len (by rfl) T.b_len (de_name 1)) de_int) (dw_or1 (dt_ne hr (de_lcL (i := 4) rfl sc__law_due.nd (blkOk_by (own := [("_law_row", 4)]) (N := N__law_due) (sc := defScope s__law_due) (by decide +kernel)) (fun _ _ _ _ _ => pg_name (i := 4) sc__law_due.nd rfl (Or.inl rfl)) (fun _ _ _ _ _ => dts_one (dt_in hr de_non (de_name 4))) (fun _ _ _ _ _ => (de_name 4)) (de_name 1)) (de_lst do_nil)))))
 (ds_one (ds_ret de_non))
 ds_nil))
 (ds_cons (ds_setF (i := 5) sc__law_due.nd rfl (Or.inl rfl) de_int)
 (ds_cons (ds_forL po rfl (de_name 1) (pg_name (i := 4) sc__law_due.nd rfl (Or.inl rfl)) (gd_name (i := 4) (by decide))
 (ds_one (ds_setF (i := 5) sc__law_due.nd rfl (Or.inl rfl) (de_add (de_name 5) (de_len (by rfl) T.b_len (de_lcL (i := 6) rfl sc__law_due.nd (blkOk_by (own := [("_law_step_here", 6)]) (N := N__law_due) (sc := defScope s__law_due) (by decide +kernel)) (fun _ _ _ _ _ => pg_name (i := 6) sc__law_due.nd rfl (Or.inl rfl)) (fun _ _ _ _ _ => dts_one (dt_ne hr (de_name 6) (de_tup (da_cons de_str da_nil)))) (fun _ _ _ _ _ => (de_name 6)) (de_name 4)))))))
 (ds_one (ds_ret (de_ifExp (dt_lt (de_name 5) de_int) (de_name 1) de_non)))))))), fun rs Qd Ed h => ?_⟩
  · obtain ⟨d, rfl, _⟩ := h; rfl
  · skip
    clear tk po
    obtain ⟨z, rfl, az, hz, q, qn⟩ := h
    have part : ∀ p ∈ Txt.split z sepR, p.length ≤ 900 := fun p hp => Nat.le_trans (split_part ne_R k_R hp).2 hz
    have asc : ∀ p ∈ Txt.split z sepR, asciiT p := fun p hp => az.part ne_R k_R hp
    have l0 := len_lt (n := z.length) (by omega)
    have sl := split_le2 z sepR
    have hw : webL z = (Txt.split z sepR).mapM rowL := rfl
    generalize hps : Txt.split z sepR = ps at part asc sl hw
    have hps' : Txt.split z (Str.ofString " | ") = ps := hps
    simp [ln_R, hps', l0]
    refine forInv_of (fun pre Γ => ∃ (pp : List Str) (x2 : Option OT), pre = pp.map .str ∧ pp.length ≤ ps.length ∧ Γ = [some (.leaf (.str z)), some (.node (pp.map fun p => .node ((partsS p).map fun s => .leaf (optS (stepL s))))), x2, none, none, none, none]) ⟨[], none, rfl, Nat.zero_le _, rfl⟩ (fun pre d post Γ' e ⟨pp, x2, ep, lp, eg⟩ => ?_) fun Γ' ⟨pp, x2, ep, lp, eg⟩ => ?_
    · subst eg
      have hm : d ∈ ps.map .str := by rw [e]; simp
      obtain ⟨p, hp, rfl⟩ := List.mem_map.mp hm
      have hlen := congrArg List.length e
      simp [ep] at hlen
      have lps := part p hp
      have ap := asc p hp
      simp [lstAt]
      refine ⟨Nat.lt_of_le_of_lt lp (sizeLine_big (by omega)), ?_⟩
      by_cases e0 : p = Str.ofString ""
      · exact .inl ⟨e0, pp ++ [p], by simp [ep], by simp; omega, by simp [partsS, e0]⟩
      · have l0p := len_lt (n := p.length) (by omega)
        have e1 : partsS p = Txt.split p (Str.ofString "; ") := by unfold partsS; rw [if_neg e0]
        refine .inr ⟨e0, by rw [ln_S]; decide, l0p, steps_comp (fun s hs => ap.part ne_S k_S hs) (fun s hs => ?_) ?_ ⟨none, rfl, by simp⟩ ⟨rfl, pp ++ [p], by simp [ep], by simp; omega, by simp [e1]⟩⟩
        · have := (split_part ne_S k_S hs).2
          omega
        · exact Nat.le_trans (split_le2 p sepS) l0p
    · subst eg
      have ew : pp = ps := map_inj' (fun {a b} h => by injection h) ep.symm
      subst ew
      simp [frz]
      rw [ers_rowsL]
      have rl : ∀ d ∈ pp.map rowLD, ∃ p, d = rowLD p := fun d hd => by
        obtain ⟨p, _, rfl⟩ := List.mem_map.mp hd
        exact ⟨p, rfl⟩
      by_cases h3 : pp.length ≤ 3
      · refine .inl ⟨by simp; omega, ?_⟩
        refine compInv_filter (fun d => anyEqv (stepsD d) .none) .leaf ⟨none, rfl, by simp⟩ ?_ (fun _ _ => rfl) (fun d hd Q' q' => ?_) (fun d hd hp Q' q' => by simpa using q') ?_
        · rw [List.length_map]
          exact Nat.le_of_lt (sizeLine_big (by omega))
        · obtain ⟨p, hp, rfl⟩ := List.mem_map.mp hd
          simp [okd_none, okd_rowLD]
          exact ⟨_, rfl, q'⟩
        · have okf : okd (.list ((pp.map rowLD).filter fun d => anyEqv (stepsD d) .none)) = true := okd_rowsLD fun d hd => rl d (List.mem_filter.mp hd).1
          have er : (OT.node (((pp.map rowLD).filter fun d => anyEqv (stepsD d) .none).map .leaf)).er = .list ((pp.map rowLD).filter fun d => anyEqv (stepsD d) .none) := by
            rw [OT.er, ers_leaf]
          rw [er]
          refine ⟨rfl, by rw [eqOk_list, okf, okd_nil]; rfl, ?_⟩
          rw [eqv_nil]
          cases hwl : webL z with
          | none =>
            refine .inr ⟨?_, qn fun w t => by rw [t.webL] at hwl; cases hwl⟩
            rw [hw] at hwl
            obtain ⟨p, hp, ep⟩ := mapM_none.mp hwl
            have hmem : rowLD p ∈ (pp.map rowLD).filter fun d => anyEqv (stepsD d) .none := List.mem_filter.mpr ⟨List.mem_map_of_mem hp, by
              show anyEqv ((partsS p).map fun s => optS (stepL s)) .none = true
              rw [none_in_row, ep]; rfl⟩
            cases hh : (pp.map rowLD).filter fun d => anyEqv (stepsD d) .none with
            | nil => rw [hh] at hmem; cases hmem
            | cons a l => rfl
          | some w =>
            rw [hw] at hwl
            have e0 : ((pp.map rowLD).filter fun d => anyEqv (stepsD d) .none) = [] := List.filter_eq_nil_iff.mpr fun d hd => by
              obtain ⟨p, hp, rfl⟩ := List.mem_map.mp hd
              show ¬ anyEqv ((partsS p).map fun s => optS (stepL s)) .none = true
              rw [none_in_row]
              intro z
              have : rowL p = none := by simpa using z
              rw [mapM_none.mpr ⟨p, hp, this⟩] at hwl
              cases hwl
            refine .inl ⟨by rw [e0]; rfl, ?_⟩
            have er2 := rows_some hwl
            have lw := mapM_len hwl
            rw [er2]
            have hwz := hw.trans hwl
            obtain ⟨gs, wne, ez⟩ := webL_iff.mp hwz
            have rlen : ∀ r ∈ w, r.length ≤ 1000 := fun r hr => by
              obtain ⟨p, hp, ep⟩ := mapM_mem hwl r hr
              rw [rowL_parts] at ep
              have l1 := mapM_len ep
              have l2 := partsS_len p
              have l3 := part p hp
              omega
            refine forInv_of (fun pre Γ => ∃ (wp : Web) (x4 : Option OT), pre = wp.map encRow ∧ wp.length ≤ w.length ∧ Γ = [some (.leaf (.str z)), some (.leaf (.list (w.map encRow))), x2, none, x4, some (.leaf (.int (deedsW wp : Nat))), none]) ⟨[], none, rfl, Nat.zero_le _, rfl⟩ (fun pre d post Γ' e ⟨wp, x4, ep, lp, eg⟩ => ?_) fun Γ' ⟨wp, x4, ep, lp, eg⟩ => ?_
            · subst eg
              have hm : d ∈ w.map encRow := by rw [e]; simp
              obtain ⟨r, hr, rfl⟩ := List.mem_map.mp hm
              have hlen := congrArg List.length e
              simp [ep] at hlen
              simp
              refine ⟨r.map Step.enc, rfl, compInv_filter (fun d => !PyData.eqv d (.tuple [.str (Str.ofString "fence")])) .leaf ⟨none, rfl, by simp⟩ ?_ (fun _ _ => rfl) (fun d hd Q' q' => ?_) (fun d hd hp Q' q' => by simpa using q') ?_⟩
              · rw [List.length_map]
                exact Nat.le_of_lt (sizeLine_big (by have := rlen r hr; omega))
              · obtain ⟨s, hs, rfl⟩ := List.mem_map.mp hd
                have oe : eqOk s.enc (.tuple [.str (Str.ofString "fence")]) = true := by
                  rw [encL_eq, eqOk_tup, ← encL_eq, okd_step, okd_fence]; rfl
                simp [oe]
                rw [eqv_fence] at q' ⊢
                cases hds : deedS s <;> simp [hds] at q' ⊢ <;> exact q'
              · have ef : ((r.map Step.enc).filter fun d => !PyData.eqv d (.tuple [.str (Str.ofString "fence")])) = (r.filter deedS).map Step.enc := by
                  rw [List.filter_map]
                  congr 1
                  exact List.filter_congr fun s _ => by simp [eqv_fence]
                rw [ef]
                simp
                exact ⟨wp ++ [r], by rw [ep]; simp, by simp; omega, by rw [deedsW_snoc]; simp⟩
            · subst eg
              have ew : wp = w := map_inj' (fun {a b} h => by
                unfold encRow at h; injection h with h; exact map_inj' enc_inj h) ep.symm
              subst ew
              simp
              by_cases h9 : deedsW wp < 9
              · refine .inr ⟨by omega, q wp ⟨⟨?_, by omega, gs⟩, by omega, ez⟩⟩
                exact List.length_pos_iff.mpr wne
              · refine .inl ⟨by omega, qn fun w' t => ?_⟩
                have := t.webL
                rw [hwz] at this
                injection this with this
                subst this
                have := t.2.1
                omega
      · refine .inr ⟨by simp; omega, qn fun w t => ?_⟩
        have e := t.webL
        rw [hw] at e
        have l := mapM_len e
        have := t.1.2.1
        omega
def S__law_read : SD := fun rs Q _ => ∃ d, rs = [.leaf d] ∧ (∀ z, d = .str z → z.length ≤ 900) ∧ (∀ z w, d = .str z → Txts z w → Q (.leaf (encWeb w))) ∧ ((∀ z w, d = .str z → ¬ Txts z w) → Q (.leaf .none))
theorem ok__law_read (T : Txt K mg) : FnOk P w K mg base (L2.CX P w) 14 T.f__law_read T.d__law_read ["_law_text"] (spP K S__law_read) := by
  refine fnP T.F__law_read sc__law_read (fun rs Qd Ed h => ?_) fun cdv A outer s H E hr tk po => ⟨_, (ds_one (ds_tryAs (i := 1) rfl rfl sc__law_read.nd rfl rfl ⟨by rfl, by decide, .inl T.g_WebError⟩ tk (fun W pn xe tk po => (ds_one (ds_ret (de_call (ok_read T) tk (hr.mono (by decide)) (by rfl) T.g_read T.F_read.kp T.B_read (da_cons (de_name 0) da_nil)))))
 (fun a oe Dc pn ec hz hf => (ds_cons (ds_setF (i := 2) sc__law_read.nd rfl (Or.inl rfl) (de_or (de_isE 1 ec hz hf (by rfl) T.b_isinstance (by rfl) T.g_BadWeb) (de_one (de_isE 1 ec hz hf (by rfl) T.b_isinstance (by rfl) T.g_NoMove))))
 (ds_cons (ds_setF (i := 2) sc__law_read.nd rfl (Or.inl rfl) (de_or (de_name 2) (de_or (de_isE 1 ec hz hf (by rfl) T.b_isinstance (by rfl) T.g_NotOver) (de_one (de_isE 1 ec hz hf (by rfl) T.b_isinstance (by rfl) T.g_NoPlace)))))
 (ds_one (ds_ret (de_ifExp (dt_w (dw_and (dt_val (de_isE 1 ec hz hf (by rfl) T.b_isinstance (by rfl) T.g_NoText)) (dw_and (dt_val (de_isEB (T := "ValueError") 1 ec hz hf (by rfl) T.b_isinstance (by rfl) T.b_ValueError bb_ValueError (by decide))) (dw_and1 (dt_not (dt_val (de_name 2))))))) de_non de_str)))))))), fun rs Qd Ed h => ?_⟩
  · obtain ⟨d, rfl, _⟩ := h; rfl
  · skip
    obtain ⟨d, rfl, hd, q, qn⟩ := h
    simp
    refine ⟨d, rfl, hd, fun z w e t => by simpa using q z w e t, fun h => ?_⟩
    have f := qn h
    simp [caught, T.m_NoText_WebError]
    exact ⟨T.E_NoText, .inl ⟨T.i_NoText_BadWeb, .inl ⟨T.i_NoText_NoMove, .inl ⟨T.i_NoText_NotOver, .inl ⟨T.i_NoText_NoPlace, .inr ⟨T.i_NoText_NoText, .inr ⟨T.i_NoText_ValueError, f⟩⟩⟩⟩⟩⟩⟩
def S__law_same : SD := fun rs Q _ => ∃ w, rs = [.leaf (encWeb w), .leaf (encWeb w)] ∧ Q (.leaf (.bool true))
theorem ok__law_same (T : Txt K mg) : FnOk P w K mg base (L2N.CX P w) 2 T.f__law_same T.d__law_same ["_law_found", "_law_web"] (spP K S__law_same) := by
  refine fnPN T.F__law_same sc__law_same (fun rs Qd Ed h => ?_) fun cdv A outer s H E hr tk po => ⟨_, (ds_cons (ds_if (dt_w (dw_or (dt_not (dt_val (de_isi .list (by rfl) T.b_isinstance bb_isinstance (by rfl) T.b_list bb_list (by decide) (by decide) (de_name 0)))) (dw_or1 (dt_ne hr (de_name 0) (de_name 1)))))
 (ds_one (ds_ret de_bl))
 ds_nil)
 (ds_cons (ds_forL po rfl (de_name 0) (pg_name (i := 2) sc__law_same.nd rfl (Or.inl rfl)) (gd_name (i := 2) (by decide))
 (ds_cons (ds_if (dt_not (dt_val (de_isi .list (by rfl) T.b_isinstance bb_isinstance (by rfl) T.b_list bb_list (by decide) (by decide) (de_name 2))))
 (ds_one (ds_ret de_bl))
 ds_nil)
 (ds_one (ds_forL po rfl (de_name 2) (pg_name (i := 3) sc__law_same.nd rfl (Or.inl rfl)) (gd_name (i := 3) (by decide))
 (ds_one (ds_if (dt_w (dw_or (dt_not (dt_val (de_isi .tuple (by rfl) T.b_isinstance bb_isinstance (by rfl) T.b_tuple bb_tuple (by decide) (by decide) (de_name 3)))) (dw_or1 (dt_ne hr (de_lcT (i := 4) rfl sc__law_same.nd (blkOk_by (own := [("_law_word", 4)]) (N := N__law_same) (sc := defScope s__law_same) (by decide +kernel)) (fun _ _ _ _ _ => pg_name (i := 4) sc__law_same.nd rfl (Or.inl rfl)) (fun _ _ _ _ _ => dts_one (dt_val (de_isi .bool (by rfl) T.b_isinstance bb_isinstance (by rfl) T.b_bool bb_bool (by decide) (by decide) (de_name 4)))) (fun _ _ _ _ _ => (de_name 4)) (de_slice (de_name 3) (dp_some de_int) dp_none)) (de_lst do_nil)))))
 (ds_one (ds_ret de_bl))
 ds_nil))))))
 (ds_one (ds_ret de_bl)))), fun rs Qd Ed h => ?_⟩
  · obtain ⟨w, rfl, _⟩ := h; rfl
  · skip
    clear tk po
    obtain ⟨w, rfl, q⟩ := h
    simp
    refine forInv_of (fun pre Γ => ∃ x2 x3, Γ = [some (.leaf (encWeb w)), some (.leaf (encWeb w)), x2, x3, none]) ⟨none, none, rfl⟩ (fun pre d post Γ' e ⟨x2, x3, eg⟩ => ?_) fun Γ' ⟨x2, x3, eg⟩ => ?_
    · subst eg
      have hm : d ∈ w.map encRow := by rw [e]; simp
      obtain ⟨r, hr, rfl⟩ := List.mem_map.mp hm
      simp
      refine ⟨r.map Step.enc, rfl, ?_⟩
      refine forInv_of (fun pre Γ => ∃ x2 x3, Γ = [some (.leaf (encWeb w)), some (.leaf (encWeb w)), x2, x3, none]) ⟨_, x3, rfl⟩ (fun pre2 d2 post2 Γ' e2 ⟨x2, x3, eg⟩ => ?_) fun Γ' ⟨x2, x3, eg⟩ => ⟨x2, x3, eg⟩
      subst eg
      have hm2 : d2 ∈ r.map Step.enc := by rw [e2]; simp
      obtain ⟨s, hs, rfl⟩ := List.mem_map.mp hm2
      have cut : cutL (encL s) (some 1) none = (encL s).drop 1 := cut_hi (k := 1) (by cases s <;> simp [encL])
      simp only [encL_eq]
      simp
      rw [cut]
      refine compInv_filter isBoolD .leaf ⟨none, rfl, by simp⟩ ?_ (fun _ _ => rfl) (fun d hd Q' q' => by simpa using q') (fun d hd hp Q' q' => by simpa using q') ?_
      · refine Nat.le_of_lt (sizeLine_big ?_)
        cases s <;> simp [encL]
      · have e : ((encL s).drop 1).filter isBoolD = [] := by cases s <;> simp [encL]
        rw [e]
        simp
    · subst eg
      simpa using q
def S_law : SD := fun rs Q _ => ∃ ns, rs = [.scr ns] ∧ (∀ z ∈ ns, Builtin.Int.intBits z ≤ 1048576) ∧ Q (.leaf (.bool true))
theorem stepBy3_good (c : Int) : goodS (stepBy3 c) := by
  have h1 := cell_mod (c / 7) (n := 4) (by decide)
  unfold stepBy3
  split
  · exact ⟨by omega, numBy_small (by decide) (by decide) (by decide) (by decide)⟩
  · split
    · show (c / 7 % 4).toNat < 4
      omega
    · trivial
theorem webBy3_facts (ns : List Int) : goodW (webBy3 ns) ∧ sizeW (webBy3 ns) ≤ 8 := by
  have a3 := cell_mod (cellAt ns 0) (n := 3) (by decide)
  have a9 := cell_mod (cellAt ns 0 / 3) (n := 9) (by decide)
  have l0 : (List.replicate (1 + cellAt ns 0 % 3).toNat ([] : List Step)).length = (1 + cellAt ns 0 % 3).toNat := List.length_replicate
  have g0 : goodW (List.replicate (1 + cellAt ns 0 % 3).toNat ([] : List Step)) := by
    refine ⟨by omega, by omega, fun r hr s hs => ?_⟩
    rw [(List.mem_replicate.mp hr).2] at hs
    simp at hs
  refine ⟨growW_good g0 (fun k => stepBy3_good _) _, ?_⟩
  unfold webBy3
  rw [growW_size (fun k => ?_), size_empty]
  · omega
  · have h := cell_mod (cellAt ns (2 + k) / 11) (n := ((List.replicate (1 + cellAt ns 0 % 3).toNat ([] : List Step)).length : Nat)) (by omega)
    omega
theorem ok_law (T : Txt K mg) : FnOk P w K mg base (L2.CX P w) 16 T.f_law T.d_law ["_law_script"] (spP K S_law) := by
  refine fnP T.F_law sc_law (fun rs Qd Ed h => ?_) fun cdv A outer s H E hr tk po => ⟨_, (ds_cons (ds_setF (i := 1) sc_law.nd rfl (Or.inl rfl) (de_callN (ok__law_web_by T) (takesN tk) (hr.mono (by decide)) (by rfl) T.g__law_web_by T.F__law_web_by.kp T.B__law_web_by (da_cons (de_name 0) da_nil)))
 (ds_cons (ds_setF (i := 2) sc_law.nd rfl (Or.inl rfl) (de_callN (ok__law_text_by T) (takesN tk) (hr.mono (by decide)) (by rfl) T.g__law_text_by T.F__law_text_by.kp T.B__law_text_by (da_cons (de_name 1) da_nil)))
 (ds_cons (ds_lcLF (y := 3) (i := 4) rfl sc_law.nd (blkOk_by (own := [("_law_row", 4)]) (N := N_law) (sc := defScope s_law) (by decide +kernel)) (fun _ _ _ _ _ => pg_name (i := 4) sc_law.nd rfl (Or.inl rfl)) (fun _ _ _ _ _ => dts_nil) (fun _ _ _ _ _ => (de_list (by rfl) T.b_list bb_list (de_name 4))) rfl rfl (sw_true rfl rfl rfl (by decide +kernel)) (de_name 1))
 (ds_cons (ds_setF (i := 5) sc_law.nd rfl (Or.inl rfl) (de_callN (ok_shown T) (takesN tk) (hr.mono (by decide)) (by rfl) T.g_shown T.F_shown.kp T.B_shown (da_cons (de_name 3) da_nil)))
 (ds_cons (ds_if (dt_w (dw_or (dt_not (dt_val (de_isi .str (by rfl) T.b_isinstance bb_isinstance (by rfl) T.b_str bb_str (by decide) (by decide) (de_name 5)))) (dw_or (dt_ne hr (de_name 5) (de_name 2)) (dw_or (dt_ne hr (de_name 3) (de_name 1)) (dw_or1 (dt_not (dt_val (de_callN (ok__law_same T) (takesN tk) (hr.mono (by decide)) (by rfl) T.g__law_same T.F__law_same.kp T.B__law_same (da_cons (de_call (ok__law_read T) tk (hr.mono (by decide)) (by rfl) T.g__law_read T.F__law_read.kp T.B__law_read (da_cons (de_name 2) da_nil)) (da_cons (de_name 1) da_nil))))))))))
 (ds_one (ds_ret de_bl))
 ds_nil)
 (ds_cons (ds_setF (i := 6) sc_law.nd rfl (Or.inl rfl) (de_callN (ok__law_cell_at T) (takesN tk) (hr.mono (by decide)) (by rfl) T.g__law_cell_at T.F__law_cell_at.kp T.B__law_cell_at (da_cons (de_name 0) (da_cons de_int da_nil))))
 (ds_cons (ds_if (dt_eq hr (de_mod (de_name 6) de_int) de_int)
 (ds_one (ds_ret (de_isN (de_call (ok__law_read T) tk (hr.mono (by decide)) (by rfl) T.g__law_read T.F__law_read.kp T.B__law_read (da_cons (de_ix (de_lst (do_cons de_non (do_cons de_int (do_cons (de_lst (do_cons de_str do_nil)) (do_cons de_bl do_nil))))) (de_mod (de_fdiv (de_name 6) de_int) de_int)) da_nil)) de_non)))
 ds_nil)
 (ds_cons (ds_if (dt_eq hr (de_mod (de_name 6) de_int) de_int)
 (ds_one (ds_setF (i := 2) sc_law.nd rfl (Or.inl rfl) (de_callN (ok__law_odd T) (takesN tk) (hr.mono (by decide)) (by rfl) T.g__law_odd T.F__law_odd.kp T.B__law_odd (da_cons (de_fdiv (de_name 6) de_int) da_nil))))
 ds_nil)
 (ds_cons (ds_if (dt_eq hr (de_mod (de_name 6) de_int) de_int)
 (ds_one (ds_setF (i := 2) sc_law.nd rfl (Or.inl rfl) (de_callN (ok__law_changed T) (takesN tk) (hr.mono (by decide)) (by rfl) T.g__law_changed T.F__law_changed.kp T.B__law_changed (da_cons (de_name 2) (da_cons (de_fdiv (de_name 6) de_int) da_nil)))))
 ds_nil)
 (ds_cons (ds_setF (i := 7) sc_law.nd rfl (Or.inl rfl) (de_callN (ok__law_due T) (takesN tk) (hr.mono (by decide)) (by rfl) T.g__law_due T.F__law_due.kp T.B__law_due (da_cons (de_name 2) da_nil)))
 (ds_cons (ds_setF (i := 8) sc_law.nd rfl (Or.inl rfl) (de_call (ok__law_read T) tk (hr.mono (by decide)) (by rfl) T.g__law_read T.F__law_read.kp T.B__law_read (da_cons (de_name 2) da_nil)))
 (ds_cons (ds_if (dt_isN (de_name 7) de_non)
 (ds_one (ds_ret (de_isN (de_name 8) de_non)))
 ds_nil)
 (ds_one (ds_ret (de_callN (ok__law_same T) (takesN tk) (hr.mono (by decide)) (by rfl) T.g__law_same T.F__law_same.kp T.B__law_same (da_cons (de_name 8) (da_cons (de_name 7) da_nil))))))))))))))))), fun rs Qd Ed h => ?_⟩
  · obtain ⟨ns, rfl, _⟩ := h; rfl
  · skip
    clear tk po
    obtain ⟨ns, rfl, bits, q⟩ := h
    obtain ⟨gw, sz⟩ := webBy3_facts ns
    simp
    refine ⟨ns, rfl, cell_ok bits, ?_⟩
    simp
    generalize webBy3 ns = w at gw sz
    have sm : smallW w := small_of gw.2.1 (by omega)
    have dd : deedsW w ≤ 8 := Nat.le_trans (deeds_size w) sz
    have ok : okWeb (encWeb w) = true := okWeb_enc gw dd
    have gs := gw.2.2
    have h3 := sm.1
    have lt : (webT w).length ≤ 800 := by
      have := webT_len gs
      omega
    have tx : Txts (webT w) w := ⟨gw, dd, rfl⟩
    refine ⟨w, rfl, sm, gs, ?_⟩
    simp
    refine compInv_map copyD ⟨none, rfl, by simp⟩ ?_ (fun _ _ => rfl) (fun d hd Q' q' => ?_) ?_
    · exact Nat.le_of_lt (sizeLine_big (by simp; omega))
    · obtain ⟨r, _, rfl⟩ := List.mem_map.mp hd
      simpa [encRow, copyD, stepsD] using q'
    simp [list_enc]
    have tail : ∀ z : Str, asciiT z → z.length ≤ 900 → S__law_due [.leaf (.str z)] (fun r_1 => S__law_read [.leaf (.str z)] (fun r => r_1.isScr = false ∧ if isNonD r_1.er = true then r.isScr = false ∧ Qd (OT.leaf (PyData.bool (isNonD r.er))) else S__law_same [vw r, vw r_1] (fun r => Qd r) fun c => Ed c) fun c => Ed c) fun c => Ed c := fun z az lz => by
      refine ⟨z, rfl, az, lz, fun w t => ?_, fun nt => ?_⟩
      · refine ⟨.str z, rfl, fun z' e => by injection e with e; subst e; exact lz, fun z' w' e t' => ?_, fun h => absurd t (h z w rfl)⟩
        injection e with e
        subst e
        have := t.uniq t'
        subst this
        exact ⟨rfl, by rw [if_neg (show ¬ isNonD (OT.leaf (encWeb w)).er = true from Bool.false_ne_true)]; exact ⟨w, rfl, q⟩⟩
      · refine ⟨.str z, rfl, fun z' e => by injection e with e; subst e; exact lz, fun z' w' e t' => ?_, fun h => ⟨rfl, by rw [if_pos (show isNonD (OT.leaf PyData.none).er = true from rfl)]; exact ⟨rfl, q⟩⟩⟩
        injection e with e
        subst e
        exact absurd t' (nt w')
    refine ⟨_, rfl, .inr ⟨w, rfl, ok, sm, ?_⟩⟩
    simp
    refine ⟨.str (webT w), rfl, fun z' e => by injection e with e; subst e; omega, fun z' w' e t' => ?_, fun h => absurd tx (h _ w rfl)⟩
    injection e with e
    subst e
    have := tx.uniq t'
    subst this
    refine ⟨w, rfl, ?_⟩
    simp
    by_cases c3 : cellAt ns 1 % 4 = 3
    · rw [if_pos c3]
      have c4 := cell_mod (cellAt ns 1 / 4) (n := 4) (by decide)
      rw [atI_at c4.1]
      have hj : (cellAt ns 1 / 4 % 4).toNat < [PyData.none, PyData.int 5, PyData.list [PyData.str (Str.ofString "get 0")], PyData.bool true].length := by
        show _ < 4; omega
      rw [List.getElem?_eq_getElem hj, oq_some]
      have all : ∀ d ∈ [PyData.none, PyData.int 5, PyData.list [PyData.str (Str.ofString "get 0")], PyData.bool true], ∀ z, d ≠ .str z := by
        intro d hd z e
        subst e
        simp at hd
      have hd := all _ (List.getElem_mem hj)
      exact ⟨_, rfl, fun z e => absurd e (hd z), fun z w e => absurd e (hd z), fun _ => ⟨rfl, q⟩⟩
    · rw [if_neg c3]
      by_cases c2 : cellAt ns 1 % 4 = 2
      · rw [if_pos c2]
        have c1 : ¬ cellAt ns 1 % 4 = 1 := by omega
        refine ⟨_, rfl, fun z az lz => ?_⟩
        dsimp only
        rw [if_neg c1]
        exact tail z az lz
      · rw [if_neg c2]
        by_cases c1 : cellAt ns 1 % 4 = 1
        · rw [if_pos c1]
          exact ⟨_, _, rfl, webT_ascii, lt, fun z az lz => tail z az lz⟩
        · rw [if_neg c1]
          exact tail _ webT_ascii (by omega)
end
theorem all_mk {P : Program} {w : World} {K : PySem.W.Frag} {h : Heap} {mg : Str → Option Value} {fa : Addr} (X : K.In h) (G : h.Ns mainGlobals mg) (hfa : mg "law" = some (.ref fa))
    {v_MOST_HANDS : Tok}
    {v_MOST_DEEDS : Tok}
    {v_BOXES : Tok}
    {v_FIGURES : Tok}
    {C_WebError : Addr}
    {C_BadWeb : Addr}
    {C_NoMove : Addr}
    {C_NotOver : Addr}
    {C_NoPlace : Addr}
    {C_NoText : Addr}
    {f_0 : Addr} {od0 an0 : Option Addr} {sl0 : Array (Option Value)} {oc0 kV0 dc0 pm0 cd0 ct0 : Value}
    {f_1 : Addr} {od1 an1 : Option Addr} {sl1 : Array (Option Value)} {oc1 kV1 dc1 pm1 cd1 ct1 : Value}
    {f_2 : Addr} {od2 an2 : Option Addr} {sl2 : Array (Option Value)} {oc2 kV2 dc2 pm2 cd2 ct2 : Value}
    {f_3 : Addr} {od3 an3 : Option Addr} {sl3 : Array (Option Value)} {oc3 kV3 dc3 pm3 cd3 ct3 : Value}
    {f_4 : Addr} {od4 an4 : Option Addr} {sl4 : Array (Option Value)} {oc4 kV4 dc4 pm4 cd4 ct4 : Value}
    {f_5 : Addr} {od5 an5 : Option Addr} {sl5 : Array (Option Value)} {oc5 kV5 dc5 pm5 cd5 ct5 : Value}
    {f_6 : Addr} {od6 an6 : Option Addr} {sl6 : Array (Option Value)} {oc6 kV6 dc6 pm6 cd6 ct6 : Value}
    {f_7 : Addr} {od7 an7 : Option Addr} {sl7 : Array (Option Value)} {oc7 kV7 dc7 pm7 cd7 ct7 : Value}
    {f_8 : Addr} {od8 an8 : Option Addr} {sl8 : Array (Option Value)} {oc8 kV8 dc8 pm8 cd8 ct8 : Value}
    {f_9 : Addr} {od9 an9 : Option Addr} {sl9 : Array (Option Value)} {oc9 kV9 dc9 pm9 cd9 ct9 : Value}
    {f_10 : Addr} {od10 an10 : Option Addr} {sl10 : Array (Option Value)} {oc10 kV10 dc10 pm10 cd10 ct10 : Value}
    {f_11 : Addr} {od11 an11 : Option Addr} {sl11 : Array (Option Value)} {oc11 kV11 dc11 pm11 cd11 ct11 : Value}
    {f_12 : Addr} {od12 an12 : Option Addr} {sl12 : Array (Option Value)} {oc12 kV12 dc12 pm12 cd12 ct12 : Value}
    {f_13 : Addr} {od13 an13 : Option Addr} {sl13 : Array (Option Value)} {oc13 kV13 dc13 pm13 cd13 ct13 : Value}
    {f_14 : Addr} {od14 an14 : Option Addr} {sl14 : Array (Option Value)} {oc14 kV14 dc14 pm14 cd14 ct14 : Value}
    {f_15 : Addr} {od15 an15 : Option Addr} {sl15 : Array (Option Value)} {oc15 kV15 dc15 pm15 cd15 ct15 : Value}
    {f_16 : Addr} {od16 an16 : Option Addr} {sl16 : Array (Option Value)} {oc16 kV16 dc16 pm16 cd16 ct16 : Value}
    {f_17 : Addr} {od17 an17 : Option Addr} {sl17 : Array (Option Value)} {oc17 kV17 dc17 pm17 cd17 ct17 : Value}
    {f_18 : Addr} {od18 an18 : Option Addr} {sl18 : Array (Option Value)} {oc18 kV18 dc18 pm18 cd18 ct18 : Value}
    {f_19 : Addr} {od19 an19 : Option Addr} {sl19 : Array (Option Value)} {oc19 kV19 dc19 pm19 cd19 ct19 : Value}
    {f_20 : Addr} {od20 an20 : Option Addr} {sl20 : Array (Option Value)} {oc20 kV20 dc20 pm20 cd20 ct20 : Value}
    {f_21 : Addr} {od21 an21 : Option Addr} {sl21 : Array (Option Value)} {oc21 kV21 dc21 pm21 cd21 ct21 : Value}
    (z_ValueError : PySem.W.nsIn K mainGlobals "ValueError" = some none)
    (z_abs : PySem.W.nsIn K mainGlobals "abs" = some none)
    (z_bool : PySem.W.nsIn K mainGlobals "bool" = some none)
    (z_int : PySem.W.nsIn K mainGlobals "int" = some none)
    (z_isinstance : PySem.W.nsIn K mainGlobals "isinstance" = some none)
    (z_len : PySem.W.nsIn K mainGlobals "len" = some none)
    (z_list : PySem.W.nsIn K mainGlobals "list" = some none)
    (z_range : PySem.W.nsIn K mainGlobals "range" = some none)
    (z_str : PySem.W.nsIn K mainGlobals "str" = some none)
    (z_tuple : PySem.W.nsIn K mainGlobals "tuple" = some none)
    (n_MOST_HANDS : PySem.W.nsIn K mainGlobals "MOST_HANDS" = some (some (.int 3 v_MOST_HANDS)))
    (n_MOST_DEEDS : PySem.W.nsIn K mainGlobals "MOST_DEEDS" = some (some (.int 8 v_MOST_DEEDS)))
    (n_BOXES : PySem.W.nsIn K mainGlobals "BOXES" = some (some (.int 4 v_BOXES)))
    (n_FIGURES : PySem.W.nsIn K mainGlobals "FIGURES" = some (some (.str "0123456789" v_FIGURES)))
    (n_WebError : PySem.W.nsIn K mainGlobals "WebError" = some (some (.ref C_WebError)))
    (x_WebError : PySem.W.excIn K C_WebError [.type "ValueError", .type "Exception", .type "BaseException", .type "object"] "ValueError.__new__" = true)
    (k_WebError : PySem.W.keepIn K (.ref C_WebError) = true)
    (s_WebError : PySem.W.subIn K (.ref C_WebError) (.type "BaseException") = some true)
    (t_WebError : PySem.W.typeIn K (.ref C_WebError) = some (.type "type"))
    (ic_WebError : PySem.W.isClsIn K C_WebError = true)
    (ss_WebError : PySem.W.subIn K (.ref C_WebError) (.ref C_WebError) = some true)
    (n_BadWeb : PySem.W.nsIn K mainGlobals "BadWeb" = some (some (.ref C_BadWeb)))
    (x_BadWeb : PySem.W.excIn K C_BadWeb [.type "ValueError", .type "Exception", .type "BaseException", .type "object"] "ValueError.__new__" = true)
    (k_BadWeb : PySem.W.keepIn K (.ref C_BadWeb) = true)
    (s_BadWeb : PySem.W.subIn K (.ref C_BadWeb) (.type "BaseException") = some true)
    (t_BadWeb : PySem.W.typeIn K (.ref C_BadWeb) = some (.type "type"))
    (ic_BadWeb : PySem.W.isClsIn K C_BadWeb = true)
    (ss_BadWeb : PySem.W.subIn K (.ref C_BadWeb) (.ref C_BadWeb) = some true)
    (n_NoMove : PySem.W.nsIn K mainGlobals "NoMove" = some (some (.ref C_NoMove)))
    (x_NoMove : PySem.W.excIn K C_NoMove [.type "ValueError", .type "Exception", .type "BaseException", .type "object"] "ValueError.__new__" = true)
    (k_NoMove : PySem.W.keepIn K (.ref C_NoMove) = true)
    (s_NoMove : PySem.W.subIn K (.ref C_NoMove) (.type "BaseException") = some true)
    (t_NoMove : PySem.W.typeIn K (.ref C_NoMove) = some (.type "type"))
    (ic_NoMove : PySem.W.isClsIn K C_NoMove = true)
    (ss_NoMove : PySem.W.subIn K (.ref C_NoMove) (.ref C_NoMove) = some true)
    (n_NotOver : PySem.W.nsIn K mainGlobals "NotOver" = some (some (.ref C_NotOver)))
    (x_NotOver : PySem.W.excIn K C_NotOver [.type "ValueError", .type "Exception", .type "BaseException", .type "object"] "ValueError.__new__" = true)
    (k_NotOver : PySem.W.keepIn K (.ref C_NotOver) = true)
    (s_NotOver : PySem.W.subIn K (.ref C_NotOver) (.type "BaseException") = some true)
    (t_NotOver : PySem.W.typeIn K (.ref C_NotOver) = some (.type "type"))
    (ic_NotOver : PySem.W.isClsIn K C_NotOver = true)
    (ss_NotOver : PySem.W.subIn K (.ref C_NotOver) (.ref C_NotOver) = some true)
    (n_NoPlace : PySem.W.nsIn K mainGlobals "NoPlace" = some (some (.ref C_NoPlace)))
    (x_NoPlace : PySem.W.excIn K C_NoPlace [.type "ValueError", .type "Exception", .type "BaseException", .type "object"] "ValueError.__new__" = true)
    (k_NoPlace : PySem.W.keepIn K (.ref C_NoPlace) = true)
    (s_NoPlace : PySem.W.subIn K (.ref C_NoPlace) (.type "BaseException") = some true)
    (t_NoPlace : PySem.W.typeIn K (.ref C_NoPlace) = some (.type "type"))
    (ic_NoPlace : PySem.W.isClsIn K C_NoPlace = true)
    (ss_NoPlace : PySem.W.subIn K (.ref C_NoPlace) (.ref C_NoPlace) = some true)
    (n_NoText : PySem.W.nsIn K mainGlobals "NoText" = some (some (.ref C_NoText)))
    (x_NoText : PySem.W.excIn K C_NoText [.type "ValueError", .type "Exception", .type "BaseException", .type "object"] "ValueError.__new__" = true)
    (k_NoText : PySem.W.keepIn K (.ref C_NoText) = true)
    (s_NoText : PySem.W.subIn K (.ref C_NoText) (.type "BaseException") = some true)
    (t_NoText : PySem.W.typeIn K (.ref C_NoText) = some (.type "type"))
    (ic_NoText : PySem.W.isClsIn K C_NoText = true)
    (ss_NoText : PySem.W.subIn K (.ref C_NoText) (.ref C_NoText) = some true)
    (dn : PySem.W.specialIn K (.builtin "object.__class__") "__get__" = some (some (.builtin "getset_descriptor.__get__")))
    (dt : PySem.W.takesIn K (.builtin "object.__class__") = some true)
    (e1_NoText : PySem.W.findIn K (.ref C_NoText) "__getattribute__" = some (some (.builtin "BaseException.__getattribute__")))
    (e2_NoText : PySem.W.findIn K (.ref C_NoText) "__getattr__" = some none)
    (e4_NoText : PySem.W.hasDictIn K C_NoText = true)
    (e5_NoText : PySem.W.findIn K (.ref C_NoText) "__class__" = some (some (.builtin "object.__class__")))
    (e8_NoText : PySem.W.mroIn K C_NoText (.type "object") = some true)
    (sb_NoText_BadWeb : PySem.W.subIn K (.ref C_NoText) (.ref C_BadWeb) = some false)
    (sb_NoText_NoMove : PySem.W.subIn K (.ref C_NoText) (.ref C_NoMove) = some false)
    (sb_NoText_NoPlace : PySem.W.subIn K (.ref C_NoText) (.ref C_NoPlace) = some false)
    (sb_NoText_NoText : PySem.W.subIn K (.ref C_NoText) (.ref C_NoText) = some true)
    (sb_NoText_NotOver : PySem.W.subIn K (.ref C_NoText) (.ref C_NotOver) = some false)
    (sb_NoText_ValueError : PySem.W.subIn K (.ref C_NoText) (.type "ValueError") = some true)
    (sb_NoText_WebError : PySem.W.subIn K (.ref C_NoText) (.ref C_WebError) = some true)
    (e1_BadWeb : PySem.W.findIn K (.ref C_BadWeb) "__getattribute__" = some (some (.builtin "BaseException.__getattribute__")))
    (e2_BadWeb : PySem.W.findIn K (.ref C_BadWeb) "__getattr__" = some none)
    (e4_BadWeb : PySem.W.hasDictIn K C_BadWeb = true)
    (e5_BadWeb : PySem.W.findIn K (.ref C_BadWeb) "__class__" = some (some (.builtin "object.__class__")))
    (e8_BadWeb : PySem.W.mroIn K C_BadWeb (.type "object") = some true)
    (sb_BadWeb_BadWeb : PySem.W.subIn K (.ref C_BadWeb) (.ref C_BadWeb) = some true)
    (sb_BadWeb_NoMove : PySem.W.subIn K (.ref C_BadWeb) (.ref C_NoMove) = some false)
    (sb_BadWeb_NoPlace : PySem.W.subIn K (.ref C_BadWeb) (.ref C_NoPlace) = some false)
    (sb_BadWeb_NoText : PySem.W.subIn K (.ref C_BadWeb) (.ref C_NoText) = some false)
    (sb_BadWeb_NotOver : PySem.W.subIn K (.ref C_BadWeb) (.ref C_NotOver) = some false)
    (sb_BadWeb_ValueError : PySem.W.subIn K (.ref C_BadWeb) (.type "ValueError") = some true)
    (sb_BadWeb_WebError : PySem.W.subIn K (.ref C_BadWeb) (.ref C_WebError) = some true)
    (n0 : PySem.W.nsIn K mainGlobals "is_whole" = some (some (.ref f_0)))
    (l0 : K.lookup f_0 = some ⟨oc0, od0, .func (PySem.W.fnOf "is_whole" "is_whole" (defArgs s_is_whole) (defBody s_is_whole) (defScope s_is_whole) .none kV0 dc0 pm0 an0 cd0 ct0), sl0⟩)
    (c0 : PySem.W.codeIn K cd0 "is_whole" = true)
    (k0 : PySem.W.keepIn K (.ref f_0) = true)
    (n1 : PySem.W.nsIn K mainGlobals "is_box" = some (some (.ref f_1)))
    (l1 : K.lookup f_1 = some ⟨oc1, od1, .func (PySem.W.fnOf "is_box" "is_box" (defArgs s_is_box) (defBody s_is_box) (defScope s_is_box) .none kV1 dc1 pm1 an1 cd1 ct1), sl1⟩)
    (c1 : PySem.W.codeIn K cd1 "is_box" = true)
    (k1 : PySem.W.keepIn K (.ref f_1) = true)
    (n2 : PySem.W.nsIn K mainGlobals "is_step" = some (some (.ref f_2)))
    (l2 : K.lookup f_2 = some ⟨oc2, od2, .func (PySem.W.fnOf "is_step" "is_step" (defArgs s_is_step) (defBody s_is_step) (defScope s_is_step) .none kV2 dc2 pm2 an2 cd2 ct2), sl2⟩)
    (c2 : PySem.W.codeIn K cd2 "is_step" = true)
    (k2 : PySem.W.keepIn K (.ref f_2) = true)
    (n3 : PySem.W.nsIn K mainGlobals "need_web" = some (some (.ref f_3)))
    (l3 : K.lookup f_3 = some ⟨oc3, od3, .func (PySem.W.fnOf "need_web" "need_web" (defArgs s_need_web) (defBody s_need_web) (defScope s_need_web) .none kV3 dc3 pm3 an3 cd3 ct3), sl3⟩)
    (c3 : PySem.W.codeIn K cd3 "need_web" = true)
    (k3 : PySem.W.keepIn K (.ref f_3) = true)
    (n4 : PySem.W.nsIn K mainGlobals "shown" = some (some (.ref f_4)))
    (l4 : K.lookup f_4 = some ⟨oc4, od4, .func (PySem.W.fnOf "shown" "shown" (defArgs s_shown) (defBody s_shown) (defScope s_shown) .none kV4 dc4 pm4 an4 cd4 ct4), sl4⟩)
    (c4 : PySem.W.codeIn K cd4 "shown" = true)
    (k4 : PySem.W.keepIn K (.ref f_4) = true)
    (n5 : PySem.W.nsIn K mainGlobals "number_of" = some (some (.ref f_5)))
    (l5 : K.lookup f_5 = some ⟨oc5, od5, .func (PySem.W.fnOf "number_of" "number_of" (defArgs s_number_of) (defBody s_number_of) (defScope s_number_of) .none kV5 dc5 pm5 an5 cd5 ct5), sl5⟩)
    (c5 : PySem.W.codeIn K cd5 "number_of" = true)
    (k5 : PySem.W.keepIn K (.ref f_5) = true)
    (n6 : PySem.W.nsIn K mainGlobals "step_of" = some (some (.ref f_6)))
    (l6 : K.lookup f_6 = some ⟨oc6, od6, .func (PySem.W.fnOf "step_of" "step_of" (defArgs s_step_of) (defBody s_step_of) (defScope s_step_of) .none kV6 dc6 pm6 an6 cd6 ct6), sl6⟩)
    (c6 : PySem.W.codeIn K cd6 "step_of" = true)
    (k6 : PySem.W.keepIn K (.ref f_6) = true)
    (n7 : PySem.W.nsIn K mainGlobals "row_of" = some (some (.ref f_7)))
    (l7 : K.lookup f_7 = some ⟨oc7, od7, .func (PySem.W.fnOf "row_of" "row_of" (defArgs s_row_of) (defBody s_row_of) (defScope s_row_of) .none kV7 dc7 pm7 an7 cd7 ct7), sl7⟩)
    (c7 : PySem.W.codeIn K cd7 "row_of" = true)
    (k7 : PySem.W.keepIn K (.ref f_7) = true)
    (n8 : PySem.W.nsIn K mainGlobals "read" = some (some (.ref f_8)))
    (l8 : K.lookup f_8 = some ⟨oc8, od8, .func (PySem.W.fnOf "read" "read" (defArgs s_read) (defBody s_read) (defScope s_read) .none kV8 dc8 pm8 an8 cd8 ct8), sl8⟩)
    (c8 : PySem.W.codeIn K cd8 "read" = true)
    (k8 : PySem.W.keepIn K (.ref f_8) = true)
    (n9 : PySem.W.nsIn K mainGlobals "_law_cell_at" = some (some (.ref f_9)))
    (l9 : K.lookup f_9 = some ⟨oc9, od9, .func (PySem.W.fnOf "_law_cell_at" "_law_cell_at" (defArgs s__law_cell_at) (defBody s__law_cell_at) (defScope s__law_cell_at) .none kV9 dc9 pm9 an9 cd9 ct9), sl9⟩)
    (c9 : PySem.W.codeIn K cd9 "_law_cell_at" = true)
    (k9 : PySem.W.keepIn K (.ref f_9) = true)
    (n10 : PySem.W.nsIn K mainGlobals "_law_number_by" = some (some (.ref f_10)))
    (l10 : K.lookup f_10 = some ⟨oc10, od10, .func (PySem.W.fnOf "_law_number_by" "_law_number_by" (defArgs s__law_number_by) (defBody s__law_number_by) (defScope s__law_number_by) .none kV10 dc10 pm10 an10 cd10 ct10), sl10⟩)
    (c10 : PySem.W.codeIn K cd10 "_law_number_by" = true)
    (k10 : PySem.W.keepIn K (.ref f_10) = true)
    (n11 : PySem.W.nsIn K mainGlobals "_law_step_by" = some (some (.ref f_11)))
    (l11 : K.lookup f_11 = some ⟨oc11, od11, .func (PySem.W.fnOf "_law_step_by" "_law_step_by" (defArgs s__law_step_by) (defBody s__law_step_by) (defScope s__law_step_by) .none kV11 dc11 pm11 an11 cd11 ct11), sl11⟩)
    (c11 : PySem.W.codeIn K cd11 "_law_step_by" = true)
    (k11 : PySem.W.keepIn K (.ref f_11) = true)
    (n12 : PySem.W.nsIn K mainGlobals "_law_web_by" = some (some (.ref f_12)))
    (l12 : K.lookup f_12 = some ⟨oc12, od12, .func (PySem.W.fnOf "_law_web_by" "_law_web_by" (defArgs s__law_web_by) (defBody s__law_web_by) (defScope s__law_web_by) .none kV12 dc12 pm12 an12 cd12 ct12), sl12⟩)
    (c12 : PySem.W.codeIn K cd12 "_law_web_by" = true)
    (k12 : PySem.W.keepIn K (.ref f_12) = true)
    (n13 : PySem.W.nsIn K mainGlobals "_law_text_by" = some (some (.ref f_13)))
    (l13 : K.lookup f_13 = some ⟨oc13, od13, .func (PySem.W.fnOf "_law_text_by" "_law_text_by" (defArgs s__law_text_by) (defBody s__law_text_by) (defScope s__law_text_by) .none kV13 dc13 pm13 an13 cd13 ct13), sl13⟩)
    (c13 : PySem.W.codeIn K cd13 "_law_text_by" = true)
    (k13 : PySem.W.keepIn K (.ref f_13) = true)
    (n14 : PySem.W.nsIn K mainGlobals "_law_changed" = some (some (.ref f_14)))
    (l14 : K.lookup f_14 = some ⟨oc14, od14, .func (PySem.W.fnOf "_law_changed" "_law_changed" (defArgs s__law_changed) (defBody s__law_changed) (defScope s__law_changed) .none kV14 dc14 pm14 an14 cd14 ct14), sl14⟩)
    (c14 : PySem.W.codeIn K cd14 "_law_changed" = true)
    (k14 : PySem.W.keepIn K (.ref f_14) = true)
    (n15 : PySem.W.nsIn K mainGlobals "_law_odd" = some (some (.ref f_15)))
    (l15 : K.lookup f_15 = some ⟨oc15, od15, .func (PySem.W.fnOf "_law_odd" "_law_odd" (defArgs s__law_odd) (defBody s__law_odd) (defScope s__law_odd) .none kV15 dc15 pm15 an15 cd15 ct15), sl15⟩)
    (c15 : PySem.W.codeIn K cd15 "_law_odd" = true)
    (k15 : PySem.W.keepIn K (.ref f_15) = true)
    (n16 : PySem.W.nsIn K mainGlobals "_law_number" = some (some (.ref f_16)))
    (l16 : K.lookup f_16 = some ⟨oc16, od16, .func (PySem.W.fnOf "_law_number" "_law_number" (defArgs s__law_number) (defBody s__law_number) (defScope s__law_number) .none kV16 dc16 pm16 an16 cd16 ct16), sl16⟩)
    (c16 : PySem.W.codeIn K cd16 "_law_number" = true)
    (k16 : PySem.W.keepIn K (.ref f_16) = true)
    (n17 : PySem.W.nsIn K mainGlobals "_law_step" = some (some (.ref f_17)))
    (l17 : K.lookup f_17 = some ⟨oc17, od17, .func (PySem.W.fnOf "_law_step" "_law_step" (defArgs s__law_step) (defBody s__law_step) (defScope s__law_step) .none kV17 dc17 pm17 an17 cd17 ct17), sl17⟩)
    (c17 : PySem.W.codeIn K cd17 "_law_step" = true)
    (k17 : PySem.W.keepIn K (.ref f_17) = true)
    (n18 : PySem.W.nsIn K mainGlobals "_law_due" = some (some (.ref f_18)))
    (l18 : K.lookup f_18 = some ⟨oc18, od18, .func (PySem.W.fnOf "_law_due" "_law_due" (defArgs s__law_due) (defBody s__law_due) (defScope s__law_due) .none kV18 dc18 pm18 an18 cd18 ct18), sl18⟩)
    (c18 : PySem.W.codeIn K cd18 "_law_due" = true)
    (k18 : PySem.W.keepIn K (.ref f_18) = true)
    (n19 : PySem.W.nsIn K mainGlobals "_law_read" = some (some (.ref f_19)))
    (l19 : K.lookup f_19 = some ⟨oc19, od19, .func (PySem.W.fnOf "_law_read" "_law_read" (defArgs s__law_read) (defBody s__law_read) (defScope s__law_read) .none kV19 dc19 pm19 an19 cd19 ct19), sl19⟩)
    (c19 : PySem.W.codeIn K cd19 "_law_read" = true)
    (k19 : PySem.W.keepIn K (.ref f_19) = true)
    (n20 : PySem.W.nsIn K mainGlobals "_law_same" = some (some (.ref f_20)))
    (l20 : K.lookup f_20 = some ⟨oc20, od20, .func (PySem.W.fnOf "_law_same" "_law_same" (defArgs s__law_same) (defBody s__law_same) (defScope s__law_same) .none kV20 dc20 pm20 an20 cd20 ct20), sl20⟩)
    (c20 : PySem.W.codeIn K cd20 "_law_same" = true)
    (k20 : PySem.W.keepIn K (.ref f_20) = true)
    (n21 : PySem.W.nsIn K mainGlobals "law" = some (some (.ref f_21)))
    (l21 : K.lookup f_21 = some ⟨oc21, od21, .func (PySem.W.fnOf "law" "law" (defArgs s_law) (defBody s_law) (defScope s_law) .none kV21 dc21 pm21 an21 cd21 ct21), sl21⟩)
    (c21 : PySem.W.codeIn K cd21 "law" = true)
    (k21 : PySem.W.keepIn K (.ref f_21) = true)
    : ∃ fd : FuncData, (∀ (s : Shared) (v : Value), BindsTo s fd ⟨[v], []⟩ [("_law_script", v)]) ∧ ∀ base : Heap, K.In base → base.Ns mainGlobals mg → FnOk P w K mg base (L2.CX P w) 16 fa fd ["_law_script"] (spP K S_law) := by
  have e := hfa.symm.trans (PySem.W.mg_of X G n21)
  cases e
  have F0 := fun_mk (st := s_is_whole) l0 c0 k0
  have B0 := F0.binds (ps := ["thing"]) fun _ _ _ _ _ _ us hl => match us, hl with | [_], _ => rfl
  have F1 := fun_mk (st := s_is_box) l1 c1 k1
  have B1 := F1.binds (ps := ["thing"]) fun _ _ _ _ _ _ us hl => match us, hl with | [_], _ => rfl
  have F2 := fun_mk (st := s_is_step) l2 c2 k2
  have B2 := F2.binds (ps := ["thing"]) fun _ _ _ _ _ _ us hl => match us, hl with | [_], _ => rfl
  have F3 := fun_mk (st := s_need_web) l3 c3 k3
  have B3 := F3.binds (ps := ["web"]) fun _ _ _ _ _ _ us hl => match us, hl with | [_], _ => rfl
  have F4 := fun_mk (st := s_shown) l4 c4 k4
  have B4 := F4.binds (ps := ["web"]) fun _ _ _ _ _ _ us hl => match us, hl with | [_], _ => rfl
  have F5 := fun_mk (st := s_number_of) l5 c5 k5
  have B5 := F5.binds (ps := ["word"]) fun _ _ _ _ _ _ us hl => match us, hl with | [_], _ => rfl
  have F6 := fun_mk (st := s_step_of) l6 c6 k6
  have B6 := F6.binds (ps := ["text"]) fun _ _ _ _ _ _ us hl => match us, hl with | [_], _ => rfl
  have F7 := fun_mk (st := s_row_of) l7 c7 k7
  have B7 := F7.binds (ps := ["text"]) fun _ _ _ _ _ _ us hl => match us, hl with | [_], _ => rfl
  have F8 := fun_mk (st := s_read) l8 c8 k8
  have B8 := F8.binds (ps := ["text"]) fun _ _ _ _ _ _ us hl => match us, hl with | [_], _ => rfl
  have F9 := fun_mk (st := s__law_cell_at) l9 c9 k9
  have B9 := F9.binds (ps := ["_law_script", "_law_k"]) fun _ _ _ _ _ _ us hl => match us, hl with | [_, _], _ => rfl
  have F10 := fun_mk (st := s__law_number_by) l10 c10 k10
  have B10 := F10.binds (ps := ["_law_cell"]) fun _ _ _ _ _ _ us hl => match us, hl with | [_], _ => rfl
  have F11 := fun_mk (st := s__law_step_by) l11 c11 k11
  have B11 := F11.binds (ps := ["_law_cell"]) fun _ _ _ _ _ _ us hl => match us, hl with | [_], _ => rfl
  have F12 := fun_mk (st := s__law_web_by) l12 c12 k12
  have B12 := F12.binds (ps := ["_law_script"]) fun _ _ _ _ _ _ us hl => match us, hl with | [_], _ => rfl
  have F13 := fun_mk (st := s__law_text_by) l13 c13 k13
  have B13 := F13.binds (ps := ["_law_web"]) fun _ _ _ _ _ _ us hl => match us, hl with | [_], _ => rfl
  have F14 := fun_mk (st := s__law_changed) l14 c14 k14
  have B14 := F14.binds (ps := ["_law_text", "_law_cell"]) fun _ _ _ _ _ _ us hl => match us, hl with | [_, _], _ => rfl
  have F15 := fun_mk (st := s__law_odd) l15 c15 k15
  have B15 := F15.binds (ps := ["_law_cell"]) fun _ _ _ _ _ _ us hl => match us, hl with | [_], _ => rfl
  have F16 := fun_mk (st := s__law_number) l16 c16 k16
  have B16 := F16.binds (ps := ["_law_word"]) fun _ _ _ _ _ _ us hl => match us, hl with | [_], _ => rfl
  have F17 := fun_mk (st := s__law_step) l17 c17 k17
  have B17 := F17.binds (ps := ["_law_text"]) fun _ _ _ _ _ _ us hl => match us, hl with | [_], _ => rfl
  have F18 := fun_mk (st := s__law_due) l18 c18 k18
  have B18 := F18.binds (ps := ["_law_text"]) fun _ _ _ _ _ _ us hl => match us, hl with | [_], _ => rfl
  have F19 := fun_mk (st := s__law_read) l19 c19 k19
  have B19 := F19.binds (ps := ["_law_text"]) fun _ _ _ _ _ _ us hl => match us, hl with | [_], _ => rfl
  have F20 := fun_mk (st := s__law_same) l20 c20 k20
  have B20 := F20.binds (ps := ["_law_found", "_law_web"]) fun _ _ _ _ _ _ us hl => match us, hl with | [_, _], _ => rfl
  have F21 := fun_mk (st := s_law) l21 c21 k21
  have B21 := F21.binds (ps := ["_law_script"]) fun _ _ _ _ _ _ us hl => match us, hl with | [_], _ => rfl
  exact ⟨_, fun s v => .of_eq rfl, fun base _ _ => ok_law (base := base) ({
    b_ValueError := PySem.W.mg_none_of X G z_ValueError,
    b_abs := PySem.W.mg_none_of X G z_abs,
    b_bool := PySem.W.mg_none_of X G z_bool,
    b_int := PySem.W.mg_none_of X G z_int,
    b_isinstance := PySem.W.mg_none_of X G z_isinstance,
    b_len := PySem.W.mg_none_of X G z_len,
    b_list := PySem.W.mg_none_of X G z_list,
    b_range := PySem.W.mg_none_of X G z_range,
    b_str := PySem.W.mg_none_of X G z_str,
    b_tuple := PySem.W.mg_none_of X G z_tuple,
    v_MOST_HANDS := v_MOST_HANDS,
    g_MOST_HANDS := PySem.W.mg_of X G n_MOST_HANDS,
    v_MOST_DEEDS := v_MOST_DEEDS,
    g_MOST_DEEDS := PySem.W.mg_of X G n_MOST_DEEDS,
    v_BOXES := v_BOXES,
    g_BOXES := PySem.W.mg_of X G n_BOXES,
    v_FIGURES := v_FIGURES,
    g_FIGURES := PySem.W.mg_of X G n_FIGURES,
    C_WebError := C_WebError,
    g_WebError := PySem.W.mg_of X G n_WebError,
    x_WebError := x_WebError,
    k_WebError := k_WebError,
    s_WebError := s_WebError,
    t_WebError := t_WebError,
    C_BadWeb := C_BadWeb,
    g_BadWeb := PySem.W.mg_of X G n_BadWeb,
    x_BadWeb := x_BadWeb,
    k_BadWeb := k_BadWeb,
    s_BadWeb := s_BadWeb,
    t_BadWeb := t_BadWeb,
    C_NoMove := C_NoMove,
    g_NoMove := PySem.W.mg_of X G n_NoMove,
    x_NoMove := x_NoMove,
    k_NoMove := k_NoMove,
    s_NoMove := s_NoMove,
    t_NoMove := t_NoMove,
    C_NotOver := C_NotOver,
    g_NotOver := PySem.W.mg_of X G n_NotOver,
    x_NotOver := x_NotOver,
    k_NotOver := k_NotOver,
    s_NotOver := s_NotOver,
    t_NotOver := t_NotOver,
    C_NoPlace := C_NoPlace,
    g_NoPlace := PySem.W.mg_of X G n_NoPlace,
    x_NoPlace := x_NoPlace,
    k_NoPlace := k_NoPlace,
    s_NoPlace := s_NoPlace,
    t_NoPlace := t_NoPlace,
    C_NoText := C_NoText,
    g_NoText := PySem.W.mg_of X G n_NoText,
    x_NoText := x_NoText,
    k_NoText := k_NoText,
    s_NoText := s_NoText,
    t_NoText := t_NoText,
    E_NoText := ⟨e1_NoText, e2_NoText, s_NoText, e4_NoText, e5_NoText, dn, dt, e8_NoText⟩,
    m_NoText_BadWeb := exm_own sb_NoText_BadWeb s_BadWeb ic_BadWeb t_BadWeb,
    m_NoText_WebError := exm_own sb_NoText_WebError s_WebError ic_WebError t_WebError,
    i_NoText_BadWeb := kit_own sb_NoText_BadWeb ss_BadWeb ic_BadWeb t_BadWeb,
    i_NoText_NoMove := kit_own sb_NoText_NoMove ss_NoMove ic_NoMove t_NoMove,
    i_NoText_NoPlace := kit_own sb_NoText_NoPlace ss_NoPlace ic_NoPlace t_NoPlace,
    i_NoText_NoText := kit_own sb_NoText_NoText ss_NoText ic_NoText t_NoText,
    i_NoText_NotOver := kit_own sb_NoText_NotOver ss_NotOver ic_NotOver t_NotOver,
    i_NoText_ValueError := kit_VE sb_NoText_ValueError,
    E_BadWeb := ⟨e1_BadWeb, e2_BadWeb, s_BadWeb, e4_BadWeb, e5_BadWeb, dn, dt, e8_BadWeb⟩,
    m_BadWeb_BadWeb := exm_own sb_BadWeb_BadWeb s_BadWeb ic_BadWeb t_BadWeb,
    m_BadWeb_WebError := exm_own sb_BadWeb_WebError s_WebError ic_WebError t_WebError,
    i_BadWeb_BadWeb := kit_own sb_BadWeb_BadWeb ss_BadWeb ic_BadWeb t_BadWeb,
    i_BadWeb_NoMove := kit_own sb_BadWeb_NoMove ss_NoMove ic_NoMove t_NoMove,
    i_BadWeb_NoPlace := kit_own sb_BadWeb_NoPlace ss_NoPlace ic_NoPlace t_NoPlace,
    i_BadWeb_NoText := kit_own sb_BadWeb_NoText ss_NoText ic_NoText t_NoText,
    i_BadWeb_NotOver := kit_own sb_BadWeb_NotOver ss_NotOver ic_NotOver t_NotOver,
    i_BadWeb_ValueError := kit_VE sb_BadWeb_ValueError,
    f_is_whole := _,
    d_is_whole := _,
    F_is_whole := F0,
    g_is_whole := PySem.W.mg_of X G n0,
    B_is_whole := B0,
    f_is_box := _,
    d_is_box := _,
    F_is_box := F1,
    g_is_box := PySem.W.mg_of X G n1,
    B_is_box := B1,
    f_is_step := _,
    d_is_step := _,
    F_is_step := F2,
    g_is_step := PySem.W.mg_of X G n2,
    B_is_step := B2,
    f_need_web := _,
    d_need_web := _,
    F_need_web := F3,
    g_need_web := PySem.W.mg_of X G n3,
    B_need_web := B3,
    f_shown := _,
    d_shown := _,
    F_shown := F4,
    g_shown := PySem.W.mg_of X G n4,
    B_shown := B4,
    f_number_of := _,
    d_number_of := _,
    F_number_of := F5,
    g_number_of := PySem.W.mg_of X G n5,
    B_number_of := B5,
    f_step_of := _,
    d_step_of := _,
    F_step_of := F6,
    g_step_of := PySem.W.mg_of X G n6,
    B_step_of := B6,
    f_row_of := _,
    d_row_of := _,
    F_row_of := F7,
    g_row_of := PySem.W.mg_of X G n7,
    B_row_of := B7,
    f_read := _,
    d_read := _,
    F_read := F8,
    g_read := PySem.W.mg_of X G n8,
    B_read := B8,
    f__law_cell_at := _,
    d__law_cell_at := _,
    F__law_cell_at := F9,
    g__law_cell_at := PySem.W.mg_of X G n9,
    B__law_cell_at := B9,
    f__law_number_by := _,
    d__law_number_by := _,
    F__law_number_by := F10,
    g__law_number_by := PySem.W.mg_of X G n10,
    B__law_number_by := B10,
    f__law_step_by := _,
    d__law_step_by := _,
    F__law_step_by := F11,
    g__law_step_by := PySem.W.mg_of X G n11,
    B__law_step_by := B11,
    f__law_web_by := _,
    d__law_web_by := _,
    F__law_web_by := F12,
    g__law_web_by := PySem.W.mg_of X G n12,
    B__law_web_by := B12,
    f__law_text_by := _,
    d__law_text_by := _,
    F__law_text_by := F13,
    g__law_text_by := PySem.W.mg_of X G n13,
    B__law_text_by := B13,
    f__law_changed := _,
    d__law_changed := _,
    F__law_changed := F14,
    g__law_changed := PySem.W.mg_of X G n14,
    B__law_changed := B14,
    f__law_odd := _,
    d__law_odd := _,
    F__law_odd := F15,
    g__law_odd := PySem.W.mg_of X G n15,
    B__law_odd := B15,
    f__law_number := _,
    d__law_number := _,
    F__law_number := F16,
    g__law_number := PySem.W.mg_of X G n16,
    B__law_number := B16,
    f__law_step := _,
    d__law_step := _,
    F__law_step := F17,
    g__law_step := PySem.W.mg_of X G n17,
    B__law_step := B17,
    f__law_due := _,
    d__law_due := _,
    F__law_due := F18,
    g__law_due := PySem.W.mg_of X G n18,
    B__law_due := B18,
    f__law_read := _,
    d__law_read := _,
    F__law_read := F19,
    g__law_read := PySem.W.mg_of X G n19,
    B__law_read := B19,
    f__law_same := _,
    d__law_same := _,
    F__law_same := F20,
    g__law_same := PySem.W.mg_of X G n20,
    B__law_same := B20,
    f_law := _,
    d_law := _,
    F_law := F21,
    g_law := PySem.W.mg_of X G n21,
    B_law := B21 } : Txt K mg)⟩
end FW
open PySem PySem.W PyProof.Rows
set_option maxHeartbeats 0 in
theorem PySem.Challenge.cw_fencewright_k12_written_and_read_holds : PySem.Challenge.rw_fencewright_k12_written_and_read.Holds := by
  w_on; o_law; k_head; (case hw => w_witness2)
  k_fill
  refine L2.walk_ofB (l := PySem.Challenge.rw_fencewright_k12_written_and_read) (n := 63) (k := 16) (x := "_law_script") (CX := fun w => L2.CX (PySem.Challenge.rw_fencewright_k12_written_and_read).prog w) (sp := fun w => FW.spP _ FW.S_law) rfl (by decide) rfl ⟨rfl, by decide, by decide⟩ (fun w h Y => PySem.W.kIn_of Y) ?F (fun _ H a ns hl hb hO hS => FW.sp_true (n := 63) (fun ns h1 h2 => ⟨ns, rfl, h2, rfl⟩) H a ns hl hb hO hS) (fun _ _ _ _ _ h => FW.cx_no h)
  case F =>
    intro w mg fa h KX G hmg
    refine' FW.all_mk KX G hmg ?z_ValueError ?z_abs ?z_bool ?z_int ?z_isinstance ?z_len ?z_list ?z_range ?z_str ?z_tuple ?n_MOST_HANDS ?n_MOST_DEEDS ?n_BOXES ?n_FIGURES ?n_WebError ?x_WebError ?k_WebError ?s_WebError ?t_WebError ?ic_WebError ?ss_WebError ?n_BadWeb ?x_BadWeb ?k_BadWeb ?s_BadWeb ?t_BadWeb ?ic_BadWeb ?ss_BadWeb ?n_NoMove ?x_NoMove ?k_NoMove ?s_NoMove ?t_NoMove ?ic_NoMove ?ss_NoMove ?n_NotOver ?x_NotOver ?k_NotOver ?s_NotOver ?t_NotOver ?ic_NotOver ?ss_NotOver ?n_NoPlace ?x_NoPlace ?k_NoPlace ?s_NoPlace ?t_NoPlace ?ic_NoPlace ?ss_NoPlace ?n_NoText ?x_NoText ?k_NoText ?s_NoText ?t_NoText ?ic_NoText ?ss_NoText ?dn ?dt ?e1_NoText ?e2_NoText ?e4_NoText ?e5_NoText ?e8_NoText ?sb_NoText_BadWeb ?sb_NoText_NoMove ?sb_NoText_NoPlace ?sb_NoText_NoText ?sb_NoText_NotOver ?sb_NoText_ValueError ?sb_NoText_WebError ?e1_BadWeb ?e2_BadWeb ?e4_BadWeb ?e5_BadWeb ?e8_BadWeb ?sb_BadWeb_BadWeb ?sb_BadWeb_NoMove ?sb_BadWeb_NoPlace ?sb_BadWeb_NoText ?sb_BadWeb_NotOver ?sb_BadWeb_ValueError ?sb_BadWeb_WebError ?n0 ?l0 ?c0 ?k0 ?n1 ?l1 ?c1 ?k1 ?n2 ?l2 ?c2 ?k2 ?n3 ?l3 ?c3 ?k3 ?n4 ?l4 ?c4 ?k4 ?n5 ?l5 ?c5 ?k5 ?n6 ?l6 ?c6 ?k6 ?n7 ?l7 ?c7 ?k7 ?n8 ?l8 ?c8 ?k8 ?n9 ?l9 ?c9 ?k9 ?n10 ?l10 ?c10 ?k10 ?n11 ?l11 ?c11 ?k11 ?n12 ?l12 ?c12 ?k12 ?n13 ?l13 ?c13 ?k13 ?n14 ?l14 ?c14 ?k14 ?n15 ?l15 ?c15 ?k15 ?n16 ?l16 ?c16 ?k16 ?n17 ?l17 ?c17 ?k17 ?n18 ?l18 ?c18 ?k18 ?n19 ?l19 ?c19 ?k19 ?n20 ?l20 ?c20 ?k20 ?n21 ?l21 ?c21 ?k21
    (case z_ValueError => k_is)
    (case z_abs => k_is)
    (case z_bool => k_is)
    (case z_int => k_is)
    (case z_isinstance => k_is)
    (case z_len => k_is)
    (case z_list => k_is)
    (case z_range => k_is)
    (case z_str => k_is)
    (case z_tuple => k_is)
    (case n_MOST_HANDS => k_is)
    (case n_MOST_DEEDS => k_is)
    (case n_BOXES => k_is)
    (case n_FIGURES => k_is)
    (case n_WebError => k_is)
    (case x_WebError => k_exc)
    (case k_WebError => k_is)
    (case s_WebError => k_is)
    (case t_WebError => k_is)
    (case ic_WebError => k_is)
    (case ss_WebError => first | rfl | k_is)
    (case n_BadWeb => k_is)
    (case x_BadWeb => k_exc)
    (case k_BadWeb => k_is)
    (case s_BadWeb => k_is)
    (case t_BadWeb => k_is)
    (case ic_BadWeb => k_is)
    (case ss_BadWeb => first | rfl | k_is)
    (case n_NoMove => k_is)
    (case x_NoMove => k_exc)
    (case k_NoMove => k_is)
    (case s_NoMove => k_is)
    (case t_NoMove => k_is)
    (case ic_NoMove => k_is)
    (case ss_NoMove => first | rfl | k_is)
    (case n_NotOver => k_is)
    (case x_NotOver => k_exc)
    (case k_NotOver => k_is)
    (case s_NotOver => k_is)
    (case t_NotOver => k_is)
    (case ic_NotOver => k_is)
    (case ss_NotOver => first | rfl | k_is)
    (case n_NoPlace => k_is)
    (case x_NoPlace => k_exc)
    (case k_NoPlace => k_is)
    (case s_NoPlace => k_is)
    (case t_NoPlace => k_is)
    (case ic_NoPlace => k_is)
    (case ss_NoPlace => first | rfl | k_is)
    (case n_NoText => k_is)
    (case x_NoText => k_exc)
    (case k_NoText => k_is)
    (case s_NoText => k_is)
    (case t_NoText => k_is)
    (case ic_NoText => k_is)
    (case ss_NoText => first | rfl | k_is)
    (case dn => k_is)
    (case dt => k_is)
    (case e1_NoText => k_is)
    (case e2_NoText => k_is)
    (case e4_NoText => k_is)
    (case e5_NoText => k_is)
    (case e8_NoText => k_is)
    (case sb_NoText_BadWeb => k_is)
    (case sb_NoText_NoMove => k_is)
    (case sb_NoText_NoPlace => k_is)
    (case sb_NoText_NoText => first | rfl | k_is)
    (case sb_NoText_NotOver => k_is)
    (case sb_NoText_ValueError => k_is)
    (case sb_NoText_WebError => k_is)
    (case e1_BadWeb => k_is)
    (case e2_BadWeb => k_is)
    (case e4_BadWeb => k_is)
    (case e5_BadWeb => k_is)
    (case e8_BadWeb => k_is)
    (case sb_BadWeb_BadWeb => first | rfl | k_is)
    (case sb_BadWeb_NoMove => k_is)
    (case sb_BadWeb_NoPlace => k_is)
    (case sb_BadWeb_NoText => k_is)
    (case sb_BadWeb_NotOver => k_is)
    (case sb_BadWeb_ValueError => k_is)
    (case sb_BadWeb_WebError => k_is)
    (case n0 => k_is)
    (case l0 => k_is)
    (case c0 => k_is)
    (case k0 => k_is)
    (case n1 => k_is)
    (case l1 => k_is)
    (case c1 => k_is)
    (case k1 => k_is)
    (case n2 => k_is)
    (case l2 => k_is)
    (case c2 => k_is)
    (case k2 => k_is)
    (case n3 => k_is)
    (case l3 => k_is)
    (case c3 => k_is)
    (case k3 => k_is)
    (case n4 => k_is)
    (case l4 => k_is)
    (case c4 => k_is)
    (case k4 => k_is)
    (case n5 => k_is)
    (case l5 => k_is)
    (case c5 => k_is)
    (case k5 => k_is)
    (case n6 => k_is)
    (case l6 => k_is)
    (case c6 => k_is)
    (case k6 => k_is)
    (case n7 => k_is)
    (case l7 => k_is)
    (case c7 => k_is)
    (case k7 => k_is)
    (case n8 => k_is)
    (case l8 => k_is)
    (case c8 => k_is)
    (case k8 => k_is)
    (case n9 => k_is)
    (case l9 => k_is)
    (case c9 => k_is)
    (case k9 => k_is)
    (case n10 => k_is)
    (case l10 => k_is)
    (case c10 => k_is)
    (case k10 => k_is)
    (case n11 => k_is)
    (case l11 => k_is)
    (case c11 => k_is)
    (case k11 => k_is)
    (case n12 => k_is)
    (case l12 => k_is)
    (case c12 => k_is)
    (case k12 => k_is)
    (case n13 => k_is)
    (case l13 => k_is)
    (case c13 => k_is)
    (case k13 => k_is)
    (case n14 => k_is)
    (case l14 => k_is)
    (case c14 => k_is)
    (case k14 => k_is)
    (case n15 => k_is)
    (case l15 => k_is)
    (case c15 => k_is)
    (case k15 => k_is)
    (case n16 => k_is)
    (case l16 => k_is)
    (case c16 => k_is)
    (case k16 => k_is)
    (case n17 => k_is)
    (case l17 => k_is)
    (case c17 => k_is)
    (case k17 => k_is)
    (case n18 => k_is)
    (case l18 => k_is)
    (case c18 => k_is)
    (case k18 => k_is)
    (case n19 => k_is)
    (case l19 => k_is)
    (case c19 => k_is)
    (case k19 => k_is)
    (case n20 => k_is)
    (case l20 => k_is)
    (case c20 => k_is)
    (case k20 => k_is)
    (case n21 => k_is)
    (case l21 => k_is)
    (case c21 => k_is)
    (case k21 => k_is)
